/- The interpreter answers as plain Lean does: part 1. No condition. -/
import Derived.Test.YtbogbgbpahonoaaLayF
import Derived.Test.YtbogbgbpahonoaaLayP
import Derived.KernelRfl
set_option linter.unusedVariables false
set_option linter.unusedSimpArgs false
set_option maxRecDepth 100000
set_option maxHeartbeats 4000000
namespace Go.Es.Lay
def hansomlaw41_near_h8 (b_6 : (List Comb)) (l0 : (List Comb)) (i4 : Int) (v_6 : Nat) : St := ⟨tab [(0, .d (.sl (List.map Comb.d l0))), (3, .ref [6] v_6 0 (List.map Comb.d b_6).length 8), (4, .d (.int .i64 i4))], tabB [([6], some (.arr (List.map Comb.d b_6) v_6 false))]⟩
def hansomlaw41_near_h25 (b_6 : (List Comb)) (c5_0 : (List UInt8)) (c5_1 : (List UInt8)) (c5_2 : Int) (c5_3 : Int) (c5_4 : Int) (c5_5 : Int) (c5_6 : Int) (l0 : (List Comb)) (i4 : Int) (v_6 : Nat) : St := ⟨tab [(0, .d (.sl (List.map Comb.d l0))), (3, .ref [6] v_6 0 (List.map Comb.d b_6).length 8), (4, .d (.int .i64 i4)), (5, .ptr [5] 0 0)], tabB [([6], some (.arr (List.map Comb.d b_6) v_6 false)), ([5], some (.cells [.d (.str c5_0), .d (.str c5_1), .d (.int .i64 c5_2), .d (.int .i64 c5_3), .d (.int .u16 c5_4), .d (.int .u8 c5_5), .d (.int .i64 c5_6), .nils] 0))]⟩
def hansomlaw41_near_h33 (b_6 : (List Comb)) (v_6 : Nat) : St := ⟨tab [(3, .ref [6] v_6 0 (List.map Comb.d b_6).length 8)], tabB [([6], some (.arr (List.map Comb.d b_6) v_6 false))]⟩
def hansomlaw41_near_Q (l_ : (List Comb)) (r : (List Comb)) (p : Out × St) : Prop := (∀ i, p.1 ≠ .exit i) ∧ finF F40 [.d (.sl (List.map Comb.d l_))] p.2 = some (.d (.sl (List.map Comb.d r)), [.d (.sl (List.map Comb.d l_))])
def hansomlaw41_near_P8 (l_ : (List Comb)) (l0 : (List Comb)) (e : (List Comb)) (p : Out × St) : Prop := p.1 = .exit 0 ∧ ∃ g : Nat, Canon [] [3] [[6]] p.2 (hansomlaw41_near_h33 e g)
theorem hansomlaw41_near_j25_ok (l_ : (List Comb)) (b_6 : (List Comb)) (c5_0 : (List UInt8)) (c5_1 : (List UInt8)) (c5_2 : Int) (c5_3 : Int) (c5_4 : Int) (c5_5 : Int) (c5_6 : Int) (l0 : (List Comb)) (i4 : Int) (v_6 : Nat) (r : (Lp ((List Comb) × Int) (List Comb))) (h : hansomlaw41_near_j25 b_6 c5_0 c5_1 c5_2 c5_3 c5_4 c5_5 c5_6 l0 i4 = some r) : Runs L F40b25 (hansomlaw41_near_h25 b_6 c5_0 c5_1 c5_2 c5_3 c5_4 c5_5 c5_6 l0 i4 v_6) (kB 1 (kS L F40c32 (LQ [] [0, 3, 4] [[6]] (fun (x : ((List Comb) × Int)) (g : Nat) => hansomlaw41_near_h8 x.1 l0 x.2 g) (hansomlaw41_near_P8 l_ l0) r))) := by
  unfold hansomlaw41_near_j25 at h
  refine Runs.seq ?_
  refine Runs.seq ?_
  refine Runs.ops ?_
  refine RunAt.chunk 3 [⟨.ptr [5] 0 2, []⟩, ⟨.d (.int .i64 c5_2), []⟩, ⟨.d (.bool (c5_2 == 0)), []⟩] (by kernel_rfl) ?_
  refine RunAt.done (by kernel_rfl) ?_
  refine kS_nrm ?_
  cases hb_4 : ((c5_2 == 0) : Bool) with
  | true =>
    replace h := ite_t hb_4 h
    refine Runs.cond_t (by kernel_rfl) ?_
    refine Runs.ops ?_
    refine RunAt.chunk 2 [⟨.d (.sl (List.map Comb.d l0)), []⟩, ⟨.d (.int .i64 i4), []⟩] (by kernel_rfl) ?_
    obtain ⟨z_9, hz_9, h⟩ := bind_s h
    refine RunAt.cut (some 72) (.iaddrS 8) [] none [.d (.sl (List.map Comb.d l0)), .d (.int .i64 i4)] (.elt (Comb.d z_9) 0) [] (by kernel_rfl) (by kernel_rfl) (by kernel_rfl) (cut_at hz_9 (fun _ => rfl)) ?_
    refine RunAt.chunk 4 [⟨.elt (Comb.d z_9) 4, []⟩, ⟨.d (.int .u16 z_9.Frame), []⟩, ⟨.d (.sl (List.map Comb.d l0)), []⟩, ⟨.d (.int .i64 i4), []⟩] (by kernel_rfl) ?_
    obtain ⟨z_10, hz_10, h⟩ := bind_s h
    refine RunAt.cut (some 77) (.iaddrS 8) [] none [.d (.sl (List.map Comb.d l0)), .d (.int .i64 i4)] (.elt (Comb.d z_10) 0) [] (by kernel_rfl) (by kernel_rfl) (by kernel_rfl) (cut_at hz_10 (fun _ => rfl)) ?_
    refine RunAt.chunk 6 [⟨.elt (Comb.d z_10) 5, []⟩, ⟨.d (.int .u8 z_10.Offset), []⟩, ⟨.ptr [5] 0 4, []⟩, ⟨.tup [], [([5], some (.cells [.d (.str c5_0), .d (.str c5_1), .d (.int .i64 c5_2), .d (.int .i64 c5_3), .d (.int .u16 z_9.Frame), .d (.int .u8 c5_5), .d (.int .i64 c5_6), .nils] 0))]⟩, ⟨.ptr [5] 0 5, []⟩, ⟨.tup [], [([5], some (.cells [.d (.str c5_0), .d (.str c5_1), .d (.int .i64 c5_2), .d (.int .i64 c5_3), .d (.int .u16 z_9.Frame), .d (.int .u8 z_10.Offset), .d (.int .i64 c5_6), .nils] 0))]⟩] (by kernel_rfl) ?_
    refine RunAt.done (by kernel_rfl) ?_
    refine kS_nrm ?_
    refine Runs.ops ?_
    refine RunAt.chunk 2 [⟨.ref [6] v_6 0 (List.map Comb.d b_6).length 8, []⟩, ⟨.mix [.d (.str c5_0), .d (.str c5_1), .d (.int .i64 c5_2), .d (.int .i64 c5_3), .d (.int .u16 z_9.Frame), .d (.int .u8 z_10.Offset), .d (.int .i64 c5_6), .nils], []⟩] (by kernel_rfl) ?_
    refine RunAt.cut (some 84) (.bslice (.agg [.str [], .str [], .int .i64 0, .int .i64 0, .int .u16 0, .int .u8 0, .int .i64 0, .sl []]) 1 [0]) [] none [.mix [.d (.str c5_0), .d (.str c5_1), .d (.int .i64 c5_2), .d (.int .i64 c5_3), .d (.int .u16 z_9.Frame), .d (.int .u8 z_10.Offset), .d (.int .i64 c5_6), .nils]] (.ref [84] 0 0 (List.map Comb.d ([({ Name := c5_0, Class := c5_1, Align := c5_2, Combine := c5_3, Frame := z_9.Frame, Offset := z_10.Offset, Len := c5_6, Chunks := ([] : List Chunk) } : Comb)] : List Comb)).length 8) [([84], some (.arr (List.map Comb.d ([({ Name := c5_0, Class := c5_1, Align := c5_2, Combine := c5_3, Frame := z_9.Frame, Offset := z_10.Offset, Len := c5_6, Chunks := ([] : List Chunk) } : Comb)] : List Comb)) 0 false))] (by kernel_rfl) (by kernel_rfl) (by kernel_rfl) (cut_bslice (e := Comb.d) (l := ([({ Name := c5_0, Class := c5_1, Align := c5_2, Combine := c5_3, Frame := z_9.Frame, Offset := z_10.Offset, Len := c5_6, Chunks := ([] : List Chunk) } : Comb)] : List Comb)) (ws := []) (ds := [.agg [.str c5_0, .str c5_1, .int .i64 c5_2, .int .i64 c5_3, .int .u16 z_9.Frame, .int .u8 z_10.Offset, .int .i64 c5_6, .sl (List.map Chunk.d ([] : List Chunk))]]) (snapsM_cons (ws := []) (snap_mix (snaps_d (snaps_d (snaps_d (snaps_d (snaps_d (snaps_d (snaps_d (snaps_n Chunk.d snaps_nil))))))))) snapsM_nil) (by kernel_rfl) (by kernel_rfl) (by kernel_rfl) (by kernel_rfl)) ?_
    obtain ⟨z_11, hz_11, h⟩ := bind_s h
    refine RunAt.cut (some 85) (.append 8 88 false) [] none [.ref [6] v_6 0 (List.map Comb.d b_6).length 8, .ref [84] 0 0 (List.map Comb.d ([({ Name := c5_0, Class := c5_1, Align := c5_2, Combine := c5_3, Frame := z_9.Frame, Offset := z_10.Offset, Len := c5_6, Chunks := ([] : List Chunk) } : Comb)] : List Comb)).length 8] (.ref [6] (v_6 + 1) 0 (List.map Comb.d z_11).length 8) [([84], some (.arr (List.map Comb.d ([({ Name := c5_0, Class := c5_1, Align := c5_2, Combine := c5_3, Frame := z_9.Frame, Offset := z_10.Offset, Len := c5_6, Chunks := ([] : List Chunk) } : Comb)] : List Comb)) 0 true)), ([6], some (.arr (List.map Comb.d z_11) (v_6 + 1) false))] (by kernel_rfl) (by kernel_rfl) (by kernel_rfl) (cut_appR (e := Comb.d) (l := b_6) (fz := false) (ws := [([84], some (.arr (List.map Comb.d ([({ Name := c5_0, Class := c5_1, Align := c5_2, Combine := c5_3, Frame := z_9.Frame, Offset := z_10.Offset, Len := c5_6, Chunks := ([] : List Chunk) } : Comb)] : List Comb)) 0 true))]) (ap_ref (e := Comb.d) (l := ([({ Name := c5_0, Class := c5_1, Align := c5_2, Combine := c5_3, Frame := z_9.Frame, Offset := z_10.Offset, Len := c5_6, Chunks := ([] : List Chunk) } : Comb)] : List Comb)) (fz := false) (by kernel_rfl) (by kernel_rfl) rfl) (fun _ => rfl) hz_11 (by kernel_rfl) (by kernel_rfl) rfl) ?_
    refine RunAt.chunk 1 [⟨.ref [6] (v_6 + 1) 0 (List.map Comb.d z_11).length 8, []⟩] (by kernel_rfl) ?_
    refine RunAt.done (by kernel_rfl) ?_
    refine kB_nrm ?_
    refine kS_nrm ?_
    refine Runs.ops ?_
    refine RunAt.chunk 3 [⟨.d (.int .i64 i4), []⟩, ⟨.d (.int .i64 (IntKind.wrap .i64 (i4 + 1))), []⟩, ⟨.d (.int .i64 (IntKind.wrap .i64 (i4 + 1))), []⟩] (by kernel_rfl) ?_
    refine RunAt.done (by kernel_rfl) ?_
    obtain rfl := Option.some.inj h
    exact ⟨rfl, (v_6 + 1), (Canon.nil (by kernel_rfl))⟩
  | false =>
    replace h := ite_f hb_4 h
    refine Runs.cond_f (by kernel_rfl) ?_
    refine Runs.skip ?_
    refine kS_nrm ?_
    refine Runs.ops ?_
    refine RunAt.chunk 2 [⟨.ref [6] v_6 0 (List.map Comb.d b_6).length 8, []⟩, ⟨.mix [.d (.str c5_0), .d (.str c5_1), .d (.int .i64 c5_2), .d (.int .i64 c5_3), .d (.int .u16 c5_4), .d (.int .u8 c5_5), .d (.int .i64 c5_6), .nils], []⟩] (by kernel_rfl) ?_
    refine RunAt.cut (some 84) (.bslice (.agg [.str [], .str [], .int .i64 0, .int .i64 0, .int .u16 0, .int .u8 0, .int .i64 0, .sl []]) 1 [0]) [] none [.mix [.d (.str c5_0), .d (.str c5_1), .d (.int .i64 c5_2), .d (.int .i64 c5_3), .d (.int .u16 c5_4), .d (.int .u8 c5_5), .d (.int .i64 c5_6), .nils]] (.ref [84] 0 0 (List.map Comb.d ([({ Name := c5_0, Class := c5_1, Align := c5_2, Combine := c5_3, Frame := c5_4, Offset := c5_5, Len := c5_6, Chunks := ([] : List Chunk) } : Comb)] : List Comb)).length 8) [([84], some (.arr (List.map Comb.d ([({ Name := c5_0, Class := c5_1, Align := c5_2, Combine := c5_3, Frame := c5_4, Offset := c5_5, Len := c5_6, Chunks := ([] : List Chunk) } : Comb)] : List Comb)) 0 false))] (by kernel_rfl) (by kernel_rfl) (by kernel_rfl) (cut_bslice (e := Comb.d) (l := ([({ Name := c5_0, Class := c5_1, Align := c5_2, Combine := c5_3, Frame := c5_4, Offset := c5_5, Len := c5_6, Chunks := ([] : List Chunk) } : Comb)] : List Comb)) (ws := []) (ds := [.agg [.str c5_0, .str c5_1, .int .i64 c5_2, .int .i64 c5_3, .int .u16 c5_4, .int .u8 c5_5, .int .i64 c5_6, .sl (List.map Chunk.d ([] : List Chunk))]]) (snapsM_cons (ws := []) (snap_mix (snaps_d (snaps_d (snaps_d (snaps_d (snaps_d (snaps_d (snaps_d (snaps_n Chunk.d snaps_nil))))))))) snapsM_nil) (by kernel_rfl) (by kernel_rfl) (by kernel_rfl) (by kernel_rfl)) ?_
    obtain ⟨z_12, hz_12, h⟩ := bind_s h
    refine RunAt.cut (some 85) (.append 8 88 false) [] none [.ref [6] v_6 0 (List.map Comb.d b_6).length 8, .ref [84] 0 0 (List.map Comb.d ([({ Name := c5_0, Class := c5_1, Align := c5_2, Combine := c5_3, Frame := c5_4, Offset := c5_5, Len := c5_6, Chunks := ([] : List Chunk) } : Comb)] : List Comb)).length 8] (.ref [6] (v_6 + 1) 0 (List.map Comb.d z_12).length 8) [([84], some (.arr (List.map Comb.d ([({ Name := c5_0, Class := c5_1, Align := c5_2, Combine := c5_3, Frame := c5_4, Offset := c5_5, Len := c5_6, Chunks := ([] : List Chunk) } : Comb)] : List Comb)) 0 true)), ([6], some (.arr (List.map Comb.d z_12) (v_6 + 1) false))] (by kernel_rfl) (by kernel_rfl) (by kernel_rfl) (cut_appR (e := Comb.d) (l := b_6) (fz := false) (ws := [([84], some (.arr (List.map Comb.d ([({ Name := c5_0, Class := c5_1, Align := c5_2, Combine := c5_3, Frame := c5_4, Offset := c5_5, Len := c5_6, Chunks := ([] : List Chunk) } : Comb)] : List Comb)) 0 true))]) (ap_ref (e := Comb.d) (l := ([({ Name := c5_0, Class := c5_1, Align := c5_2, Combine := c5_3, Frame := c5_4, Offset := c5_5, Len := c5_6, Chunks := ([] : List Chunk) } : Comb)] : List Comb)) (fz := false) (by kernel_rfl) (by kernel_rfl) rfl) (fun _ => rfl) hz_12 (by kernel_rfl) (by kernel_rfl) rfl) ?_
    refine RunAt.chunk 1 [⟨.ref [6] (v_6 + 1) 0 (List.map Comb.d z_12).length 8, []⟩] (by kernel_rfl) ?_
    refine RunAt.done (by kernel_rfl) ?_
    refine kB_nrm ?_
    refine kS_nrm ?_
    refine Runs.ops ?_
    refine RunAt.chunk 3 [⟨.d (.int .i64 i4), []⟩, ⟨.d (.int .i64 (IntKind.wrap .i64 (i4 + 1))), []⟩, ⟨.d (.int .i64 (IntKind.wrap .i64 (i4 + 1))), []⟩] (by kernel_rfl) ?_
    refine RunAt.done (by kernel_rfl) ?_
    obtain rfl := Option.some.inj h
    exact ⟨rfl, (v_6 + 1), (Canon.nil (by kernel_rfl))⟩
theorem hansomlaw41_near_l8_ok (l_ : (List Comb)) (b_6 : (List Comb)) (l0 : (List Comb)) (i4 : Int) (v_6 : Nat) (r : (Lp ((List Comb) × Int) (List Comb))) (h : hansomlaw41_near_l8 b_6 l0 i4 = some r) : Runs L F40l8 (hansomlaw41_near_h8 b_6 l0 i4 v_6) (LQ [] [0, 3, 4] [[6]] (fun (x : ((List Comb) × Int)) (g : Nat) => hansomlaw41_near_h8 x.1 l0 x.2 g) (hansomlaw41_near_P8 l_ l0) r) := by
  unfold hansomlaw41_near_l8 at h
  refine Runs.seq ?_
  refine Runs.seq ?_
  refine Runs.ops ?_
  refine RunAt.chunk 2 [⟨.d (.int .i64 i4), []⟩, ⟨.d (.sl (List.map Comb.d l0)), []⟩] (by kernel_rfl) ?_
  refine RunAt.cut (some 9) .lenL [] none [.d (.sl (List.map Comb.d l0))] (.d (.int .i64 (l0.length : Int))) [] (by kernel_rfl) (by kernel_rfl) (by kernel_rfl) (cut_len _) ?_
  refine RunAt.chunk 2 [⟨.d (.bool (decide (i4 < (l0.length : Int)))), []⟩, ⟨.d (.bool (decide (i4 < (l0.length : Int)))), []⟩] (by kernel_rfl) ?_
  cases hb_1 : ((decide (i4 < (l0.length : Int))) : Bool) with
  | true =>
    replace h := ite_t hb_1 h
    refine RunAt.chunk 3 [⟨.d (.int .i64 i4), []⟩, ⟨.d (.bool (decide (i4 < 8))), []⟩, ⟨.d (.bool (decide (i4 < 8))), []⟩] (by kernel_rfl) ?_
    refine RunAt.done (by kernel_rfl) ?_
    refine kS_nrm ?_
    cases hb_2 : ((decide (i4 < 8)) : Bool) with
    | true =>
      replace h := ite_t hb_2 h
      refine Runs.cond_t (by kernel_rfl) ?_
      refine Runs.skip ?_
      refine kS_nrm ?_
      refine Runs.seq ?_
      refine Runs.block ?_
      refine Runs.seq ?_
      refine Runs.ops ?_
      refine RunAt.chunk 3 [⟨.ref [17] 0 0 (List.map D.str ([([65] : List UInt8), ([66] : List UInt8), ([67] : List UInt8)] : List (List UInt8))).length 1, [([17], some (.arr (List.map D.str ([([65] : List UInt8), ([66] : List UInt8), ([67] : List UInt8)] : List (List UInt8))) 0 false))]⟩, ⟨.d (.sl (List.map Comb.d l0)), []⟩, ⟨.d (.int .i64 i4), []⟩] (by kernel_rfl) ?_
      obtain ⟨z_1, hz_1, h⟩ := bind_s h
      refine RunAt.cut (some 20) (.iaddrS 8) [] none [.d (.sl (List.map Comb.d l0)), .d (.int .i64 i4)] (.elt (Comb.d z_1) 0) [] (by kernel_rfl) (by kernel_rfl) (by kernel_rfl) (cut_at hz_1 (fun _ => rfl)) ?_
      refine RunAt.chunk 5 [⟨.elt (Comb.d z_1) 2, []⟩, ⟨.d (.int .i64 z_1.Align), []⟩, ⟨.d (.int .i64 (shrI .i64 z_1.Align 3)), []⟩, ⟨.d (.int .i64 (bitsOp .and .i64 (shrI .i64 z_1.Align 3) 255)), []⟩, ⟨.d (.int .i64 (Int.tmod (bitsOp .and .i64 (shrI .i64 z_1.Align 3) 255) 3)), []⟩] (by kernel_rfl) ?_
      obtain ⟨z_2, hz_2, h⟩ := bind_s h
      refine RunAt.cut (some 26) (.iaddrS 1) [] none [.ref [17] 0 0 (List.map D.str ([([65] : List UInt8), ([66] : List UInt8), ([67] : List UInt8)] : List (List UInt8))).length 1, .d (.int .i64 (Int.tmod (bitsOp .and .i64 (shrI .i64 z_1.Align 3) 255) 3))] (.eref [17] 0 (0 + ((Int.tmod (bitsOp .and .i64 (shrI .i64 z_1.Align 3) 255) 3)).toNat) 0) [] (by kernel_rfl) (by kernel_rfl) (by kernel_rfl) (cut_atR (e := D.str) (l := ([([65] : List UInt8), ([66] : List UInt8), ([67] : List UInt8)] : List (List UInt8))) hz_2 rfl) ?_
      refine RunAt.cut (some 27) (.load none) [[35], [5]] none [.eref [17] 0 (0 + ((Int.tmod (bitsOp .and .i64 (shrI .i64 z_1.Align 3) 255) 3)).toNat) 0] (.d (.str z_2)) [] (by kernel_rfl) (by kernel_rfl) (by kernel_rfl) (cut_loadR (e := D.str) (l := ([([65] : List UInt8), ([66] : List UInt8), ([67] : List UInt8)] : List (List UInt8))) (fz := false) (y := z_2) (by kernel_rfl) hz_2 (by kernel_rfl) (by kernel_rfl)) ?_
      refine RunAt.chunk 2 [⟨.d (.sl (List.map Comb.d l0)), []⟩, ⟨.d (.int .i64 i4), []⟩] (by kernel_rfl) ?_
      obtain ⟨z_3, hz_3, h⟩ := bind_s h
      refine RunAt.cut (some 30) (.iaddrS 8) [] none [.d (.sl (List.map Comb.d l0)), .d (.int .i64 i4)] (.elt (Comb.d z_3) 0) [] (by kernel_rfl) (by kernel_rfl) (by kernel_rfl) (cut_at hz_3 (fun _ => rfl)) ?_
      refine RunAt.chunk 7 [⟨.elt (Comb.d z_3) 2, []⟩, ⟨.d (.int .i64 z_3.Align), []⟩, ⟨.d (.int .i64 (bitsOp .and .i64 z_3.Align 7)), []⟩, ⟨.d (.int .i64 (Int.tmod (bitsOp .and .i64 z_3.Align 7) 5)), []⟩, ⟨.ref [35] 0 0 (List.map (D.int .i64) ([0, 2, 5, 6] : List Int)).length 1, [([35], some (.arr (List.map (D.int .i64) ([0, 2, 5, 6] : List Int)) 0 false))]⟩, ⟨.d (.sl (List.map Comb.d l0)), []⟩, ⟨.d (.int .i64 i4), []⟩] (by kernel_rfl) ?_
      obtain ⟨z_4, hz_4, h⟩ := bind_s h
      refine RunAt.cut (some 38) (.iaddrS 8) [] none [.d (.sl (List.map Comb.d l0)), .d (.int .i64 i4)] (.elt (Comb.d z_4) 0) [] (by kernel_rfl) (by kernel_rfl) (by kernel_rfl) (cut_at hz_4 (fun _ => rfl)) ?_
      refine RunAt.chunk 3 [⟨.elt (Comb.d z_4) 3, []⟩, ⟨.d (.int .i64 z_4.Combine), []⟩, ⟨.d (.int .i64 (bitsOp .and .i64 z_4.Combine 3)), []⟩] (by kernel_rfl) ?_
      obtain ⟨z_5, hz_5, h⟩ := bind_s h
      refine RunAt.cut (some 42) (.iaddrS 1) [] none [.ref [35] 0 0 (List.map (D.int .i64) ([0, 2, 5, 6] : List Int)).length 1, .d (.int .i64 (bitsOp .and .i64 z_4.Combine 3))] (.eref [35] 0 (0 + ((bitsOp .and .i64 z_4.Combine 3)).toNat) 0) [] (by kernel_rfl) (by kernel_rfl) (by kernel_rfl) (cut_atR (e := (D.int .i64)) (l := ([0, 2, 5, 6] : List Int)) hz_5 rfl) ?_
      refine RunAt.cut (some 43) (.load none) [[17], [5]] none [.eref [35] 0 (0 + ((bitsOp .and .i64 z_4.Combine 3)).toNat) 0] (.d (.int .i64 z_5)) [] (by kernel_rfl) (by kernel_rfl) (by kernel_rfl) (cut_loadR (e := (D.int .i64)) (l := ([0, 2, 5, 6] : List Int)) (fz := false) (y := z_5) (by kernel_rfl) hz_5 (by kernel_rfl) (by kernel_rfl)) ?_
      refine RunAt.chunk 2 [⟨.d (.sl (List.map Comb.d l0)), []⟩, ⟨.d (.int .i64 i4), []⟩] (by kernel_rfl) ?_
      obtain ⟨z_6, hz_6, h⟩ := bind_s h
      refine RunAt.cut (some 46) (.iaddrS 8) [] none [.d (.sl (List.map Comb.d l0)), .d (.int .i64 i4)] (.elt (Comb.d z_6) 0) [] (by kernel_rfl) (by kernel_rfl) (by kernel_rfl) (cut_at hz_6 (fun _ => rfl)) ?_
      refine RunAt.chunk 6 [⟨.elt (Comb.d z_6) 6, []⟩, ⟨.d (.int .i64 z_6.Len), []⟩, ⟨.d (.int .i64 (bitsOp .and .i64 z_6.Len 4095)), []⟩, ⟨.mix [.d (.str []), .d (.str z_2), .d (.int .i64 (Int.tmod (bitsOp .and .i64 z_3.Align 7) 5)), .d (.int .i64 z_5), .d (.int .u16 0), .d (.int .u8 0), .d (.int .i64 (bitsOp .and .i64 z_6.Len 4095)), .nils], []⟩, ⟨.ptr [5] 0 0, [([5], some (.cells [.d (.str []), .d (.str []), .d (.int .i64 0), .d (.int .i64 0), .d (.int .u16 0), .d (.int .u8 0), .d (.int .i64 0), .nils] 0))]⟩, ⟨.tup [], [([5], some (.cells [.d (.str []), .d (.str z_2), .d (.int .i64 (Int.tmod (bitsOp .and .i64 z_3.Align 7) 5)), .d (.int .i64 z_5), .d (.int .u16 0), .d (.int .u8 0), .d (.int .i64 (bitsOp .and .i64 z_6.Len 4095)), .nils] 0))]⟩] (by kernel_rfl) ?_
      refine RunAt.done (by kernel_rfl) ?_
      refine kS_nrm ?_
      refine Runs.seq ?_
      refine Runs.seq ?_
      refine Runs.ops ?_
      refine RunAt.chunk 2 [⟨.d (.sl (List.map Comb.d l0)), []⟩, ⟨.d (.int .i64 i4), []⟩] (by kernel_rfl) ?_
      obtain ⟨z_7, hz_7, h⟩ := bind_s h
      refine RunAt.cut (some 53) (.iaddrS 8) [] none [.d (.sl (List.map Comb.d l0)), .d (.int .i64 i4)] (.elt (Comb.d z_7) 0) [] (by kernel_rfl) (by kernel_rfl) (by kernel_rfl) (cut_at hz_7 (fun _ => rfl)) ?_
      refine RunAt.chunk 5 [⟨.elt (Comb.d z_7) 6, []⟩, ⟨.d (.int .i64 z_7.Len), []⟩, ⟨.d (.int .i64 (shrI .i64 z_7.Len 12)), []⟩, ⟨.d (.int .i64 (bitsOp .and .i64 (shrI .i64 z_7.Len 12) 7)), []⟩, ⟨.d (.bool ((bitsOp .and .i64 (shrI .i64 z_7.Len 12) 7) == 0)), []⟩] (by kernel_rfl) ?_
      refine RunAt.done (by kernel_rfl) ?_
      refine kS_nrm ?_
      cases hb_3 : (((bitsOp .and .i64 (shrI .i64 z_7.Len 12) 7) == 0) : Bool) with
      | true =>
        replace h := ite_t hb_3 h
        refine Runs.cond_t (by kernel_rfl) ?_
        refine Runs.ops ?_
        refine RunAt.chunk 2 [⟨.d (.sl (List.map Comb.d l0)), []⟩, ⟨.d (.int .i64 i4), []⟩] (by kernel_rfl) ?_
        obtain ⟨z_8, hz_8, h⟩ := bind_s h
        refine RunAt.cut (some 61) (.iaddrS 8) [] none [.d (.sl (List.map Comb.d l0)), .d (.int .i64 i4)] (.elt (Comb.d z_8) 0) [] (by kernel_rfl) (by kernel_rfl) (by kernel_rfl) (cut_at hz_8 (fun _ => rfl)) ?_
        refine RunAt.chunk 6 [⟨.elt (Comb.d z_8) 6, []⟩, ⟨.d (.int .i64 z_8.Len), []⟩, ⟨.d (.int .i64 (bitsOp .and .i64 z_8.Len 131071)), []⟩, ⟨.d (.int .i64 (Int.tmod (bitsOp .and .i64 z_8.Len 131071) 65537)), []⟩, ⟨.ptr [5] 0 6, []⟩, ⟨.tup [], [([5], some (.cells [.d (.str []), .d (.str z_2), .d (.int .i64 (Int.tmod (bitsOp .and .i64 z_3.Align 7) 5)), .d (.int .i64 z_5), .d (.int .u16 0), .d (.int .u8 0), .d (.int .i64 (Int.tmod (bitsOp .and .i64 z_8.Len 131071) 65537)), .nils] 0))]⟩] (by kernel_rfl) ?_
        refine RunAt.done (by kernel_rfl) ?_
        refine kS_nrm ?_
        refine Runs.canon (hansomlaw41_near_h25 b_6 [] z_2 (Int.tmod (bitsOp .and .i64 z_3.Align 7) 5) z_5 0 0 (Int.tmod (bitsOp .and .i64 z_8.Len 131071) 65537) l0 i4 v_6) (Canon.nil (by kernel_rfl)) ?_
        exact hansomlaw41_near_j25_ok l_ b_6 [] z_2 (Int.tmod (bitsOp .and .i64 z_3.Align 7) 5) z_5 0 0 (Int.tmod (bitsOp .and .i64 z_8.Len 131071) 65537) l0 i4 v_6 r h
      | false =>
        replace h := ite_f hb_3 h
        refine Runs.cond_f (by kernel_rfl) ?_
        refine Runs.skip ?_
        refine kS_nrm ?_
        refine Runs.canon (hansomlaw41_near_h25 b_6 [] z_2 (Int.tmod (bitsOp .and .i64 z_3.Align 7) 5) z_5 0 0 (bitsOp .and .i64 z_6.Len 4095) l0 i4 v_6) (Canon.nil (by kernel_rfl)) ?_
        exact hansomlaw41_near_j25_ok l_ b_6 [] z_2 (Int.tmod (bitsOp .and .i64 z_3.Align 7) 5) z_5 0 0 (bitsOp .and .i64 z_6.Len 4095) l0 i4 v_6 r h
    | false =>
      replace h := ite_f hb_2 h
      refine Runs.cond_f (by kernel_rfl) ?_
      refine Runs.exit ?_
      refine kS_exit ?_
      obtain rfl := Option.some.inj h
      exact ⟨nofun, rfl, v_6, (Canon.nil (by kernel_rfl))⟩
  | false =>
    replace h := ite_f hb_1 h
    refine RunAt.chunk 3 [⟨.tup [], []⟩, ⟨.tup [], []⟩, ⟨.d (.bool false), []⟩] (by kernel_rfl) ?_
    refine RunAt.done (by kernel_rfl) ?_
    refine kS_nrm ?_
    refine Runs.cond_f (by kernel_rfl) ?_
    refine Runs.exit ?_
    refine kS_exit ?_
    obtain rfl := Option.some.inj h
    exact ⟨nofun, rfl, v_6, (Canon.nil (by kernel_rfl))⟩
theorem hansomlaw41_near_ok (l_ : (List Comb)) (r : (List Comb)) (h : hansomlaw41_near l_ = some r) : Runs L F40.body ⟨tmOf [.d (.sl (List.map Comb.d l_))] 0, updW (fun _ => none) []⟩ (hansomlaw41_near_Q l_ r) := by
  unfold hansomlaw41_near at h
  refine Runs.seq ?_
  refine Runs.ops ?_
  refine RunAt.chunk 1 [⟨.nils, []⟩] (by kernel_rfl) ?_
  refine RunAt.done (by kernel_rfl) ?_
  refine kS_nrm ?_
  refine Runs.seq ?_
  refine Runs.ops ?_
  refine RunAt.chunk 2 [⟨.ref [6] 0 0 (List.map Comb.d ([] : List Comb)).length 8, [([6], some (.arr (List.map Comb.d ([] : List Comb)) 0 false))]⟩, ⟨.ref [6] 0 0 (List.map Comb.d ([] : List Comb)).length 8, []⟩] (by kernel_rfl) ?_
  refine RunAt.done (by kernel_rfl) ?_
  refine kS_nrm ?_
  refine Runs.seq ?_
  refine Runs.seq ?_
  refine Runs.ops ?_
  refine RunAt.chunk 1 [⟨.d (.int .i64 0), []⟩] (by kernel_rfl) ?_
  refine RunAt.done (by kernel_rfl) ?_
  refine kS_nrm ?_
  refine Runs.block ?_
  obtain ⟨e_1, he_1, h⟩ := bind_s h
  refine Runs.loop (fun x : ((List Comb) × Int) => hansomlaw41_near_l8 x.1 l_ x.2) (fun (x : ((List Comb) × Int)) (g : Nat) => hansomlaw41_near_h8 x.1 l_ x.2 g) (hansomlaw41_near_P8 l_ l_) (fun x g r hr => hansomlaw41_near_l8_ok l_ x.1 l_ x.2 g r hr) 0 he_1 (Canon.nil (by kernel_rfl)) ?_
  rintro ⟨o, s⟩ hp
  obtain ⟨ho, g_1, hk_1⟩ := hp
  have ho' : o = .exit 0 := ho
  subst ho'
  refine kB_hit ?_
  refine kS_nrm ?_
  refine Runs.canon _ hk_1 ?_
  refine Runs.seq ?_
  refine Runs.ops ?_
  refine RunAt.chunk 2 [⟨.ref [6] g_1 0 (List.map Comb.d e_1).length 8, []⟩, ⟨.ref [6] g_1 0 (List.map Comb.d e_1).length 8, []⟩] (by kernel_rfl) ?_
  refine RunAt.done (by kernel_rfl) ?_
  refine kS_nrm ?_
  refine Runs.seq ?_
  refine Runs.gcons (frz_ref (e := Comb.d) (l := e_1) (id := [6]) (v := g_1) (n := 8) (fz := false) (by kernel_rfl) (by kernel_rfl) rfl) ?_
  refine Runs.gnil ?_
  refine kS_nrm ?_
  refine Runs.ret ?_
  obtain rfl := Option.some.inj h
  exact ⟨Out.ret_ne, (by kernel_rfl)⟩
theorem hansomlaw41_near_L (l_ : (List Comb)) (r : (List Comb)) (h : hansomlaw41_near l_ = some r) : L 40 [.d (.sl (List.map Comb.d l_))] = some (.d (.sl (List.map Comb.d r)), [.d (.sl (List.map Comb.d l_))]) := by
  obtain ⟨p, ⟨hne, hf⟩, hr⟩ := hansomlaw41_near_ok l_ r h
  obtain ⟨k, hk⟩ := run_of (F := F40) (args := [.d (.sl (List.map Comb.d l_))]) (ap := [.d (.sl (List.map Comb.d l_))]) (bx0 := updW (fun _ => none) []) rfl rfl (by kernel_rfl) ⟨p, ⟨hne, hf⟩, hr⟩
  exact lim_run (k := k) rfl hk
def slices_Index_Lint_h6 (s0 : (List Int)) (v1 : Int) (t7 : Int) (t8 : Int) : St := ⟨tab [(0, .d (.sl (List.map (D.int .i64) s0))), (1, .d (.int .i64 v1)), (7, .d (.int .i64 t7)), (8, .d (.int .i64 t8))], tabB []⟩
def slices_Index_Lint_h25  : St := ⟨tab [], tabB []⟩
def slices_Index_Lint_Q (s_ : (List Int)) (v_ : Int) (r : Int) (p : Out × St) : Prop := (∀ i, p.1 ≠ .exit i) ∧ finF F80 [.d (.sl (List.map (D.int .i64) s_)), .d (.int .i64 v_)] p.2 = some (.d (.int .i64 r), [.d (.sl (List.map (D.int .i64) s_)), .d (.int .i64 v_)])
def slices_Index_Lint_P6 (s_ : (List Int)) (v_ : Int) (s0 : (List Int)) (v1 : Int) (t7 : Int) (e : (Int ⊕ Unit)) (p : Out × St) : Prop := match e with
  | .inl x => p.1 = .ret ∧ finF F80 [.d (.sl (List.map (D.int .i64) s_)), .d (.int .i64 v_)] p.2 = some (.d (.int .i64 x), [.d (.sl (List.map (D.int .i64) s_)), .d (.int .i64 v_)])
  | .inr x => p.1 = .exit 0 ∧ ∃ g : Unit, Canon [] [] [] p.2 (slices_Index_Lint_h25)
theorem slices_Index_Lint_l6_ok (s_ : (List Int)) (v_ : Int) (s0 : (List Int)) (v1 : Int) (t7 : Int) (t8 : Int) (r : (Lp Int (Int ⊕ Unit))) (h : slices_Index_Lint_l6 s0 v1 t7 t8 = some r) : Runs L F80l6 (slices_Index_Lint_h6 s0 v1 t7 t8) (LQ [] [0, 1, 7, 8] [] (fun (x : Int) (g : Unit) => slices_Index_Lint_h6 s0 v1 t7 x) (slices_Index_Lint_P6 s_ v_ s0 v1 t7) r) := by
  unfold slices_Index_Lint_l6 at h
  refine Runs.seq ?_
  refine Runs.ops ?_
  refine RunAt.chunk 1 [⟨.d (.bool (decide (t8 < t7))), []⟩] (by kernel_rfl) ?_
  refine RunAt.done (by kernel_rfl) ?_
  refine kS_nrm ?_
  refine Runs.seq ?_
  cases hb_1 : ((decide (t8 < t7)) : Bool) with
  | true =>
    replace h := ite_t hb_1 h
    refine Runs.cond_t (by kernel_rfl) ?_
    refine Runs.skip ?_
    refine kS_nrm ?_
    refine Runs.seq ?_
    refine Runs.block ?_
    refine Runs.seq ?_
    refine Runs.ops ?_
    refine RunAt.chunk 2 [⟨.d (.int .i64 t8), []⟩, ⟨.d (.int .i64 t8), []⟩] (by kernel_rfl) ?_
    refine RunAt.done (by kernel_rfl) ?_
    refine kS_nrm ?_
    refine Runs.seq ?_
    refine Runs.ops ?_
    refine RunAt.chunk 3 [⟨.d (.int .i64 v1), []⟩, ⟨.d (.sl (List.map (D.int .i64) s0)), []⟩, ⟨.d (.int .i64 t8), []⟩] (by kernel_rfl) ?_
    obtain ⟨z_1, hz_1, h⟩ := bind_s h
    refine RunAt.cut (some 14) (.iaddrS 1) [] none [.d (.sl (List.map (D.int .i64) s0)), .d (.int .i64 t8)] (.elt (.int .i64 z_1) 0) [] (by kernel_rfl) (by kernel_rfl) (by kernel_rfl) (cut_at hz_1 (fun _ => rfl)) ?_
    refine RunAt.chunk 2 [⟨.d (.int .i64 z_1), []⟩, ⟨.d (.bool (v1 == z_1)), []⟩] (by kernel_rfl) ?_
    refine RunAt.done (by kernel_rfl) ?_
    refine kS_nrm ?_
    cases hb_2 : ((v1 == z_1) : Bool) with
    | true =>
      replace h := ite_t hb_2 h
      refine Runs.cond_t (by kernel_rfl) ?_
      refine Runs.seq ?_
      refine Runs.ops ?_
      refine RunAt.chunk 2 [⟨.d (.int .i64 t8), []⟩, ⟨.d (.int .i64 t8), []⟩] (by kernel_rfl) ?_
      refine RunAt.done (by kernel_rfl) ?_
      refine kS_nrm ?_
      refine Runs.ret ?_
      refine kB_ret ?_
      refine kS_ret ?_
      obtain rfl := Option.some.inj h
      exact ⟨nofun, rfl, (by kernel_rfl)⟩
    | false =>
      replace h := ite_f hb_2 h
      refine Runs.cond_f (by kernel_rfl) ?_
      refine Runs.skip ?_
      refine kB_nrm ?_
      refine kS_nrm ?_
      refine Runs.ops ?_
      refine RunAt.chunk 2 [⟨.d (.int .i64 (IntKind.wrap .i64 (t8 + 1))), []⟩, ⟨.d (.int .i64 (IntKind.wrap .i64 (t8 + 1))), []⟩] (by kernel_rfl) ?_
      refine RunAt.done (by kernel_rfl) ?_
      obtain rfl := Option.some.inj h
      exact ⟨rfl, (), (Canon.nil (by kernel_rfl))⟩
  | false =>
    replace h := ite_f hb_1 h
    refine Runs.cond_f (by kernel_rfl) ?_
    refine Runs.exit ?_
    refine kS_exit ?_
    obtain rfl := Option.some.inj h
    exact ⟨nofun, rfl, (), (Canon.nil (by kernel_rfl))⟩
theorem slices_Index_Lint_ok (s_ : (List Int)) (v_ : Int) (r : Int) (h : slices_Index_Lint s_ v_ = some r) : Runs L F80.body ⟨tmOf [.d (.sl (List.map (D.int .i64) s_)), .d (.int .i64 v_)] 0, updW (fun _ => none) []⟩ (slices_Index_Lint_Q s_ v_ r) := by
  unfold slices_Index_Lint at h
  refine Runs.seq ?_
  refine Runs.ops ?_
  refine RunAt.chunk 1 [⟨.d (.int .i64 0), []⟩] (by kernel_rfl) ?_
  refine RunAt.done (by kernel_rfl) ?_
  refine kS_nrm ?_
  refine Runs.seq ?_
  refine Runs.seq ?_
  refine Runs.ops ?_
  refine RunAt.chunk 1 [⟨.d (.sl (List.map (D.int .i64) s_)), []⟩] (by kernel_rfl) ?_
  refine RunAt.cut (some 7) .lenL [] none [.d (.sl (List.map (D.int .i64) s_))] (.d (.int .i64 (s_.length : Int))) [] (by kernel_rfl) (by kernel_rfl) (by kernel_rfl) (cut_len _) ?_
  refine RunAt.chunk 1 [⟨.d (.int .i64 0), []⟩] (by kernel_rfl) ?_
  refine RunAt.done (by kernel_rfl) ?_
  refine kS_nrm ?_
  refine Runs.block ?_
  obtain ⟨e_1, he_1, h⟩ := bind_s h
  refine Runs.loop (fun x : Int => slices_Index_Lint_l6 s_ v_ (s_.length : Int) x) (fun (x : Int) (g : Unit) => slices_Index_Lint_h6 s_ v_ (s_.length : Int) x) (slices_Index_Lint_P6 s_ v_ s_ v_ (s_.length : Int)) (fun x g r hr => slices_Index_Lint_l6_ok s_ v_ s_ v_ (s_.length : Int) x  r hr) () he_1 (Canon.nil (by kernel_rfl)) ?_
  rintro ⟨o, s⟩ hp
  cases e_1 with
  | inl e_2 =>
    obtain ⟨ho, hf⟩ := hp
    have ho' : o = .ret := ho
    subst ho'
    refine kB_ret ?_
    refine kS_ret ?_
    obtain rfl := Option.some.inj h
    exact ⟨Out.ret_ne, hf⟩
  | inr e_3 =>
    obtain ⟨ho, g_1, hk_1⟩ := hp
    have ho' : o = .exit 0 := ho
    subst ho'
    refine kB_hit ?_
    refine kS_nrm ?_
    refine Runs.canon _ hk_1 ?_
    refine Runs.seq ?_
    refine Runs.ops ?_
    refine RunAt.chunk 1 [⟨.d (.int .i64 (-1)), []⟩] (by kernel_rfl) ?_
    refine RunAt.done (by kernel_rfl) ?_
    refine kS_nrm ?_
    refine Runs.ret ?_
    obtain rfl := Option.some.inj h
    exact ⟨Out.ret_ne, (by kernel_rfl)⟩
theorem slices_Index_Lint_L (s_ : (List Int)) (v_ : Int) (r : Int) (h : slices_Index_Lint s_ v_ = some r) : L 80 [.d (.sl (List.map (D.int .i64) s_)), .d (.int .i64 v_)] = some (.d (.int .i64 r), [.d (.sl (List.map (D.int .i64) s_)), .d (.int .i64 v_)]) := by
  obtain ⟨p, ⟨hne, hf⟩, hr⟩ := slices_Index_Lint_ok s_ v_ r h
  obtain ⟨k, hk⟩ := run_of (F := F80) (args := [.d (.sl (List.map (D.int .i64) s_)), .d (.int .i64 v_)]) (ap := [.d (.sl (List.map (D.int .i64) s_)), .d (.int .i64 v_)]) (bx0 := updW (fun _ => none) []) rfl rfl (by kernel_rfl) ⟨p, ⟨hne, hf⟩, hr⟩
  exact lim_run (k := k) rfl hk
def slices_Contains_Lint_Q (s_ : (List Int)) (v_ : Int) (r : Bool) (p : Out × St) : Prop := (∀ i, p.1 ≠ .exit i) ∧ finF F68 [.d (.sl (List.map (D.int .i64) s_)), .d (.int .i64 v_)] p.2 = some (.d (.bool r), [.d (.sl (List.map (D.int .i64) s_)), .d (.int .i64 v_)])
theorem slices_Contains_Lint_ok (s_ : (List Int)) (v_ : Int) (r : Bool) (h : slices_Contains_Lint s_ v_ = some r) : Runs L F68.body ⟨tmOf [.d (.sl (List.map (D.int .i64) s_)), .d (.int .i64 v_)] 0, updW (fun _ => none) []⟩ (slices_Contains_Lint_Q s_ v_ r) := by
  unfold slices_Contains_Lint at h
  refine Runs.seq ?_
  refine Runs.ops ?_
  refine RunAt.chunk 1 [⟨.d (.bool false), []⟩] (by kernel_rfl) ?_
  refine RunAt.done (by kernel_rfl) ?_
  refine kS_nrm ?_
  refine Runs.seq ?_
  refine Runs.ops ?_
  refine RunAt.chunk 2 [⟨.d (.sl (List.map (D.int .i64) s_)), []⟩, ⟨.d (.int .i64 v_), []⟩] (by kernel_rfl) ?_
  obtain ⟨r_1, hr_1, h⟩ := bind_s h
  have hc_1 := slices_Index_Lint_L s_ v_ r_1 hr_1
  refine RunAt.cut (some 7) (.callf 80) [] none [.d (.sl (List.map (D.int .i64) s_)), .d (.int .i64 v_)] (.d (.int .i64 r_1)) [] (by kernel_rfl) (by kernel_rfl) (by kernel_rfl) (cut_call (call_of (ws := []) (us := []) (by kernel_rfl) (by kernel_rfl) hc_1 (by kernel_rfl) (by kernel_rfl))) ?_
  refine RunAt.chunk 2 [⟨.d (.bool (decide (r_1 ≥ 0))), []⟩, ⟨.d (.bool (decide (r_1 ≥ 0))), []⟩] (by kernel_rfl) ?_
  refine RunAt.done (by kernel_rfl) ?_
  refine kS_nrm ?_
  refine Runs.ret ?_
  obtain rfl := Option.some.inj h
  exact ⟨Out.ret_ne, (by kernel_rfl)⟩
theorem slices_Contains_Lint_L (s_ : (List Int)) (v_ : Int) (r : Bool) (h : slices_Contains_Lint s_ v_ = some r) : L 68 [.d (.sl (List.map (D.int .i64) s_)), .d (.int .i64 v_)] = some (.d (.bool r), [.d (.sl (List.map (D.int .i64) s_)), .d (.int .i64 v_)]) := by
  obtain ⟨p, ⟨hne, hf⟩, hr⟩ := slices_Contains_Lint_ok s_ v_ r h
  obtain ⟨k, hk⟩ := run_of (F := F68) (args := [.d (.sl (List.map (D.int .i64) s_)), .d (.int .i64 v_)]) (ap := [.d (.sl (List.map (D.int .i64) s_)), .d (.int .i64 v_)]) (bx0 := updW (fun _ => none) []) rfl rfl (by kernel_rfl) ⟨p, ⟨hne, hf⟩, hr⟩
  exact lim_run (k := k) rfl hk
def lay_Order_h4 (out3 : (List Int)) (l0 : (List Comb)) (v_3 : Nat) : St := ⟨tab [(0, .d (.sl (List.map Comb.d l0))), (3, .ref [3] v_3 0 (List.map (D.int .i64) out3).length 1)], tabB [([3], some (.arr (List.map (D.int .i64) out3) v_3 false))]⟩
def lay_Order_h8 (out3 : (List Int)) (l0 : (List Comb)) (t7 : Int) (t8 : Int) (v_3 : Nat) (f_3 : Bool) : St := ⟨tab [(0, .d (.sl (List.map Comb.d l0))), (3, .ref [3] v_3 0 (List.map (D.int .i64) out3).length 1), (7, .d (.int .i64 t7)), (8, .d (.int .i64 t8))], tabB [([3], some (.arr (List.map (D.int .i64) out3) v_3 f_3))]⟩
def lay_Order_h22 (out3 : (List Int)) (l0 : (List Comb)) (i4 : Int) (t7 : Int) (t8 : Int) (t12 : Int) (t13 : Int) (v_3 : Nat) (f_3 : Bool) : St := ⟨tab [(0, .d (.sl (List.map Comb.d l0))), (3, .ref [3] v_3 0 (List.map (D.int .i64) out3).length 1), (4, .d (.int .i64 i4)), (7, .d (.int .i64 t7)), (8, .d (.int .i64 t8)), (12, .d (.int .i64 t12)), (13, .d (.int .i64 t13))], tabB [([3], some (.arr (List.map (D.int .i64) out3) v_3 f_3))]⟩
def lay_Order_h39 (out3 : (List Int)) (l0 : (List Comb)) (t7 : Int) (t8 : Int) (v_3 : Nat) (f_3 : Bool) : St := ⟨tab [(0, .d (.sl (List.map Comb.d l0))), (3, .ref [3] v_3 0 (List.map (D.int .i64) out3).length 1), (7, .d (.int .i64 t7)), (8, .d (.int .i64 t8))], tabB [([3], some (.arr (List.map (D.int .i64) out3) v_3 f_3))]⟩
def lay_Order_h40 (out3 : (List Int)) (v_3 : Nat) (f_3 : Bool) : St := ⟨tab [(3, .ref [3] v_3 0 (List.map (D.int .i64) out3).length 1)], tabB [([3], some (.arr (List.map (D.int .i64) out3) v_3 f_3))]⟩
def lay_Order_Q (l_ : (List Comb)) (r : (List Int)) (p : Out × St) : Prop := (∀ i, p.1 ≠ .exit i) ∧ finF F41 [.d (.sl (List.map Comb.d l_))] p.2 = some (.d (.sl (List.map (D.int .i64) r)), [.d (.sl (List.map Comb.d l_))])
def lay_Order_P22 (l_ : (List Comb)) (l0 : (List Comb)) (i4 : Int) (t7 : Int) (t8 : Int) (t12 : Int) (e : (List Int)) (p : Out × St) : Prop := p.1 = .exit 2 ∧ ∃ g : (Nat × Bool), Canon [] [0, 3, 7, 8] [[3]] p.2 (lay_Order_h39 e l0 t7 t8 g.1 g.2)
def lay_Order_P8 (l_ : (List Comb)) (l0 : (List Comb)) (t7 : Int) (e : (List Int)) (p : Out × St) : Prop := p.1 = .exit 0 ∧ ∃ g : (Nat × Bool), Canon [] [3] [[3]] p.2 (lay_Order_h40 e g.1 g.2)
theorem lay_Order_l22_ok (l_ : (List Comb)) (out3 : (List Int)) (l0 : (List Comb)) (i4 : Int) (t7 : Int) (t8 : Int) (t12 : Int) (t13 : Int) (v_3 : Nat) (f_3 : Bool) (r : (Lp ((List Int) × Int) (List Int))) (h : lay_Order_l22 out3 l0 i4 t7 t8 t12 t13 = some r) : Runs L F41l22 (lay_Order_h22 out3 l0 i4 t7 t8 t12 t13 v_3 f_3) (LQ [] [0, 3, 4, 7, 8, 12, 13] [[3]] (fun (x : ((List Int) × Int)) (g : (Nat × Bool)) => lay_Order_h22 x.1 l0 i4 t7 t8 t12 x.2 g.1 g.2) (lay_Order_P22 l_ l0 i4 t7 t8 t12) r) := by
  unfold lay_Order_l22 at h
  refine Runs.seq ?_
  refine Runs.ops ?_
  refine RunAt.chunk 1 [⟨.d (.bool (decide (t13 < t12))), []⟩] (by kernel_rfl) ?_
  refine RunAt.done (by kernel_rfl) ?_
  refine kS_nrm ?_
  refine Runs.seq ?_
  cases hb_2 : ((decide (t13 < t12)) : Bool) with
  | true =>
    replace h := ite_t hb_2 h
    refine Runs.cond_t (by kernel_rfl) ?_
    refine Runs.skip ?_
    refine kS_nrm ?_
    refine Runs.seq ?_
    refine Runs.block ?_
    refine Runs.seq ?_
    refine Runs.ops ?_
    refine RunAt.chunk 2 [⟨.d (.int .i64 t13), []⟩, ⟨.d (.int .i64 t13), []⟩] (by kernel_rfl) ?_
    refine RunAt.done (by kernel_rfl) ?_
    refine kS_nrm ?_
    refine Runs.seq ?_
    refine Runs.ops ?_
    refine RunAt.chunk 2 [⟨.d (.sl (List.map Comb.d l0)), []⟩, ⟨.d (.int .i64 t13), []⟩] (by kernel_rfl) ?_
    obtain ⟨z_1, hz_1, h⟩ := bind_s h
    refine RunAt.cut (some 18) (.iaddrS 8) [] none [.d (.sl (List.map Comb.d l0)), .d (.int .i64 t13)] (.elt (Comb.d z_1) 0) [] (by kernel_rfl) (by kernel_rfl) (by kernel_rfl) (cut_at hz_1 (fun _ => rfl)) ?_
    refine RunAt.chunk 4 [⟨.elt (Comb.d z_1) 1, []⟩, ⟨.d (.str z_1.Class), []⟩, ⟨.d (.sl (List.map Comb.d l0)), []⟩, ⟨.d (.int .i64 i4), []⟩] (by kernel_rfl) ?_
    obtain ⟨z_2, hz_2, h⟩ := bind_s h
    refine RunAt.cut (some 23) (.iaddrS 8) [] none [.d (.sl (List.map Comb.d l0)), .d (.int .i64 i4)] (.elt (Comb.d z_2) 0) [] (by kernel_rfl) (by kernel_rfl) (by kernel_rfl) (cut_at hz_2 (fun _ => rfl)) ?_
    refine RunAt.chunk 4 [⟨.elt (Comb.d z_2) 1, []⟩, ⟨.d (.str z_2.Class), []⟩, ⟨.d (.bool (z_1.Class == z_2.Class)), []⟩, ⟨.d (.bool (z_1.Class == z_2.Class)), []⟩] (by kernel_rfl) ?_
    cases hb_3 : ((z_1.Class == z_2.Class) : Bool) with
    | true =>
      replace h := ite_t hb_3 h
      refine RunAt.chunk 2 [⟨.ref [3] v_3 0 (List.map (D.int .i64) out3).length 1, []⟩, ⟨.d (.int .i64 t13), []⟩] (by kernel_rfl) ?_
      obtain ⟨r_1, hr_1, h⟩ := bind_s h
      have hc_1 := slices_Contains_Lint_L out3 t13 r_1 hr_1
      refine RunAt.cut (some 30) (.callf 68) [] none [.ref [3] v_3 0 (List.map (D.int .i64) out3).length 1, .d (.int .i64 t13)] (.d (.bool r_1)) [([3], some (.arr (List.map (D.int .i64) out3) v_3 true))] (by kernel_rfl) (by kernel_rfl) (by kernel_rfl) (cut_call (call_of (ws := [([3], some (.arr (List.map (D.int .i64) out3) v_3 true))]) (us := [([3], some (.arr (List.map (D.int .i64) out3) v_3 true))]) (by kernel_rfl) (gives_cons (ws := [([3], some (.arr (List.map (D.int .i64) out3) v_3 true))]) (give_ref (e := (D.int .i64)) (l := out3) (fz := f_3) (by kernel_rfl) (by kernel_rfl) rfl) (gives_cons (ws := []) (give_same (by kernel_rfl)) gives_nil)) hc_1 (by kernel_rfl) (by kernel_rfl))) ?_
      refine RunAt.chunk 2 [⟨.d (.bool (!r_1)), []⟩, ⟨.d (.bool (!r_1)), []⟩] (by kernel_rfl) ?_
      refine RunAt.done (by kernel_rfl) ?_
      refine kS_nrm ?_
      cases hb_4 : ((!r_1) : Bool) with
      | true =>
        replace h := ite_t hb_4 h
        refine Runs.cond_t (by kernel_rfl) ?_
        refine Runs.ops ?_
        refine RunAt.chunk 3 [⟨.ref [3] v_3 0 (List.map (D.int .i64) out3).length 1, []⟩, ⟨.d (.int .i64 t13), []⟩, ⟨.ref [35] 0 0 (List.map (D.int .i64) ([t13] : List Int)).length 1, [([35], some (.arr (List.map (D.int .i64) ([t13] : List Int)) 0 false))]⟩] (by kernel_rfl) ?_
        obtain ⟨z_3, hz_3, h⟩ := bind_s h
        refine RunAt.cut (some 36) (.append 1 8 false) [] none [.ref [3] v_3 0 (List.map (D.int .i64) out3).length 1, .ref [35] 0 0 (List.map (D.int .i64) ([t13] : List Int)).length 1] (.ref [3] (v_3 + 1) 0 (List.map (D.int .i64) z_3).length 1) [([35], some (.arr (List.map (D.int .i64) ([t13] : List Int)) 0 true)), ([3], some (.arr (List.map (D.int .i64) z_3) (v_3 + 1) true))] (by kernel_rfl) (by kernel_rfl) (by kernel_rfl) (cut_appR (e := (D.int .i64)) (l := out3) (fz := true) (ws := [([35], some (.arr (List.map (D.int .i64) ([t13] : List Int)) 0 true))]) (ap_ref (e := (D.int .i64)) (l := ([t13] : List Int)) (fz := false) (by kernel_rfl) (by kernel_rfl) rfl) (fun _ => rfl) hz_3 (by kernel_rfl) (by kernel_rfl) rfl) ?_
        refine RunAt.chunk 1 [⟨.ref [3] (v_3 + 1) 0 (List.map (D.int .i64) z_3).length 1, []⟩] (by kernel_rfl) ?_
        refine RunAt.done (by kernel_rfl) ?_
        refine kB_nrm ?_
        refine kS_nrm ?_
        refine Runs.ops ?_
        refine RunAt.chunk 2 [⟨.d (.int .i64 (IntKind.wrap .i64 (t13 + 1))), []⟩, ⟨.d (.int .i64 (IntKind.wrap .i64 (t13 + 1))), []⟩] (by kernel_rfl) ?_
        refine RunAt.done (by kernel_rfl) ?_
        obtain rfl := Option.some.inj h
        exact ⟨rfl, ((v_3 + 1), true), (Canon.nil (by kernel_rfl))⟩
      | false =>
        replace h := ite_f hb_4 h
        refine Runs.cond_f (by kernel_rfl) ?_
        refine Runs.skip ?_
        refine kB_nrm ?_
        refine kS_nrm ?_
        refine Runs.ops ?_
        refine RunAt.chunk 2 [⟨.d (.int .i64 (IntKind.wrap .i64 (t13 + 1))), []⟩, ⟨.d (.int .i64 (IntKind.wrap .i64 (t13 + 1))), []⟩] (by kernel_rfl) ?_
        refine RunAt.done (by kernel_rfl) ?_
        obtain rfl := Option.some.inj h
        exact ⟨rfl, (v_3, true), (Canon.nil (by kernel_rfl))⟩
    | false =>
      replace h := ite_f hb_3 h
      refine RunAt.chunk 5 [⟨.tup [], []⟩, ⟨.tup [], []⟩, ⟨.tup [], []⟩, ⟨.tup [], []⟩, ⟨.d (.bool false), []⟩] (by kernel_rfl) ?_
      refine RunAt.done (by kernel_rfl) ?_
      refine kS_nrm ?_
      refine Runs.cond_f (by kernel_rfl) ?_
      refine Runs.skip ?_
      refine kB_nrm ?_
      refine kS_nrm ?_
      refine Runs.ops ?_
      refine RunAt.chunk 2 [⟨.d (.int .i64 (IntKind.wrap .i64 (t13 + 1))), []⟩, ⟨.d (.int .i64 (IntKind.wrap .i64 (t13 + 1))), []⟩] (by kernel_rfl) ?_
      refine RunAt.done (by kernel_rfl) ?_
      obtain rfl := Option.some.inj h
      exact ⟨rfl, (v_3, f_3), (Canon.nil (by kernel_rfl))⟩
  | false =>
    replace h := ite_f hb_2 h
    refine Runs.cond_f (by kernel_rfl) ?_
    refine Runs.exit ?_
    refine kS_exit ?_
    obtain rfl := Option.some.inj h
    exact ⟨nofun, rfl, (v_3, f_3), (Canon.nil (by kernel_rfl))⟩
theorem lay_Order_l8_ok (l_ : (List Comb)) (out3 : (List Int)) (l0 : (List Comb)) (t7 : Int) (t8 : Int) (v_3 : Nat) (f_3 : Bool) (r : (Lp ((List Int) × Int) (List Int))) (h : lay_Order_l8 out3 l0 t7 t8 = some r) : Runs L F41l8 (lay_Order_h8 out3 l0 t7 t8 v_3 f_3) (LQ [] [0, 3, 7, 8] [[3]] (fun (x : ((List Int) × Int)) (g : (Nat × Bool)) => lay_Order_h8 x.1 l0 t7 x.2 g.1 g.2) (lay_Order_P8 l_ l0 t7) r) := by
  unfold lay_Order_l8 at h
  refine Runs.seq ?_
  refine Runs.ops ?_
  refine RunAt.chunk 1 [⟨.d (.bool (decide (t8 < t7))), []⟩] (by kernel_rfl) ?_
  refine RunAt.done (by kernel_rfl) ?_
  refine kS_nrm ?_
  refine Runs.seq ?_
  cases hb_1 : ((decide (t8 < t7)) : Bool) with
  | true =>
    replace h := ite_t hb_1 h
    refine Runs.cond_t (by kernel_rfl) ?_
    refine Runs.skip ?_
    refine kS_nrm ?_
    refine Runs.seq ?_
    refine Runs.block ?_
    refine Runs.seq ?_
    refine Runs.ops ?_
    refine RunAt.chunk 2 [⟨.d (.int .i64 t8), []⟩, ⟨.d (.int .i64 t8), []⟩] (by kernel_rfl) ?_
    refine RunAt.done (by kernel_rfl) ?_
    refine kS_nrm ?_
    refine Runs.seq ?_
    refine Runs.ops ?_
    refine RunAt.chunk 1 [⟨.d (.sl (List.map Comb.d l0)), []⟩] (by kernel_rfl) ?_
    refine RunAt.cut (some 12) .lenL [] none [.d (.sl (List.map Comb.d l0))] (.d (.int .i64 (l0.length : Int))) [] (by kernel_rfl) (by kernel_rfl) (by kernel_rfl) (cut_len _) ?_
    refine RunAt.chunk 1 [⟨.d (.int .i64 0), []⟩] (by kernel_rfl) ?_
    refine RunAt.done (by kernel_rfl) ?_
    refine kS_nrm ?_
    refine Runs.block ?_
    obtain ⟨e_1, he_1, h⟩ := bind_s h
    refine Runs.loop (fun x : ((List Int) × Int) => lay_Order_l22 x.1 l0 t8 t7 t8 (l0.length : Int) x.2) (fun (x : ((List Int) × Int)) (g : (Nat × Bool)) => lay_Order_h22 x.1 l0 t8 t7 t8 (l0.length : Int) x.2 g.1 g.2) (lay_Order_P22 l_ l0 t8 t7 t8 (l0.length : Int)) (fun x g r hr => lay_Order_l22_ok l_ x.1 l0 t8 t7 t8 (l0.length : Int) x.2 g.1 g.2 r hr) (v_3, f_3) he_1 (Canon.nil (by kernel_rfl)) ?_
    rintro ⟨o, s⟩ hp
    obtain ⟨ho, g_1, hk_1⟩ := hp
    have ho' : o = .exit 2 := ho
    subst ho'
    refine kB_hit ?_
    refine kB_nrm ?_
    refine kS_nrm ?_
    refine Runs.canon _ hk_1 ?_
    refine Runs.ops ?_
    refine RunAt.chunk 2 [⟨.d (.int .i64 (IntKind.wrap .i64 (t8 + 1))), []⟩, ⟨.d (.int .i64 (IntKind.wrap .i64 (t8 + 1))), []⟩] (by kernel_rfl) ?_
    refine RunAt.done (by kernel_rfl) ?_
    obtain rfl := Option.some.inj h
    exact ⟨rfl, (g_1.1, g_1.2), (Canon.nil (by kernel_rfl))⟩
  | false =>
    replace h := ite_f hb_1 h
    refine Runs.cond_f (by kernel_rfl) ?_
    refine Runs.exit ?_
    refine kS_exit ?_
    obtain rfl := Option.some.inj h
    exact ⟨nofun, rfl, (v_3, f_3), (Canon.nil (by kernel_rfl))⟩
theorem lay_Order_ok (l_ : (List Comb)) (r : (List Int)) (h : lay_Order l_ = some r) : Runs L F41.body ⟨tmOf [.d (.sl (List.map Comb.d l_))] 0, updW (fun _ => none) []⟩ (lay_Order_Q l_ r) := by
  unfold lay_Order at h
  refine Runs.seq ?_
  refine Runs.ops ?_
  refine RunAt.chunk 1 [⟨.nils, []⟩] (by kernel_rfl) ?_
  refine RunAt.done (by kernel_rfl) ?_
  refine kS_nrm ?_
  refine Runs.seq ?_
  refine Runs.ops ?_
  refine RunAt.chunk 1 [⟨.nils, []⟩] (by kernel_rfl) ?_
  refine RunAt.done (by kernel_rfl) ?_
  refine kS_nrm ?_
  refine Runs.canon (lay_Order_h4 ([] : List Int) l_ 0) (Canon.cons (own_nil (D.int .i64) (v := 0) (by kernel_rfl) (by kernel_rfl)) (Canon.nil (by kernel_rfl))) ?_
  refine Runs.seq ?_
  refine Runs.seq ?_
  refine Runs.ops ?_
  refine RunAt.chunk 1 [⟨.d (.sl (List.map Comb.d l_)), []⟩] (by kernel_rfl) ?_
  refine RunAt.cut (some 7) .lenL [] none [.d (.sl (List.map Comb.d l_))] (.d (.int .i64 (l_.length : Int))) [] (by kernel_rfl) (by kernel_rfl) (by kernel_rfl) (cut_len _) ?_
  refine RunAt.chunk 1 [⟨.d (.int .i64 0), []⟩] (by kernel_rfl) ?_
  refine RunAt.done (by kernel_rfl) ?_
  refine kS_nrm ?_
  refine Runs.block ?_
  obtain ⟨e_1, he_1, h⟩ := bind_s h
  refine Runs.loop (fun x : ((List Int) × Int) => lay_Order_l8 x.1 l_ (l_.length : Int) x.2) (fun (x : ((List Int) × Int)) (g : (Nat × Bool)) => lay_Order_h8 x.1 l_ (l_.length : Int) x.2 g.1 g.2) (lay_Order_P8 l_ l_ (l_.length : Int)) (fun x g r hr => lay_Order_l8_ok l_ x.1 l_ (l_.length : Int) x.2 g.1 g.2 r hr) (0, false) he_1 (Canon.nil (by kernel_rfl)) ?_
  rintro ⟨o, s⟩ hp
  obtain ⟨ho, g_1, hk_1⟩ := hp
  have ho' : o = .exit 0 := ho
  subst ho'
  refine kB_hit ?_
  refine kS_nrm ?_
  refine Runs.canon _ hk_1 ?_
  refine Runs.seq ?_
  refine Runs.ops ?_
  refine RunAt.chunk 2 [⟨.ref [3] g_1.1 0 (List.map (D.int .i64) e_1).length 1, []⟩, ⟨.ref [3] g_1.1 0 (List.map (D.int .i64) e_1).length 1, []⟩] (by kernel_rfl) ?_
  refine RunAt.done (by kernel_rfl) ?_
  refine kS_nrm ?_
  refine Runs.seq ?_
  refine Runs.gcons (frz_ref (e := (D.int .i64)) (l := e_1) (id := [3]) (v := g_1.1) (n := 1) (fz := g_1.2) (by kernel_rfl) (by kernel_rfl) rfl) ?_
  refine Runs.gnil ?_
  refine kS_nrm ?_
  refine Runs.ret ?_
  obtain rfl := Option.some.inj h
  exact ⟨Out.ret_ne, (by kernel_rfl)⟩
theorem lay_Order_L (l_ : (List Comb)) (r : (List Int)) (h : lay_Order l_ = some r) : L 41 [.d (.sl (List.map Comb.d l_))] = some (.d (.sl (List.map (D.int .i64) r)), [.d (.sl (List.map Comb.d l_))]) := by
  obtain ⟨p, ⟨hne, hf⟩, hr⟩ := lay_Order_ok l_ r h
  obtain ⟨k, hk⟩ := run_of (F := F41) (args := [.d (.sl (List.map Comb.d l_))]) (ap := [.d (.sl (List.map Comb.d l_))]) (bx0 := updW (fun _ => none) []) rfl rfl (by kernel_rfl) ⟨p, ⟨hne, hf⟩, hr⟩
  exact lim_run (k := k) rfl hk
def segs_Step_Q (align_ : Int) (r : Int) (p : Out × St) : Prop := (∀ i, p.1 ≠ .exit i) ∧ finF F70 [.d (.int .i64 align_)] p.2 = some (.d (.int .i64 r), [.d (.int .i64 align_)])
theorem segs_Step_ok (align_ : Int) (r : Int) (h : segs_Step align_ = some r) : Runs L F70.body ⟨tmOf [.d (.int .i64 align_)] 0, updW (fun _ => none) []⟩ (segs_Step_Q align_ r) := by
  unfold segs_Step at h
  refine Runs.seq ?_
  refine Runs.ops ?_
  refine RunAt.chunk 1 [⟨.d (.int .i64 0), []⟩] (by kernel_rfl) ?_
  refine RunAt.done (by kernel_rfl) ?_
  refine kS_nrm ?_
  refine Runs.seq ?_
  refine Runs.seq ?_
  refine Runs.ops ?_
  refine RunAt.chunk 1 [⟨.d (.int .i64 align_), []⟩] (by kernel_rfl) ?_
  refine RunAt.done (by kernel_rfl) ?_
  refine kS_nrm ?_
  refine Runs.block ?_
  refine Runs.seq ?_
  refine Runs.ops ?_
  refine RunAt.chunk 2 [⟨.d (.bool (align_ == 2)), []⟩, ⟨.d (.bool (align_ == 2)), []⟩] (by kernel_rfl) ?_
  refine RunAt.done (by kernel_rfl) ?_
  refine kS_nrm ?_
  cases hb_1 : ((align_ == 2) : Bool) with
  | true =>
    replace h := ite_t hb_1 h
    refine Runs.cond_t (by kernel_rfl) ?_
    refine Runs.seq ?_
    refine Runs.ops ?_
    refine RunAt.chunk 1 [⟨.d (.int .i64 2), []⟩] (by kernel_rfl) ?_
    refine RunAt.done (by kernel_rfl) ?_
    refine kS_nrm ?_
    refine Runs.ret ?_
    refine kB_ret ?_
    refine kS_ret ?_
    obtain rfl := Option.some.inj h
    exact ⟨Out.ret_ne, (by kernel_rfl)⟩
  | false =>
    replace h := ite_f hb_1 h
    refine Runs.cond_f (by kernel_rfl) ?_
    refine Runs.seq ?_
    refine Runs.ops ?_
    refine RunAt.chunk 2 [⟨.d (.bool (align_ == 3)), []⟩, ⟨.d (.bool (align_ == 3)), []⟩] (by kernel_rfl) ?_
    refine RunAt.done (by kernel_rfl) ?_
    refine kS_nrm ?_
    cases hb_2 : ((align_ == 3) : Bool) with
    | true =>
      replace h := ite_t hb_2 h
      refine Runs.cond_t (by kernel_rfl) ?_
      refine Runs.seq ?_
      refine Runs.ops ?_
      refine RunAt.chunk 1 [⟨.d (.int .i64 16), []⟩] (by kernel_rfl) ?_
      refine RunAt.done (by kernel_rfl) ?_
      refine kS_nrm ?_
      refine Runs.ret ?_
      refine kB_ret ?_
      refine kS_ret ?_
      obtain rfl := Option.some.inj h
      exact ⟨Out.ret_ne, (by kernel_rfl)⟩
    | false =>
      replace h := ite_f hb_2 h
      refine Runs.cond_f (by kernel_rfl) ?_
      refine Runs.seq ?_
      refine Runs.ops ?_
      refine RunAt.chunk 2 [⟨.d (.bool (align_ == 4)), []⟩, ⟨.d (.bool (align_ == 4)), []⟩] (by kernel_rfl) ?_
      refine RunAt.done (by kernel_rfl) ?_
      refine kS_nrm ?_
      cases hb_3 : ((align_ == 4) : Bool) with
      | true =>
        replace h := ite_t hb_3 h
        refine Runs.cond_t (by kernel_rfl) ?_
        refine Runs.seq ?_
        refine Runs.ops ?_
        refine RunAt.chunk 1 [⟨.d (.int .i64 256), []⟩] (by kernel_rfl) ?_
        refine RunAt.done (by kernel_rfl) ?_
        refine kS_nrm ?_
        refine Runs.ret ?_
        refine kB_ret ?_
        refine kS_ret ?_
        obtain rfl := Option.some.inj h
        exact ⟨Out.ret_ne, (by kernel_rfl)⟩
      | false =>
        replace h := ite_f hb_3 h
        refine Runs.cond_f (by kernel_rfl) ?_
        refine Runs.skip ?_
        refine kB_nrm ?_
        refine kS_nrm ?_
        refine Runs.seq ?_
        refine Runs.ops ?_
        refine RunAt.chunk 1 [⟨.d (.int .i64 1), []⟩] (by kernel_rfl) ?_
        refine RunAt.done (by kernel_rfl) ?_
        refine kS_nrm ?_
        refine Runs.ret ?_
        obtain rfl := Option.some.inj h
        exact ⟨Out.ret_ne, (by kernel_rfl)⟩
theorem segs_Step_L (align_ : Int) (r : Int) (h : segs_Step align_ = some r) : L 70 [.d (.int .i64 align_)] = some (.d (.int .i64 r), [.d (.int .i64 align_)]) := by
  obtain ⟨p, ⟨hne, hf⟩, hr⟩ := segs_Step_ok align_ r h
  obtain ⟨k, hk⟩ := run_of (F := F70) (args := [.d (.int .i64 align_)]) (ap := [.d (.int .i64 align_)]) (bx0 := updW (fun _ => none) []) rfl rfl (by kernel_rfl) ⟨p, ⟨hne, hf⟩, hr⟩
  exact lim_run (k := k) rfl hk
def bits_Up_Q (n_ : Int) (step_ : Int) (r : Int) (p : Out × St) : Prop := (∀ i, p.1 ≠ .exit i) ∧ finF F69 [.d (.int .i64 n_), .d (.int .i64 step_)] p.2 = some (.d (.int .i64 r), [.d (.int .i64 n_), .d (.int .i64 step_)])
theorem bits_Up_ok (n_ : Int) (step_ : Int) (r : Int) (h : bits_Up n_ step_ = some r) : Runs L F69.body ⟨tmOf [.d (.int .i64 n_), .d (.int .i64 step_)] 0, updW (fun _ => none) []⟩ (bits_Up_Q n_ step_ r) := by
  unfold bits_Up at h
  refine Runs.seq ?_
  refine Runs.ops ?_
  refine RunAt.chunk 1 [⟨.d (.int .i64 0), []⟩] (by kernel_rfl) ?_
  refine RunAt.done (by kernel_rfl) ?_
  refine kS_nrm ?_
  refine Runs.seq ?_
  refine Runs.seq ?_
  refine Runs.ops ?_
  refine RunAt.chunk 3 [⟨.d (.int .i64 step_), []⟩, ⟨.d (.bool (decide (step_ < 1))), []⟩, ⟨.d (.bool (decide (step_ < 1))), []⟩] (by kernel_rfl) ?_
  cases hb_1 : ((decide (step_ < 1)) : Bool) with
  | true =>
    replace h := ite_t hb_1 h
    refine RunAt.chunk 10 [⟨.tup [], []⟩, ⟨.tup [], []⟩, ⟨.d (.bool true), []⟩, ⟨.d (.bool true), []⟩, ⟨.tup [], []⟩, ⟨.tup [], []⟩, ⟨.tup [], []⟩, ⟨.tup [], []⟩, ⟨.tup [], []⟩, ⟨.d (.bool true), []⟩] (by kernel_rfl) ?_
    refine RunAt.done (by kernel_rfl) ?_
    refine kS_nrm ?_
    refine Runs.cond_t (by kernel_rfl) ?_
    refine Runs.ops ?_
    refine RunAt.chunk 1 [⟨.d (.int .i64 1), []⟩] (by kernel_rfl) ?_
    refine RunAt.done (by kernel_rfl) ?_
    refine kS_nrm ?_
    refine Runs.seq ?_
    refine Runs.ops ?_
    refine RunAt.chunk 4 [⟨.d (.int .i64 n_), []⟩, ⟨.d (.int .i64 (mxI n_ 0)), []⟩, ⟨.d (.int .i64 (mnI (mxI n_ 0) 16777216)), []⟩, ⟨.d (.int .i64 (mnI (mxI n_ 0) 16777216)), []⟩] (by kernel_rfl) ?_
    refine RunAt.done (by kernel_rfl) ?_
    refine kS_nrm ?_
    refine Runs.seq ?_
    refine Runs.ops ?_
    refine RunAt.chunk 8 [⟨.d (.int .i64 (mnI (mxI n_ 0) 16777216)), []⟩, ⟨.d (.int .i64 1), []⟩, ⟨.d (.int .i64 (IntKind.wrap .i64 ((mnI (mxI n_ 0) 16777216) + 1))), []⟩, ⟨.d (.int .i64 (IntKind.wrap .i64 ((IntKind.wrap .i64 ((mnI (mxI n_ 0) 16777216) + 1)) - 1))), []⟩, ⟨.d (.int .i64 1), []⟩, ⟨.d (.int .i64 (IntKind.wrap .i64 (1 - 1))), []⟩, ⟨.d (.int .i64 (bitsOp .andNot .i64 (IntKind.wrap .i64 ((IntKind.wrap .i64 ((mnI (mxI n_ 0) 16777216) + 1)) - 1)) (IntKind.wrap .i64 (1 - 1)))), []⟩, ⟨.d (.int .i64 (bitsOp .andNot .i64 (IntKind.wrap .i64 ((IntKind.wrap .i64 ((mnI (mxI n_ 0) 16777216) + 1)) - 1)) (IntKind.wrap .i64 (1 - 1)))), []⟩] (by kernel_rfl) ?_
    refine RunAt.done (by kernel_rfl) ?_
    refine kS_nrm ?_
    refine Runs.ret ?_
    obtain rfl := Option.some.inj h
    exact ⟨Out.ret_ne, (by kernel_rfl)⟩
  | false =>
    replace h := ite_f hb_1 h
    refine RunAt.chunk 4 [⟨.d (.int .i64 step_), []⟩, ⟨.d (.bool (decide (step_ > 4096))), []⟩, ⟨.d (.bool (decide (step_ > 4096))), []⟩, ⟨.d (.bool (decide (step_ > 4096))), []⟩] (by kernel_rfl) ?_
    cases hb_2 : ((decide (step_ > 4096)) : Bool) with
    | true =>
      replace h := ite_t hb_2 h
      refine RunAt.chunk 6 [⟨.tup [], []⟩, ⟨.tup [], []⟩, ⟨.tup [], []⟩, ⟨.tup [], []⟩, ⟨.tup [], []⟩, ⟨.d (.bool true), []⟩] (by kernel_rfl) ?_
      refine RunAt.done (by kernel_rfl) ?_
      refine kS_nrm ?_
      refine Runs.cond_t (by kernel_rfl) ?_
      refine Runs.ops ?_
      refine RunAt.chunk 1 [⟨.d (.int .i64 1), []⟩] (by kernel_rfl) ?_
      refine RunAt.done (by kernel_rfl) ?_
      refine kS_nrm ?_
      refine Runs.seq ?_
      refine Runs.ops ?_
      refine RunAt.chunk 4 [⟨.d (.int .i64 n_), []⟩, ⟨.d (.int .i64 (mxI n_ 0)), []⟩, ⟨.d (.int .i64 (mnI (mxI n_ 0) 16777216)), []⟩, ⟨.d (.int .i64 (mnI (mxI n_ 0) 16777216)), []⟩] (by kernel_rfl) ?_
      refine RunAt.done (by kernel_rfl) ?_
      refine kS_nrm ?_
      refine Runs.seq ?_
      refine Runs.ops ?_
      refine RunAt.chunk 8 [⟨.d (.int .i64 (mnI (mxI n_ 0) 16777216)), []⟩, ⟨.d (.int .i64 1), []⟩, ⟨.d (.int .i64 (IntKind.wrap .i64 ((mnI (mxI n_ 0) 16777216) + 1))), []⟩, ⟨.d (.int .i64 (IntKind.wrap .i64 ((IntKind.wrap .i64 ((mnI (mxI n_ 0) 16777216) + 1)) - 1))), []⟩, ⟨.d (.int .i64 1), []⟩, ⟨.d (.int .i64 (IntKind.wrap .i64 (1 - 1))), []⟩, ⟨.d (.int .i64 (bitsOp .andNot .i64 (IntKind.wrap .i64 ((IntKind.wrap .i64 ((mnI (mxI n_ 0) 16777216) + 1)) - 1)) (IntKind.wrap .i64 (1 - 1)))), []⟩, ⟨.d (.int .i64 (bitsOp .andNot .i64 (IntKind.wrap .i64 ((IntKind.wrap .i64 ((mnI (mxI n_ 0) 16777216) + 1)) - 1)) (IntKind.wrap .i64 (1 - 1)))), []⟩] (by kernel_rfl) ?_
      refine RunAt.done (by kernel_rfl) ?_
      refine kS_nrm ?_
      refine Runs.ret ?_
      obtain rfl := Option.some.inj h
      exact ⟨Out.ret_ne, (by kernel_rfl)⟩
    | false =>
      replace h := ite_f hb_2 h
      refine RunAt.chunk 6 [⟨.d (.int .i64 step_), []⟩, ⟨.d (.int .i64 step_), []⟩, ⟨.d (.int .i64 (IntKind.wrap .i64 (step_ - 1))), []⟩, ⟨.d (.int .i64 (bitsOp .and .i64 step_ (IntKind.wrap .i64 (step_ - 1)))), []⟩, ⟨.d (.bool ((bitsOp .and .i64 step_ (IntKind.wrap .i64 (step_ - 1))) != 0)), []⟩, ⟨.d (.bool ((bitsOp .and .i64 step_ (IntKind.wrap .i64 (step_ - 1))) != 0)), []⟩] (by kernel_rfl) ?_
      refine RunAt.done (by kernel_rfl) ?_
      refine kS_nrm ?_
      cases hb_3 : (((bitsOp .and .i64 step_ (IntKind.wrap .i64 (step_ - 1))) != 0) : Bool) with
      | true =>
        replace h := ite_t hb_3 h
        refine Runs.cond_t (by kernel_rfl) ?_
        refine Runs.ops ?_
        refine RunAt.chunk 1 [⟨.d (.int .i64 1), []⟩] (by kernel_rfl) ?_
        refine RunAt.done (by kernel_rfl) ?_
        refine kS_nrm ?_
        refine Runs.seq ?_
        refine Runs.ops ?_
        refine RunAt.chunk 4 [⟨.d (.int .i64 n_), []⟩, ⟨.d (.int .i64 (mxI n_ 0)), []⟩, ⟨.d (.int .i64 (mnI (mxI n_ 0) 16777216)), []⟩, ⟨.d (.int .i64 (mnI (mxI n_ 0) 16777216)), []⟩] (by kernel_rfl) ?_
        refine RunAt.done (by kernel_rfl) ?_
        refine kS_nrm ?_
        refine Runs.seq ?_
        refine Runs.ops ?_
        refine RunAt.chunk 8 [⟨.d (.int .i64 (mnI (mxI n_ 0) 16777216)), []⟩, ⟨.d (.int .i64 1), []⟩, ⟨.d (.int .i64 (IntKind.wrap .i64 ((mnI (mxI n_ 0) 16777216) + 1))), []⟩, ⟨.d (.int .i64 (IntKind.wrap .i64 ((IntKind.wrap .i64 ((mnI (mxI n_ 0) 16777216) + 1)) - 1))), []⟩, ⟨.d (.int .i64 1), []⟩, ⟨.d (.int .i64 (IntKind.wrap .i64 (1 - 1))), []⟩, ⟨.d (.int .i64 (bitsOp .andNot .i64 (IntKind.wrap .i64 ((IntKind.wrap .i64 ((mnI (mxI n_ 0) 16777216) + 1)) - 1)) (IntKind.wrap .i64 (1 - 1)))), []⟩, ⟨.d (.int .i64 (bitsOp .andNot .i64 (IntKind.wrap .i64 ((IntKind.wrap .i64 ((mnI (mxI n_ 0) 16777216) + 1)) - 1)) (IntKind.wrap .i64 (1 - 1)))), []⟩] (by kernel_rfl) ?_
        refine RunAt.done (by kernel_rfl) ?_
        refine kS_nrm ?_
        refine Runs.ret ?_
        obtain rfl := Option.some.inj h
        exact ⟨Out.ret_ne, (by kernel_rfl)⟩
      | false =>
        replace h := ite_f hb_3 h
        refine Runs.cond_f (by kernel_rfl) ?_
        refine Runs.skip ?_
        refine kS_nrm ?_
        refine Runs.seq ?_
        refine Runs.ops ?_
        refine RunAt.chunk 4 [⟨.d (.int .i64 n_), []⟩, ⟨.d (.int .i64 (mxI n_ 0)), []⟩, ⟨.d (.int .i64 (mnI (mxI n_ 0) 16777216)), []⟩, ⟨.d (.int .i64 (mnI (mxI n_ 0) 16777216)), []⟩] (by kernel_rfl) ?_
        refine RunAt.done (by kernel_rfl) ?_
        refine kS_nrm ?_
        refine Runs.seq ?_
        refine Runs.ops ?_
        refine RunAt.chunk 8 [⟨.d (.int .i64 (mnI (mxI n_ 0) 16777216)), []⟩, ⟨.d (.int .i64 step_), []⟩, ⟨.d (.int .i64 (IntKind.wrap .i64 ((mnI (mxI n_ 0) 16777216) + step_))), []⟩, ⟨.d (.int .i64 (IntKind.wrap .i64 ((IntKind.wrap .i64 ((mnI (mxI n_ 0) 16777216) + step_)) - 1))), []⟩, ⟨.d (.int .i64 step_), []⟩, ⟨.d (.int .i64 (IntKind.wrap .i64 (step_ - 1))), []⟩, ⟨.d (.int .i64 (bitsOp .andNot .i64 (IntKind.wrap .i64 ((IntKind.wrap .i64 ((mnI (mxI n_ 0) 16777216) + step_)) - 1)) (IntKind.wrap .i64 (step_ - 1)))), []⟩, ⟨.d (.int .i64 (bitsOp .andNot .i64 (IntKind.wrap .i64 ((IntKind.wrap .i64 ((mnI (mxI n_ 0) 16777216) + step_)) - 1)) (IntKind.wrap .i64 (step_ - 1)))), []⟩] (by kernel_rfl) ?_
        refine RunAt.done (by kernel_rfl) ?_
        refine kS_nrm ?_
        refine Runs.ret ?_
        obtain rfl := Option.some.inj h
        exact ⟨Out.ret_ne, (by kernel_rfl)⟩
theorem bits_Up_L (n_ : Int) (step_ : Int) (r : Int) (h : bits_Up n_ step_ = some r) : L 69 [.d (.int .i64 n_), .d (.int .i64 step_)] = some (.d (.int .i64 r), [.d (.int .i64 n_), .d (.int .i64 step_)]) := by
  obtain ⟨p, ⟨hne, hf⟩, hr⟩ := bits_Up_ok n_ step_ r h
  obtain ⟨k, hk⟩ := run_of (F := F69) (args := [.d (.int .i64 n_), .d (.int .i64 step_)]) (ap := [.d (.int .i64 n_), .d (.int .i64 step_)]) (bx0 := updW (fun _ => none) []) rfl rfl (by kernel_rfl) ⟨p, ⟨hne, hf⟩, hr⟩
  exact lim_run (k := k) rfl hk
def lay_Place_h8n (b_10 : (List Int)) (b_13 : (List Bool)) (b_2_3 : Int) (x4_3 : Int) (l0 : (List Comb)) (t16 : (List Int)) (t17 : Int) (t18 : Int) (v_10 : Nat) (v_13 : Nat) (n_10 : Nat) (n_13 : Nat) : St := ⟨tab [(0, .d (.sl (List.map Comb.d l0))), (2, .ptr [2] 0 0), (4, .ptr [4] 0 0), (16, .d (.sl (List.map (D.int .i64) t16))), (17, .d (.int .i64 t17)), (18, .d (.int .i64 t18))], tabB [([2], some (.cells [.nils, .nils, .nils, .d (.int .i64 b_2_3)] 0)), ([4], some (.cells [.ref [10] v_10 0 n_10 1, .ref [13] v_13 0 n_13 1, .nils, .d (.int .i64 x4_3)] 0)), ([10], some (.arr (List.map (D.int .i64) b_10) v_10 false)), ([13], some (.arr (List.map D.bool b_13) v_13 false))]⟩
def lay_Place_h8 (b_10 : (List Int)) (b_13 : (List Bool)) (b_2_3 : Int) (x4_3 : Int) (l0 : (List Comb)) (t16 : (List Int)) (t17 : Int) (t18 : Int) (v_10 : Nat) (v_13 : Nat) : St := lay_Place_h8n b_10 b_13 b_2_3 x4_3 l0 t16 t17 t18 v_10 v_13 (List.map (D.int .i64) b_10).length (List.map D.bool b_13).length
def lay_Place_h41 (b_10 : (List Int)) (b_13 : (List Bool)) (b_2_3 : Int) (x4_3 : Int) (v_10 : Nat) (v_13 : Nat) : St := ⟨tab [(2, .ptr [2] 0 0), (4, .ptr [4] 0 0)], tabB [([2], some (.cells [.nils, .nils, .nils, .d (.int .i64 b_2_3)] 0)), ([4], some (.cells [.ref [10] v_10 0 (List.map (D.int .i64) b_10).length 1, .ref [13] v_13 0 (List.map D.bool b_13).length 1, .nils, .d (.int .i64 x4_3)] 0)), ([10], some (.arr (List.map (D.int .i64) b_10) v_10 false)), ([13], some (.arr (List.map D.bool b_13) v_13 false))]⟩
def lay_Place_Q (l_ : (List Comb)) (r : (api_Layout × Int)) (p : Out × St) : Prop := (∀ i, p.1 ≠ .exit i) ∧ finF F42 [.d (.sl (List.map Comb.d l_))] p.2 = some (.tup [.d (api_Layout.d r.1), .d (.int .i64 r.2)], [.d (.sl (List.map Comb.d l_))])
def lay_Place_P8 (l_ : (List Comb)) (b_2_3 : Int) (l0 : (List Comb)) (t16 : (List Int)) (t17 : Int) (e : ((api_Layout × Int) ⊕ ((List Int) × (List Bool) × Int))) (p : Out × St) : Prop := match e with
  | .inl x => p.1 = .ret ∧ finF F42 [.d (.sl (List.map Comb.d l_))] p.2 = some (.tup [.d (api_Layout.d x.1), .d (.int .i64 x.2)], [.d (.sl (List.map Comb.d l_))])
  | .inr x => p.1 = .exit 0 ∧ ∃ g : (Nat × Nat), Canon [] [2, 4] [[2], [4], [10], [13]] p.2 (lay_Place_h41 x.1 x.2.1 b_2_3 x.2.2 g.1 g.2)
theorem lay_Place_l8_ok (l_ : (List Comb)) (b_10 : (List Int)) (b_13 : (List Bool)) (b_2_3 : Int) (x4_3 : Int) (l0 : (List Comb)) (t16 : (List Int)) (t17 : Int) (t18 : Int) (v_10 : Nat) (v_13 : Nat) (r : (Lp ((List Int) × (List Bool) × Int × Int) ((api_Layout × Int) ⊕ ((List Int) × (List Bool) × Int)))) (h : lay_Place_l8 b_10 b_13 b_2_3 x4_3 l0 t16 t17 t18 = some r) : Runs L F42l8 (lay_Place_h8 b_10 b_13 b_2_3 x4_3 l0 t16 t17 t18 v_10 v_13) (LQ [] [0, 2, 4, 16, 17, 18] [[2], [4], [10], [13]] (fun (x : ((List Int) × (List Bool) × Int × Int)) (g : (Nat × Nat)) => lay_Place_h8 x.1 x.2.1 b_2_3 x.2.2.1 l0 t16 t17 x.2.2.2 g.1 g.2) (lay_Place_P8 l_ b_2_3 l0 t16 t17) r) := by
  unfold lay_Place_l8 at h
  refine Runs.seq ?_
  refine Runs.ops ?_
  refine RunAt.chunk 1 [⟨.d (.bool (decide (t18 < t17))), []⟩] (by kernel_rfl) ?_
  refine RunAt.done (by kernel_rfl) ?_
  refine kS_nrm ?_
  refine Runs.seq ?_
  cases hb_1 : ((decide (t18 < t17)) : Bool) with
  | true =>
    replace h := ite_t hb_1 h
    refine Runs.cond_t (by kernel_rfl) ?_
    refine Runs.skip ?_
    refine kS_nrm ?_
    refine Runs.seq ?_
    refine Runs.block ?_
    refine Runs.seq ?_
    refine Runs.ops ?_
    obtain ⟨z_3, hz_3, h⟩ := bind_s h
    refine RunAt.cut (some 20) (.iaddrS 1) [] none [.d (.sl (List.map (D.int .i64) t16)), .d (.int .i64 t18)] (.elt (.int .i64 z_3) 0) [] (by kernel_rfl) (by kernel_rfl) (by kernel_rfl) (cut_at hz_3 (fun _ => rfl)) ?_
    refine RunAt.chunk 2 [⟨.d (.int .i64 z_3), []⟩, ⟨.d (.int .i64 z_3), []⟩] (by kernel_rfl) ?_
    refine RunAt.done (by kernel_rfl) ?_
    refine kS_nrm ?_
    refine Runs.seq ?_
    refine Runs.ops ?_
    refine RunAt.chunk 2 [⟨.d (.sl (List.map Comb.d l0)), []⟩, ⟨.d (.int .i64 z_3), []⟩] (by kernel_rfl) ?_
    obtain ⟨z_4, hz_4, h⟩ := bind_s h
    refine RunAt.cut (some 24) (.iaddrS 8) [] none [.d (.sl (List.map Comb.d l0)), .d (.int .i64 z_3)] (.elt (Comb.d z_4) 0) [] (by kernel_rfl) (by kernel_rfl) (by kernel_rfl) (cut_at hz_4 (fun _ => rfl)) ?_
    refine RunAt.chunk 3 [⟨.d (Comb.d z_4), []⟩, ⟨.ptr [7] 0 0, [([7], some (.cells [.d (.str []), .d (.str []), .d (.int .i64 0), .d (.int .i64 0), .d (.int .u16 0), .d (.int .u8 0), .d (.int .i64 0), .nils] 0))]⟩, ⟨.tup [], [([7], some (.cells [.d (.str z_4.Name), .d (.str z_4.Class), .d (.int .i64 z_4.Align), .d (.int .i64 z_4.Combine), .d (.int .u16 z_4.Frame), .d (.int .u8 z_4.Offset), .d (.int .i64 z_4.Len), .d (.sl (List.map Chunk.d z_4.Chunks))] 0))]⟩] (by kernel_rfl) ?_
    refine RunAt.done (by kernel_rfl) ?_
    refine kS_nrm ?_
    refine Runs.seq ?_
    refine Runs.seq ?_
    refine Runs.ops ?_
    refine RunAt.chunk 3 [⟨.ptr [7] 0 2, []⟩, ⟨.d (.int .i64 z_4.Align), []⟩, ⟨.d (.bool (z_4.Align == 0)), []⟩] (by kernel_rfl) ?_
    refine RunAt.done (by kernel_rfl) ?_
    refine kS_nrm ?_
    cases hb_2 : ((z_4.Align == 0) : Bool) with
    | true =>
      replace h := ite_t hb_2 h
      refine Runs.cond_t (by kernel_rfl) ?_
      refine Runs.seq ?_
      refine Runs.ops ?_
      refine RunAt.chunk 14 [⟨.ptr [4] 0 0, []⟩, ⟨.ref [10] v_10 0 (List.map (D.int .i64) b_10).length 1, []⟩, ⟨.d (.int .i64 z_3), []⟩, ⟨.ptr [4] 0 1, []⟩, ⟨.ref [13] v_13 0 (List.map D.bool b_13).length 1, []⟩, ⟨.d (.int .i64 z_3), []⟩, ⟨.ptr [7] 0 4, []⟩, ⟨.d (.int .u16 z_4.Frame), []⟩, ⟨.d (.int .i64 (IntKind.wrap .i64 z_4.Frame)), []⟩, ⟨.d (.int .i64 (shlI .i64 (IntKind.wrap .i64 z_4.Frame) 4)), []⟩, ⟨.ptr [7] 0 5, []⟩, ⟨.d (.int .u8 z_4.Offset), []⟩, ⟨.d (.int .i64 (IntKind.wrap .i64 z_4.Offset)), []⟩, ⟨.d (.int .i64 (IntKind.wrap .i64 ((shlI .i64 (IntKind.wrap .i64 z_4.Frame) 4) + (IntKind.wrap .i64 z_4.Offset)))), []⟩] (by kernel_rfl) ?_
      obtain ⟨z_5, hz_5, h⟩ := bind_s h
      refine RunAt.cut (some 43) (.iaddrS 1) [] none [.ref [10] v_10 0 (List.map (D.int .i64) b_10).length 1, .d (.int .i64 z_3)] (.eref [10] v_10 (0 + (z_3).toNat) 0) [] (by kernel_rfl) (by kernel_rfl) (by kernel_rfl) (cut_atR (e := (D.int .i64)) (l := b_10) hz_5 rfl) ?_
      refine RunAt.cut none (.store 1) [] (some [[10], [13]]) [.eref [10] v_10 (0 + (z_3).toNat) 0, .d (.int .i64 (IntKind.wrap .i64 ((shlI .i64 (IntKind.wrap .i64 z_4.Frame) 4) + (IntKind.wrap .i64 z_4.Offset))))] (.tup []) [([10], some (.arr (List.map (D.int .i64) (List.set b_10 (z_3).toNat (IntKind.wrap .i64 ((shlI .i64 (IntKind.wrap .i64 z_4.Frame) 4) + (IntKind.wrap .i64 z_4.Offset))))) v_10 false))] (by kernel_rfl) (by kernel_rfl) (by kernel_rfl) (cut_setR (e := (D.int .i64)) (l := b_10) (y := z_5) (y' := (IntKind.wrap .i64 ((shlI .i64 (IntKind.wrap .i64 z_4.Frame) 4) + (IntKind.wrap .i64 z_4.Offset)))) (ds := [.int .i64 (IntKind.wrap .i64 ((shlI .i64 (IntKind.wrap .i64 z_4.Frame) 4) + (IntKind.wrap .i64 z_4.Offset)))]) (by kernel_rfl) hz_5 (by kernel_rfl) (by kernel_rfl) (by kernel_rfl) (by kernel_rfl)) ?_
      obtain ⟨z_6, hz_6, h⟩ := bind_s h
      refine RunAt.cut (some 44) (.iaddrS 1) [] none [.ref [13] v_13 0 (List.map D.bool b_13).length 1, .d (.int .i64 z_3)] (.eref [13] v_13 (0 + (z_3).toNat) 0) [] (by kernel_rfl) (by kernel_rfl) (by kernel_rfl) (cut_atR (e := D.bool) (l := b_13) hz_6 rfl) ?_
      refine RunAt.cut none (.store 1) [] none [.eref [13] v_13 (0 + (z_3).toNat) 0, .d (.bool true)] (.tup []) [([13], some (.arr (List.map D.bool (List.set b_13 (z_3).toNat true)) v_13 false))] (by kernel_rfl) (by kernel_rfl) (by kernel_rfl) (cut_setR (e := D.bool) (l := b_13) (y := z_6) (y' := true) (ds := [.bool true]) (by kernel_rfl) hz_6 (by kernel_rfl) (by kernel_rfl) (by kernel_rfl) (by kernel_rfl)) ?_
      refine RunAt.done (by kernel_rfl) ?_
      refine kS_nrm ?_
      refine Runs.exit ?_
      refine kS_exit ?_
      refine kB_hit ?_
      refine kS_nrm ?_
      refine Runs.ops ?_
      refine RunAt.chunk 2 [⟨.d (.int .i64 (IntKind.wrap .i64 (t18 + 1))), []⟩, ⟨.d (.int .i64 (IntKind.wrap .i64 (t18 + 1))), []⟩] (by kernel_rfl) ?_
      refine RunAt.done (by kernel_rfl) ?_
      obtain rfl := Option.some.inj h
      exact ⟨rfl, (v_10, v_13), (Canon.len (f := fun n => lay_Place_h8n (List.set b_10 (z_3).toNat (IntKind.wrap .i64 ((shlI .i64 (IntKind.wrap .i64 z_4.Frame) 4) + (IntKind.wrap .i64 z_4.Offset)))) (List.set b_13 (z_3).toNat true) b_2_3 x4_3 l0 t16 t17 (IntKind.wrap .i64 (t18 + 1)) v_10 v_13 n ((List.map D.bool (List.set b_13 (z_3).toNat true)).length)) ((by simp only [List.length_map, List.length_set] : (List.map (D.int .i64) b_10).length = (List.map (D.int .i64) (List.set b_10 (z_3).toNat (IntKind.wrap .i64 ((shlI .i64 (IntKind.wrap .i64 z_4.Frame) 4) + (IntKind.wrap .i64 z_4.Offset))))).length)).symm (Canon.len (f := fun n => lay_Place_h8n (List.set b_10 (z_3).toNat (IntKind.wrap .i64 ((shlI .i64 (IntKind.wrap .i64 z_4.Frame) 4) + (IntKind.wrap .i64 z_4.Offset)))) (List.set b_13 (z_3).toNat true) b_2_3 x4_3 l0 t16 t17 (IntKind.wrap .i64 (t18 + 1)) v_10 v_13 ((List.map (D.int .i64) b_10).length) n) ((by simp only [List.length_map, List.length_set] : (List.map D.bool b_13).length = (List.map D.bool (List.set b_13 (z_3).toNat true)).length)).symm (Canon.nil (by kernel_rfl))))⟩
    | false =>
      replace h := ite_f hb_2 h
      refine Runs.cond_f (by kernel_rfl) ?_
      refine Runs.skip ?_
      refine kS_nrm ?_
      refine Runs.seq ?_
      refine Runs.ops ?_
      refine RunAt.chunk 7 [⟨.ptr [4] 0 0, []⟩, ⟨.ref [10] v_10 0 (List.map (D.int .i64) b_10).length 1, []⟩, ⟨.d (.int .i64 z_3), []⟩, ⟨.ptr [4] 0 3, []⟩, ⟨.d (.int .i64 x4_3), []⟩, ⟨.ptr [7] 0 2, []⟩, ⟨.d (.int .i64 z_4.Align), []⟩] (by kernel_rfl) ?_
      obtain ⟨r_2, hr_2, h⟩ := bind_s h
      have hc_2 := segs_Step_L z_4.Align r_2 hr_2
      refine RunAt.cut (some 52) (.callf 70) [] (some []) [.d (.int .i64 z_4.Align)] (.d (.int .i64 r_2)) [] (by kernel_rfl) (by kernel_rfl) (by kernel_rfl) (cut_call (call_of (ws := []) (us := []) (by kernel_rfl) (by kernel_rfl) hc_2 (by kernel_rfl) (by kernel_rfl))) ?_
      obtain ⟨r_3, hr_3, h⟩ := bind_s h
      have hc_3 := bits_Up_L x4_3 r_2 r_3 hr_3
      refine RunAt.cut (some 53) (.callf 69) [] (some []) [.d (.int .i64 x4_3), .d (.int .i64 r_2)] (.d (.int .i64 r_3)) [] (by kernel_rfl) (by kernel_rfl) (by kernel_rfl) (cut_call (call_of (ws := []) (us := []) (by kernel_rfl) (by kernel_rfl) hc_3 (by kernel_rfl) (by kernel_rfl))) ?_
      obtain ⟨z_7, hz_7, h⟩ := bind_s h
      refine RunAt.cut (some 54) (.iaddrS 1) [] none [.ref [10] v_10 0 (List.map (D.int .i64) b_10).length 1, .d (.int .i64 z_3)] (.eref [10] v_10 (0 + (z_3).toNat) 0) [] (by kernel_rfl) (by kernel_rfl) (by kernel_rfl) (cut_atR (e := (D.int .i64)) (l := b_10) hz_7 rfl) ?_
      refine RunAt.cut none (.store 1) [] none [.eref [10] v_10 (0 + (z_3).toNat) 0, .d (.int .i64 r_3)] (.tup []) [([10], some (.arr (List.map (D.int .i64) (List.set b_10 (z_3).toNat r_3)) v_10 false))] (by kernel_rfl) (by kernel_rfl) (by kernel_rfl) (cut_setR (e := (D.int .i64)) (l := b_10) (y := z_7) (y' := r_3) (ds := [.int .i64 r_3]) (by kernel_rfl) hz_7 (by kernel_rfl) (by kernel_rfl) (by kernel_rfl) (by kernel_rfl)) ?_
      refine RunAt.done (by kernel_rfl) ?_
      refine kS_nrm ?_
      refine Runs.seq ?_
      refine Runs.ops ?_
      refine RunAt.chunk 3 [⟨.ptr [4] 0 0, []⟩, ⟨.ref [10] v_10 0 (List.map (D.int .i64) b_10).length 1, []⟩, ⟨.d (.int .i64 z_3), []⟩] (by kernel_rfl) ?_
      obtain ⟨z_8, hz_8, h⟩ := bind_s h
      refine RunAt.cut (some 58) (.iaddrS 1) [] none [.ref [10] v_10 0 (List.map (D.int .i64) b_10).length 1, .d (.int .i64 z_3)] (.eref [10] v_10 (0 + (z_3).toNat) 0) [] (by kernel_rfl) (by kernel_rfl) (by kernel_rfl) (cut_atR (e := (D.int .i64)) (l := (List.set b_10 (z_3).toNat r_3)) hz_8 (by simp only [List.length_map, List.length_set] : (List.map (D.int .i64) b_10).length = (List.map (D.int .i64) (List.set b_10 (z_3).toNat r_3)).length)) ?_
      refine RunAt.cut (some 59) (.load none) [] none [.eref [10] v_10 (0 + (z_3).toNat) 0] (.d (.int .i64 z_8)) [] (by kernel_rfl) (by kernel_rfl) (by kernel_rfl) (cut_loadR (e := (D.int .i64)) (l := (List.set b_10 (z_3).toNat r_3)) (fz := false) (y := z_8) (by kernel_rfl) hz_8 (by kernel_rfl) (by kernel_rfl)) ?_
      refine RunAt.chunk 5 [⟨.ptr [7] 0 6, []⟩, ⟨.d (.int .i64 z_4.Len), []⟩, ⟨.d (.int .i64 (IntKind.wrap .i64 (z_8 + z_4.Len))), []⟩, ⟨.ptr [4] 0 3, []⟩, ⟨.tup [], [([4], some (.cells [.ref [10] v_10 0 (List.map (D.int .i64) b_10).length 1, .ref [13] v_13 0 (List.map D.bool b_13).length 1, .nils, .d (.int .i64 (IntKind.wrap .i64 (z_8 + z_4.Len)))] 0))]⟩] (by kernel_rfl) ?_
      refine RunAt.done (by kernel_rfl) ?_
      refine kS_nrm ?_
      refine Runs.seq ?_
      refine Runs.ops ?_
      refine RunAt.chunk 3 [⟨.ptr [4] 0 3, []⟩, ⟨.d (.int .i64 (IntKind.wrap .i64 (z_8 + z_4.Len))), []⟩, ⟨.d (.bool (decide ((IntKind.wrap .i64 (z_8 + z_4.Len)) > 655360))), []⟩] (by kernel_rfl) ?_
      refine RunAt.done (by kernel_rfl) ?_
      refine kS_nrm ?_
      cases hb_3 : ((decide ((IntKind.wrap .i64 (z_8 + z_4.Len)) > 655360)) : Bool) with
      | true =>
        replace h := ite_t hb_3 h
        refine Runs.cond_t (by kernel_rfl) ?_
        refine Runs.seq ?_
        refine Runs.ops ?_
        refine RunAt.chunk 3 [⟨.mix [.nils, .nils, .nils, .d (.int .i64 0)], []⟩, ⟨.tup [], [([2], some (.cells [.nils, .nils, .nils, .d (.int .i64 0)] 0))]⟩, ⟨.d (.int .i64 8), []⟩] (by kernel_rfl) ?_
        refine RunAt.done (by kernel_rfl) ?_
        refine kS_nrm ?_
        refine Runs.seq ?_
        refine Runs.gcons (frzB_nil (ver := 0) (cs := [.nils, .nils, .nils, .d (.int .i64 0)]) (cs' := [.d (.sl (List.map (D.int .i64) ([] : List Int))), .nils, .nils, .d (.int .i64 0)]) (D.int .i64) (by kernel_rfl) (by kernel_rfl) (by kernel_rfl)) ?_
        refine Runs.gcons (frzB_nil (ver := 0) (cs := [.d (.sl (List.map (D.int .i64) ([] : List Int))), .nils, .nils, .d (.int .i64 0)]) (cs' := [.d (.sl (List.map (D.int .i64) ([] : List Int))), .d (.sl (List.map D.bool ([] : List Bool))), .nils, .d (.int .i64 0)]) D.bool (by kernel_rfl) (by kernel_rfl) (by kernel_rfl)) ?_
        refine Runs.gcons (frzB_nil (ver := 0) (cs := [.d (.sl (List.map (D.int .i64) ([] : List Int))), .d (.sl (List.map D.bool ([] : List Bool))), .nils, .d (.int .i64 0)]) (cs' := [.d (.sl (List.map (D.int .i64) ([] : List Int))), .d (.sl (List.map D.bool ([] : List Bool))), .d (.sl (List.map Group.d ([] : List Group))), .d (.int .i64 0)]) Group.d (by kernel_rfl) (by kernel_rfl) (by kernel_rfl)) ?_
        refine Runs.gnil ?_
        refine kS_nrm ?_
        refine Runs.ret ?_
        refine kB_ret ?_
        refine kS_ret ?_
        obtain rfl := Option.some.inj h
        exact ⟨nofun, rfl, (by kernel_rfl)⟩
      | false =>
        replace h := ite_f hb_3 h
        refine Runs.cond_f (by kernel_rfl) ?_
        refine Runs.skip ?_
        refine kB_nrm ?_
        refine kS_nrm ?_
        refine Runs.ops ?_
        refine RunAt.chunk 2 [⟨.d (.int .i64 (IntKind.wrap .i64 (t18 + 1))), []⟩, ⟨.d (.int .i64 (IntKind.wrap .i64 (t18 + 1))), []⟩] (by kernel_rfl) ?_
        refine RunAt.done (by kernel_rfl) ?_
        obtain rfl := Option.some.inj h
        exact ⟨rfl, (v_10, v_13), (Canon.len (f := fun n => lay_Place_h8n (List.set b_10 (z_3).toNat r_3) b_13 b_2_3 (IntKind.wrap .i64 (z_8 + z_4.Len)) l0 t16 t17 (IntKind.wrap .i64 (t18 + 1)) v_10 v_13 n ((List.map D.bool b_13).length)) ((by simp only [List.length_map, List.length_set] : (List.map (D.int .i64) b_10).length = (List.map (D.int .i64) (List.set b_10 (z_3).toNat r_3)).length)).symm (Canon.nil (by kernel_rfl)))⟩
  | false =>
    replace h := ite_f hb_1 h
    refine Runs.cond_f (by kernel_rfl) ?_
    refine Runs.exit ?_
    refine kS_exit ?_
    obtain rfl := Option.some.inj h
    exact ⟨nofun, rfl, (v_10, v_13), (Canon.nil (by kernel_rfl))⟩
theorem lay_Place_ok (l_ : (List Comb)) (r : (api_Layout × Int)) (h : lay_Place l_ = some r) : Runs L F42.body ⟨tmOf [.d (.sl (List.map Comb.d l_))] 0, updW (fun _ => none) []⟩ (lay_Place_Q l_ r) := by
  unfold lay_Place at h
  refine Runs.seq ?_
  refine Runs.ops ?_
  refine RunAt.chunk 2 [⟨.ptr [2] 0 0, [([2], some (.cells [.nils, .nils, .nils, .d (.int .i64 0)] 0))]⟩, ⟨.d (.int .i64 0), []⟩] (by kernel_rfl) ?_
  refine RunAt.done (by kernel_rfl) ?_
  refine kS_nrm ?_
  refine Runs.seq ?_
  refine Runs.ops ?_
  refine RunAt.chunk 1 [⟨.d (.sl (List.map Comb.d l_)), []⟩] (by kernel_rfl) ?_
  refine RunAt.cut (some 9) .lenL [] none [.d (.sl (List.map Comb.d l_))] (.d (.int .i64 (l_.length : Int))) [] (by kernel_rfl) (by kernel_rfl) (by kernel_rfl) (cut_len _) ?_
  obtain ⟨z_1, hz_1, h⟩ := bind_s h
  refine RunAt.cut (some 10) (.mkslice (.int .i64 0) 8) [[13], [4]] none [.d (.int .i64 (l_.length : Int)), .d (.int .i64 (l_.length : Int))] (.ref [10] 0 0 (List.map (D.int .i64) z_1).length 1) [([10], some (.arr (List.map (D.int .i64) z_1) 0 false))] (by kernel_rfl) (by kernel_rfl) (by kernel_rfl) (cut_mk (e := (D.int .i64)) (z := 0) hz_1 rfl (by kernel_rfl)) ?_
  refine RunAt.chunk 1 [⟨.d (.sl (List.map Comb.d l_)), []⟩] (by kernel_rfl) ?_
  refine RunAt.cut (some 12) .lenL [] none [.d (.sl (List.map Comb.d l_))] (.d (.int .i64 (l_.length : Int))) [] (by kernel_rfl) (by kernel_rfl) (by kernel_rfl) (cut_len _) ?_
  obtain ⟨z_2, hz_2, h⟩ := bind_s h
  refine RunAt.cut (some 13) (.mkslice (.bool false) 1) [[10], [4]] none [.d (.int .i64 (l_.length : Int)), .d (.int .i64 (l_.length : Int))] (.ref [13] 0 0 (List.map D.bool z_2).length 1) [([13], some (.arr (List.map D.bool z_2) 0 false))] (by kernel_rfl) (by kernel_rfl) (by kernel_rfl) (cut_mk (e := D.bool) (z := false) hz_2 rfl (by kernel_rfl)) ?_
  refine RunAt.chunk 3 [⟨.mix [.ref [10] 0 0 (List.map (D.int .i64) z_1).length 1, .ref [13] 0 0 (List.map D.bool z_2).length 1, .nils, .d (.int .i64 0)], []⟩, ⟨.ptr [4] 0 0, [([4], some (.cells [.nils, .nils, .nils, .d (.int .i64 0)] 0))]⟩, ⟨.tup [], [([4], some (.cells [.ref [10] 0 0 (List.map (D.int .i64) z_1).length 1, .ref [13] 0 0 (List.map D.bool z_2).length 1, .nils, .d (.int .i64 0)] 0))]⟩] (by kernel_rfl) ?_
  refine RunAt.done (by kernel_rfl) ?_
  refine kS_nrm ?_
  refine Runs.seq ?_
  refine Runs.seq ?_
  refine Runs.ops ?_
  refine RunAt.chunk 1 [⟨.d (.sl (List.map Comb.d l_)), []⟩] (by kernel_rfl) ?_
  obtain ⟨r_1, hr_1, h⟩ := bind_s h
  have hc_1 := lay_Order_L l_ r_1 hr_1
  refine RunAt.cut (some 16) (.callf 41) [] none [.d (.sl (List.map Comb.d l_))] (.d (.sl (List.map (D.int .i64) r_1))) [] (by kernel_rfl) (by kernel_rfl) (by kernel_rfl) (cut_call (call_of (ws := []) (us := []) (by kernel_rfl) (by kernel_rfl) hc_1 (by kernel_rfl) (by kernel_rfl))) ?_
  refine RunAt.cut (some 17) .lenL [] none [.d (.sl (List.map (D.int .i64) r_1))] (.d (.int .i64 (r_1.length : Int))) [] (by kernel_rfl) (by kernel_rfl) (by kernel_rfl) (cut_len _) ?_
  refine RunAt.chunk 1 [⟨.d (.int .i64 0), []⟩] (by kernel_rfl) ?_
  refine RunAt.done (by kernel_rfl) ?_
  refine kS_nrm ?_
  refine Runs.block ?_
  obtain ⟨e_1, he_1, h⟩ := bind_s h
  refine Runs.loop (fun x : ((List Int) × (List Bool) × Int × Int) => lay_Place_l8 x.1 x.2.1 0 x.2.2.1 l_ r_1 (r_1.length : Int) x.2.2.2) (fun (x : ((List Int) × (List Bool) × Int × Int)) (g : (Nat × Nat)) => lay_Place_h8 x.1 x.2.1 0 x.2.2.1 l_ r_1 (r_1.length : Int) x.2.2.2 g.1 g.2) (lay_Place_P8 l_ 0 l_ r_1 (r_1.length : Int)) (fun x g r hr => lay_Place_l8_ok l_ x.1 x.2.1 0 x.2.2.1 l_ r_1 (r_1.length : Int) x.2.2.2 g.1 g.2 r hr) (0, 0) he_1 (Canon.nil (by kernel_rfl)) ?_
  rintro ⟨o, s⟩ hp
  cases e_1 with
  | inl e_2 =>
    obtain ⟨ho, hf⟩ := hp
    have ho' : o = .ret := ho
    subst ho'
    refine kB_ret ?_
    refine kS_ret ?_
    obtain rfl := Option.some.inj h
    exact ⟨Out.ret_ne, hf⟩
  | inr e_3 =>
    obtain ⟨ho, g_1, hk_1⟩ := hp
    have ho' : o = .exit 0 := ho
    subst ho'
    refine kB_hit ?_
    refine kS_nrm ?_
    refine Runs.canon _ hk_1 ?_
    refine Runs.seq ?_
    refine Runs.ops ?_
    refine RunAt.chunk 3 [⟨.mix [.ref [10] g_1.1 0 (List.map (D.int .i64) e_3.1).length 1, .ref [13] g_1.2 0 (List.map D.bool e_3.2.1).length 1, .nils, .d (.int .i64 e_3.2.2)], []⟩, ⟨.tup [], [([2], some (.cells [.ref [10] g_1.1 0 (List.map (D.int .i64) e_3.1).length 1, .ref [13] g_1.2 0 (List.map D.bool e_3.2.1).length 1, .nils, .d (.int .i64 e_3.2.2)] 0))]⟩, ⟨.d (.int .i64 0), []⟩] (by kernel_rfl) ?_
    refine RunAt.done (by kernel_rfl) ?_
    refine kS_nrm ?_
    refine Runs.seq ?_
    refine Runs.gcons (frzB_ref (e := (D.int .i64)) (l := e_3.1) (id := [2]) (id' := [10]) (v := g_1.1) (n := 1) (fz := false) (ver := 0) (cs := [.ref [10] g_1.1 0 (List.map (D.int .i64) e_3.1).length 1, .ref [13] g_1.2 0 (List.map D.bool e_3.2.1).length 1, .nils, .d (.int .i64 e_3.2.2)]) (cs' := [.d (.sl (List.map (D.int .i64) e_3.1)), .ref [13] g_1.2 0 (List.map D.bool e_3.2.1).length 1, .nils, .d (.int .i64 e_3.2.2)]) (by kernel_rfl) (by kernel_rfl) (by kernel_rfl) (by decide) (by kernel_rfl) rfl) ?_
    refine Runs.gcons (frzB_ref (e := D.bool) (l := e_3.2.1) (id := [2]) (id' := [13]) (v := g_1.2) (n := 1) (fz := false) (ver := 0) (cs := [.d (.sl (List.map (D.int .i64) e_3.1)), .ref [13] g_1.2 0 (List.map D.bool e_3.2.1).length 1, .nils, .d (.int .i64 e_3.2.2)]) (cs' := [.d (.sl (List.map (D.int .i64) e_3.1)), .d (.sl (List.map D.bool e_3.2.1)), .nils, .d (.int .i64 e_3.2.2)]) (by kernel_rfl) (by kernel_rfl) (by kernel_rfl) (by decide) (by kernel_rfl) rfl) ?_
    refine Runs.gcons (frzB_nil (ver := 0) (cs := [.d (.sl (List.map (D.int .i64) e_3.1)), .d (.sl (List.map D.bool e_3.2.1)), .nils, .d (.int .i64 e_3.2.2)]) (cs' := [.d (.sl (List.map (D.int .i64) e_3.1)), .d (.sl (List.map D.bool e_3.2.1)), .d (.sl (List.map Group.d ([] : List Group))), .d (.int .i64 e_3.2.2)]) Group.d (by kernel_rfl) (by kernel_rfl) (by kernel_rfl)) ?_
    refine Runs.gnil ?_
    refine kS_nrm ?_
    refine Runs.ret ?_
    obtain rfl := Option.some.inj h
    exact ⟨Out.ret_ne, (by kernel_rfl)⟩
theorem lay_Place_L (l_ : (List Comb)) (r : (api_Layout × Int)) (h : lay_Place l_ = some r) : L 42 [.d (.sl (List.map Comb.d l_))] = some (.tup [.d (api_Layout.d r.1), .d (.int .i64 r.2)], [.d (.sl (List.map Comb.d l_))]) := by
  obtain ⟨p, ⟨hne, hf⟩, hr⟩ := lay_Place_ok l_ r h
  obtain ⟨k, hk⟩ := run_of (F := F42) (args := [.d (.sl (List.map Comb.d l_))]) (ap := [.d (.sl (List.map Comb.d l_))]) (bx0 := updW (fun _ => none) []) rfl rfl (by kernel_rfl) ⟨p, ⟨hne, hf⟩, hr⟩
  exact lim_run (k := k) rfl hk
def hansomref01_Up_h8 (n0 : Int) (step1 : Int) (power5 : Bool) (p6 : Int) : St := ⟨tab [(0, .d (.int .i64 n0)), (1, .d (.int .i64 step1)), (5, .d (.bool power5)), (6, .d (.int .i64 p6))], tabB []⟩
def hansomref01_Up_h19 (n0 : Int) (step1 : Int) (power5 : Bool) : St := ⟨tab [(0, .d (.int .i64 n0)), (1, .d (.int .i64 step1)), (5, .d (.bool power5))], tabB []⟩
def hansomref01_Up_h25 (n0 : Int) (step1 : Int) : St := ⟨tab [(0, .d (.int .i64 n0)), (1, .d (.int .i64 step1))], tabB []⟩
def hansomref01_Up_Q (n_ : Int) (step_ : Int) (r : Int) (p : Out × St) : Prop := (∀ i, p.1 ≠ .exit i) ∧ finF F43 [.d (.int .i64 n_), .d (.int .i64 step_)] p.2 = some (.d (.int .i64 r), [.d (.int .i64 n_), .d (.int .i64 step_)])
def hansomref01_Up_P8 (n_ : Int) (step_ : Int) (n0 : Int) (step1 : Int) (e : Bool) (p : Out × St) : Prop := p.1 = .exit 0 ∧ ∃ g : Unit, Canon [] [0, 1, 5] [] p.2 (hansomref01_Up_h19 n0 step1 e)
theorem hansomref01_Up_l8_ok (n_ : Int) (step_ : Int) (n0 : Int) (step1 : Int) (power5 : Bool) (p6 : Int) (r : (Lp (Bool × Int) Bool)) (h : hansomref01_Up_l8 n0 step1 power5 p6 = some r) : Runs L F43l8 (hansomref01_Up_h8 n0 step1 power5 p6) (LQ [] [0, 1, 5, 6] [] (fun (x : (Bool × Int)) (g : Unit) => hansomref01_Up_h8 n0 step1 x.1 x.2) (hansomref01_Up_P8 n_ step_ n0 step1) r) := by
  unfold hansomref01_Up_l8 at h
  refine Runs.seq ?_
  refine Runs.seq ?_
  refine Runs.ops ?_
  refine RunAt.chunk 2 [⟨.d (.int .i64 p6), []⟩, ⟨.d (.bool (decide (p6 ≤ 4096))), []⟩] (by kernel_rfl) ?_
  refine RunAt.done (by kernel_rfl) ?_
  refine kS_nrm ?_
  cases hb_1 : ((decide (p6 ≤ 4096)) : Bool) with
  | true =>
    replace h := ite_t hb_1 h
    refine Runs.cond_t (by kernel_rfl) ?_
    refine Runs.skip ?_
    refine kS_nrm ?_
    refine Runs.seq ?_
    refine Runs.block ?_
    refine Runs.ops ?_
    refine RunAt.chunk 2 [⟨.d (.bool power5), []⟩, ⟨.d (.bool power5), []⟩] (by kernel_rfl) ?_
    cases hb_2 : (power5 : Bool) with
    | true =>
      replace h := ite_t hb_2 h
      refine RunAt.chunk 5 [⟨.tup [], []⟩, ⟨.tup [], []⟩, ⟨.tup [], []⟩, ⟨.d (.bool true), []⟩, ⟨.d (.bool true), []⟩] (by kernel_rfl) ?_
      refine RunAt.done (by kernel_rfl) ?_
      refine kB_nrm ?_
      refine kS_nrm ?_
      refine Runs.ops ?_
      refine RunAt.chunk 3 [⟨.d (.int .i64 p6), []⟩, ⟨.d (.int .i64 (IntKind.wrap .i64 (p6 * 2))), []⟩, ⟨.d (.int .i64 (IntKind.wrap .i64 (p6 * 2))), []⟩] (by kernel_rfl) ?_
      refine RunAt.done (by kernel_rfl) ?_
      obtain rfl := Option.some.inj h
      exact ⟨rfl, (), (Canon.nil (by kernel_rfl))⟩
    | false =>
      replace h := ite_f hb_2 h
      refine RunAt.chunk 5 [⟨.d (.int .i64 step1), []⟩, ⟨.d (.int .i64 p6), []⟩, ⟨.d (.bool (step1 == p6)), []⟩, ⟨.d (.bool (step1 == p6)), []⟩, ⟨.d (.bool (step1 == p6)), []⟩] (by kernel_rfl) ?_
      refine RunAt.done (by kernel_rfl) ?_
      refine kB_nrm ?_
      refine kS_nrm ?_
      refine Runs.ops ?_
      refine RunAt.chunk 3 [⟨.d (.int .i64 p6), []⟩, ⟨.d (.int .i64 (IntKind.wrap .i64 (p6 * 2))), []⟩, ⟨.d (.int .i64 (IntKind.wrap .i64 (p6 * 2))), []⟩] (by kernel_rfl) ?_
      refine RunAt.done (by kernel_rfl) ?_
      obtain rfl := Option.some.inj h
      exact ⟨rfl, (), (Canon.nil (by kernel_rfl))⟩
  | false =>
    replace h := ite_f hb_1 h
    refine Runs.cond_f (by kernel_rfl) ?_
    refine Runs.exit ?_
    refine kS_exit ?_
    obtain rfl := Option.some.inj h
    exact ⟨nofun, rfl, (), (Canon.nil (by kernel_rfl))⟩
theorem hansomref01_Up_j25_ok (n_ : Int) (step_ : Int) (n0 : Int) (step1 : Int) (r : Int) (h : hansomref01_Up_j25 n0 step1 = some r) : Runs L F43b25 (hansomref01_Up_h25 n0 step1) (hansomref01_Up_Q n_ step_ r) := by
  unfold hansomref01_Up_j25 at h
  refine Runs.seq ?_
  refine Runs.seq ?_
  refine Runs.ops ?_
  refine RunAt.chunk 2 [⟨.d (.int .i64 n0), []⟩, ⟨.d (.bool (decide (n0 < 0))), []⟩] (by kernel_rfl) ?_
  refine RunAt.done (by kernel_rfl) ?_
  refine kS_nrm ?_
  cases hb_2 : ((decide (n0 < 0)) : Bool) with
  | true =>
    replace h := ite_t hb_2 h
    refine Runs.cond_t (by kernel_rfl) ?_
    refine Runs.ops ?_
    refine RunAt.chunk 1 [⟨.d (.int .i64 0), []⟩] (by kernel_rfl) ?_
    refine RunAt.done (by kernel_rfl) ?_
    refine kS_nrm ?_
    refine Runs.seq ?_
    refine Runs.seq ?_
    refine Runs.ops ?_
    refine RunAt.chunk 2 [⟨.d (.int .i64 0), []⟩, ⟨.d (.bool false), []⟩] (by kernel_rfl) ?_
    refine RunAt.done (by kernel_rfl) ?_
    refine kS_nrm ?_
    refine Runs.cond_f (by kernel_rfl) ?_
    refine Runs.skip ?_
    refine kS_nrm ?_
    refine Runs.seq ?_
    refine Runs.ops ?_
    refine RunAt.chunk 5 [⟨.d (.int .i64 0), []⟩, ⟨.d (.int .i64 step1), []⟩, ⟨.d (.int .i64 (IntKind.wrap .i64 (0 + step1))), []⟩, ⟨.d (.int .i64 (IntKind.wrap .i64 ((IntKind.wrap .i64 (0 + step1)) - 1))), []⟩, ⟨.d (.int .i64 step1), []⟩] (by kernel_rfl) ?_
    obtain ⟨z_1, hz_1, h⟩ := bind_s h
    refine RunAt.cut (some 28) (.bin .quo) [] none [.d (.int .i64 (IntKind.wrap .i64 ((IntKind.wrap .i64 (0 + step1)) - 1))), .d (.int .i64 step1)] (.d (.int .i64 z_1)) [] (by kernel_rfl) (by kernel_rfl) (by kernel_rfl) (cut_quo hz_1) ?_
    refine RunAt.chunk 3 [⟨.d (.int .i64 step1), []⟩, ⟨.d (.int .i64 (IntKind.wrap .i64 (z_1 * step1))), []⟩, ⟨.d (.int .i64 (IntKind.wrap .i64 (z_1 * step1))), []⟩] (by kernel_rfl) ?_
    refine RunAt.done (by kernel_rfl) ?_
    refine kS_nrm ?_
    refine Runs.ret ?_
    obtain rfl := Option.some.inj h
    exact ⟨Out.ret_ne, (by kernel_rfl)⟩
  | false =>
    replace h := ite_f hb_2 h
    refine Runs.cond_f (by kernel_rfl) ?_
    refine Runs.skip ?_
    refine kS_nrm ?_
    refine Runs.seq ?_
    refine Runs.seq ?_
    refine Runs.ops ?_
    refine RunAt.chunk 2 [⟨.d (.int .i64 n0), []⟩, ⟨.d (.bool (decide (n0 > 16777216))), []⟩] (by kernel_rfl) ?_
    refine RunAt.done (by kernel_rfl) ?_
    refine kS_nrm ?_
    cases hb_3 : ((decide (n0 > 16777216)) : Bool) with
    | true =>
      replace h := ite_t hb_3 h
      refine Runs.cond_t (by kernel_rfl) ?_
      refine Runs.ops ?_
      refine RunAt.chunk 1 [⟨.d (.int .i64 16777216), []⟩] (by kernel_rfl) ?_
      refine RunAt.done (by kernel_rfl) ?_
      refine kS_nrm ?_
      refine Runs.seq ?_
      refine Runs.ops ?_
      refine RunAt.chunk 5 [⟨.d (.int .i64 16777216), []⟩, ⟨.d (.int .i64 step1), []⟩, ⟨.d (.int .i64 (IntKind.wrap .i64 (16777216 + step1))), []⟩, ⟨.d (.int .i64 (IntKind.wrap .i64 ((IntKind.wrap .i64 (16777216 + step1)) - 1))), []⟩, ⟨.d (.int .i64 step1), []⟩] (by kernel_rfl) ?_
      obtain ⟨z_2, hz_2, h⟩ := bind_s h
      refine RunAt.cut (some 28) (.bin .quo) [] none [.d (.int .i64 (IntKind.wrap .i64 ((IntKind.wrap .i64 (16777216 + step1)) - 1))), .d (.int .i64 step1)] (.d (.int .i64 z_2)) [] (by kernel_rfl) (by kernel_rfl) (by kernel_rfl) (cut_quo hz_2) ?_
      refine RunAt.chunk 3 [⟨.d (.int .i64 step1), []⟩, ⟨.d (.int .i64 (IntKind.wrap .i64 (z_2 * step1))), []⟩, ⟨.d (.int .i64 (IntKind.wrap .i64 (z_2 * step1))), []⟩] (by kernel_rfl) ?_
      refine RunAt.done (by kernel_rfl) ?_
      refine kS_nrm ?_
      refine Runs.ret ?_
      obtain rfl := Option.some.inj h
      exact ⟨Out.ret_ne, (by kernel_rfl)⟩
    | false =>
      replace h := ite_f hb_3 h
      refine Runs.cond_f (by kernel_rfl) ?_
      refine Runs.skip ?_
      refine kS_nrm ?_
      refine Runs.seq ?_
      refine Runs.ops ?_
      refine RunAt.chunk 5 [⟨.d (.int .i64 n0), []⟩, ⟨.d (.int .i64 step1), []⟩, ⟨.d (.int .i64 (IntKind.wrap .i64 (n0 + step1))), []⟩, ⟨.d (.int .i64 (IntKind.wrap .i64 ((IntKind.wrap .i64 (n0 + step1)) - 1))), []⟩, ⟨.d (.int .i64 step1), []⟩] (by kernel_rfl) ?_
      obtain ⟨z_3, hz_3, h⟩ := bind_s h
      refine RunAt.cut (some 28) (.bin .quo) [] none [.d (.int .i64 (IntKind.wrap .i64 ((IntKind.wrap .i64 (n0 + step1)) - 1))), .d (.int .i64 step1)] (.d (.int .i64 z_3)) [] (by kernel_rfl) (by kernel_rfl) (by kernel_rfl) (cut_quo hz_3) ?_
      refine RunAt.chunk 3 [⟨.d (.int .i64 step1), []⟩, ⟨.d (.int .i64 (IntKind.wrap .i64 (z_3 * step1))), []⟩, ⟨.d (.int .i64 (IntKind.wrap .i64 (z_3 * step1))), []⟩] (by kernel_rfl) ?_
      refine RunAt.done (by kernel_rfl) ?_
      refine kS_nrm ?_
      refine Runs.ret ?_
      obtain rfl := Option.some.inj h
      exact ⟨Out.ret_ne, (by kernel_rfl)⟩
theorem hansomref01_Up_ok (n_ : Int) (step_ : Int) (r : Int) (h : hansomref01_Up n_ step_ = some r) : Runs L F43.body ⟨tmOf [.d (.int .i64 n_), .d (.int .i64 step_)] 0, updW (fun _ => none) []⟩ (hansomref01_Up_Q n_ step_ r) := by
  unfold hansomref01_Up at h
  refine Runs.seq ?_
  refine Runs.ops ?_
  refine RunAt.chunk 1 [⟨.d (.int .i64 0), []⟩] (by kernel_rfl) ?_
  refine RunAt.done (by kernel_rfl) ?_
  refine kS_nrm ?_
  refine Runs.seq ?_
  refine Runs.ops ?_
  refine RunAt.chunk 1 [⟨.d (.bool false), []⟩] (by kernel_rfl) ?_
  refine RunAt.done (by kernel_rfl) ?_
  refine kS_nrm ?_
  refine Runs.seq ?_
  refine Runs.seq ?_
  refine Runs.ops ?_
  refine RunAt.chunk 1 [⟨.d (.int .i64 1), []⟩] (by kernel_rfl) ?_
  refine RunAt.done (by kernel_rfl) ?_
  refine kS_nrm ?_
  refine Runs.block ?_
  obtain ⟨e_1, he_1, h⟩ := bind_s h
  refine Runs.loop (fun x : (Bool × Int) => hansomref01_Up_l8 n_ step_ x.1 x.2) (fun (x : (Bool × Int)) (g : Unit) => hansomref01_Up_h8 n_ step_ x.1 x.2) (hansomref01_Up_P8 n_ step_ n_ step_) (fun x g r hr => hansomref01_Up_l8_ok n_ step_ n_ step_ x.1 x.2  r hr) () he_1 (Canon.nil (by kernel_rfl)) ?_
  rintro ⟨o, s⟩ hp
  obtain ⟨ho, g_1, hk_1⟩ := hp
  have ho' : o = .exit 0 := ho
  subst ho'
  refine kB_hit ?_
  refine kS_nrm ?_
  refine Runs.canon _ hk_1 ?_
  refine Runs.seq ?_
  refine Runs.seq ?_
  refine Runs.ops ?_
  refine RunAt.chunk 2 [⟨.d (.bool e_1), []⟩, ⟨.d (.bool (!e_1)), []⟩] (by kernel_rfl) ?_
  refine RunAt.done (by kernel_rfl) ?_
  refine kS_nrm ?_
  cases hb_1 : ((!e_1) : Bool) with
  | true =>
    replace h := ite_t hb_1 h
    refine Runs.cond_t (by kernel_rfl) ?_
    refine Runs.ops ?_
    refine RunAt.chunk 1 [⟨.d (.int .i64 1), []⟩] (by kernel_rfl) ?_
    refine RunAt.done (by kernel_rfl) ?_
    refine kS_nrm ?_
    refine Runs.canon (hansomref01_Up_h25 n_ 1) (Canon.nil (by kernel_rfl)) ?_
    exact hansomref01_Up_j25_ok n_ step_ n_ 1 r h
  | false =>
    replace h := ite_f hb_1 h
    refine Runs.cond_f (by kernel_rfl) ?_
    refine Runs.skip ?_
    refine kS_nrm ?_
    refine Runs.canon (hansomref01_Up_h25 n_ step_) (Canon.nil (by kernel_rfl)) ?_
    exact hansomref01_Up_j25_ok n_ step_ n_ step_ r h
theorem hansomref01_Up_L (n_ : Int) (step_ : Int) (r : Int) (h : hansomref01_Up n_ step_ = some r) : L 43 [.d (.int .i64 n_), .d (.int .i64 step_)] = some (.d (.int .i64 r), [.d (.int .i64 n_), .d (.int .i64 step_)]) := by
  obtain ⟨p, ⟨hne, hf⟩, hr⟩ := hansomref01_Up_ok n_ step_ r h
  obtain ⟨k, hk⟩ := run_of (F := F43) (args := [.d (.int .i64 n_), .d (.int .i64 step_)]) (ap := [.d (.int .i64 n_), .d (.int .i64 step_)]) (bx0 := updW (fun _ => none) []) rfl rfl (by kernel_rfl) ⟨p, ⟨hne, hf⟩, hr⟩
  exact lim_run (k := k) rfl hk
def lay_Para_Q (x_ : api_Layout) (i_ : Int) (r : Int) (p : Out × St) : Prop := (∀ i, p.1 ≠ .exit i) ∧ finF F44 [.d (api_Layout.d x_), .d (.int .i64 i_)] p.2 = some (.d (.int .i64 r), [.d (api_Layout.d x_), .d (.int .i64 i_)])
theorem lay_Para_ok (x_ : api_Layout) (i_ : Int) (r : Int) (h : lay_Para x_ i_ = some r) : Runs L F44.body ⟨tmOf [.d (api_Layout.d x_), .d (.int .i64 i_)] 0, updW (fun _ => none) []⟩ (lay_Para_Q x_ i_ r) := by
  unfold lay_Para at h
  refine Runs.seq ?_
  refine Runs.ops ?_
  refine RunAt.chunk 2 [⟨.ptr [2] 0 0, [([2], some (.cells [.d (.sl (List.map (D.int .i64) x_.Starts)), .d (.sl (List.map D.bool x_.Fixed)), .d (.sl (List.map Group.d x_.Groups)), .d (.int .i64 x_.Size)] 0))]⟩, ⟨.d (.int .i64 0), []⟩] (by kernel_rfl) ?_
  refine RunAt.done (by kernel_rfl) ?_
  refine kS_nrm ?_
  refine Runs.seq ?_
  refine Runs.seq ?_
  refine Runs.ops ?_
  refine RunAt.chunk 3 [⟨.d (.int .i64 i_), []⟩, ⟨.d (.bool (decide (i_ < 0))), []⟩, ⟨.d (.bool (decide (i_ < 0))), []⟩] (by kernel_rfl) ?_
  cases hb_1 : ((decide (i_ < 0)) : Bool) with
  | true =>
    replace h := ite_t hb_1 h
    refine RunAt.chunk 6 [⟨.tup [], []⟩, ⟨.tup [], []⟩, ⟨.tup [], []⟩, ⟨.tup [], []⟩, ⟨.tup [], []⟩, ⟨.d (.bool true), []⟩] (by kernel_rfl) ?_
    refine RunAt.done (by kernel_rfl) ?_
    refine kS_nrm ?_
    refine Runs.cond_t (by kernel_rfl) ?_
    refine Runs.seq ?_
    refine Runs.ops ?_
    refine RunAt.chunk 1 [⟨.d (.int .i64 0), []⟩] (by kernel_rfl) ?_
    refine RunAt.done (by kernel_rfl) ?_
    refine kS_nrm ?_
    refine Runs.ret ?_
    refine kS_ret ?_
    obtain rfl := Option.some.inj h
    exact ⟨Out.ret_ne, (by kernel_rfl)⟩
  | false =>
    replace h := ite_f hb_1 h
    refine RunAt.chunk 3 [⟨.d (.int .i64 i_), []⟩, ⟨.ptr [2] 0 0, []⟩, ⟨.d (.sl (List.map (D.int .i64) x_.Starts)), []⟩] (by kernel_rfl) ?_
    refine RunAt.cut (some 11) .lenL [] none [.d (.sl (List.map (D.int .i64) x_.Starts))] (.d (.int .i64 (x_.Starts.length : Int))) [] (by kernel_rfl) (by kernel_rfl) (by kernel_rfl) (cut_len _) ?_
    refine RunAt.chunk 2 [⟨.d (.bool (decide (i_ ≥ (x_.Starts.length : Int)))), []⟩, ⟨.d (.bool (decide (i_ ≥ (x_.Starts.length : Int)))), []⟩] (by kernel_rfl) ?_
    refine RunAt.done (by kernel_rfl) ?_
    refine kS_nrm ?_
    cases hb_2 : ((decide (i_ ≥ (x_.Starts.length : Int))) : Bool) with
    | true =>
      replace h := ite_t hb_2 h
      refine Runs.cond_t (by kernel_rfl) ?_
      refine Runs.seq ?_
      refine Runs.ops ?_
      refine RunAt.chunk 1 [⟨.d (.int .i64 0), []⟩] (by kernel_rfl) ?_
      refine RunAt.done (by kernel_rfl) ?_
      refine kS_nrm ?_
      refine Runs.ret ?_
      refine kS_ret ?_
      obtain rfl := Option.some.inj h
      exact ⟨Out.ret_ne, (by kernel_rfl)⟩
    | false =>
      replace h := ite_f hb_2 h
      refine Runs.cond_f (by kernel_rfl) ?_
      refine Runs.skip ?_
      refine kS_nrm ?_
      refine Runs.seq ?_
      refine Runs.ops ?_
      refine RunAt.chunk 3 [⟨.ptr [2] 0 0, []⟩, ⟨.d (.sl (List.map (D.int .i64) x_.Starts)), []⟩, ⟨.d (.int .i64 i_), []⟩] (by kernel_rfl) ?_
      obtain ⟨z_1, hz_1, h⟩ := bind_s h
      refine RunAt.cut (some 17) (.iaddrS 1) [] none [.d (.sl (List.map (D.int .i64) x_.Starts)), .d (.int .i64 i_)] (.elt (.int .i64 z_1) 0) [] (by kernel_rfl) (by kernel_rfl) (by kernel_rfl) (cut_at hz_1 (fun _ => rfl)) ?_
      refine RunAt.chunk 3 [⟨.d (.int .i64 z_1), []⟩, ⟨.d (.int .i64 (shrI .i64 z_1 4)), []⟩, ⟨.d (.int .i64 (shrI .i64 z_1 4)), []⟩] (by kernel_rfl) ?_
      refine RunAt.done (by kernel_rfl) ?_
      refine kS_nrm ?_
      refine Runs.ret ?_
      obtain rfl := Option.some.inj h
      exact ⟨Out.ret_ne, (by kernel_rfl)⟩
theorem lay_Para_L (x_ : api_Layout) (i_ : Int) (r : Int) (h : lay_Para x_ i_ = some r) : L 44 [.d (api_Layout.d x_), .d (.int .i64 i_)] = some (.d (.int .i64 r), [.d (api_Layout.d x_), .d (.int .i64 i_)]) := by
  obtain ⟨p, ⟨hne, hf⟩, hr⟩ := lay_Para_ok x_ i_ r h
  obtain ⟨k, hk⟩ := run_of (F := F44) (args := [.d (api_Layout.d x_), .d (.int .i64 i_)]) (ap := [.d (api_Layout.d x_), .d (.int .i64 i_)]) (bx0 := updW (fun _ => none) []) rfl rfl (by kernel_rfl) ⟨p, ⟨hne, hf⟩, hr⟩
  exact lim_run (k := k) rfl hk
def lay_Stack_1_Q (c_ : Comb) (r : Bool) (p : Out × St) : Prop := (∀ i, p.1 ≠ .exit i) ∧ finF F72 [.d (Comb.d c_)] p.2 = some (.d (.bool r), [.d (Comb.d c_)])
theorem lay_Stack_1_ok (c_ : Comb) (r : Bool) (h : lay_Stack_1 c_ = some r) : Runs L F72.body ⟨tmOf [.d (Comb.d c_)] 0, updW (fun _ => none) []⟩ (lay_Stack_1_Q c_ r) := by
  unfold lay_Stack_1 at h
  refine Runs.seq ?_
  refine Runs.ops ?_
  refine RunAt.chunk 2 [⟨.ptr [1] 0 0, [([1], some (.cells [.d (.str c_.Name), .d (.str c_.Class), .d (.int .i64 c_.Align), .d (.int .i64 c_.Combine), .d (.int .u16 c_.Frame), .d (.int .u8 c_.Offset), .d (.int .i64 c_.Len), .d (.sl (List.map Chunk.d c_.Chunks))] 0))]⟩, ⟨.d (.bool false), []⟩] (by kernel_rfl) ?_
  refine RunAt.done (by kernel_rfl) ?_
  refine kS_nrm ?_
  refine Runs.seq ?_
  refine Runs.ops ?_
  refine RunAt.chunk 4 [⟨.ptr [1] 0 3, []⟩, ⟨.d (.int .i64 c_.Combine), []⟩, ⟨.d (.bool (c_.Combine == 5)), []⟩, ⟨.d (.bool (c_.Combine == 5)), []⟩] (by kernel_rfl) ?_
  cases hb_1 : ((c_.Combine == 5) : Bool) with
  | true =>
    replace h := ite_t hb_1 h
    refine RunAt.chunk 5 [⟨.ptr [1] 0 6, []⟩, ⟨.d (.int .i64 c_.Len), []⟩, ⟨.d (.bool (decide (c_.Len > 0))), []⟩, ⟨.d (.bool (decide (c_.Len > 0))), []⟩, ⟨.d (.bool (decide (c_.Len > 0))), []⟩] (by kernel_rfl) ?_
    refine RunAt.done (by kernel_rfl) ?_
    refine kS_nrm ?_
    refine Runs.ret ?_
    obtain rfl := Option.some.inj h
    exact ⟨Out.ret_ne, (by kernel_rfl)⟩
  | false =>
    replace h := ite_f hb_1 h
    refine RunAt.chunk 5 [⟨.tup [], []⟩, ⟨.tup [], []⟩, ⟨.tup [], []⟩, ⟨.d (.bool false), []⟩, ⟨.d (.bool false), []⟩] (by kernel_rfl) ?_
    refine RunAt.done (by kernel_rfl) ?_
    refine kS_nrm ?_
    refine Runs.ret ?_
    obtain rfl := Option.some.inj h
    exact ⟨Out.ret_ne, (by kernel_rfl)⟩
theorem lay_Stack_1_L (c_ : Comb) (r : Bool) (h : lay_Stack_1 c_ = some r) : L 72 [.d (Comb.d c_)] = some (.d (.bool r), [.d (Comb.d c_)]) := by
  obtain ⟨p, ⟨hne, hf⟩, hr⟩ := lay_Stack_1_ok c_ r h
  obtain ⟨k, hk⟩ := run_of (F := F72) (args := [.d (Comb.d c_)]) (ap := [.d (Comb.d c_)]) (bx0 := updW (fun _ => none) []) rfl rfl (by kernel_rfl) ⟨p, ⟨hne, hf⟩, hr⟩
  exact lim_run (k := k) rfl hk
def slices_IndexFunc_LComb_lay_Stack_1_h6 (s0 : (List Comb)) (t7 : Int) (t8 : Int) : St := ⟨tab [(0, .d (.sl (List.map Comb.d s0))), (1, .fn 72 []), (7, .d (.int .i64 t7)), (8, .d (.int .i64 t8))], tabB []⟩
def slices_IndexFunc_LComb_lay_Stack_1_h25  : St := ⟨tab [], tabB []⟩
def slices_IndexFunc_LComb_lay_Stack_1_Q (s_ : (List Comb)) (r : Int) (p : Out × St) : Prop := (∀ i, p.1 ≠ .exit i) ∧ finF F71 [.d (.sl (List.map Comb.d s_)), .fn 72 []] p.2 = some (.d (.int .i64 r), [.d (.sl (List.map Comb.d s_)), .fn 72 []])
def slices_IndexFunc_LComb_lay_Stack_1_P6 (s_ : (List Comb)) (s0 : (List Comb)) (t7 : Int) (e : (Int ⊕ Unit)) (p : Out × St) : Prop := match e with
  | .inl x => p.1 = .ret ∧ finF F71 [.d (.sl (List.map Comb.d s_)), .fn 72 []] p.2 = some (.d (.int .i64 x), [.d (.sl (List.map Comb.d s_)), .fn 72 []])
  | .inr x => p.1 = .exit 0 ∧ ∃ g : Unit, Canon [] [] [] p.2 (slices_IndexFunc_LComb_lay_Stack_1_h25)
theorem slices_IndexFunc_LComb_lay_Stack_1_l6_ok (s_ : (List Comb)) (s0 : (List Comb)) (t7 : Int) (t8 : Int) (r : (Lp Int (Int ⊕ Unit))) (h : slices_IndexFunc_LComb_lay_Stack_1_l6 s0 t7 t8 = some r) : Runs L F71l6 (slices_IndexFunc_LComb_lay_Stack_1_h6 s0 t7 t8) (LQ [] [0, 1, 7, 8] [] (fun (x : Int) (g : Unit) => slices_IndexFunc_LComb_lay_Stack_1_h6 s0 t7 x) (slices_IndexFunc_LComb_lay_Stack_1_P6 s_ s0 t7) r) := by
  unfold slices_IndexFunc_LComb_lay_Stack_1_l6 at h
  refine Runs.seq ?_
  refine Runs.ops ?_
  refine RunAt.chunk 1 [⟨.d (.bool (decide (t8 < t7))), []⟩] (by kernel_rfl) ?_
  refine RunAt.done (by kernel_rfl) ?_
  refine kS_nrm ?_
  refine Runs.seq ?_
  cases hb_1 : ((decide (t8 < t7)) : Bool) with
  | true =>
    replace h := ite_t hb_1 h
    refine Runs.cond_t (by kernel_rfl) ?_
    refine Runs.skip ?_
    refine kS_nrm ?_
    refine Runs.seq ?_
    refine Runs.block ?_
    refine Runs.seq ?_
    refine Runs.ops ?_
    refine RunAt.chunk 2 [⟨.d (.int .i64 t8), []⟩, ⟨.d (.int .i64 t8), []⟩] (by kernel_rfl) ?_
    refine RunAt.done (by kernel_rfl) ?_
    refine kS_nrm ?_
    refine Runs.seq ?_
    refine Runs.ops ?_
    refine RunAt.chunk 3 [⟨.fn 72 [], []⟩, ⟨.d (.sl (List.map Comb.d s0)), []⟩, ⟨.d (.int .i64 t8), []⟩] (by kernel_rfl) ?_
    obtain ⟨z_1, hz_1, h⟩ := bind_s h
    refine RunAt.cut (some 14) (.iaddrS 8) [] none [.d (.sl (List.map Comb.d s0)), .d (.int .i64 t8)] (.elt (Comb.d z_1) 0) [] (by kernel_rfl) (by kernel_rfl) (by kernel_rfl) (cut_at hz_1 (fun _ => rfl)) ?_
    refine RunAt.chunk 1 [⟨.d (Comb.d z_1), []⟩] (by kernel_rfl) ?_
    obtain ⟨r_1, hr_1, h⟩ := bind_s h
    have hc_1 := lay_Stack_1_L z_1 r_1 hr_1
    refine RunAt.cut (some 16) .callv [] none [.fn 72 [], .d (Comb.d z_1)] (.d (.bool r_1)) [] (by kernel_rfl) (by kernel_rfl) (by kernel_rfl) (cut_callv (call_of (ws := []) (us := []) (by kernel_rfl) (by kernel_rfl) hc_1 (by kernel_rfl) (by kernel_rfl))) ?_
    refine RunAt.done (by kernel_rfl) ?_
    refine kS_nrm ?_
    cases hb_2 : (r_1 : Bool) with
    | true =>
      replace h := ite_t hb_2 h
      refine Runs.cond_t (by kernel_rfl) ?_
      refine Runs.seq ?_
      refine Runs.ops ?_
      refine RunAt.chunk 2 [⟨.d (.int .i64 t8), []⟩, ⟨.d (.int .i64 t8), []⟩] (by kernel_rfl) ?_
      refine RunAt.done (by kernel_rfl) ?_
      refine kS_nrm ?_
      refine Runs.ret ?_
      refine kB_ret ?_
      refine kS_ret ?_
      obtain rfl := Option.some.inj h
      exact ⟨nofun, rfl, (by kernel_rfl)⟩
    | false =>
      replace h := ite_f hb_2 h
      refine Runs.cond_f (by kernel_rfl) ?_
      refine Runs.skip ?_
      refine kB_nrm ?_
      refine kS_nrm ?_
      refine Runs.ops ?_
      refine RunAt.chunk 2 [⟨.d (.int .i64 (IntKind.wrap .i64 (t8 + 1))), []⟩, ⟨.d (.int .i64 (IntKind.wrap .i64 (t8 + 1))), []⟩] (by kernel_rfl) ?_
      refine RunAt.done (by kernel_rfl) ?_
      obtain rfl := Option.some.inj h
      exact ⟨rfl, (), (Canon.nil (by kernel_rfl))⟩
  | false =>
    replace h := ite_f hb_1 h
    refine Runs.cond_f (by kernel_rfl) ?_
    refine Runs.exit ?_
    refine kS_exit ?_
    obtain rfl := Option.some.inj h
    exact ⟨nofun, rfl, (), (Canon.nil (by kernel_rfl))⟩
theorem slices_IndexFunc_LComb_lay_Stack_1_ok (s_ : (List Comb)) (r : Int) (h : slices_IndexFunc_LComb_lay_Stack_1 s_ = some r) : Runs L F71.body ⟨tmOf [.d (.sl (List.map Comb.d s_)), .fn 72 []] 0, updW (fun _ => none) []⟩ (slices_IndexFunc_LComb_lay_Stack_1_Q s_ r) := by
  unfold slices_IndexFunc_LComb_lay_Stack_1 at h
  refine Runs.seq ?_
  refine Runs.ops ?_
  refine RunAt.chunk 1 [⟨.d (.int .i64 0), []⟩] (by kernel_rfl) ?_
  refine RunAt.done (by kernel_rfl) ?_
  refine kS_nrm ?_
  refine Runs.seq ?_
  refine Runs.seq ?_
  refine Runs.ops ?_
  refine RunAt.chunk 1 [⟨.d (.sl (List.map Comb.d s_)), []⟩] (by kernel_rfl) ?_
  refine RunAt.cut (some 7) .lenL [] none [.d (.sl (List.map Comb.d s_))] (.d (.int .i64 (s_.length : Int))) [] (by kernel_rfl) (by kernel_rfl) (by kernel_rfl) (cut_len _) ?_
  refine RunAt.chunk 1 [⟨.d (.int .i64 0), []⟩] (by kernel_rfl) ?_
  refine RunAt.done (by kernel_rfl) ?_
  refine kS_nrm ?_
  refine Runs.block ?_
  obtain ⟨e_1, he_1, h⟩ := bind_s h
  refine Runs.loop (fun x : Int => slices_IndexFunc_LComb_lay_Stack_1_l6 s_ (s_.length : Int) x) (fun (x : Int) (g : Unit) => slices_IndexFunc_LComb_lay_Stack_1_h6 s_ (s_.length : Int) x) (slices_IndexFunc_LComb_lay_Stack_1_P6 s_ s_ (s_.length : Int)) (fun x g r hr => slices_IndexFunc_LComb_lay_Stack_1_l6_ok s_ s_ (s_.length : Int) x  r hr) () he_1 (Canon.nil (by kernel_rfl)) ?_
  rintro ⟨o, s⟩ hp
  cases e_1 with
  | inl e_2 =>
    obtain ⟨ho, hf⟩ := hp
    have ho' : o = .ret := ho
    subst ho'
    refine kB_ret ?_
    refine kS_ret ?_
    obtain rfl := Option.some.inj h
    exact ⟨Out.ret_ne, hf⟩
  | inr e_3 =>
    obtain ⟨ho, g_1, hk_1⟩ := hp
    have ho' : o = .exit 0 := ho
    subst ho'
    refine kB_hit ?_
    refine kS_nrm ?_
    refine Runs.canon _ hk_1 ?_
    refine Runs.seq ?_
    refine Runs.ops ?_
    refine RunAt.chunk 1 [⟨.d (.int .i64 (-1)), []⟩] (by kernel_rfl) ?_
    refine RunAt.done (by kernel_rfl) ?_
    refine kS_nrm ?_
    refine Runs.ret ?_
    obtain rfl := Option.some.inj h
    exact ⟨Out.ret_ne, (by kernel_rfl)⟩
theorem slices_IndexFunc_LComb_lay_Stack_1_L (s_ : (List Comb)) (r : Int) (h : slices_IndexFunc_LComb_lay_Stack_1 s_ = some r) : L 71 [.d (.sl (List.map Comb.d s_)), .fn 72 []] = some (.d (.int .i64 r), [.d (.sl (List.map Comb.d s_)), .fn 72 []]) := by
  obtain ⟨p, ⟨hne, hf⟩, hr⟩ := slices_IndexFunc_LComb_lay_Stack_1_ok s_ r h
  obtain ⟨k, hk⟩ := run_of (F := F71) (args := [.d (.sl (List.map Comb.d s_)), .fn 72 []]) (ap := [.d (.sl (List.map Comb.d s_)), .fn 72 []]) (bx0 := updW (fun _ => none) []) rfl rfl (by kernel_rfl) ⟨p, ⟨hne, hf⟩, hr⟩
  exact lim_run (k := k) rfl hk
def lay_Stack_Q (l_ : (List Comb)) (r : Int) (p : Out × St) : Prop := (∀ i, p.1 ≠ .exit i) ∧ finF F46 [.d (.sl (List.map Comb.d l_))] p.2 = some (.d (.int .i64 r), [.d (.sl (List.map Comb.d l_))])
theorem lay_Stack_ok (l_ : (List Comb)) (r : Int) (h : lay_Stack l_ = some r) : Runs L F46.body ⟨tmOf [.d (.sl (List.map Comb.d l_))] 0, updW (fun _ => none) []⟩ (lay_Stack_Q l_ r) := by
  unfold lay_Stack at h
  refine Runs.seq ?_
  refine Runs.ops ?_
  refine RunAt.chunk 1 [⟨.d (.int .i64 0), []⟩] (by kernel_rfl) ?_
  refine RunAt.done (by kernel_rfl) ?_
  refine kS_nrm ?_
  refine Runs.seq ?_
  refine Runs.ops ?_
  refine RunAt.chunk 1 [⟨.d (.sl (List.map Comb.d l_)), []⟩] (by kernel_rfl) ?_
  obtain ⟨r_1, hr_1, h⟩ := bind_s h
  have hc_1 := slices_IndexFunc_LComb_lay_Stack_1_L l_ r_1 hr_1
  refine RunAt.cut (some 4) (.callf 71) [] none [.d (.sl (List.map Comb.d l_)), .fn 72 []] (.d (.int .i64 r_1)) [] (by kernel_rfl) (by kernel_rfl) (by kernel_rfl) (cut_call (call_of (ws := []) (us := []) (by kernel_rfl) (by kernel_rfl) hc_1 (by kernel_rfl) (by kernel_rfl))) ?_
  refine RunAt.chunk 1 [⟨.d (.int .i64 r_1), []⟩] (by kernel_rfl) ?_
  refine RunAt.done (by kernel_rfl) ?_
  refine kS_nrm ?_
  refine Runs.ret ?_
  obtain rfl := Option.some.inj h
  exact ⟨Out.ret_ne, (by kernel_rfl)⟩
theorem lay_Stack_L (l_ : (List Comb)) (r : Int) (h : lay_Stack l_ = some r) : L 46 [.d (.sl (List.map Comb.d l_))] = some (.d (.int .i64 r), [.d (.sl (List.map Comb.d l_))]) := by
  obtain ⟨p, ⟨hne, hf⟩, hr⟩ := lay_Stack_ok l_ r h
  obtain ⟨k, hk⟩ := run_of (F := F46) (args := [.d (.sl (List.map Comb.d l_))]) (ap := [.d (.sl (List.map Comb.d l_))]) (bx0 := updW (fun _ => none) []) rfl rfl (by kernel_rfl) ⟨p, ⟨hne, hf⟩, hr⟩
  exact lim_run (k := k) rfl hk
def hansomlaw41_awake_Q  (r : Bool) (p : Out × St) : Prop := (∀ i, p.1 ≠ .exit i) ∧ finF F45 [] p.2 = some (.d (.bool r), [])
theorem hansomlaw41_awake_ok  (r : Bool) (h : hansomlaw41_awake = some r) : Runs L F45.body ⟨tmOf [] 0, updW (fun _ => none) []⟩ (hansomlaw41_awake_Q  r) := by
  unfold hansomlaw41_awake at h
  refine Runs.seq ?_
  refine Runs.ops ?_
  refine RunAt.chunk 1 [⟨.d (.bool false), []⟩] (by kernel_rfl) ?_
  refine RunAt.done (by kernel_rfl) ?_
  refine kS_nrm ?_
  refine Runs.seq ?_
  refine Runs.ops ?_
  refine RunAt.chunk 2 [⟨.mix [.d (.str []), .d (.str []), .d (.int .i64 3), .d (.int .i64 0), .d (.int .u16 0), .d (.int .u8 0), .d (.int .i64 20), .nils], []⟩, ⟨.mix [.d (.str []), .d (.str []), .d (.int .i64 3), .d (.int .i64 0), .d (.int .u16 0), .d (.int .u8 0), .d (.int .i64 20), .nils], []⟩] (by kernel_rfl) ?_
  refine RunAt.cut (some 6) (.bslice (.agg [.str [], .str [], .int .i64 0, .int .i64 0, .int .u16 0, .int .u8 0, .int .i64 0, .sl []]) 2 [0, 1]) [] none [.mix [.d (.str []), .d (.str []), .d (.int .i64 3), .d (.int .i64 0), .d (.int .u16 0), .d (.int .u8 0), .d (.int .i64 20), .nils], .mix [.d (.str []), .d (.str []), .d (.int .i64 3), .d (.int .i64 0), .d (.int .u16 0), .d (.int .u8 0), .d (.int .i64 20), .nils]] (.ref [6] 0 0 (List.map Comb.d ([({ Name := [], Class := [], Align := 3, Combine := 0, Frame := 0, Offset := 0, Len := 20, Chunks := ([] : List Chunk) } : Comb), ({ Name := [], Class := [], Align := 3, Combine := 0, Frame := 0, Offset := 0, Len := 20, Chunks := ([] : List Chunk) } : Comb)] : List Comb)).length 8) [([6], some (.arr (List.map Comb.d ([({ Name := [], Class := [], Align := 3, Combine := 0, Frame := 0, Offset := 0, Len := 20, Chunks := ([] : List Chunk) } : Comb), ({ Name := [], Class := [], Align := 3, Combine := 0, Frame := 0, Offset := 0, Len := 20, Chunks := ([] : List Chunk) } : Comb)] : List Comb)) 0 false))] (by kernel_rfl) (by kernel_rfl) (by kernel_rfl) (cut_bslice (e := Comb.d) (l := ([({ Name := [], Class := [], Align := 3, Combine := 0, Frame := 0, Offset := 0, Len := 20, Chunks := ([] : List Chunk) } : Comb), ({ Name := [], Class := [], Align := 3, Combine := 0, Frame := 0, Offset := 0, Len := 20, Chunks := ([] : List Chunk) } : Comb)] : List Comb)) (ws := []) (ds := [.agg [.str [], .str [], .int .i64 3, .int .i64 0, .int .u16 0, .int .u8 0, .int .i64 20, .sl (List.map Chunk.d ([] : List Chunk))], .agg [.str [], .str [], .int .i64 3, .int .i64 0, .int .u16 0, .int .u8 0, .int .i64 20, .sl (List.map Chunk.d ([] : List Chunk))]]) (snapsM_cons (ws := []) (snap_mix (snaps_d (snaps_d (snaps_d (snaps_d (snaps_d (snaps_d (snaps_d (snaps_n Chunk.d snaps_nil))))))))) (snapsM_cons (ws := []) (snap_mix (snaps_d (snaps_d (snaps_d (snaps_d (snaps_d (snaps_d (snaps_d (snaps_n Chunk.d snaps_nil))))))))) snapsM_nil)) (by kernel_rfl) (by kernel_rfl) (by kernel_rfl) (by kernel_rfl)) ?_
  obtain ⟨r_1, hr_1, h⟩ := bind_s h
  have hc_1 := lay_Place_L ([({ Name := [], Class := [], Align := 3, Combine := 0, Frame := 0, Offset := 0, Len := 20, Chunks := ([] : List Chunk) } : Comb), ({ Name := [], Class := [], Align := 3, Combine := 0, Frame := 0, Offset := 0, Len := 20, Chunks := ([] : List Chunk) } : Comb)] : List Comb) r_1 hr_1
  refine RunAt.cut (some 7) (.callf 42) [] none [.ref [6] 0 0 (List.map Comb.d ([({ Name := [], Class := [], Align := 3, Combine := 0, Frame := 0, Offset := 0, Len := 20, Chunks := ([] : List Chunk) } : Comb), ({ Name := [], Class := [], Align := 3, Combine := 0, Frame := 0, Offset := 0, Len := 20, Chunks := ([] : List Chunk) } : Comb)] : List Comb)).length 8] (.tup [.d (api_Layout.d r_1.1), .d (.int .i64 r_1.2)]) [([6], some (.arr (List.map Comb.d ([({ Name := [], Class := [], Align := 3, Combine := 0, Frame := 0, Offset := 0, Len := 20, Chunks := ([] : List Chunk) } : Comb), ({ Name := [], Class := [], Align := 3, Combine := 0, Frame := 0, Offset := 0, Len := 20, Chunks := ([] : List Chunk) } : Comb)] : List Comb)) 0 true))] (by kernel_rfl) (by kernel_rfl) (by kernel_rfl) (cut_call (call_of (ws := [([6], some (.arr (List.map Comb.d ([({ Name := [], Class := [], Align := 3, Combine := 0, Frame := 0, Offset := 0, Len := 20, Chunks := ([] : List Chunk) } : Comb), ({ Name := [], Class := [], Align := 3, Combine := 0, Frame := 0, Offset := 0, Len := 20, Chunks := ([] : List Chunk) } : Comb)] : List Comb)) 0 true))]) (us := [([6], some (.arr (List.map Comb.d ([({ Name := [], Class := [], Align := 3, Combine := 0, Frame := 0, Offset := 0, Len := 20, Chunks := ([] : List Chunk) } : Comb), ({ Name := [], Class := [], Align := 3, Combine := 0, Frame := 0, Offset := 0, Len := 20, Chunks := ([] : List Chunk) } : Comb)] : List Comb)) 0 true))]) (by kernel_rfl) (gives_cons (ws := [([6], some (.arr (List.map Comb.d ([({ Name := [], Class := [], Align := 3, Combine := 0, Frame := 0, Offset := 0, Len := 20, Chunks := ([] : List Chunk) } : Comb), ({ Name := [], Class := [], Align := 3, Combine := 0, Frame := 0, Offset := 0, Len := 20, Chunks := ([] : List Chunk) } : Comb)] : List Comb)) 0 true))]) (give_ref (e := Comb.d) (l := ([({ Name := [], Class := [], Align := 3, Combine := 0, Frame := 0, Offset := 0, Len := 20, Chunks := ([] : List Chunk) } : Comb), ({ Name := [], Class := [], Align := 3, Combine := 0, Frame := 0, Offset := 0, Len := 20, Chunks := ([] : List Chunk) } : Comb)] : List Comb)) (fz := false) (by kernel_rfl) (by kernel_rfl) rfl) gives_nil) hc_1 (by kernel_rfl) (by kernel_rfl))) ?_
  refine RunAt.chunk 6 [⟨.tup [.d (api_Layout.d r_1.1), .d (.int .i64 r_1.2)], []⟩, ⟨.d (api_Layout.d r_1.1), []⟩, ⟨.d (.int .i64 r_1.2), []⟩, ⟨.ptr [1] 0 0, [([1], some (.cells [.nils, .nils, .nils, .d (.int .i64 0)] 0))]⟩, ⟨.tup [], [([1], some (.cells [.d (.sl (List.map (D.int .i64) r_1.1.Starts)), .d (.sl (List.map D.bool r_1.1.Fixed)), .d (.sl (List.map Group.d r_1.1.Groups)), .d (.int .i64 r_1.1.Size)] 0))]⟩, ⟨.d (.int .i64 r_1.2), []⟩] (by kernel_rfl) ?_
  refine RunAt.done (by kernel_rfl) ?_
  refine kS_nrm ?_
  refine Runs.seq ?_
  refine Runs.ops ?_
  refine RunAt.chunk 3 [⟨.d (.int .i64 r_1.2), []⟩, ⟨.d (.bool (r_1.2 == 0)), []⟩, ⟨.d (.bool (r_1.2 == 0)), []⟩] (by kernel_rfl) ?_
  cases hb_1 : ((r_1.2 == 0) : Bool) with
  | true =>
    replace h := ite_t hb_1 h
    refine RunAt.chunk 2 [⟨.ptr [1] 0 0, []⟩, ⟨.d (.sl (List.map (D.int .i64) r_1.1.Starts)), []⟩] (by kernel_rfl) ?_
    refine RunAt.cut (some 15) .lenL [] none [.d (.sl (List.map (D.int .i64) r_1.1.Starts))] (.d (.int .i64 (r_1.1.Starts.length : Int))) [] (by kernel_rfl) (by kernel_rfl) (by kernel_rfl) (cut_len _) ?_
    refine RunAt.chunk 3 [⟨.d (.bool ((r_1.1.Starts.length : Int) == 2)), []⟩, ⟨.d (.bool ((r_1.1.Starts.length : Int) == 2)), []⟩, ⟨.d (.bool ((r_1.1.Starts.length : Int) == 2)), []⟩] (by kernel_rfl) ?_
    cases hb_2 : (((r_1.1.Starts.length : Int) == 2) : Bool) with
    | true =>
      replace h := ite_t hb_2 h
      refine RunAt.chunk 2 [⟨.ptr [1] 0 0, []⟩, ⟨.d (.sl (List.map (D.int .i64) r_1.1.Starts)), []⟩] (by kernel_rfl) ?_
      obtain ⟨z_1, hz_1, h⟩ := bind_s h
      refine RunAt.cut (some 21) (.iaddrS 1) [] none [.d (.sl (List.map (D.int .i64) r_1.1.Starts)), .d (.int .i64 1)] (.elt (.int .i64 z_1) 0) [] (by kernel_rfl) (by kernel_rfl) (by kernel_rfl) (cut_at hz_1 (fun _ => rfl)) ?_
      refine RunAt.chunk 4 [⟨.d (.int .i64 z_1), []⟩, ⟨.d (.bool (z_1 == 32)), []⟩, ⟨.d (.bool (z_1 == 32)), []⟩, ⟨.d (.bool (z_1 == 32)), []⟩] (by kernel_rfl) ?_
      cases hb_3 : ((z_1 == 32) : Bool) with
      | true =>
        replace h := ite_t hb_3 h
        refine RunAt.chunk 5 [⟨.ptr [1] 0 3, []⟩, ⟨.d (.int .i64 r_1.1.Size), []⟩, ⟨.d (.bool (r_1.1.Size == 52)), []⟩, ⟨.d (.bool (r_1.1.Size == 52)), []⟩, ⟨.d (.bool (r_1.1.Size == 52)), []⟩] (by kernel_rfl) ?_
        cases hb_4 : ((r_1.1.Size == 52) : Bool) with
        | true =>
          replace h := ite_t hb_4 h
          refine RunAt.chunk 1 [⟨.d (api_Layout.d r_1.1), []⟩] (by kernel_rfl) ?_
          obtain ⟨r_2, hr_2, h⟩ := bind_s h
          have hc_2 := lay_Para_L r_1.1 1 r_2 hr_2
          refine RunAt.cut (some 32) (.callf 44) [] none [.d (api_Layout.d r_1.1), .d (.int .i64 1)] (.d (.int .i64 r_2)) [] (by kernel_rfl) (by kernel_rfl) (by kernel_rfl) (cut_call (call_of (ws := []) (us := []) (by kernel_rfl) (by kernel_rfl) hc_2 (by kernel_rfl) (by kernel_rfl))) ?_
          refine RunAt.chunk 3 [⟨.d (.bool (r_2 == 2)), []⟩, ⟨.d (.bool (r_2 == 2)), []⟩, ⟨.d (.bool (r_2 == 2)), []⟩] (by kernel_rfl) ?_
          cases hb_5 : ((r_2 == 2) : Bool) with
          | true =>
            replace h := ite_t hb_5 h
            refine RunAt.chunk 1 [⟨.mix [.d (.str []), .d (.str []), .d (.int .i64 0), .d (.int .i64 5), .d (.int .u16 0), .d (.int .u8 0), .d (.int .i64 1), .nils], []⟩] (by kernel_rfl) ?_
            refine RunAt.cut (some 37) (.bslice (.agg [.str [], .str [], .int .i64 0, .int .i64 0, .int .u16 0, .int .u8 0, .int .i64 0, .sl []]) 1 [0]) [] none [.mix [.d (.str []), .d (.str []), .d (.int .i64 0), .d (.int .i64 5), .d (.int .u16 0), .d (.int .u8 0), .d (.int .i64 1), .nils]] (.ref [37] 0 0 (List.map Comb.d ([({ Name := [], Class := [], Align := 0, Combine := 5, Frame := 0, Offset := 0, Len := 1, Chunks := ([] : List Chunk) } : Comb)] : List Comb)).length 8) [([37], some (.arr (List.map Comb.d ([({ Name := [], Class := [], Align := 0, Combine := 5, Frame := 0, Offset := 0, Len := 1, Chunks := ([] : List Chunk) } : Comb)] : List Comb)) 0 false))] (by kernel_rfl) (by kernel_rfl) (by kernel_rfl) (cut_bslice (e := Comb.d) (l := ([({ Name := [], Class := [], Align := 0, Combine := 5, Frame := 0, Offset := 0, Len := 1, Chunks := ([] : List Chunk) } : Comb)] : List Comb)) (ws := []) (ds := [.agg [.str [], .str [], .int .i64 0, .int .i64 5, .int .u16 0, .int .u8 0, .int .i64 1, .sl (List.map Chunk.d ([] : List Chunk))]]) (snapsM_cons (ws := []) (snap_mix (snaps_d (snaps_d (snaps_d (snaps_d (snaps_d (snaps_d (snaps_d (snaps_n Chunk.d snaps_nil))))))))) snapsM_nil) (by kernel_rfl) (by kernel_rfl) (by kernel_rfl) (by kernel_rfl)) ?_
            obtain ⟨r_3, hr_3, h⟩ := bind_s h
            have hc_3 := lay_Stack_L ([({ Name := [], Class := [], Align := 0, Combine := 5, Frame := 0, Offset := 0, Len := 1, Chunks := ([] : List Chunk) } : Comb)] : List Comb) r_3 hr_3
            refine RunAt.cut (some 38) (.callf 46) [] none [.ref [37] 0 0 (List.map Comb.d ([({ Name := [], Class := [], Align := 0, Combine := 5, Frame := 0, Offset := 0, Len := 1, Chunks := ([] : List Chunk) } : Comb)] : List Comb)).length 8] (.d (.int .i64 r_3)) [([37], some (.arr (List.map Comb.d ([({ Name := [], Class := [], Align := 0, Combine := 5, Frame := 0, Offset := 0, Len := 1, Chunks := ([] : List Chunk) } : Comb)] : List Comb)) 0 true))] (by kernel_rfl) (by kernel_rfl) (by kernel_rfl) (cut_call (call_of (ws := [([37], some (.arr (List.map Comb.d ([({ Name := [], Class := [], Align := 0, Combine := 5, Frame := 0, Offset := 0, Len := 1, Chunks := ([] : List Chunk) } : Comb)] : List Comb)) 0 true))]) (us := [([37], some (.arr (List.map Comb.d ([({ Name := [], Class := [], Align := 0, Combine := 5, Frame := 0, Offset := 0, Len := 1, Chunks := ([] : List Chunk) } : Comb)] : List Comb)) 0 true))]) (by kernel_rfl) (gives_cons (ws := [([37], some (.arr (List.map Comb.d ([({ Name := [], Class := [], Align := 0, Combine := 5, Frame := 0, Offset := 0, Len := 1, Chunks := ([] : List Chunk) } : Comb)] : List Comb)) 0 true))]) (give_ref (e := Comb.d) (l := ([({ Name := [], Class := [], Align := 0, Combine := 5, Frame := 0, Offset := 0, Len := 1, Chunks := ([] : List Chunk) } : Comb)] : List Comb)) (fz := false) (by kernel_rfl) (by kernel_rfl) rfl) gives_nil) hc_3 (by kernel_rfl) (by kernel_rfl))) ?_
            refine RunAt.chunk 3 [⟨.d (.bool (r_3 == 0)), []⟩, ⟨.d (.bool (r_3 == 0)), []⟩, ⟨.d (.bool (r_3 == 0)), []⟩] (by kernel_rfl) ?_
            refine RunAt.done (by kernel_rfl) ?_
            refine kS_nrm ?_
            refine Runs.ret ?_
            obtain rfl := Option.some.inj h
            exact ⟨Out.ret_ne, (by kernel_rfl)⟩
          | false =>
            replace h := ite_f hb_5 h
            refine RunAt.chunk 6 [⟨.tup [], []⟩, ⟨.tup [], []⟩, ⟨.tup [], []⟩, ⟨.tup [], []⟩, ⟨.d (.bool false), []⟩, ⟨.d (.bool false), []⟩] (by kernel_rfl) ?_
            refine RunAt.done (by kernel_rfl) ?_
            refine kS_nrm ?_
            refine Runs.ret ?_
            obtain rfl := Option.some.inj h
            exact ⟨Out.ret_ne, (by kernel_rfl)⟩
        | false =>
          replace h := ite_f hb_4 h
          refine RunAt.chunk 11 [⟨.tup [], []⟩, ⟨.tup [], []⟩, ⟨.tup [], []⟩, ⟨.d (.bool false), []⟩, ⟨.d (.bool false), []⟩, ⟨.tup [], []⟩, ⟨.tup [], []⟩, ⟨.tup [], []⟩, ⟨.tup [], []⟩, ⟨.d (.bool false), []⟩, ⟨.d (.bool false), []⟩] (by kernel_rfl) ?_
          refine RunAt.done (by kernel_rfl) ?_
          refine kS_nrm ?_
          refine Runs.ret ?_
          obtain rfl := Option.some.inj h
          exact ⟨Out.ret_ne, (by kernel_rfl)⟩
      | false =>
        replace h := ite_f hb_3 h
        refine RunAt.chunk 16 [⟨.tup [], []⟩, ⟨.tup [], []⟩, ⟨.tup [], []⟩, ⟨.d (.bool false), []⟩, ⟨.d (.bool false), []⟩, ⟨.tup [], []⟩, ⟨.tup [], []⟩, ⟨.tup [], []⟩, ⟨.d (.bool false), []⟩, ⟨.d (.bool false), []⟩, ⟨.tup [], []⟩, ⟨.tup [], []⟩, ⟨.tup [], []⟩, ⟨.tup [], []⟩, ⟨.d (.bool false), []⟩, ⟨.d (.bool false), []⟩] (by kernel_rfl) ?_
        refine RunAt.done (by kernel_rfl) ?_
        refine kS_nrm ?_
        refine Runs.ret ?_
        obtain rfl := Option.some.inj h
        exact ⟨Out.ret_ne, (by kernel_rfl)⟩
    | false =>
      replace h := ite_f hb_2 h
      refine RunAt.chunk 23 [⟨.tup [], []⟩, ⟨.tup [], []⟩, ⟨.tup [], []⟩, ⟨.tup [], []⟩, ⟨.tup [], []⟩, ⟨.d (.bool false), []⟩, ⟨.d (.bool false), []⟩, ⟨.tup [], []⟩, ⟨.tup [], []⟩, ⟨.tup [], []⟩, ⟨.d (.bool false), []⟩, ⟨.d (.bool false), []⟩, ⟨.tup [], []⟩, ⟨.tup [], []⟩, ⟨.tup [], []⟩, ⟨.d (.bool false), []⟩, ⟨.d (.bool false), []⟩, ⟨.tup [], []⟩, ⟨.tup [], []⟩, ⟨.tup [], []⟩, ⟨.tup [], []⟩, ⟨.d (.bool false), []⟩, ⟨.d (.bool false), []⟩] (by kernel_rfl) ?_
      refine RunAt.done (by kernel_rfl) ?_
      refine kS_nrm ?_
      refine Runs.ret ?_
      obtain rfl := Option.some.inj h
      exact ⟨Out.ret_ne, (by kernel_rfl)⟩
  | false =>
    replace h := ite_f hb_1 h
    refine RunAt.chunk 29 [⟨.tup [], []⟩, ⟨.tup [], []⟩, ⟨.tup [], []⟩, ⟨.tup [], []⟩, ⟨.d (.bool false), []⟩, ⟨.d (.bool false), []⟩, ⟨.tup [], []⟩, ⟨.tup [], []⟩, ⟨.tup [], []⟩, ⟨.tup [], []⟩, ⟨.tup [], []⟩, ⟨.d (.bool false), []⟩, ⟨.d (.bool false), []⟩, ⟨.tup [], []⟩, ⟨.tup [], []⟩, ⟨.tup [], []⟩, ⟨.d (.bool false), []⟩, ⟨.d (.bool false), []⟩, ⟨.tup [], []⟩, ⟨.tup [], []⟩, ⟨.tup [], []⟩, ⟨.d (.bool false), []⟩, ⟨.d (.bool false), []⟩, ⟨.tup [], []⟩, ⟨.tup [], []⟩, ⟨.tup [], []⟩, ⟨.tup [], []⟩, ⟨.d (.bool false), []⟩, ⟨.d (.bool false), []⟩] (by kernel_rfl) ?_
    refine RunAt.done (by kernel_rfl) ?_
    refine kS_nrm ?_
    refine Runs.ret ?_
    obtain rfl := Option.some.inj h
    exact ⟨Out.ret_ne, (by kernel_rfl)⟩
theorem hansomlaw41_awake_L  (r : Bool) (h : hansomlaw41_awake = some r) : L 45 [] = some (.d (.bool r), []) := by
  obtain ⟨p, ⟨hne, hf⟩, hr⟩ := hansomlaw41_awake_ok  r h
  obtain ⟨k, hk⟩ := run_of (F := F45) (args := []) (ap := []) (bx0 := updW (fun _ => none) []) rfl rfl (by kernel_rfl) ⟨p, ⟨hne, hf⟩, hr⟩
  exact lim_run (k := k) rfl hk
def hansomlaw41_LayPlaces_h24 (x5 : api_Layout) (seen7 : (A8 Bool)) (first10 : (A3 Int)) (c3 : (List Comb)) (o4 : (List Int)) (at8 : Int) (stack9 : Int) (i11 : Int) : St := ⟨tab [(3, .d (.sl (List.map Comb.d c3))), (4, .d (.sl (List.map (D.int .i64) o4))), (5, .ptr [5] 0 0), (7, .ptr [7] 0 0), (8, .d (.int .i64 at8)), (9, .d (.int .i64 stack9)), (10, .ptr [10] 0 0), (11, .d (.int .i64 i11))], tabB [([5], some (.cells [.d (.sl (List.map (D.int .i64) x5.Starts)), .d (.sl (List.map D.bool x5.Fixed)), .d (.sl (List.map Group.d x5.Groups)), .d (.int .i64 x5.Size)] 0)), ([7], some (.cells [.d (.bool seen7.a0), .d (.bool seen7.a1), .d (.bool seen7.a2), .d (.bool seen7.a3), .d (.bool seen7.a4), .d (.bool seen7.a5), .d (.bool seen7.a6), .d (.bool seen7.a7)] 0)), ([10], some (.cells [.d (.int .i64 first10.a0), .d (.int .i64 first10.a1), .d (.int .i64 first10.a2)] 0))]⟩
def hansomlaw41_LayPlaces_h41 (x5 : api_Layout) (seen7 : (A8 Bool)) (first10 : (A3 Int)) (c3 : (List Comb)) (o4 : (List Int)) (at8 : Int) (stack9 : Int) : St := ⟨tab [(3, .d (.sl (List.map Comb.d c3))), (4, .d (.sl (List.map (D.int .i64) o4))), (5, .ptr [5] 0 0), (7, .ptr [7] 0 0), (8, .d (.int .i64 at8)), (9, .d (.int .i64 stack9)), (10, .ptr [10] 0 0)], tabB [([5], some (.cells [.d (.sl (List.map (D.int .i64) x5.Starts)), .d (.sl (List.map D.bool x5.Fixed)), .d (.sl (List.map Group.d x5.Groups)), .d (.int .i64 x5.Size)] 0)), ([7], some (.cells [.d (.bool seen7.a0), .d (.bool seen7.a1), .d (.bool seen7.a2), .d (.bool seen7.a3), .d (.bool seen7.a4), .d (.bool seen7.a5), .d (.bool seen7.a6), .d (.bool seen7.a7)] 0)), ([10], some (.cells [.d (.int .i64 first10.a0), .d (.int .i64 first10.a1), .d (.int .i64 first10.a2)] 0))]⟩
def hansomlaw41_LayPlaces_h45 (x5 : api_Layout) (seen7 : (A8 Bool)) (first10 : (A3 Int)) (c3 : (List Comb)) (o4 : (List Int)) (at8 : Int) (stack9 : Int) (k12 : Int) : St := ⟨tab [(3, .d (.sl (List.map Comb.d c3))), (4, .d (.sl (List.map (D.int .i64) o4))), (5, .ptr [5] 0 0), (7, .ptr [7] 0 0), (8, .d (.int .i64 at8)), (9, .d (.int .i64 stack9)), (10, .ptr [10] 0 0), (12, .d (.int .i64 k12))], tabB [([5], some (.cells [.d (.sl (List.map (D.int .i64) x5.Starts)), .d (.sl (List.map D.bool x5.Fixed)), .d (.sl (List.map Group.d x5.Groups)), .d (.int .i64 x5.Size)] 0)), ([7], some (.cells [.d (.bool seen7.a0), .d (.bool seen7.a1), .d (.bool seen7.a2), .d (.bool seen7.a3), .d (.bool seen7.a4), .d (.bool seen7.a5), .d (.bool seen7.a6), .d (.bool seen7.a7)] 0)), ([10], some (.cells [.d (.int .i64 first10.a0), .d (.int .i64 first10.a1), .d (.int .i64 first10.a2)] 0))]⟩
def hansomlaw41_LayPlaces_h82 (x5 : api_Layout) (seen7 : (A8 Bool)) (first10 : (A3 Int)) (c3 : (List Comb)) (o4 : (List Int)) (at8 : Int) (stack9 : Int) (k12 : Int) (i13 : Int) : St := ⟨tab [(3, .d (.sl (List.map Comb.d c3))), (4, .d (.sl (List.map (D.int .i64) o4))), (5, .ptr [5] 0 0), (7, .ptr [7] 0 0), (8, .d (.int .i64 at8)), (9, .d (.int .i64 stack9)), (10, .ptr [10] 0 0), (12, .d (.int .i64 k12)), (13, .d (.int .i64 i13))], tabB [([5], some (.cells [.d (.sl (List.map (D.int .i64) x5.Starts)), .d (.sl (List.map D.bool x5.Fixed)), .d (.sl (List.map Group.d x5.Groups)), .d (.int .i64 x5.Size)] 0)), ([7], some (.cells [.d (.bool seen7.a0), .d (.bool seen7.a1), .d (.bool seen7.a2), .d (.bool seen7.a3), .d (.bool seen7.a4), .d (.bool seen7.a5), .d (.bool seen7.a6), .d (.bool seen7.a7)] 0)), ([10], some (.cells [.d (.int .i64 first10.a0), .d (.int .i64 first10.a1), .d (.int .i64 first10.a2)] 0))]⟩
def hansomlaw41_LayPlaces_h108 (x5 : api_Layout) (c3 : (List Comb)) (at8 : Int) (stack9 : Int) : St := ⟨tab [(3, .d (.sl (List.map Comb.d c3))), (5, .ptr [5] 0 0), (8, .d (.int .i64 at8)), (9, .d (.int .i64 stack9))], tabB [([5], some (.cells [.d (.sl (List.map (D.int .i64) x5.Starts)), .d (.sl (List.map D.bool x5.Fixed)), .d (.sl (List.map Group.d x5.Groups)), .d (.int .i64 x5.Size)] 0))]⟩
def hansomlaw41_LayPlaces_Q (l_ : (List Comb)) (r : Bool) (p : Out × St) : Prop := (∀ i, p.1 ≠ .exit i) ∧ finF F10 [.d (.sl (List.map Comb.d l_))] p.2 = some (.d (.bool r), [.d (.sl (List.map Comb.d l_))])
def hansomlaw41_LayPlaces_P24 (l_ : (List Comb)) (x5 : api_Layout) (seen7 : (A8 Bool)) (c3 : (List Comb)) (o4 : (List Int)) (at8 : Int) (e : ((A3 Int) × Int)) (p : Out × St) : Prop := p.1 = .exit 0 ∧ ∃ g : Unit, Canon [] [3, 4, 5, 7, 8, 9, 10] [[5], [7], [10]] p.2 (hansomlaw41_LayPlaces_h41 x5 seen7 e.1 c3 o4 at8 e.2)
def hansomlaw41_LayPlaces_P45 (l_ : (List Comb)) (x5 : api_Layout) (first10 : (A3 Int)) (c3 : (List Comb)) (o4 : (List Int)) (stack9 : Int) (e : (Bool ⊕ Int)) (p : Out × St) : Prop := match e with
  | .inl x => p.1 = .ret ∧ finF F10 [.d (.sl (List.map Comb.d l_))] p.2 = some (.d (.bool x), [.d (.sl (List.map Comb.d l_))])
  | .inr x => p.1 = .exit 2 ∧ ∃ g : Unit, Canon [] [3, 5, 8, 9] [[5]] p.2 (hansomlaw41_LayPlaces_h108 x5 c3 x stack9)
theorem hansomlaw41_LayPlaces_l24_ok (l_ : (List Comb)) (x5 : api_Layout) (seen7 : (A8 Bool)) (first10 : (A3 Int)) (c3 : (List Comb)) (o4 : (List Int)) (at8 : Int) (stack9 : Int) (i11 : Int) (r : (Lp ((A3 Int) × Int × Int) ((A3 Int) × Int))) (h : hansomlaw41_LayPlaces_l24 x5 seen7 first10 c3 o4 at8 stack9 i11 = some r) : Runs L F10l24 (hansomlaw41_LayPlaces_h24 x5 seen7 first10 c3 o4 at8 stack9 i11) (LQ [] [3, 4, 5, 7, 8, 9, 10, 11] [[5], [7], [10]] (fun (x : ((A3 Int) × Int × Int)) (g : Unit) => hansomlaw41_LayPlaces_h24 x5 seen7 x.1 c3 o4 at8 x.2.1 x.2.2) (hansomlaw41_LayPlaces_P24 l_ x5 seen7 c3 o4 at8) r) := by
  unfold hansomlaw41_LayPlaces_l24 at h
  refine Runs.seq ?_
  refine Runs.seq ?_
  refine Runs.ops ?_
  refine RunAt.chunk 2 [⟨.d (.int .i64 i11), []⟩, ⟨.d (.bool (decide (i11 ≥ 0))), []⟩] (by kernel_rfl) ?_
  refine RunAt.done (by kernel_rfl) ?_
  refine kS_nrm ?_
  cases hb_5 : ((decide (i11 ≥ 0)) : Bool) with
  | true =>
    replace h := ite_t hb_5 h
    refine Runs.cond_t (by kernel_rfl) ?_
    refine Runs.skip ?_
    refine kS_nrm ?_
    refine Runs.seq ?_
    refine Runs.block ?_
    refine Runs.seq ?_
    refine Runs.ops ?_
    refine RunAt.chunk 2 [⟨.d (.sl (List.map Comb.d c3)), []⟩, ⟨.d (.int .i64 i11), []⟩] (by kernel_rfl) ?_
    obtain ⟨z_1, hz_1, h⟩ := bind_s h
    refine RunAt.cut (some 62) (.iaddrS 8) [] none [.d (.sl (List.map Comb.d c3)), .d (.int .i64 i11)] (.elt (Comb.d z_1) 0) [] (by kernel_rfl) (by kernel_rfl) (by kernel_rfl) (cut_at hz_1 (fun _ => rfl)) ?_
    refine RunAt.chunk 2 [⟨.elt (Comb.d z_1) 1, []⟩, ⟨.d (.str z_1.Class), []⟩] (by kernel_rfl) ?_
    obtain ⟨z_2, hz_2, h⟩ := bind_s h
    refine RunAt.cut (some 65) .indexS [] none [.d (.str z_1.Class), .d (.int .i64 0)] (.d (.int .u8 (z_2.toNat : Int))) [] (by kernel_rfl) (by kernel_rfl) (by kernel_rfl) (cut_ixS hz_2) ?_
    refine RunAt.chunk 4 [⟨.d (.int .u8 (IntKind.wrap .u8 ((z_2.toNat : Int) - 65))), []⟩, ⟨.d (.int .i64 (IntKind.wrap .i64 (IntKind.wrap .u8 ((z_2.toNat : Int) - 65)))), []⟩, ⟨.d (.int .i64 (Int.tmod (IntKind.wrap .i64 (IntKind.wrap .u8 ((z_2.toNat : Int) - 65))) 3)), []⟩, ⟨.d (.int .i64 i11), []⟩] (by kernel_rfl) ?_
    obtain ⟨z_3, hz_3, h⟩ := bind_s h
    refine RunAt.cut (some 70) (.iaddrA 3 1) [] none [.ptr [10] 0 0, .d (.int .i64 (Int.tmod (IntKind.wrap .i64 (IntKind.wrap .u8 ((z_2.toNat : Int) - 65))) 3))] (.ptr [10] 0 (0 + ((Int.tmod (IntKind.wrap .i64 (IntKind.wrap .u8 ((z_2.toNat : Int) - 65))) 3)).toNat * 1)) [] (by kernel_rfl) (by kernel_rfl) (by kernel_rfl) (cut_iaA (l := first10.l) hz_3 rfl) ?_
    refine RunAt.cut none (.store 1) [] none [.ptr [10] 0 (0 + ((Int.tmod (IntKind.wrap .i64 (IntKind.wrap .u8 ((z_2.toNat : Int) - 65))) 3)).toNat * 1), .d (.int .i64 i11)] (.tup []) [([10], some (.cells [.d (.int .i64 ((A3.set first10 (Int.tmod (IntKind.wrap .i64 (IntKind.wrap .u8 ((z_2.toNat : Int) - 65))) 3) i11).a0)), .d (.int .i64 ((A3.set first10 (Int.tmod (IntKind.wrap .i64 (IntKind.wrap .u8 ((z_2.toNat : Int) - 65))) 3) i11).a1)), .d (.int .i64 ((A3.set first10 (Int.tmod (IntKind.wrap .i64 (IntKind.wrap .u8 ((z_2.toNat : Int) - 65))) 3) i11).a2))] 0))] (by kernel_rfl) (by kernel_rfl) (by kernel_rfl) (cut_stA (e := (D.int .i64)) (l := first10.l) (l' := (A3.set first10 (Int.tmod (IntKind.wrap .i64 (IntKind.wrap .u8 ((z_2.toNat : Int) - 65))) 3) i11).l) (y := z_3) (y' := i11) hz_3 (by kernel_rfl) (by kernel_rfl) (A3.setl hz_3) rfl) ?_
    refine RunAt.done (by kernel_rfl) ?_
    refine kS_nrm ?_
    refine Runs.seq ?_
    refine Runs.ops ?_
    refine RunAt.chunk 2 [⟨.d (.sl (List.map Comb.d c3)), []⟩, ⟨.d (.int .i64 i11), []⟩] (by kernel_rfl) ?_
    obtain ⟨z_4, hz_4, h⟩ := bind_s h
    refine RunAt.cut (some 73) (.iaddrS 8) [] none [.d (.sl (List.map Comb.d c3)), .d (.int .i64 i11)] (.elt (Comb.d z_4) 0) [] (by kernel_rfl) (by kernel_rfl) (by kernel_rfl) (cut_at hz_4 (fun _ => rfl)) ?_
    refine RunAt.chunk 4 [⟨.elt (Comb.d z_4) 3, []⟩, ⟨.d (.int .i64 z_4.Combine), []⟩, ⟨.d (.bool (z_4.Combine == 5)), []⟩, ⟨.d (.bool (z_4.Combine == 5)), []⟩] (by kernel_rfl) ?_
    cases hb_6 : ((z_4.Combine == 5) : Bool) with
    | true =>
      replace h := ite_t hb_6 h
      refine RunAt.chunk 2 [⟨.d (.sl (List.map Comb.d c3)), []⟩, ⟨.d (.int .i64 i11), []⟩] (by kernel_rfl) ?_
      obtain ⟨z_5, hz_5, h⟩ := bind_s h
      refine RunAt.cut (some 80) (.iaddrS 8) [] none [.d (.sl (List.map Comb.d c3)), .d (.int .i64 i11)] (.elt (Comb.d z_5) 0) [] (by kernel_rfl) (by kernel_rfl) (by kernel_rfl) (cut_at hz_5 (fun _ => rfl)) ?_
      refine RunAt.chunk 4 [⟨.elt (Comb.d z_5) 6, []⟩, ⟨.d (.int .i64 z_5.Len), []⟩, ⟨.d (.bool (decide (z_5.Len > 0))), []⟩, ⟨.d (.bool (decide (z_5.Len > 0))), []⟩] (by kernel_rfl) ?_
      refine RunAt.done (by kernel_rfl) ?_
      refine kS_nrm ?_
      cases hb_7 : ((decide (z_5.Len > 0)) : Bool) with
      | true =>
        replace h := ite_t hb_7 h
        refine Runs.cond_t (by kernel_rfl) ?_
        refine Runs.ops ?_
        refine RunAt.chunk 2 [⟨.d (.int .i64 i11), []⟩, ⟨.d (.int .i64 i11), []⟩] (by kernel_rfl) ?_
        refine RunAt.done (by kernel_rfl) ?_
        refine kB_nrm ?_
        refine kS_nrm ?_
        refine Runs.ops ?_
        refine RunAt.chunk 3 [⟨.d (.int .i64 i11), []⟩, ⟨.d (.int .i64 (IntKind.wrap .i64 (i11 - 1))), []⟩, ⟨.d (.int .i64 (IntKind.wrap .i64 (i11 - 1))), []⟩] (by kernel_rfl) ?_
        refine RunAt.done (by kernel_rfl) ?_
        obtain rfl := Option.some.inj h
        exact ⟨rfl, (), (Canon.nil (by kernel_rfl))⟩
      | false =>
        replace h := ite_f hb_7 h
        refine Runs.cond_f (by kernel_rfl) ?_
        refine Runs.skip ?_
        refine kB_nrm ?_
        refine kS_nrm ?_
        refine Runs.ops ?_
        refine RunAt.chunk 3 [⟨.d (.int .i64 i11), []⟩, ⟨.d (.int .i64 (IntKind.wrap .i64 (i11 - 1))), []⟩, ⟨.d (.int .i64 (IntKind.wrap .i64 (i11 - 1))), []⟩] (by kernel_rfl) ?_
        refine RunAt.done (by kernel_rfl) ?_
        obtain rfl := Option.some.inj h
        exact ⟨rfl, (), (Canon.nil (by kernel_rfl))⟩
    | false =>
      replace h := ite_f hb_6 h
      refine RunAt.chunk 7 [⟨.tup [], []⟩, ⟨.tup [], []⟩, ⟨.tup [], []⟩, ⟨.tup [], []⟩, ⟨.tup [], []⟩, ⟨.tup [], []⟩, ⟨.d (.bool false), []⟩] (by kernel_rfl) ?_
      refine RunAt.done (by kernel_rfl) ?_
      refine kS_nrm ?_
      refine Runs.cond_f (by kernel_rfl) ?_
      refine Runs.skip ?_
      refine kB_nrm ?_
      refine kS_nrm ?_
      refine Runs.ops ?_
      refine RunAt.chunk 3 [⟨.d (.int .i64 i11), []⟩, ⟨.d (.int .i64 (IntKind.wrap .i64 (i11 - 1))), []⟩, ⟨.d (.int .i64 (IntKind.wrap .i64 (i11 - 1))), []⟩] (by kernel_rfl) ?_
      refine RunAt.done (by kernel_rfl) ?_
      obtain rfl := Option.some.inj h
      exact ⟨rfl, (), (Canon.nil (by kernel_rfl))⟩
  | false =>
    replace h := ite_f hb_5 h
    refine Runs.cond_f (by kernel_rfl) ?_
    refine Runs.exit ?_
    refine kS_exit ?_
    obtain rfl := Option.some.inj h
    exact ⟨nofun, rfl, (), (Canon.nil (by kernel_rfl))⟩
theorem hansomlaw41_LayPlaces_j82_ok (l_ : (List Comb)) (x5 : api_Layout) (seen7 : (A8 Bool)) (first10 : (A3 Int)) (c3 : (List Comb)) (o4 : (List Int)) (at8 : Int) (stack9 : Int) (k12 : Int) (i13 : Int) (r : (Lp ((A8 Bool) × Int × Int) (Bool ⊕ Int))) (h : hansomlaw41_LayPlaces_j82 x5 seen7 first10 c3 o4 at8 stack9 k12 i13 = some r) : Runs L F10b82 (hansomlaw41_LayPlaces_h82 x5 seen7 first10 c3 o4 at8 stack9 k12 i13) (kB 3 (kS L F10c107 (LQ [] [3, 4, 5, 7, 8, 9, 10, 12] [[5], [7], [10]] (fun (x : ((A8 Bool) × Int × Int)) (g : Unit) => hansomlaw41_LayPlaces_h45 x5 x.1 first10 c3 o4 x.2.1 stack9 x.2.2) (hansomlaw41_LayPlaces_P45 l_ x5 first10 c3 o4 stack9) r))) := by
  unfold hansomlaw41_LayPlaces_j82 at h
  refine Runs.seq ?_
  refine Runs.seq ?_
  refine Runs.ops ?_
  refine RunAt.chunk 2 [⟨.d (.sl (List.map Comb.d c3)), []⟩, ⟨.d (.int .i64 i13), []⟩] (by kernel_rfl) ?_
  obtain ⟨z_11, hz_11, h⟩ := bind_s h
  refine RunAt.cut (some 157) (.iaddrS 8) [] none [.d (.sl (List.map Comb.d c3)), .d (.int .i64 i13)] (.elt (Comb.d z_11) 0) [] (by kernel_rfl) (by kernel_rfl) (by kernel_rfl) (cut_at hz_11 (fun _ => rfl)) ?_
  refine RunAt.chunk 3 [⟨.elt (Comb.d z_11) 2, []⟩, ⟨.d (.int .i64 z_11.Align), []⟩, ⟨.d (.bool (z_11.Align == 0)), []⟩] (by kernel_rfl) ?_
  refine RunAt.done (by kernel_rfl) ?_
  refine kS_nrm ?_
  cases hb_13 : ((z_11.Align == 0) : Bool) with
  | true =>
    replace h := ite_t hb_13 h
    refine Runs.cond_t (by kernel_rfl) ?_
    refine Runs.seq ?_
    refine Runs.seq ?_
    refine Runs.ops ?_
    refine RunAt.chunk 3 [⟨.ptr [5] 0 1, []⟩, ⟨.d (.sl (List.map D.bool x5.Fixed)), []⟩, ⟨.d (.int .i64 i13), []⟩] (by kernel_rfl) ?_
    obtain ⟨z_12, hz_12, h⟩ := bind_s h
    refine RunAt.cut (some 164) (.iaddrS 1) [] none [.d (.sl (List.map D.bool x5.Fixed)), .d (.int .i64 i13)] (.elt (.bool z_12) 0) [] (by kernel_rfl) (by kernel_rfl) (by kernel_rfl) (cut_at hz_12 (fun _ => rfl)) ?_
    refine RunAt.chunk 3 [⟨.d (.bool z_12), []⟩, ⟨.d (.bool (!z_12)), []⟩, ⟨.d (.bool (!z_12)), []⟩] (by kernel_rfl) ?_
    cases hb_14 : ((!z_12) : Bool) with
    | true =>
      replace h := ite_t hb_14 h
      refine RunAt.chunk 21 [⟨.tup [], []⟩, ⟨.tup [], []⟩, ⟨.tup [], []⟩, ⟨.tup [], []⟩, ⟨.tup [], []⟩, ⟨.tup [], []⟩, ⟨.tup [], []⟩, ⟨.tup [], []⟩, ⟨.tup [], []⟩, ⟨.tup [], []⟩, ⟨.tup [], []⟩, ⟨.tup [], []⟩, ⟨.tup [], []⟩, ⟨.tup [], []⟩, ⟨.tup [], []⟩, ⟨.tup [], []⟩, ⟨.tup [], []⟩, ⟨.tup [], []⟩, ⟨.tup [], []⟩, ⟨.tup [], []⟩, ⟨.d (.bool true), []⟩] (by kernel_rfl) ?_
      refine RunAt.done (by kernel_rfl) ?_
      refine kS_nrm ?_
      refine Runs.cond_t (by kernel_rfl) ?_
      refine Runs.seq ?_
      refine Runs.ops ?_
      refine RunAt.chunk 1 [⟨.d (.bool false), []⟩] (by kernel_rfl) ?_
      refine RunAt.done (by kernel_rfl) ?_
      refine kS_nrm ?_
      refine Runs.ret ?_
      refine kS_ret ?_
      refine kS_ret ?_
      refine kB_ret ?_
      refine kS_ret ?_
      obtain rfl := Option.some.inj h
      exact ⟨nofun, rfl, (by kernel_rfl)⟩
    | false =>
      replace h := ite_f hb_14 h
      refine RunAt.chunk 3 [⟨.ptr [5] 0 0, []⟩, ⟨.d (.sl (List.map (D.int .i64) x5.Starts)), []⟩, ⟨.d (.int .i64 i13), []⟩] (by kernel_rfl) ?_
      obtain ⟨z_13, hz_13, h⟩ := bind_s h
      refine RunAt.cut (some 171) (.iaddrS 1) [] none [.d (.sl (List.map (D.int .i64) x5.Starts)), .d (.int .i64 i13)] (.elt (.int .i64 z_13) 0) [] (by kernel_rfl) (by kernel_rfl) (by kernel_rfl) (cut_at hz_13 (fun _ => rfl)) ?_
      refine RunAt.chunk 3 [⟨.d (.int .i64 z_13), []⟩, ⟨.d (.sl (List.map Comb.d c3)), []⟩, ⟨.d (.int .i64 i13), []⟩] (by kernel_rfl) ?_
      obtain ⟨z_14, hz_14, h⟩ := bind_s h
      refine RunAt.cut (some 175) (.iaddrS 8) [] none [.d (.sl (List.map Comb.d c3)), .d (.int .i64 i13)] (.elt (Comb.d z_14) 0) [] (by kernel_rfl) (by kernel_rfl) (by kernel_rfl) (cut_at hz_14 (fun _ => rfl)) ?_
      refine RunAt.chunk 6 [⟨.elt (Comb.d z_14) 4, []⟩, ⟨.d (.int .u16 z_14.Frame), []⟩, ⟨.d (.int .i64 (IntKind.wrap .i64 z_14.Frame)), []⟩, ⟨.d (.int .i64 (IntKind.wrap .i64 ((IntKind.wrap .i64 z_14.Frame) * 16))), []⟩, ⟨.d (.sl (List.map Comb.d c3)), []⟩, ⟨.d (.int .i64 i13), []⟩] (by kernel_rfl) ?_
      obtain ⟨z_15, hz_15, h⟩ := bind_s h
      refine RunAt.cut (some 182) (.iaddrS 8) [] none [.d (.sl (List.map Comb.d c3)), .d (.int .i64 i13)] (.elt (Comb.d z_15) 0) [] (by kernel_rfl) (by kernel_rfl) (by kernel_rfl) (cut_at hz_15 (fun _ => rfl)) ?_
      refine RunAt.chunk 6 [⟨.elt (Comb.d z_15) 5, []⟩, ⟨.d (.int .u8 z_15.Offset), []⟩, ⟨.d (.int .i64 (IntKind.wrap .i64 z_15.Offset)), []⟩, ⟨.d (.int .i64 (IntKind.wrap .i64 ((IntKind.wrap .i64 ((IntKind.wrap .i64 z_14.Frame) * 16)) + (IntKind.wrap .i64 z_15.Offset)))), []⟩, ⟨.d (.bool (z_13 != (IntKind.wrap .i64 ((IntKind.wrap .i64 ((IntKind.wrap .i64 z_14.Frame) * 16)) + (IntKind.wrap .i64 z_15.Offset))))), []⟩, ⟨.d (.bool (z_13 != (IntKind.wrap .i64 ((IntKind.wrap .i64 ((IntKind.wrap .i64 z_14.Frame) * 16)) + (IntKind.wrap .i64 z_15.Offset))))), []⟩] (by kernel_rfl) ?_
      refine RunAt.done (by kernel_rfl) ?_
      refine kS_nrm ?_
      cases hb_15 : ((z_13 != (IntKind.wrap .i64 ((IntKind.wrap .i64 ((IntKind.wrap .i64 z_14.Frame) * 16)) + (IntKind.wrap .i64 z_15.Offset)))) : Bool) with
      | true =>
        replace h := ite_t hb_15 h
        refine Runs.cond_t (by kernel_rfl) ?_
        refine Runs.seq ?_
        refine Runs.ops ?_
        refine RunAt.chunk 1 [⟨.d (.bool false), []⟩] (by kernel_rfl) ?_
        refine RunAt.done (by kernel_rfl) ?_
        refine kS_nrm ?_
        refine Runs.ret ?_
        refine kS_ret ?_
        refine kS_ret ?_
        refine kB_ret ?_
        refine kS_ret ?_
        obtain rfl := Option.some.inj h
        exact ⟨nofun, rfl, (by kernel_rfl)⟩
      | false =>
        replace h := ite_f hb_15 h
        refine Runs.cond_f (by kernel_rfl) ?_
        refine Runs.skip ?_
        refine kS_nrm ?_
        refine Runs.exit ?_
        refine kS_exit ?_
        refine kB_hit ?_
        refine kS_nrm ?_
        refine Runs.ops ?_
        refine RunAt.chunk 3 [⟨.d (.int .i64 k12), []⟩, ⟨.d (.int .i64 (IntKind.wrap .i64 (k12 + 1))), []⟩, ⟨.d (.int .i64 (IntKind.wrap .i64 (k12 + 1))), []⟩] (by kernel_rfl) ?_
        refine RunAt.done (by kernel_rfl) ?_
        obtain rfl := Option.some.inj h
        exact ⟨rfl, (), (Canon.nil (by kernel_rfl))⟩
  | false =>
    replace h := ite_f hb_13 h
    refine Runs.cond_f (by kernel_rfl) ?_
    refine Runs.skip ?_
    refine kS_nrm ?_
    refine Runs.seq ?_
    refine Runs.ops ?_
    refine RunAt.chunk 4 [⟨.d (.int .i64 at8), []⟩, ⟨.ref [190] 0 0 (List.map (D.int .i64) ([1, 1, 2, 16, 256] : List Int)).length 1, [([190], some (.arr (List.map (D.int .i64) ([1, 1, 2, 16, 256] : List Int)) 0 false))]⟩, ⟨.d (.sl (List.map Comb.d c3)), []⟩, ⟨.d (.int .i64 i13), []⟩] (by kernel_rfl) ?_
    obtain ⟨z_16, hz_16, h⟩ := bind_s h
    refine RunAt.cut (some 193) (.iaddrS 8) [] none [.d (.sl (List.map Comb.d c3)), .d (.int .i64 i13)] (.elt (Comb.d z_16) 0) [] (by kernel_rfl) (by kernel_rfl) (by kernel_rfl) (cut_at hz_16 (fun _ => rfl)) ?_
    refine RunAt.chunk 2 [⟨.elt (Comb.d z_16) 2, []⟩, ⟨.d (.int .i64 z_16.Align), []⟩] (by kernel_rfl) ?_
    obtain ⟨z_17, hz_17, h⟩ := bind_s h
    refine RunAt.cut (some 196) (.iaddrS 1) [] none [.ref [190] 0 0 (List.map (D.int .i64) ([1, 1, 2, 16, 256] : List Int)).length 1, .d (.int .i64 z_16.Align)] (.eref [190] 0 (0 + (z_16.Align).toNat) 0) [] (by kernel_rfl) (by kernel_rfl) (by kernel_rfl) (cut_atR (e := (D.int .i64)) (l := ([1, 1, 2, 16, 256] : List Int)) hz_17 rfl) ?_
    refine RunAt.cut (some 197) (.load none) [] none [.eref [190] 0 (0 + (z_16.Align).toNat) 0] (.d (.int .i64 z_17)) [] (by kernel_rfl) (by kernel_rfl) (by kernel_rfl) (cut_loadR (e := (D.int .i64)) (l := ([1, 1, 2, 16, 256] : List Int)) (fz := false) (y := z_17) (by kernel_rfl) hz_17 (by kernel_rfl) (by kernel_rfl)) ?_
    obtain ⟨r_4, hr_4, h⟩ := bind_s h
    have hc_4 := hansomref01_Up_L at8 z_17 r_4 hr_4
    refine RunAt.cut (some 198) (.callf 43) [] none [.d (.int .i64 at8), .d (.int .i64 z_17)] (.d (.int .i64 r_4)) [] (by kernel_rfl) (by kernel_rfl) (by kernel_rfl) (cut_call (call_of (ws := []) (us := []) (by kernel_rfl) (by kernel_rfl) hc_4 (by kernel_rfl) (by kernel_rfl))) ?_
    refine RunAt.chunk 1 [⟨.d (.int .i64 r_4), []⟩] (by kernel_rfl) ?_
    refine RunAt.done (by kernel_rfl) ?_
    refine kS_nrm ?_
    refine Runs.seq ?_
    refine Runs.seq ?_
    refine Runs.ops ?_
    refine RunAt.chunk 3 [⟨.ptr [5] 0 1, []⟩, ⟨.d (.sl (List.map D.bool x5.Fixed)), []⟩, ⟨.d (.int .i64 i13), []⟩] (by kernel_rfl) ?_
    obtain ⟨z_18, hz_18, h⟩ := bind_s h
    refine RunAt.cut (some 202) (.iaddrS 1) [] none [.d (.sl (List.map D.bool x5.Fixed)), .d (.int .i64 i13)] (.elt (.bool z_18) 0) [] (by kernel_rfl) (by kernel_rfl) (by kernel_rfl) (cut_at hz_18 (fun _ => rfl)) ?_
    refine RunAt.chunk 2 [⟨.d (.bool z_18), []⟩, ⟨.d (.bool z_18), []⟩] (by kernel_rfl) ?_
    cases hb_16 : (z_18 : Bool) with
    | true =>
      replace h := ite_t hb_16 h
      refine RunAt.chunk 16 [⟨.tup [], []⟩, ⟨.tup [], []⟩, ⟨.tup [], []⟩, ⟨.tup [], []⟩, ⟨.tup [], []⟩, ⟨.tup [], []⟩, ⟨.tup [], []⟩, ⟨.d (.bool true), []⟩, ⟨.d (.bool true), []⟩, ⟨.tup [], []⟩, ⟨.tup [], []⟩, ⟨.tup [], []⟩, ⟨.tup [], []⟩, ⟨.tup [], []⟩, ⟨.tup [], []⟩, ⟨.d (.bool true), []⟩] (by kernel_rfl) ?_
      refine RunAt.done (by kernel_rfl) ?_
      refine kS_nrm ?_
      refine Runs.cond_t (by kernel_rfl) ?_
      refine Runs.seq ?_
      refine Runs.ops ?_
      refine RunAt.chunk 1 [⟨.d (.bool false), []⟩] (by kernel_rfl) ?_
      refine RunAt.done (by kernel_rfl) ?_
      refine kS_nrm ?_
      refine Runs.ret ?_
      refine kS_ret ?_
      refine kB_ret ?_
      refine kS_ret ?_
      obtain rfl := Option.some.inj h
      exact ⟨nofun, rfl, (by kernel_rfl)⟩
    | false =>
      replace h := ite_f hb_16 h
      refine RunAt.chunk 3 [⟨.ptr [5] 0 0, []⟩, ⟨.d (.sl (List.map (D.int .i64) x5.Starts)), []⟩, ⟨.d (.int .i64 i13), []⟩] (by kernel_rfl) ?_
      obtain ⟨z_19, hz_19, h⟩ := bind_s h
      refine RunAt.cut (some 208) (.iaddrS 1) [] none [.d (.sl (List.map (D.int .i64) x5.Starts)), .d (.int .i64 i13)] (.elt (.int .i64 z_19) 0) [] (by kernel_rfl) (by kernel_rfl) (by kernel_rfl) (cut_at hz_19 (fun _ => rfl)) ?_
      refine RunAt.chunk 5 [⟨.d (.int .i64 z_19), []⟩, ⟨.d (.int .i64 r_4), []⟩, ⟨.d (.bool (z_19 != r_4)), []⟩, ⟨.d (.bool (z_19 != r_4)), []⟩, ⟨.d (.bool (z_19 != r_4)), []⟩] (by kernel_rfl) ?_
      cases hb_17 : ((z_19 != r_4) : Bool) with
      | true =>
        replace h := ite_t hb_17 h
        refine RunAt.chunk 7 [⟨.tup [], []⟩, ⟨.tup [], []⟩, ⟨.tup [], []⟩, ⟨.tup [], []⟩, ⟨.tup [], []⟩, ⟨.tup [], []⟩, ⟨.d (.bool true), []⟩] (by kernel_rfl) ?_
        refine RunAt.done (by kernel_rfl) ?_
        refine kS_nrm ?_
        refine Runs.cond_t (by kernel_rfl) ?_
        refine Runs.seq ?_
        refine Runs.ops ?_
        refine RunAt.chunk 1 [⟨.d (.bool false), []⟩] (by kernel_rfl) ?_
        refine RunAt.done (by kernel_rfl) ?_
        refine kS_nrm ?_
        refine Runs.ret ?_
        refine kS_ret ?_
        refine kB_ret ?_
        refine kS_ret ?_
        obtain rfl := Option.some.inj h
        exact ⟨nofun, rfl, (by kernel_rfl)⟩
      | false =>
        replace h := ite_f hb_17 h
        refine RunAt.chunk 2 [⟨.d (api_Layout.d x5), []⟩, ⟨.d (.int .i64 i13), []⟩] (by kernel_rfl) ?_
        obtain ⟨r_5, hr_5, h⟩ := bind_s h
        have hc_5 := lay_Para_L x5 i13 r_5 hr_5
        refine RunAt.cut (some 216) (.callf 44) [] none [.d (api_Layout.d x5), .d (.int .i64 i13)] (.d (.int .i64 r_5)) [] (by kernel_rfl) (by kernel_rfl) (by kernel_rfl) (cut_call (call_of (ws := []) (us := []) (by kernel_rfl) (by kernel_rfl) hc_5 (by kernel_rfl) (by kernel_rfl))) ?_
        refine RunAt.chunk 4 [⟨.d (.int .i64 r_4), []⟩, ⟨.d (.int .i64 (IntKind.wrap .i64 (Int.tdiv r_4 16))), []⟩, ⟨.d (.bool (r_5 != (IntKind.wrap .i64 (Int.tdiv r_4 16)))), []⟩, ⟨.d (.bool (r_5 != (IntKind.wrap .i64 (Int.tdiv r_4 16)))), []⟩] (by kernel_rfl) ?_
        refine RunAt.done (by kernel_rfl) ?_
        refine kS_nrm ?_
        cases hb_18 : ((r_5 != (IntKind.wrap .i64 (Int.tdiv r_4 16))) : Bool) with
        | true =>
          replace h := ite_t hb_18 h
          refine Runs.cond_t (by kernel_rfl) ?_
          refine Runs.seq ?_
          refine Runs.ops ?_
          refine RunAt.chunk 1 [⟨.d (.bool false), []⟩] (by kernel_rfl) ?_
          refine RunAt.done (by kernel_rfl) ?_
          refine kS_nrm ?_
          refine Runs.ret ?_
          refine kS_ret ?_
          refine kB_ret ?_
          refine kS_ret ?_
          obtain rfl := Option.some.inj h
          exact ⟨nofun, rfl, (by kernel_rfl)⟩
        | false =>
          replace h := ite_f hb_18 h
          refine Runs.cond_f (by kernel_rfl) ?_
          refine Runs.skip ?_
          refine kS_nrm ?_
          refine Runs.ops ?_
          refine RunAt.chunk 3 [⟨.d (.int .i64 r_4), []⟩, ⟨.d (.sl (List.map Comb.d c3)), []⟩, ⟨.d (.int .i64 i13), []⟩] (by kernel_rfl) ?_
          obtain ⟨z_20, hz_20, h⟩ := bind_s h
          refine RunAt.cut (some 224) (.iaddrS 8) [] none [.d (.sl (List.map Comb.d c3)), .d (.int .i64 i13)] (.elt (Comb.d z_20) 0) [] (by kernel_rfl) (by kernel_rfl) (by kernel_rfl) (cut_at hz_20 (fun _ => rfl)) ?_
          refine RunAt.chunk 4 [⟨.elt (Comb.d z_20) 6, []⟩, ⟨.d (.int .i64 z_20.Len), []⟩, ⟨.d (.int .i64 (IntKind.wrap .i64 (r_4 + z_20.Len))), []⟩, ⟨.d (.int .i64 (IntKind.wrap .i64 (r_4 + z_20.Len))), []⟩] (by kernel_rfl) ?_
          refine RunAt.done (by kernel_rfl) ?_
          refine kB_nrm ?_
          refine kS_nrm ?_
          refine Runs.ops ?_
          refine RunAt.chunk 3 [⟨.d (.int .i64 k12), []⟩, ⟨.d (.int .i64 (IntKind.wrap .i64 (k12 + 1))), []⟩, ⟨.d (.int .i64 (IntKind.wrap .i64 (k12 + 1))), []⟩] (by kernel_rfl) ?_
          refine RunAt.done (by kernel_rfl) ?_
          obtain rfl := Option.some.inj h
          exact ⟨rfl, (), (Canon.nil (by kernel_rfl))⟩
theorem hansomlaw41_LayPlaces_l45_ok (l_ : (List Comb)) (x5 : api_Layout) (seen7 : (A8 Bool)) (first10 : (A3 Int)) (c3 : (List Comb)) (o4 : (List Int)) (at8 : Int) (stack9 : Int) (k12 : Int) (r : (Lp ((A8 Bool) × Int × Int) (Bool ⊕ Int))) (h : hansomlaw41_LayPlaces_l45 x5 seen7 first10 c3 o4 at8 stack9 k12 = some r) : Runs L F10l45 (hansomlaw41_LayPlaces_h45 x5 seen7 first10 c3 o4 at8 stack9 k12) (LQ [] [3, 4, 5, 7, 8, 9, 10, 12] [[5], [7], [10]] (fun (x : ((A8 Bool) × Int × Int)) (g : Unit) => hansomlaw41_LayPlaces_h45 x5 x.1 first10 c3 o4 x.2.1 stack9 x.2.2) (hansomlaw41_LayPlaces_P45 l_ x5 first10 c3 o4 stack9) r) := by
  unfold hansomlaw41_LayPlaces_l45 at h
  refine Runs.seq ?_
  refine Runs.seq ?_
  refine Runs.ops ?_
  refine RunAt.chunk 2 [⟨.d (.int .i64 k12), []⟩, ⟨.d (.sl (List.map (D.int .i64) o4)), []⟩] (by kernel_rfl) ?_
  refine RunAt.cut (some 88) .lenL [] none [.d (.sl (List.map (D.int .i64) o4))] (.d (.int .i64 (o4.length : Int))) [] (by kernel_rfl) (by kernel_rfl) (by kernel_rfl) (cut_len _) ?_
  refine RunAt.chunk 1 [⟨.d (.bool (decide (k12 < (o4.length : Int)))), []⟩] (by kernel_rfl) ?_
  refine RunAt.done (by kernel_rfl) ?_
  refine kS_nrm ?_
  cases hb_5 : ((decide (k12 < (o4.length : Int))) : Bool) with
  | true =>
    replace h := ite_t hb_5 h
    refine Runs.cond_t (by kernel_rfl) ?_
    refine Runs.skip ?_
    refine kS_nrm ?_
    refine Runs.seq ?_
    refine Runs.block ?_
    refine Runs.seq ?_
    refine Runs.ops ?_
    refine RunAt.chunk 2 [⟨.d (.sl (List.map (D.int .i64) o4)), []⟩, ⟨.d (.int .i64 k12), []⟩] (by kernel_rfl) ?_
    obtain ⟨z_1, hz_1, h⟩ := bind_s h
    refine RunAt.cut (some 94) (.iaddrS 1) [] none [.d (.sl (List.map (D.int .i64) o4)), .d (.int .i64 k12)] (.elt (.int .i64 z_1) 0) [] (by kernel_rfl) (by kernel_rfl) (by kernel_rfl) (cut_at hz_1 (fun _ => rfl)) ?_
    refine RunAt.chunk 2 [⟨.d (.int .i64 z_1), []⟩, ⟨.d (.int .i64 z_1), []⟩] (by kernel_rfl) ?_
    refine RunAt.done (by kernel_rfl) ?_
    refine kS_nrm ?_
    refine Runs.seq ?_
    refine Runs.seq ?_
    refine Runs.ops ?_
    refine RunAt.chunk 3 [⟨.d (.int .i64 z_1), []⟩, ⟨.d (.bool (decide (z_1 < 0))), []⟩, ⟨.d (.bool (decide (z_1 < 0))), []⟩] (by kernel_rfl) ?_
    cases hb_6 : ((decide (z_1 < 0)) : Bool) with
    | true =>
      replace h := ite_t hb_6 h
      refine RunAt.chunk 11 [⟨.tup [], []⟩, ⟨.tup [], []⟩, ⟨.tup [], []⟩, ⟨.tup [], []⟩, ⟨.d (.bool true), []⟩, ⟨.d (.bool true), []⟩, ⟨.tup [], []⟩, ⟨.tup [], []⟩, ⟨.tup [], []⟩, ⟨.tup [], []⟩, ⟨.d (.bool true), []⟩] (by kernel_rfl) ?_
      refine RunAt.done (by kernel_rfl) ?_
      refine kS_nrm ?_
      refine Runs.cond_t (by kernel_rfl) ?_
      refine Runs.seq ?_
      refine Runs.ops ?_
      refine RunAt.chunk 1 [⟨.d (.bool false), []⟩] (by kernel_rfl) ?_
      refine RunAt.done (by kernel_rfl) ?_
      refine kS_nrm ?_
      refine Runs.ret ?_
      refine kS_ret ?_
      refine kB_ret ?_
      refine kS_ret ?_
      obtain rfl := Option.some.inj h
      exact ⟨nofun, rfl, (by kernel_rfl)⟩
    | false =>
      replace h := ite_f hb_6 h
      refine RunAt.chunk 2 [⟨.d (.int .i64 z_1), []⟩, ⟨.d (.sl (List.map Comb.d c3)), []⟩] (by kernel_rfl) ?_
      refine RunAt.cut (some 101) .lenL [] none [.d (.sl (List.map Comb.d c3))] (.d (.int .i64 (c3.length : Int))) [] (by kernel_rfl) (by kernel_rfl) (by kernel_rfl) (cut_len _) ?_
      refine RunAt.chunk 3 [⟨.d (.bool (decide (z_1 ≥ (c3.length : Int)))), []⟩, ⟨.d (.bool (decide (z_1 ≥ (c3.length : Int)))), []⟩, ⟨.d (.bool (decide (z_1 ≥ (c3.length : Int)))), []⟩] (by kernel_rfl) ?_
      cases hb_7 : ((decide (z_1 ≥ (c3.length : Int))) : Bool) with
      | true =>
        replace h := ite_t hb_7 h
        refine RunAt.chunk 5 [⟨.tup [], []⟩, ⟨.tup [], []⟩, ⟨.tup [], []⟩, ⟨.tup [], []⟩, ⟨.d (.bool true), []⟩] (by kernel_rfl) ?_
        refine RunAt.done (by kernel_rfl) ?_
        refine kS_nrm ?_
        refine Runs.cond_t (by kernel_rfl) ?_
        refine Runs.seq ?_
        refine Runs.ops ?_
        refine RunAt.chunk 1 [⟨.d (.bool false), []⟩] (by kernel_rfl) ?_
        refine RunAt.done (by kernel_rfl) ?_
        refine kS_nrm ?_
        refine Runs.ret ?_
        refine kS_ret ?_
        refine kB_ret ?_
        refine kS_ret ?_
        obtain rfl := Option.some.inj h
        exact ⟨nofun, rfl, (by kernel_rfl)⟩
      | false =>
        replace h := ite_f hb_7 h
        refine RunAt.chunk 2 [⟨.d (.int .i64 z_1), []⟩, ⟨.d (.int .i64 (bitsOp .and .i64 z_1 7)), []⟩] (by kernel_rfl) ?_
        obtain ⟨z_2, hz_2, h⟩ := bind_s h
        refine RunAt.cut (some 107) (.iaddrA 8 1) [] none [.ptr [7] 0 0, .d (.int .i64 (bitsOp .and .i64 z_1 7))] (.ptr [7] 0 (0 + ((bitsOp .and .i64 z_1 7)).toNat * 1)) [] (by kernel_rfl) (by kernel_rfl) (by kernel_rfl) (cut_iaA (l := seen7.l) hz_2 rfl) ?_
        refine RunAt.cut (some 108) (.load none) [] none [.ptr [7] 0 (0 + ((bitsOp .and .i64 z_1 7)).toNat * 1)] (.d (.bool z_2)) [] (by kernel_rfl) (by kernel_rfl) (by kernel_rfl) (cut_ldA (e := D.bool) (l := seen7.l) (y := z_2) hz_2 (by kernel_rfl) (by kernel_rfl)) ?_
        refine RunAt.chunk 1 [⟨.d (.bool z_2), []⟩] (by kernel_rfl) ?_
        refine RunAt.done (by kernel_rfl) ?_
        refine kS_nrm ?_
        cases hb_8 : (z_2 : Bool) with
        | true =>
          replace h := ite_t hb_8 h
          refine Runs.cond_t (by kernel_rfl) ?_
          refine Runs.seq ?_
          refine Runs.ops ?_
          refine RunAt.chunk 1 [⟨.d (.bool false), []⟩] (by kernel_rfl) ?_
          refine RunAt.done (by kernel_rfl) ?_
          refine kS_nrm ?_
          refine Runs.ret ?_
          refine kS_ret ?_
          refine kB_ret ?_
          refine kS_ret ?_
          obtain rfl := Option.some.inj h
          exact ⟨nofun, rfl, (by kernel_rfl)⟩
        | false =>
          replace h := ite_f hb_8 h
          refine Runs.cond_f (by kernel_rfl) ?_
          refine Runs.skip ?_
          refine kS_nrm ?_
          refine Runs.seq ?_
          refine Runs.ops ?_
          refine RunAt.chunk 2 [⟨.d (.int .i64 z_1), []⟩, ⟨.d (.int .i64 (bitsOp .and .i64 z_1 7)), []⟩] (by kernel_rfl) ?_
          obtain ⟨z_3, hz_3, h⟩ := bind_s h
          refine RunAt.cut (some 112) (.iaddrA 8 1) [] none [.ptr [7] 0 0, .d (.int .i64 (bitsOp .and .i64 z_1 7))] (.ptr [7] 0 (0 + ((bitsOp .and .i64 z_1 7)).toNat * 1)) [] (by kernel_rfl) (by kernel_rfl) (by kernel_rfl) (cut_iaA (l := seen7.l) hz_3 rfl) ?_
          refine RunAt.cut none (.store 1) [] none [.ptr [7] 0 (0 + ((bitsOp .and .i64 z_1 7)).toNat * 1), .d (.bool true)] (.tup []) [([7], some (.cells [.d (.bool ((A8.set seen7 (bitsOp .and .i64 z_1 7) true).a0)), .d (.bool ((A8.set seen7 (bitsOp .and .i64 z_1 7) true).a1)), .d (.bool ((A8.set seen7 (bitsOp .and .i64 z_1 7) true).a2)), .d (.bool ((A8.set seen7 (bitsOp .and .i64 z_1 7) true).a3)), .d (.bool ((A8.set seen7 (bitsOp .and .i64 z_1 7) true).a4)), .d (.bool ((A8.set seen7 (bitsOp .and .i64 z_1 7) true).a5)), .d (.bool ((A8.set seen7 (bitsOp .and .i64 z_1 7) true).a6)), .d (.bool ((A8.set seen7 (bitsOp .and .i64 z_1 7) true).a7))] 0))] (by kernel_rfl) (by kernel_rfl) (by kernel_rfl) (cut_stA (e := D.bool) (l := seen7.l) (l' := (A8.set seen7 (bitsOp .and .i64 z_1 7) true).l) (y := z_3) (y' := true) hz_3 (by kernel_rfl) (by kernel_rfl) (A8.setl hz_3) rfl) ?_
          refine RunAt.done (by kernel_rfl) ?_
          refine kS_nrm ?_
          refine Runs.seq ?_
          refine Runs.seq ?_
          refine Runs.ops ?_
          refine RunAt.chunk 2 [⟨.d (.int .i64 k12), []⟩, ⟨.d (.bool (decide (k12 > 0))), []⟩] (by kernel_rfl) ?_
          refine RunAt.done (by kernel_rfl) ?_
          refine kS_nrm ?_
          cases hb_9 : ((decide (k12 > 0)) : Bool) with
          | true =>
            replace h := ite_t hb_9 h
            refine Runs.cond_t (by kernel_rfl) ?_
            refine Runs.seq ?_
            refine Runs.ops ?_
            refine RunAt.chunk 3 [⟨.d (.sl (List.map (D.int .i64) o4)), []⟩, ⟨.d (.int .i64 k12), []⟩, ⟨.d (.int .i64 (IntKind.wrap .i64 (k12 - 1))), []⟩] (by kernel_rfl) ?_
            obtain ⟨z_4, hz_4, h⟩ := bind_s h
            refine RunAt.cut (some 118) (.iaddrS 1) [] none [.d (.sl (List.map (D.int .i64) o4)), .d (.int .i64 (IntKind.wrap .i64 (k12 - 1)))] (.elt (.int .i64 z_4) 0) [] (by kernel_rfl) (by kernel_rfl) (by kernel_rfl) (cut_at hz_4 (fun _ => rfl)) ?_
            refine RunAt.chunk 2 [⟨.d (.int .i64 z_4), []⟩, ⟨.d (.int .i64 z_4), []⟩] (by kernel_rfl) ?_
            refine RunAt.done (by kernel_rfl) ?_
            refine kS_nrm ?_
            refine Runs.seq ?_
            refine Runs.ops ?_
            refine RunAt.chunk 2 [⟨.d (.sl (List.map Comb.d c3)), []⟩, ⟨.d (.int .i64 z_4), []⟩] (by kernel_rfl) ?_
            obtain ⟨z_5, hz_5, h⟩ := bind_s h
            refine RunAt.cut (some 122) (.iaddrS 8) [] none [.d (.sl (List.map Comb.d c3)), .d (.int .i64 z_4)] (.elt (Comb.d z_5) 0) [] (by kernel_rfl) (by kernel_rfl) (by kernel_rfl) (cut_at hz_5 (fun _ => rfl)) ?_
            refine RunAt.chunk 2 [⟨.elt (Comb.d z_5) 1, []⟩, ⟨.d (.str z_5.Class), []⟩] (by kernel_rfl) ?_
            obtain ⟨z_6, hz_6, h⟩ := bind_s h
            refine RunAt.cut (some 125) .indexS [] none [.d (.str z_5.Class), .d (.int .i64 0)] (.d (.int .u8 (z_6.toNat : Int))) [] (by kernel_rfl) (by kernel_rfl) (by kernel_rfl) (cut_ixS hz_6) ?_
            refine RunAt.chunk 3 [⟨.d (.int .u8 (IntKind.wrap .u8 ((z_6.toNat : Int) - 65))), []⟩, ⟨.d (.int .i64 (IntKind.wrap .i64 (IntKind.wrap .u8 ((z_6.toNat : Int) - 65)))), []⟩, ⟨.d (.int .i64 (Int.tmod (IntKind.wrap .i64 (IntKind.wrap .u8 ((z_6.toNat : Int) - 65))) 3)), []⟩] (by kernel_rfl) ?_
            obtain ⟨z_7, hz_7, h⟩ := bind_s h
            refine RunAt.cut (some 129) (.iaddrA 3 1) [] none [.ptr [10] 0 0, .d (.int .i64 (Int.tmod (IntKind.wrap .i64 (IntKind.wrap .u8 ((z_6.toNat : Int) - 65))) 3))] (.ptr [10] 0 (0 + ((Int.tmod (IntKind.wrap .i64 (IntKind.wrap .u8 ((z_6.toNat : Int) - 65))) 3)).toNat * 1)) [] (by kernel_rfl) (by kernel_rfl) (by kernel_rfl) (cut_iaA (l := first10.l) hz_7 rfl) ?_
            refine RunAt.cut (some 130) (.load none) [] none [.ptr [10] 0 (0 + ((Int.tmod (IntKind.wrap .i64 (IntKind.wrap .u8 ((z_6.toNat : Int) - 65))) 3)).toNat * 1)] (.d (.int .i64 z_7)) [] (by kernel_rfl) (by kernel_rfl) (by kernel_rfl) (cut_ldA (e := (D.int .i64)) (l := first10.l) (y := z_7) hz_7 (by kernel_rfl) (by kernel_rfl)) ?_
            refine RunAt.chunk 2 [⟨.d (.sl (List.map Comb.d c3)), []⟩, ⟨.d (.int .i64 z_1), []⟩] (by kernel_rfl) ?_
            obtain ⟨z_8, hz_8, h⟩ := bind_s h
            refine RunAt.cut (some 133) (.iaddrS 8) [] none [.d (.sl (List.map Comb.d c3)), .d (.int .i64 z_1)] (.elt (Comb.d z_8) 0) [] (by kernel_rfl) (by kernel_rfl) (by kernel_rfl) (cut_at hz_8 (fun _ => rfl)) ?_
            refine RunAt.chunk 2 [⟨.elt (Comb.d z_8) 1, []⟩, ⟨.d (.str z_8.Class), []⟩] (by kernel_rfl) ?_
            obtain ⟨z_9, hz_9, h⟩ := bind_s h
            refine RunAt.cut (some 136) .indexS [] none [.d (.str z_8.Class), .d (.int .i64 0)] (.d (.int .u8 (z_9.toNat : Int))) [] (by kernel_rfl) (by kernel_rfl) (by kernel_rfl) (cut_ixS hz_9) ?_
            refine RunAt.chunk 3 [⟨.d (.int .u8 (IntKind.wrap .u8 ((z_9.toNat : Int) - 65))), []⟩, ⟨.d (.int .i64 (IntKind.wrap .i64 (IntKind.wrap .u8 ((z_9.toNat : Int) - 65)))), []⟩, ⟨.d (.int .i64 (Int.tmod (IntKind.wrap .i64 (IntKind.wrap .u8 ((z_9.toNat : Int) - 65))) 3)), []⟩] (by kernel_rfl) ?_
            obtain ⟨z_10, hz_10, h⟩ := bind_s h
            refine RunAt.cut (some 140) (.iaddrA 3 1) [] none [.ptr [10] 0 0, .d (.int .i64 (Int.tmod (IntKind.wrap .i64 (IntKind.wrap .u8 ((z_9.toNat : Int) - 65))) 3))] (.ptr [10] 0 (0 + ((Int.tmod (IntKind.wrap .i64 (IntKind.wrap .u8 ((z_9.toNat : Int) - 65))) 3)).toNat * 1)) [] (by kernel_rfl) (by kernel_rfl) (by kernel_rfl) (cut_iaA (l := first10.l) hz_10 rfl) ?_
            refine RunAt.cut (some 141) (.load none) [] none [.ptr [10] 0 (0 + ((Int.tmod (IntKind.wrap .i64 (IntKind.wrap .u8 ((z_9.toNat : Int) - 65))) 3)).toNat * 1)] (.d (.int .i64 z_10)) [] (by kernel_rfl) (by kernel_rfl) (by kernel_rfl) (cut_ldA (e := (D.int .i64)) (l := first10.l) (y := z_10) hz_10 (by kernel_rfl) (by kernel_rfl)) ?_
            refine RunAt.chunk 2 [⟨.d (.int .i64 z_7), []⟩, ⟨.d (.int .i64 z_10), []⟩] (by kernel_rfl) ?_
            refine RunAt.done (by kernel_rfl) ?_
            refine kS_nrm ?_
            refine Runs.seq ?_
            refine Runs.ops ?_
            refine RunAt.chunk 4 [⟨.d (.int .i64 z_7), []⟩, ⟨.d (.int .i64 z_10), []⟩, ⟨.d (.bool (decide (z_7 > z_10))), []⟩, ⟨.d (.bool (decide (z_7 > z_10))), []⟩] (by kernel_rfl) ?_
            cases hb_10 : ((decide (z_7 > z_10)) : Bool) with
            | true =>
              replace h := ite_t hb_10 h
              refine RunAt.chunk 9 [⟨.tup [], []⟩, ⟨.tup [], []⟩, ⟨.tup [], []⟩, ⟨.tup [], []⟩, ⟨.tup [], []⟩, ⟨.tup [], []⟩, ⟨.tup [], []⟩, ⟨.tup [], []⟩, ⟨.d (.bool true), []⟩] (by kernel_rfl) ?_
              refine RunAt.done (by kernel_rfl) ?_
              refine kS_nrm ?_
              refine Runs.cond_t (by kernel_rfl) ?_
              refine Runs.seq ?_
              refine Runs.ops ?_
              refine RunAt.chunk 1 [⟨.d (.bool false), []⟩] (by kernel_rfl) ?_
              refine RunAt.done (by kernel_rfl) ?_
              refine kS_nrm ?_
              refine Runs.ret ?_
              refine kS_ret ?_
              refine kB_ret ?_
              refine kS_ret ?_
              obtain rfl := Option.some.inj h
              exact ⟨nofun, rfl, (by kernel_rfl)⟩
            | false =>
              replace h := ite_f hb_10 h
              refine RunAt.chunk 4 [⟨.d (.int .i64 z_7), []⟩, ⟨.d (.int .i64 z_10), []⟩, ⟨.d (.bool (z_7 == z_10)), []⟩, ⟨.d (.bool (z_7 == z_10)), []⟩] (by kernel_rfl) ?_
              cases hb_11 : ((z_7 == z_10) : Bool) with
              | true =>
                replace h := ite_t hb_11 h
                refine RunAt.chunk 5 [⟨.d (.int .i64 z_4), []⟩, ⟨.d (.int .i64 z_1), []⟩, ⟨.d (.bool (decide (z_4 ≥ z_1))), []⟩, ⟨.d (.bool (decide (z_4 ≥ z_1))), []⟩, ⟨.d (.bool (decide (z_4 ≥ z_1))), []⟩] (by kernel_rfl) ?_
                refine RunAt.done (by kernel_rfl) ?_
                refine kS_nrm ?_
                cases hb_12 : ((decide (z_4 ≥ z_1)) : Bool) with
                | true =>
                  replace h := ite_t hb_12 h
                  refine Runs.cond_t (by kernel_rfl) ?_
                  refine Runs.seq ?_
                  refine Runs.ops ?_
                  refine RunAt.chunk 1 [⟨.d (.bool false), []⟩] (by kernel_rfl) ?_
                  refine RunAt.done (by kernel_rfl) ?_
                  refine kS_nrm ?_
                  refine Runs.ret ?_
                  refine kS_ret ?_
                  refine kB_ret ?_
                  refine kS_ret ?_
                  obtain rfl := Option.some.inj h
                  exact ⟨nofun, rfl, (by kernel_rfl)⟩
                | false =>
                  replace h := ite_f hb_12 h
                  refine Runs.cond_f (by kernel_rfl) ?_
                  refine Runs.skip ?_
                  refine kS_nrm ?_
                  refine Runs.canon (hansomlaw41_LayPlaces_h82 x5 (A8.set seen7 (bitsOp .and .i64 z_1 7) true) first10 c3 o4 at8 stack9 k12 z_1) (Canon.nil (by kernel_rfl)) ?_
                  exact hansomlaw41_LayPlaces_j82_ok l_ x5 (A8.set seen7 (bitsOp .and .i64 z_1 7) true) first10 c3 o4 at8 stack9 k12 z_1 r h
              | false =>
                replace h := ite_f hb_11 h
                refine RunAt.chunk 5 [⟨.tup [], []⟩, ⟨.tup [], []⟩, ⟨.tup [], []⟩, ⟨.d (.bool false), []⟩, ⟨.d (.bool false), []⟩] (by kernel_rfl) ?_
                refine RunAt.done (by kernel_rfl) ?_
                refine kS_nrm ?_
                refine Runs.cond_f (by kernel_rfl) ?_
                refine Runs.skip ?_
                refine kS_nrm ?_
                refine Runs.canon (hansomlaw41_LayPlaces_h82 x5 (A8.set seen7 (bitsOp .and .i64 z_1 7) true) first10 c3 o4 at8 stack9 k12 z_1) (Canon.nil (by kernel_rfl)) ?_
                exact hansomlaw41_LayPlaces_j82_ok l_ x5 (A8.set seen7 (bitsOp .and .i64 z_1 7) true) first10 c3 o4 at8 stack9 k12 z_1 r h
          | false =>
            replace h := ite_f hb_9 h
            refine Runs.cond_f (by kernel_rfl) ?_
            refine Runs.skip ?_
            refine kS_nrm ?_
            refine Runs.canon (hansomlaw41_LayPlaces_h82 x5 (A8.set seen7 (bitsOp .and .i64 z_1 7) true) first10 c3 o4 at8 stack9 k12 z_1) (Canon.nil (by kernel_rfl)) ?_
            exact hansomlaw41_LayPlaces_j82_ok l_ x5 (A8.set seen7 (bitsOp .and .i64 z_1 7) true) first10 c3 o4 at8 stack9 k12 z_1 r h
  | false =>
    replace h := ite_f hb_5 h
    refine Runs.cond_f (by kernel_rfl) ?_
    refine Runs.exit ?_
    refine kS_exit ?_
    obtain rfl := Option.some.inj h
    exact ⟨nofun, rfl, (), (Canon.nil (by kernel_rfl))⟩
theorem hansomlaw41_LayPlaces_ok (l_ : (List Comb)) (r : Bool) (h : hansomlaw41_LayPlaces l_ = some r) : Runs L F10.body ⟨tmOf [.d (.sl (List.map Comb.d l_))] 0, updW (fun _ => none) []⟩ (hansomlaw41_LayPlaces_Q l_ r) := by
  unfold hansomlaw41_LayPlaces at h
  refine Runs.seq ?_
  refine Runs.ops ?_
  refine RunAt.chunk 1 [⟨.d (.bool false), []⟩] (by kernel_rfl) ?_
  refine RunAt.done (by kernel_rfl) ?_
  refine kS_nrm ?_
  refine Runs.seq ?_
  refine Runs.ops ?_
  refine RunAt.chunk 1 [⟨.d (.sl (List.map Comb.d l_)), []⟩] (by kernel_rfl) ?_
  obtain ⟨r_1, hr_1, h⟩ := bind_s h
  have hc_1 := hansomlaw41_near_L l_ r_1 hr_1
  refine RunAt.cut (some 18) (.callf 40) [] none [.d (.sl (List.map Comb.d l_))] (.d (.sl (List.map Comb.d r_1))) [] (by kernel_rfl) (by kernel_rfl) (by kernel_rfl) (cut_call (call_of (ws := []) (us := []) (by kernel_rfl) (by kernel_rfl) hc_1 (by kernel_rfl) (by kernel_rfl))) ?_
  refine RunAt.chunk 1 [⟨.d (.sl (List.map Comb.d r_1)), []⟩] (by kernel_rfl) ?_
  refine RunAt.done (by kernel_rfl) ?_
  refine kS_nrm ?_
  refine Runs.seq ?_
  refine Runs.ops ?_
  refine RunAt.chunk 1 [⟨.d (.sl (List.map Comb.d r_1)), []⟩] (by kernel_rfl) ?_
  obtain ⟨r_2, hr_2, h⟩ := bind_s h
  have hc_2 := lay_Order_L r_1 r_2 hr_2
  refine RunAt.cut (some 20) (.callf 41) [] none [.d (.sl (List.map Comb.d r_1))] (.d (.sl (List.map (D.int .i64) r_2))) [] (by kernel_rfl) (by kernel_rfl) (by kernel_rfl) (cut_call (call_of (ws := []) (us := []) (by kernel_rfl) (by kernel_rfl) hc_2 (by kernel_rfl) (by kernel_rfl))) ?_
  refine RunAt.chunk 1 [⟨.d (.sl (List.map (D.int .i64) r_2)), []⟩] (by kernel_rfl) ?_
  refine RunAt.done (by kernel_rfl) ?_
  refine kS_nrm ?_
  refine Runs.seq ?_
  refine Runs.ops ?_
  refine RunAt.chunk 1 [⟨.d (.sl (List.map Comb.d r_1)), []⟩] (by kernel_rfl) ?_
  obtain ⟨r_3, hr_3, h⟩ := bind_s h
  have hc_3 := lay_Place_L r_1 r_3 hr_3
  refine RunAt.cut (some 23) (.callf 42) [] none [.d (.sl (List.map Comb.d r_1))] (.tup [.d (api_Layout.d r_3.1), .d (.int .i64 r_3.2)]) [] (by kernel_rfl) (by kernel_rfl) (by kernel_rfl) (cut_call (call_of (ws := []) (us := []) (by kernel_rfl) (by kernel_rfl) hc_3 (by kernel_rfl) (by kernel_rfl))) ?_
  refine RunAt.chunk 6 [⟨.tup [.d (api_Layout.d r_3.1), .d (.int .i64 r_3.2)], []⟩, ⟨.d (api_Layout.d r_3.1), []⟩, ⟨.d (.int .i64 r_3.2), []⟩, ⟨.ptr [5] 0 0, [([5], some (.cells [.nils, .nils, .nils, .d (.int .i64 0)] 0))]⟩, ⟨.tup [], [([5], some (.cells [.d (.sl (List.map (D.int .i64) r_3.1.Starts)), .d (.sl (List.map D.bool r_3.1.Fixed)), .d (.sl (List.map Group.d r_3.1.Groups)), .d (.int .i64 r_3.1.Size)] 0))]⟩, ⟨.d (.int .i64 r_3.2), []⟩] (by kernel_rfl) ?_
  refine RunAt.done (by kernel_rfl) ?_
  refine kS_nrm ?_
  refine Runs.seq ?_
  refine Runs.seq ?_
  refine Runs.ops ?_
  refine RunAt.chunk 1 [⟨.d (.sl (List.map (D.int .i64) r_2)), []⟩] (by kernel_rfl) ?_
  refine RunAt.cut (some 27) .lenL [] none [.d (.sl (List.map (D.int .i64) r_2))] (.d (.int .i64 (r_2.length : Int))) [] (by kernel_rfl) (by kernel_rfl) (by kernel_rfl) (cut_len _) ?_
  refine RunAt.chunk 1 [⟨.d (.sl (List.map Comb.d r_1)), []⟩] (by kernel_rfl) ?_
  refine RunAt.cut (some 29) .lenL [] none [.d (.sl (List.map Comb.d r_1))] (.d (.int .i64 (r_1.length : Int))) [] (by kernel_rfl) (by kernel_rfl) (by kernel_rfl) (cut_len _) ?_
  refine RunAt.chunk 2 [⟨.d (.bool ((r_2.length : Int) != (r_1.length : Int))), []⟩, ⟨.d (.bool ((r_2.length : Int) != (r_1.length : Int))), []⟩] (by kernel_rfl) ?_
  cases hb_1 : (((r_2.length : Int) != (r_1.length : Int)) : Bool) with
  | true =>
    replace h := ite_t hb_1 h
    refine RunAt.chunk 19 [⟨.tup [], []⟩, ⟨.tup [], []⟩, ⟨.d (.bool true), []⟩, ⟨.d (.bool true), []⟩, ⟨.tup [], []⟩, ⟨.tup [], []⟩, ⟨.tup [], []⟩, ⟨.tup [], []⟩, ⟨.tup [], []⟩, ⟨.tup [], []⟩, ⟨.d (.bool true), []⟩, ⟨.d (.bool true), []⟩, ⟨.tup [], []⟩, ⟨.tup [], []⟩, ⟨.tup [], []⟩, ⟨.tup [], []⟩, ⟨.tup [], []⟩, ⟨.tup [], []⟩, ⟨.d (.bool true), []⟩] (by kernel_rfl) ?_
    refine RunAt.done (by kernel_rfl) ?_
    refine kS_nrm ?_
    refine Runs.cond_t (by kernel_rfl) ?_
    refine Runs.seq ?_
    refine Runs.ops ?_
    refine RunAt.chunk 1 [⟨.d (.bool false), []⟩] (by kernel_rfl) ?_
    refine RunAt.done (by kernel_rfl) ?_
    refine kS_nrm ?_
    refine Runs.ret ?_
    refine kS_ret ?_
    obtain rfl := Option.some.inj h
    exact ⟨Out.ret_ne, (by kernel_rfl)⟩
  | false =>
    replace h := ite_f hb_1 h
    refine RunAt.chunk 4 [⟨.d (.int .i64 r_3.2), []⟩, ⟨.d (.bool (r_3.2 != 0)), []⟩, ⟨.d (.bool (r_3.2 != 0)), []⟩, ⟨.d (.bool (r_3.2 != 0)), []⟩] (by kernel_rfl) ?_
    cases hb_2 : ((r_3.2 != 0) : Bool) with
    | true =>
      replace h := ite_t hb_2 h
      refine RunAt.chunk 15 [⟨.tup [], []⟩, ⟨.tup [], []⟩, ⟨.tup [], []⟩, ⟨.tup [], []⟩, ⟨.tup [], []⟩, ⟨.tup [], []⟩, ⟨.d (.bool true), []⟩, ⟨.d (.bool true), []⟩, ⟨.tup [], []⟩, ⟨.tup [], []⟩, ⟨.tup [], []⟩, ⟨.tup [], []⟩, ⟨.tup [], []⟩, ⟨.tup [], []⟩, ⟨.d (.bool true), []⟩] (by kernel_rfl) ?_
      refine RunAt.done (by kernel_rfl) ?_
      refine kS_nrm ?_
      refine Runs.cond_t (by kernel_rfl) ?_
      refine Runs.seq ?_
      refine Runs.ops ?_
      refine RunAt.chunk 1 [⟨.d (.bool false), []⟩] (by kernel_rfl) ?_
      refine RunAt.done (by kernel_rfl) ?_
      refine kS_nrm ?_
      refine Runs.ret ?_
      refine kS_ret ?_
      obtain rfl := Option.some.inj h
      exact ⟨Out.ret_ne, (by kernel_rfl)⟩
    | false =>
      replace h := ite_f hb_2 h
      refine RunAt.chunk 2 [⟨.ptr [5] 0 0, []⟩, ⟨.d (.sl (List.map (D.int .i64) r_3.1.Starts)), []⟩] (by kernel_rfl) ?_
      refine RunAt.cut (some 38) .lenL [] none [.d (.sl (List.map (D.int .i64) r_3.1.Starts))] (.d (.int .i64 (r_3.1.Starts.length : Int))) [] (by kernel_rfl) (by kernel_rfl) (by kernel_rfl) (cut_len _) ?_
      refine RunAt.chunk 1 [⟨.d (.sl (List.map Comb.d r_1)), []⟩] (by kernel_rfl) ?_
      refine RunAt.cut (some 40) .lenL [] none [.d (.sl (List.map Comb.d r_1))] (.d (.int .i64 (r_1.length : Int))) [] (by kernel_rfl) (by kernel_rfl) (by kernel_rfl) (cut_len _) ?_
      refine RunAt.chunk 3 [⟨.d (.bool ((r_3.1.Starts.length : Int) != (r_1.length : Int))), []⟩, ⟨.d (.bool ((r_3.1.Starts.length : Int) != (r_1.length : Int))), []⟩, ⟨.d (.bool ((r_3.1.Starts.length : Int) != (r_1.length : Int))), []⟩] (by kernel_rfl) ?_
      cases hb_3 : (((r_3.1.Starts.length : Int) != (r_1.length : Int)) : Bool) with
      | true =>
        replace h := ite_t hb_3 h
        refine RunAt.chunk 7 [⟨.tup [], []⟩, ⟨.tup [], []⟩, ⟨.tup [], []⟩, ⟨.tup [], []⟩, ⟨.tup [], []⟩, ⟨.tup [], []⟩, ⟨.d (.bool true), []⟩] (by kernel_rfl) ?_
        refine RunAt.done (by kernel_rfl) ?_
        refine kS_nrm ?_
        refine Runs.cond_t (by kernel_rfl) ?_
        refine Runs.seq ?_
        refine Runs.ops ?_
        refine RunAt.chunk 1 [⟨.d (.bool false), []⟩] (by kernel_rfl) ?_
        refine RunAt.done (by kernel_rfl) ?_
        refine kS_nrm ?_
        refine Runs.ret ?_
        refine kS_ret ?_
        obtain rfl := Option.some.inj h
        exact ⟨Out.ret_ne, (by kernel_rfl)⟩
      | false =>
        replace h := ite_f hb_3 h
        refine RunAt.chunk 2 [⟨.ptr [5] 0 1, []⟩, ⟨.d (.sl (List.map D.bool r_3.1.Fixed)), []⟩] (by kernel_rfl) ?_
        refine RunAt.cut (some 46) .lenL [] none [.d (.sl (List.map D.bool r_3.1.Fixed))] (.d (.int .i64 (r_3.1.Fixed.length : Int))) [] (by kernel_rfl) (by kernel_rfl) (by kernel_rfl) (cut_len _) ?_
        refine RunAt.chunk 1 [⟨.d (.sl (List.map Comb.d r_1)), []⟩] (by kernel_rfl) ?_
        refine RunAt.cut (some 48) .lenL [] none [.d (.sl (List.map Comb.d r_1))] (.d (.int .i64 (r_1.length : Int))) [] (by kernel_rfl) (by kernel_rfl) (by kernel_rfl) (cut_len _) ?_
        refine RunAt.chunk 2 [⟨.d (.bool ((r_3.1.Fixed.length : Int) != (r_1.length : Int))), []⟩, ⟨.d (.bool ((r_3.1.Fixed.length : Int) != (r_1.length : Int))), []⟩] (by kernel_rfl) ?_
        refine RunAt.done (by kernel_rfl) ?_
        refine kS_nrm ?_
        cases hb_4 : (((r_3.1.Fixed.length : Int) != (r_1.length : Int)) : Bool) with
        | true =>
          replace h := ite_t hb_4 h
          refine Runs.cond_t (by kernel_rfl) ?_
          refine Runs.seq ?_
          refine Runs.ops ?_
          refine RunAt.chunk 1 [⟨.d (.bool false), []⟩] (by kernel_rfl) ?_
          refine RunAt.done (by kernel_rfl) ?_
          refine kS_nrm ?_
          refine Runs.ret ?_
          refine kS_ret ?_
          obtain rfl := Option.some.inj h
          exact ⟨Out.ret_ne, (by kernel_rfl)⟩
        | false =>
          replace h := ite_f hb_4 h
          refine Runs.cond_f (by kernel_rfl) ?_
          refine Runs.skip ?_
          refine kS_nrm ?_
          refine Runs.seq ?_
          refine Runs.ops ?_
          refine RunAt.chunk 5 [⟨.d (.agg [.bool false, .bool false, .bool false, .bool false, .bool false, .bool false, .bool false, .bool false]), []⟩, ⟨.ptr [7] 0 0, [([7], some (.cells [.d (.bool false), .d (.bool false), .d (.bool false), .d (.bool false), .d (.bool false), .d (.bool false), .d (.bool false), .d (.bool false)] 0))]⟩, ⟨.tup [], [([7], some (.cells [.d (.bool false), .d (.bool false), .d (.bool false), .d (.bool false), .d (.bool false), .d (.bool false), .d (.bool false), .d (.bool false)] 0))]⟩, ⟨.d (.int .i64 0), []⟩, ⟨.d (.int .i64 (-1)), []⟩] (by kernel_rfl) ?_
          refine RunAt.done (by kernel_rfl) ?_
          refine kS_nrm ?_
          refine Runs.seq ?_
          refine Runs.ops ?_
          refine RunAt.chunk 3 [⟨.d (.agg [.int .i64 9, .int .i64 9, .int .i64 9]), []⟩, ⟨.ptr [10] 0 0, [([10], some (.cells [.d (.int .i64 0), .d (.int .i64 0), .d (.int .i64 0)] 0))]⟩, ⟨.tup [], [([10], some (.cells [.d (.int .i64 9), .d (.int .i64 9), .d (.int .i64 9)] 0))]⟩] (by kernel_rfl) ?_
          refine RunAt.done (by kernel_rfl) ?_
          refine kS_nrm ?_
          refine Runs.seq ?_
          refine Runs.seq ?_
          refine Runs.ops ?_
          refine RunAt.chunk 1 [⟨.d (.sl (List.map Comb.d r_1)), []⟩] (by kernel_rfl) ?_
          refine RunAt.cut (some 54) .lenL [] none [.d (.sl (List.map Comb.d r_1))] (.d (.int .i64 (r_1.length : Int))) [] (by kernel_rfl) (by kernel_rfl) (by kernel_rfl) (cut_len _) ?_
          refine RunAt.chunk 2 [⟨.d (.int .i64 (IntKind.wrap .i64 ((r_1.length : Int) - 1))), []⟩, ⟨.d (.int .i64 (IntKind.wrap .i64 ((r_1.length : Int) - 1))), []⟩] (by kernel_rfl) ?_
          refine RunAt.done (by kernel_rfl) ?_
          refine kS_nrm ?_
          refine Runs.block ?_
          obtain ⟨e_1, he_1, h⟩ := bind_s h
          refine Runs.loop (fun x : ((A3 Int) × Int × Int) => hansomlaw41_LayPlaces_l24 r_3.1 ({ a0 := false, a1 := false, a2 := false, a3 := false, a4 := false, a5 := false, a6 := false, a7 := false } : (A8 Bool)) x.1 r_1 r_2 0 x.2.1 x.2.2) (fun (x : ((A3 Int) × Int × Int)) (g : Unit) => hansomlaw41_LayPlaces_h24 r_3.1 ({ a0 := false, a1 := false, a2 := false, a3 := false, a4 := false, a5 := false, a6 := false, a7 := false } : (A8 Bool)) x.1 r_1 r_2 0 x.2.1 x.2.2) (hansomlaw41_LayPlaces_P24 l_ r_3.1 ({ a0 := false, a1 := false, a2 := false, a3 := false, a4 := false, a5 := false, a6 := false, a7 := false } : (A8 Bool)) r_1 r_2 0) (fun x g r hr => hansomlaw41_LayPlaces_l24_ok l_ r_3.1 ({ a0 := false, a1 := false, a2 := false, a3 := false, a4 := false, a5 := false, a6 := false, a7 := false } : (A8 Bool)) x.1 r_1 r_2 0 x.2.1 x.2.2  r hr) () he_1 (Canon.nil (by kernel_rfl)) ?_
          rintro ⟨o, s⟩ hp
          obtain ⟨ho, g_1, hk_1⟩ := hp
          have ho' : o = .exit 0 := ho
          subst ho'
          refine kB_hit ?_
          refine kS_nrm ?_
          refine Runs.canon _ hk_1 ?_
          refine Runs.seq ?_
          refine Runs.seq ?_
          refine Runs.ops ?_
          refine RunAt.chunk 1 [⟨.d (.int .i64 0), []⟩] (by kernel_rfl) ?_
          refine RunAt.done (by kernel_rfl) ?_
          refine kS_nrm ?_
          refine Runs.block ?_
          obtain ⟨e_2, he_2, h⟩ := bind_s h
          refine Runs.loop (fun x : ((A8 Bool) × Int × Int) => hansomlaw41_LayPlaces_l45 r_3.1 x.1 e_1.1 r_1 r_2 x.2.1 e_1.2 x.2.2) (fun (x : ((A8 Bool) × Int × Int)) (g : Unit) => hansomlaw41_LayPlaces_h45 r_3.1 x.1 e_1.1 r_1 r_2 x.2.1 e_1.2 x.2.2) (hansomlaw41_LayPlaces_P45 l_ r_3.1 e_1.1 r_1 r_2 e_1.2) (fun x g r hr => hansomlaw41_LayPlaces_l45_ok l_ r_3.1 x.1 e_1.1 r_1 r_2 x.2.1 e_1.2 x.2.2  r hr) () he_2 (Canon.nil (by kernel_rfl)) ?_
          rintro ⟨o, s⟩ hp
          cases e_2 with
          | inl e_3 =>
            obtain ⟨ho, hf⟩ := hp
            have ho' : o = .ret := ho
            subst ho'
            refine kB_ret ?_
            refine kS_ret ?_
            obtain rfl := Option.some.inj h
            exact ⟨Out.ret_ne, hf⟩
          | inr e_4 =>
            obtain ⟨ho, g_2, hk_2⟩ := hp
            have ho' : o = .exit 2 := ho
            subst ho'
            refine kB_hit ?_
            refine kS_nrm ?_
            refine Runs.canon _ hk_2 ?_
            refine Runs.seq ?_
            refine Runs.ops ?_
            obtain ⟨r_4, hr_4, h⟩ := bind_s h
            have hc_4 := hansomlaw41_awake_L r_4 hr_4
            refine RunAt.cut (some 228) (.callf 45) [] none [] (.d (.bool r_4)) [] (by kernel_rfl) (by kernel_rfl) (by kernel_rfl) (cut_call (call_of (ws := []) (us := []) (by kernel_rfl) (by kernel_rfl) hc_4 (by kernel_rfl) (by kernel_rfl))) ?_
            refine RunAt.chunk 1 [⟨.d (.bool r_4), []⟩] (by kernel_rfl) ?_
            cases hb_5 : (r_4 : Bool) with
            | true =>
              replace h := ite_t hb_5 h
              refine RunAt.chunk 6 [⟨.ptr [5] 0 3, []⟩, ⟨.d (.int .i64 r_3.1.Size), []⟩, ⟨.d (.int .i64 e_4), []⟩, ⟨.d (.bool (r_3.1.Size == e_4)), []⟩, ⟨.d (.bool (r_3.1.Size == e_4)), []⟩, ⟨.d (.bool (r_3.1.Size == e_4)), []⟩] (by kernel_rfl) ?_
              cases hb_6 : ((r_3.1.Size == e_4) : Bool) with
              | true =>
                replace h := ite_t hb_6 h
                refine RunAt.chunk 1 [⟨.d (.sl (List.map Comb.d r_1)), []⟩] (by kernel_rfl) ?_
                obtain ⟨r_5, hr_5, h⟩ := bind_s h
                have hc_5 := lay_Stack_L r_1 r_5 hr_5
                refine RunAt.cut (some 237) (.callf 46) [] none [.d (.sl (List.map Comb.d r_1))] (.d (.int .i64 r_5)) [] (by kernel_rfl) (by kernel_rfl) (by kernel_rfl) (cut_call (call_of (ws := []) (us := []) (by kernel_rfl) (by kernel_rfl) hc_5 (by kernel_rfl) (by kernel_rfl))) ?_
                refine RunAt.chunk 4 [⟨.d (.int .i64 e_1.2), []⟩, ⟨.d (.bool (r_5 == e_1.2)), []⟩, ⟨.d (.bool (r_5 == e_1.2)), []⟩, ⟨.d (.bool (r_5 == e_1.2)), []⟩] (by kernel_rfl) ?_
                cases hb_7 : ((r_5 == e_1.2) : Bool) with
                | true =>
                  replace h := ite_t hb_7 h
                  refine RunAt.chunk 1 [⟨.d (api_Layout.d r_3.1), []⟩] (by kernel_rfl) ?_
                  obtain ⟨r_6, hr_6, h⟩ := bind_s h
                  have hc_6 := lay_Para_L r_3.1 (-1) r_6 hr_6
                  refine RunAt.cut (some 243) (.callf 44) [] none [.d (api_Layout.d r_3.1), .d (.int .i64 (-1))] (.d (.int .i64 r_6)) [] (by kernel_rfl) (by kernel_rfl) (by kernel_rfl) (cut_call (call_of (ws := []) (us := []) (by kernel_rfl) (by kernel_rfl) hc_6 (by kernel_rfl) (by kernel_rfl))) ?_
                  refine RunAt.chunk 3 [⟨.d (.bool (r_6 == 0)), []⟩, ⟨.d (.bool (r_6 == 0)), []⟩, ⟨.d (.bool (r_6 == 0)), []⟩] (by kernel_rfl) ?_
                  cases hb_8 : ((r_6 == 0) : Bool) with
                  | true =>
                    replace h := ite_t hb_8 h
                    refine RunAt.chunk 2 [⟨.d (api_Layout.d r_3.1), []⟩, ⟨.d (.sl (List.map Comb.d r_1)), []⟩] (by kernel_rfl) ?_
                    refine RunAt.cut (some 249) .lenL [] none [.d (.sl (List.map Comb.d r_1))] (.d (.int .i64 (r_1.length : Int))) [] (by kernel_rfl) (by kernel_rfl) (by kernel_rfl) (cut_len _) ?_
                    obtain ⟨r_7, hr_7, h⟩ := bind_s h
                    have hc_7 := lay_Para_L r_3.1 (r_1.length : Int) r_7 hr_7
                    refine RunAt.cut (some 250) (.callf 44) [] none [.d (api_Layout.d r_3.1), .d (.int .i64 (r_1.length : Int))] (.d (.int .i64 r_7)) [] (by kernel_rfl) (by kernel_rfl) (by kernel_rfl) (cut_call (call_of (ws := []) (us := []) (by kernel_rfl) (by kernel_rfl) hc_7 (by kernel_rfl) (by kernel_rfl))) ?_
                    refine RunAt.chunk 3 [⟨.d (.bool (r_7 == 0)), []⟩, ⟨.d (.bool (r_7 == 0)), []⟩, ⟨.d (.bool (r_7 == 0)), []⟩] (by kernel_rfl) ?_
                    refine RunAt.done (by kernel_rfl) ?_
                    refine kS_nrm ?_
                    refine Runs.ret ?_
                    obtain rfl := Option.some.inj h
                    exact ⟨Out.ret_ne, (by kernel_rfl)⟩
                  | false =>
                    replace h := ite_f hb_8 h
                    refine RunAt.chunk 7 [⟨.tup [], []⟩, ⟨.tup [], []⟩, ⟨.tup [], []⟩, ⟨.tup [], []⟩, ⟨.tup [], []⟩, ⟨.d (.bool false), []⟩, ⟨.d (.bool false), []⟩] (by kernel_rfl) ?_
                    refine RunAt.done (by kernel_rfl) ?_
                    refine kS_nrm ?_
                    refine Runs.ret ?_
                    obtain rfl := Option.some.inj h
                    exact ⟨Out.ret_ne, (by kernel_rfl)⟩
                | false =>
                  replace h := ite_f hb_7 h
                  refine RunAt.chunk 12 [⟨.tup [], []⟩, ⟨.tup [], []⟩, ⟨.tup [], []⟩, ⟨.d (.bool false), []⟩, ⟨.d (.bool false), []⟩, ⟨.tup [], []⟩, ⟨.tup [], []⟩, ⟨.tup [], []⟩, ⟨.tup [], []⟩, ⟨.tup [], []⟩, ⟨.d (.bool false), []⟩, ⟨.d (.bool false), []⟩] (by kernel_rfl) ?_
                  refine RunAt.done (by kernel_rfl) ?_
                  refine kS_nrm ?_
                  refine Runs.ret ?_
                  obtain rfl := Option.some.inj h
                  exact ⟨Out.ret_ne, (by kernel_rfl)⟩
              | false =>
                replace h := ite_f hb_6 h
                refine RunAt.chunk 18 [⟨.tup [], []⟩, ⟨.tup [], []⟩, ⟨.tup [], []⟩, ⟨.tup [], []⟩, ⟨.d (.bool false), []⟩, ⟨.d (.bool false), []⟩, ⟨.tup [], []⟩, ⟨.tup [], []⟩, ⟨.tup [], []⟩, ⟨.d (.bool false), []⟩, ⟨.d (.bool false), []⟩, ⟨.tup [], []⟩, ⟨.tup [], []⟩, ⟨.tup [], []⟩, ⟨.tup [], []⟩, ⟨.tup [], []⟩, ⟨.d (.bool false), []⟩, ⟨.d (.bool false), []⟩] (by kernel_rfl) ?_
                refine RunAt.done (by kernel_rfl) ?_
                refine kS_nrm ?_
                refine Runs.ret ?_
                obtain rfl := Option.some.inj h
                exact ⟨Out.ret_ne, (by kernel_rfl)⟩
            | false =>
              replace h := ite_f hb_5 h
              refine RunAt.chunk 24 [⟨.tup [], []⟩, ⟨.tup [], []⟩, ⟨.tup [], []⟩, ⟨.tup [], []⟩, ⟨.d (.bool false), []⟩, ⟨.d (.bool false), []⟩, ⟨.tup [], []⟩, ⟨.tup [], []⟩, ⟨.tup [], []⟩, ⟨.tup [], []⟩, ⟨.d (.bool false), []⟩, ⟨.d (.bool false), []⟩, ⟨.tup [], []⟩, ⟨.tup [], []⟩, ⟨.tup [], []⟩, ⟨.d (.bool false), []⟩, ⟨.d (.bool false), []⟩, ⟨.tup [], []⟩, ⟨.tup [], []⟩, ⟨.tup [], []⟩, ⟨.tup [], []⟩, ⟨.tup [], []⟩, ⟨.d (.bool false), []⟩, ⟨.d (.bool false), []⟩] (by kernel_rfl) ?_
              refine RunAt.done (by kernel_rfl) ?_
              refine kS_nrm ?_
              refine Runs.ret ?_
              obtain rfl := Option.some.inj h
              exact ⟨Out.ret_ne, (by kernel_rfl)⟩
theorem hansomlaw41_LayPlaces_L (l_ : (List Comb)) (r : Bool) (h : hansomlaw41_LayPlaces l_ = some r) : L 10 [.d (.sl (List.map Comb.d l_))] = some (.d (.bool r), [.d (.sl (List.map Comb.d l_))]) := by
  obtain ⟨p, ⟨hne, hf⟩, hr⟩ := hansomlaw41_LayPlaces_ok l_ r h
  obtain ⟨k, hk⟩ := run_of (F := F10) (args := [.d (.sl (List.map Comb.d l_))]) (ap := [.d (.sl (List.map Comb.d l_))]) (bx0 := updW (fun _ => none) []) rfl rfl (by kernel_rfl) ⟨p, ⟨hne, hf⟩, hr⟩
  exact lim_run (k := k) rfl hk
def hansomlaw41_LayMost_h10 (b_13 : (List Comb)) (n0 : Int) (k3 : Int) (i5 : Int) (v_13 : Nat) : St := ⟨tab [(0, .d (.int .i64 n0)), (3, .d (.int .i64 k3)), (4, .ref [13] v_13 0 (List.map Comb.d b_13).length 8), (5, .d (.int .i64 i5))], tabB [([13], some (.arr (List.map Comb.d b_13) v_13 false))]⟩
def hansomlaw41_LayMost_h21 (b_13 : (List Comb)) (n0 : Int) (k3 : Int) (v_13 : Nat) : St := ⟨tab [(0, .d (.int .i64 n0)), (3, .d (.int .i64 k3)), (4, .ref [13] v_13 0 (List.map Comb.d b_13).length 8)], tabB [([13], some (.arr (List.map Comb.d b_13) v_13 false))]⟩
def hansomlaw41_LayMost_Q (n_ : Int) (r : Bool) (p : Out × St) : Prop := (∀ i, p.1 ≠ .exit i) ∧ finF F11 [.d (.int .i64 n_)] p.2 = some (.d (.bool r), [.d (.int .i64 n_)])
def hansomlaw41_LayMost_P10 (n_ : Int) (n0 : Int) (k3 : Int) (e : (List Comb)) (p : Out × St) : Prop := p.1 = .exit 0 ∧ ∃ g : Nat, Canon [] [0, 3, 4] [[13]] p.2 (hansomlaw41_LayMost_h21 e n0 k3 g)
theorem hansomlaw41_LayMost_l10_ok (n_ : Int) (b_13 : (List Comb)) (n0 : Int) (k3 : Int) (i5 : Int) (v_13 : Nat) (r : (Lp ((List Comb) × Int) (List Comb))) (h : hansomlaw41_LayMost_l10 b_13 n0 k3 i5 = some r) : Runs L F11l10 (hansomlaw41_LayMost_h10 b_13 n0 k3 i5 v_13) (LQ [] [0, 3, 4, 5] [[13]] (fun (x : ((List Comb) × Int)) (g : Nat) => hansomlaw41_LayMost_h10 x.1 n0 k3 x.2 g) (hansomlaw41_LayMost_P10 n_ n0 k3) r) := by
  unfold hansomlaw41_LayMost_l10 at h
  refine Runs.seq ?_
  refine Runs.seq ?_
  refine Runs.ops ?_
  refine RunAt.chunk 3 [⟨.d (.int .i64 i5), []⟩, ⟨.d (.int .i64 k3), []⟩, ⟨.d (.bool (decide (i5 < k3))), []⟩] (by kernel_rfl) ?_
  refine RunAt.done (by kernel_rfl) ?_
  refine kS_nrm ?_
  cases hb_1 : ((decide (i5 < k3)) : Bool) with
  | true =>
    replace h := ite_t hb_1 h
    refine Runs.cond_t (by kernel_rfl) ?_
    refine Runs.skip ?_
    refine kS_nrm ?_
    refine Runs.seq ?_
    refine Runs.block ?_
    refine Runs.ops ?_
    refine RunAt.chunk 2 [⟨.ref [13] v_13 0 (List.map Comb.d b_13).length 8, []⟩, ⟨.mix [.d (.str []), .d (.str []), .d (.int .i64 3), .d (.int .i64 0), .d (.int .u16 0), .d (.int .u8 0), .d (.int .i64 65536), .nils], []⟩] (by kernel_rfl) ?_
    refine RunAt.cut (some 21) (.bslice (.agg [.str [], .str [], .int .i64 0, .int .i64 0, .int .u16 0, .int .u8 0, .int .i64 0, .sl []]) 1 [0]) [] none [.mix [.d (.str []), .d (.str []), .d (.int .i64 3), .d (.int .i64 0), .d (.int .u16 0), .d (.int .u8 0), .d (.int .i64 65536), .nils]] (.ref [21] 0 0 (List.map Comb.d ([({ Name := [], Class := [], Align := 3, Combine := 0, Frame := 0, Offset := 0, Len := 65536, Chunks := ([] : List Chunk) } : Comb)] : List Comb)).length 8) [([21], some (.arr (List.map Comb.d ([({ Name := [], Class := [], Align := 3, Combine := 0, Frame := 0, Offset := 0, Len := 65536, Chunks := ([] : List Chunk) } : Comb)] : List Comb)) 0 false))] (by kernel_rfl) (by kernel_rfl) (by kernel_rfl) (cut_bslice (e := Comb.d) (l := ([({ Name := [], Class := [], Align := 3, Combine := 0, Frame := 0, Offset := 0, Len := 65536, Chunks := ([] : List Chunk) } : Comb)] : List Comb)) (ws := []) (ds := [.agg [.str [], .str [], .int .i64 3, .int .i64 0, .int .u16 0, .int .u8 0, .int .i64 65536, .sl (List.map Chunk.d ([] : List Chunk))]]) (snapsM_cons (ws := []) (snap_mix (snaps_d (snaps_d (snaps_d (snaps_d (snaps_d (snaps_d (snaps_d (snaps_n Chunk.d snaps_nil))))))))) snapsM_nil) (by kernel_rfl) (by kernel_rfl) (by kernel_rfl) (by kernel_rfl)) ?_
    obtain ⟨z_1, hz_1, h⟩ := bind_s h
    refine RunAt.cut (some 22) (.append 8 88 false) [] none [.ref [13] v_13 0 (List.map Comb.d b_13).length 8, .ref [21] 0 0 (List.map Comb.d ([({ Name := [], Class := [], Align := 3, Combine := 0, Frame := 0, Offset := 0, Len := 65536, Chunks := ([] : List Chunk) } : Comb)] : List Comb)).length 8] (.ref [13] (v_13 + 1) 0 (List.map Comb.d z_1).length 8) [([21], some (.arr (List.map Comb.d ([({ Name := [], Class := [], Align := 3, Combine := 0, Frame := 0, Offset := 0, Len := 65536, Chunks := ([] : List Chunk) } : Comb)] : List Comb)) 0 true)), ([13], some (.arr (List.map Comb.d z_1) (v_13 + 1) false))] (by kernel_rfl) (by kernel_rfl) (by kernel_rfl) (cut_appR (e := Comb.d) (l := b_13) (fz := false) (ws := [([21], some (.arr (List.map Comb.d ([({ Name := [], Class := [], Align := 3, Combine := 0, Frame := 0, Offset := 0, Len := 65536, Chunks := ([] : List Chunk) } : Comb)] : List Comb)) 0 true))]) (ap_ref (e := Comb.d) (l := ([({ Name := [], Class := [], Align := 3, Combine := 0, Frame := 0, Offset := 0, Len := 65536, Chunks := ([] : List Chunk) } : Comb)] : List Comb)) (fz := false) (by kernel_rfl) (by kernel_rfl) rfl) (fun _ => rfl) hz_1 (by kernel_rfl) (by kernel_rfl) rfl) ?_
    refine RunAt.chunk 1 [⟨.ref [13] (v_13 + 1) 0 (List.map Comb.d z_1).length 8, []⟩] (by kernel_rfl) ?_
    refine RunAt.done (by kernel_rfl) ?_
    refine kB_nrm ?_
    refine kS_nrm ?_
    refine Runs.ops ?_
    refine RunAt.chunk 3 [⟨.d (.int .i64 i5), []⟩, ⟨.d (.int .i64 (IntKind.wrap .i64 (i5 + 1))), []⟩, ⟨.d (.int .i64 (IntKind.wrap .i64 (i5 + 1))), []⟩] (by kernel_rfl) ?_
    refine RunAt.done (by kernel_rfl) ?_
    obtain rfl := Option.some.inj h
    exact ⟨rfl, (v_13 + 1), (Canon.nil (by kernel_rfl))⟩
  | false =>
    replace h := ite_f hb_1 h
    refine Runs.cond_f (by kernel_rfl) ?_
    refine Runs.exit ?_
    refine kS_exit ?_
    obtain rfl := Option.some.inj h
    exact ⟨nofun, rfl, v_13, (Canon.nil (by kernel_rfl))⟩
theorem hansomlaw41_LayMost_ok (n_ : Int) (r : Bool) (h : hansomlaw41_LayMost n_ = some r) : Runs L F11.body ⟨tmOf [.d (.int .i64 n_)] 0, updW (fun _ => none) []⟩ (hansomlaw41_LayMost_Q n_ r) := by
  unfold hansomlaw41_LayMost at h
  refine Runs.seq ?_
  refine Runs.ops ?_
  refine RunAt.chunk 1 [⟨.d (.bool false), []⟩] (by kernel_rfl) ?_
  refine RunAt.done (by kernel_rfl) ?_
  refine kS_nrm ?_
  refine Runs.seq ?_
  refine Runs.ops ?_
  refine RunAt.chunk 4 [⟨.d (.int .i64 n_), []⟩, ⟨.d (.int .i64 (bitsOp .and .i64 n_ 3)), []⟩, ⟨.d (.int .i64 (IntKind.wrap .i64 (8 + (bitsOp .and .i64 n_ 3)))), []⟩, ⟨.d (.int .i64 (IntKind.wrap .i64 (8 + (bitsOp .and .i64 n_ 3)))), []⟩] (by kernel_rfl) ?_
  refine RunAt.done (by kernel_rfl) ?_
  refine kS_nrm ?_
  refine Runs.seq ?_
  refine Runs.ops ?_
  refine RunAt.chunk 2 [⟨.ref [13] 0 0 (List.map Comb.d ([] : List Comb)).length 8, [([13], some (.arr (List.map Comb.d ([] : List Comb)) 0 false))]⟩, ⟨.ref [13] 0 0 (List.map Comb.d ([] : List Comb)).length 8, []⟩] (by kernel_rfl) ?_
  refine RunAt.done (by kernel_rfl) ?_
  refine kS_nrm ?_
  refine Runs.seq ?_
  refine Runs.seq ?_
  refine Runs.ops ?_
  refine RunAt.chunk 1 [⟨.d (.int .i64 0), []⟩] (by kernel_rfl) ?_
  refine RunAt.done (by kernel_rfl) ?_
  refine kS_nrm ?_
  refine Runs.block ?_
  obtain ⟨e_1, he_1, h⟩ := bind_s h
  refine Runs.loop (fun x : ((List Comb) × Int) => hansomlaw41_LayMost_l10 x.1 n_ (IntKind.wrap .i64 (8 + (bitsOp .and .i64 n_ 3))) x.2) (fun (x : ((List Comb) × Int)) (g : Nat) => hansomlaw41_LayMost_h10 x.1 n_ (IntKind.wrap .i64 (8 + (bitsOp .and .i64 n_ 3))) x.2 g) (hansomlaw41_LayMost_P10 n_ n_ (IntKind.wrap .i64 (8 + (bitsOp .and .i64 n_ 3)))) (fun x g r hr => hansomlaw41_LayMost_l10_ok n_ x.1 n_ (IntKind.wrap .i64 (8 + (bitsOp .and .i64 n_ 3))) x.2 g r hr) 0 he_1 (Canon.nil (by kernel_rfl)) ?_
  rintro ⟨o, s⟩ hp
  obtain ⟨ho, g_1, hk_1⟩ := hp
  have ho' : o = .exit 0 := ho
  subst ho'
  refine kB_hit ?_
  refine kS_nrm ?_
  refine Runs.canon _ hk_1 ?_
  refine Runs.seq ?_
  refine Runs.ops ?_
  refine RunAt.chunk 4 [⟨.d (.int .i64 n_), []⟩, ⟨.d (.int .i64 (shrI .i64 n_ 2)), []⟩, ⟨.d (.int .i64 (bitsOp .and .i64 (shrI .i64 n_ 2) 65535)), []⟩, ⟨.d (.int .i64 (bitsOp .and .i64 (shrI .i64 n_ 2) 65535)), []⟩] (by kernel_rfl) ?_
  refine RunAt.done (by kernel_rfl) ?_
  refine kS_nrm ?_
  refine Runs.seq ?_
  refine Runs.ops ?_
  refine RunAt.chunk 3 [⟨.ref [13] g_1 0 (List.map Comb.d e_1).length 8, []⟩, ⟨.d (.int .i64 (bitsOp .and .i64 (shrI .i64 n_ 2) 65535)), []⟩, ⟨.mix [.d (.str []), .d (.str []), .d (.int .i64 1), .d (.int .i64 0), .d (.int .u16 0), .d (.int .u8 0), .d (.int .i64 (bitsOp .and .i64 (shrI .i64 n_ 2) 65535)), .nils], []⟩] (by kernel_rfl) ?_
  refine RunAt.cut (some 29) (.bslice (.agg [.str [], .str [], .int .i64 0, .int .i64 0, .int .u16 0, .int .u8 0, .int .i64 0, .sl []]) 1 [0]) [] none [.mix [.d (.str []), .d (.str []), .d (.int .i64 1), .d (.int .i64 0), .d (.int .u16 0), .d (.int .u8 0), .d (.int .i64 (bitsOp .and .i64 (shrI .i64 n_ 2) 65535)), .nils]] (.ref [29] 0 0 (List.map Comb.d ([({ Name := [], Class := [], Align := 1, Combine := 0, Frame := 0, Offset := 0, Len := (bitsOp .and .i64 (shrI .i64 n_ 2) 65535), Chunks := ([] : List Chunk) } : Comb)] : List Comb)).length 8) [([29], some (.arr (List.map Comb.d ([({ Name := [], Class := [], Align := 1, Combine := 0, Frame := 0, Offset := 0, Len := (bitsOp .and .i64 (shrI .i64 n_ 2) 65535), Chunks := ([] : List Chunk) } : Comb)] : List Comb)) 0 false))] (by kernel_rfl) (by kernel_rfl) (by kernel_rfl) (cut_bslice (e := Comb.d) (l := ([({ Name := [], Class := [], Align := 1, Combine := 0, Frame := 0, Offset := 0, Len := (bitsOp .and .i64 (shrI .i64 n_ 2) 65535), Chunks := ([] : List Chunk) } : Comb)] : List Comb)) (ws := []) (ds := [.agg [.str [], .str [], .int .i64 1, .int .i64 0, .int .u16 0, .int .u8 0, .int .i64 (bitsOp .and .i64 (shrI .i64 n_ 2) 65535), .sl (List.map Chunk.d ([] : List Chunk))]]) (snapsM_cons (ws := []) (snap_mix (snaps_d (snaps_d (snaps_d (snaps_d (snaps_d (snaps_d (snaps_d (snaps_n Chunk.d snaps_nil))))))))) snapsM_nil) (by kernel_rfl) (by kernel_rfl) (by kernel_rfl) (by kernel_rfl)) ?_
  obtain ⟨z_1, hz_1, h⟩ := bind_s h
  refine RunAt.cut (some 30) (.append 8 88 false) [] none [.ref [13] g_1 0 (List.map Comb.d e_1).length 8, .ref [29] 0 0 (List.map Comb.d ([({ Name := [], Class := [], Align := 1, Combine := 0, Frame := 0, Offset := 0, Len := (bitsOp .and .i64 (shrI .i64 n_ 2) 65535), Chunks := ([] : List Chunk) } : Comb)] : List Comb)).length 8] (.ref [13] (g_1 + 1) 0 (List.map Comb.d z_1).length 8) [([29], some (.arr (List.map Comb.d ([({ Name := [], Class := [], Align := 1, Combine := 0, Frame := 0, Offset := 0, Len := (bitsOp .and .i64 (shrI .i64 n_ 2) 65535), Chunks := ([] : List Chunk) } : Comb)] : List Comb)) 0 true)), ([13], some (.arr (List.map Comb.d z_1) (g_1 + 1) false))] (by kernel_rfl) (by kernel_rfl) (by kernel_rfl) (cut_appR (e := Comb.d) (l := e_1) (fz := false) (ws := [([29], some (.arr (List.map Comb.d ([({ Name := [], Class := [], Align := 1, Combine := 0, Frame := 0, Offset := 0, Len := (bitsOp .and .i64 (shrI .i64 n_ 2) 65535), Chunks := ([] : List Chunk) } : Comb)] : List Comb)) 0 true))]) (ap_ref (e := Comb.d) (l := ([({ Name := [], Class := [], Align := 1, Combine := 0, Frame := 0, Offset := 0, Len := (bitsOp .and .i64 (shrI .i64 n_ 2) 65535), Chunks := ([] : List Chunk) } : Comb)] : List Comb)) (fz := false) (by kernel_rfl) (by kernel_rfl) rfl) (fun _ => rfl) hz_1 (by kernel_rfl) (by kernel_rfl) rfl) ?_
  refine RunAt.chunk 1 [⟨.ref [13] (g_1 + 1) 0 (List.map Comb.d z_1).length 8, []⟩] (by kernel_rfl) ?_
  refine RunAt.done (by kernel_rfl) ?_
  refine kS_nrm ?_
  refine Runs.seq ?_
  refine Runs.ops ?_
  refine RunAt.chunk 1 [⟨.ref [13] (g_1 + 1) 0 (List.map Comb.d z_1).length 8, []⟩] (by kernel_rfl) ?_
  obtain ⟨r_1, hr_1, h⟩ := bind_s h
  have hc_1 := lay_Place_L z_1 r_1 hr_1
  refine RunAt.cut (some 33) (.callf 42) [] none [.ref [13] (g_1 + 1) 0 (List.map Comb.d z_1).length 8] (.tup [.d (api_Layout.d r_1.1), .d (.int .i64 r_1.2)]) [([13], some (.arr (List.map Comb.d z_1) (g_1 + 1) true))] (by kernel_rfl) (by kernel_rfl) (by kernel_rfl) (cut_call (call_of (ws := [([13], some (.arr (List.map Comb.d z_1) (g_1 + 1) true))]) (us := [([13], some (.arr (List.map Comb.d z_1) (g_1 + 1) true))]) (by kernel_rfl) (gives_cons (ws := [([13], some (.arr (List.map Comb.d z_1) (g_1 + 1) true))]) (give_ref (e := Comb.d) (l := z_1) (fz := false) (by kernel_rfl) (by kernel_rfl) rfl) gives_nil) hc_1 (by kernel_rfl) (by kernel_rfl))) ?_
  refine RunAt.chunk 6 [⟨.tup [.d (api_Layout.d r_1.1), .d (.int .i64 r_1.2)], []⟩, ⟨.d (api_Layout.d r_1.1), []⟩, ⟨.d (.int .i64 r_1.2), []⟩, ⟨.ptr [7] 0 0, [([7], some (.cells [.nils, .nils, .nils, .d (.int .i64 0)] 0))]⟩, ⟨.tup [], [([7], some (.cells [.d (.sl (List.map (D.int .i64) r_1.1.Starts)), .d (.sl (List.map D.bool r_1.1.Fixed)), .d (.sl (List.map Group.d r_1.1.Groups)), .d (.int .i64 r_1.1.Size)] 0))]⟩, ⟨.d (.int .i64 r_1.2), []⟩] (by kernel_rfl) ?_
  refine RunAt.done (by kernel_rfl) ?_
  refine kS_nrm ?_
  refine Runs.seq ?_
  refine Runs.ops ?_
  refine RunAt.chunk 5 [⟨.d (.int .i64 (IntKind.wrap .i64 (8 + (bitsOp .and .i64 n_ 3)))), []⟩, ⟨.d (.int .i64 (IntKind.wrap .i64 ((IntKind.wrap .i64 (8 + (bitsOp .and .i64 n_ 3))) * 65536))), []⟩, ⟨.d (.int .i64 (bitsOp .and .i64 (shrI .i64 n_ 2) 65535)), []⟩, ⟨.d (.int .i64 (IntKind.wrap .i64 ((IntKind.wrap .i64 ((IntKind.wrap .i64 (8 + (bitsOp .and .i64 n_ 3))) * 65536)) + (bitsOp .and .i64 (shrI .i64 n_ 2) 65535)))), []⟩, ⟨.d (.int .i64 (IntKind.wrap .i64 ((IntKind.wrap .i64 ((IntKind.wrap .i64 (8 + (bitsOp .and .i64 n_ 3))) * 65536)) + (bitsOp .and .i64 (shrI .i64 n_ 2) 65535)))), []⟩] (by kernel_rfl) ?_
  refine RunAt.done (by kernel_rfl) ?_
  refine kS_nrm ?_
  refine Runs.seq ?_
  refine Runs.ops ?_
  obtain ⟨r_2, hr_2, h⟩ := bind_s h
  have hc_2 := hansomlaw41_awake_L r_2 hr_2
  refine RunAt.cut (some 40) (.callf 45) [] none [] (.d (.bool r_2)) [] (by kernel_rfl) (by kernel_rfl) (by kernel_rfl) (cut_call (call_of (ws := []) (us := []) (by kernel_rfl) (by kernel_rfl) hc_2 (by kernel_rfl) (by kernel_rfl))) ?_
  refine RunAt.chunk 1 [⟨.d (.bool r_2), []⟩] (by kernel_rfl) ?_
  cases hb_1 : (r_2 : Bool) with
  | true =>
    replace h := ite_t hb_1 h
    refine RunAt.chunk 7 [⟨.d (.int .i64 r_1.2), []⟩, ⟨.d (.bool (r_1.2 == 0)), []⟩, ⟨.d (.int .i64 (IntKind.wrap .i64 ((IntKind.wrap .i64 ((IntKind.wrap .i64 (8 + (bitsOp .and .i64 n_ 3))) * 65536)) + (bitsOp .and .i64 (shrI .i64 n_ 2) 65535)))), []⟩, ⟨.d (.bool (decide ((IntKind.wrap .i64 ((IntKind.wrap .i64 ((IntKind.wrap .i64 (8 + (bitsOp .and .i64 n_ 3))) * 65536)) + (bitsOp .and .i64 (shrI .i64 n_ 2) 65535))) ≤ 655360))), []⟩, ⟨.d (.bool ((r_1.2 == 0) == (decide ((IntKind.wrap .i64 ((IntKind.wrap .i64 ((IntKind.wrap .i64 (8 + (bitsOp .and .i64 n_ 3))) * 65536)) + (bitsOp .and .i64 (shrI .i64 n_ 2) 65535))) ≤ 655360)))), []⟩, ⟨.d (.bool ((r_1.2 == 0) == (decide ((IntKind.wrap .i64 ((IntKind.wrap .i64 ((IntKind.wrap .i64 (8 + (bitsOp .and .i64 n_ 3))) * 65536)) + (bitsOp .and .i64 (shrI .i64 n_ 2) 65535))) ≤ 655360)))), []⟩, ⟨.d (.bool ((r_1.2 == 0) == (decide ((IntKind.wrap .i64 ((IntKind.wrap .i64 ((IntKind.wrap .i64 (8 + (bitsOp .and .i64 n_ 3))) * 65536)) + (bitsOp .and .i64 (shrI .i64 n_ 2) 65535))) ≤ 655360)))), []⟩] (by kernel_rfl) ?_
    cases hb_2 : (((r_1.2 == 0) == (decide ((IntKind.wrap .i64 ((IntKind.wrap .i64 ((IntKind.wrap .i64 (8 + (bitsOp .and .i64 n_ 3))) * 65536)) + (bitsOp .and .i64 (shrI .i64 n_ 2) 65535))) ≤ 655360))) : Bool) with
    | true =>
      replace h := ite_t hb_2 h
      refine RunAt.chunk 3 [⟨.d (.int .i64 r_1.2), []⟩, ⟨.d (.bool (r_1.2 == 0)), []⟩, ⟨.d (.bool (r_1.2 == 0)), []⟩] (by kernel_rfl) ?_
      cases hb_3 : ((r_1.2 == 0) : Bool) with
      | true =>
        replace h := ite_t hb_3 h
        refine RunAt.chunk 6 [⟨.ptr [7] 0 3, []⟩, ⟨.d (.int .i64 r_1.1.Size), []⟩, ⟨.d (.int .i64 (IntKind.wrap .i64 ((IntKind.wrap .i64 ((IntKind.wrap .i64 (8 + (bitsOp .and .i64 n_ 3))) * 65536)) + (bitsOp .and .i64 (shrI .i64 n_ 2) 65535)))), []⟩, ⟨.d (.bool (r_1.1.Size == (IntKind.wrap .i64 ((IntKind.wrap .i64 ((IntKind.wrap .i64 (8 + (bitsOp .and .i64 n_ 3))) * 65536)) + (bitsOp .and .i64 (shrI .i64 n_ 2) 65535))))), []⟩, ⟨.d (.bool (r_1.1.Size == (IntKind.wrap .i64 ((IntKind.wrap .i64 ((IntKind.wrap .i64 (8 + (bitsOp .and .i64 n_ 3))) * 65536)) + (bitsOp .and .i64 (shrI .i64 n_ 2) 65535))))), []⟩, ⟨.d (.bool (r_1.1.Size == (IntKind.wrap .i64 ((IntKind.wrap .i64 ((IntKind.wrap .i64 (8 + (bitsOp .and .i64 n_ 3))) * 65536)) + (bitsOp .and .i64 (shrI .i64 n_ 2) 65535))))), []⟩] (by kernel_rfl) ?_
        cases hb_4 : ((r_1.1.Size == (IntKind.wrap .i64 ((IntKind.wrap .i64 ((IntKind.wrap .i64 (8 + (bitsOp .and .i64 n_ 3))) * 65536)) + (bitsOp .and .i64 (shrI .i64 n_ 2) 65535)))) : Bool) with
        | true =>
          replace h := ite_t hb_4 h
          refine RunAt.chunk 11 [⟨.tup [], []⟩, ⟨.tup [], []⟩, ⟨.tup [], []⟩, ⟨.tup [], []⟩, ⟨.tup [], []⟩, ⟨.tup [], []⟩, ⟨.tup [], []⟩, ⟨.tup [], []⟩, ⟨.d (.bool true), []⟩, ⟨.d (.bool true), []⟩, ⟨.d (.bool true), []⟩] (by kernel_rfl) ?_
          refine RunAt.done (by kernel_rfl) ?_
          refine kS_nrm ?_
          refine Runs.ret ?_
          obtain rfl := Option.some.inj h
          exact ⟨Out.ret_ne, (by kernel_rfl)⟩
        | false =>
          replace h := ite_f hb_4 h
          refine RunAt.chunk 3 [⟨.d (.int .i64 r_1.2), []⟩, ⟨.d (.bool (r_1.2 == 8)), []⟩, ⟨.d (.bool (r_1.2 == 8)), []⟩] (by kernel_rfl) ?_
          cases hb_5 : ((r_1.2 == 8) : Bool) with
          | true =>
            replace h := ite_t hb_5 h
            refine RunAt.chunk 2 [⟨.ptr [7] 0 0, []⟩, ⟨.d (.sl (List.map (D.int .i64) r_1.1.Starts)), []⟩] (by kernel_rfl) ?_
            refine RunAt.cut (some 63) .lenL [] none [.d (.sl (List.map (D.int .i64) r_1.1.Starts))] (.d (.int .i64 (r_1.1.Starts.length : Int))) [] (by kernel_rfl) (by kernel_rfl) (by kernel_rfl) (cut_len _) ?_
            refine RunAt.chunk 5 [⟨.d (.bool ((r_1.1.Starts.length : Int) == 0)), []⟩, ⟨.d (.bool ((r_1.1.Starts.length : Int) == 0)), []⟩, ⟨.d (.bool ((r_1.1.Starts.length : Int) == 0)), []⟩, ⟨.d (.bool ((r_1.1.Starts.length : Int) == 0)), []⟩, ⟨.d (.bool ((r_1.1.Starts.length : Int) == 0)), []⟩] (by kernel_rfl) ?_
            refine RunAt.done (by kernel_rfl) ?_
            refine kS_nrm ?_
            refine Runs.ret ?_
            obtain rfl := Option.some.inj h
            exact ⟨Out.ret_ne, (by kernel_rfl)⟩
          | false =>
            replace h := ite_f hb_5 h
            refine RunAt.chunk 8 [⟨.tup [], []⟩, ⟨.tup [], []⟩, ⟨.tup [], []⟩, ⟨.tup [], []⟩, ⟨.d (.bool false), []⟩, ⟨.d (.bool false), []⟩, ⟨.d (.bool false), []⟩, ⟨.d (.bool false), []⟩] (by kernel_rfl) ?_
            refine RunAt.done (by kernel_rfl) ?_
            refine kS_nrm ?_
            refine Runs.ret ?_
            obtain rfl := Option.some.inj h
            exact ⟨Out.ret_ne, (by kernel_rfl)⟩
      | false =>
        replace h := ite_f hb_3 h
        refine RunAt.chunk 9 [⟨.tup [], []⟩, ⟨.tup [], []⟩, ⟨.tup [], []⟩, ⟨.tup [], []⟩, ⟨.d (.bool false), []⟩, ⟨.d (.bool false), []⟩, ⟨.d (.int .i64 r_1.2), []⟩, ⟨.d (.bool (r_1.2 == 8)), []⟩, ⟨.d (.bool (r_1.2 == 8)), []⟩] (by kernel_rfl) ?_
        cases hb_6 : ((r_1.2 == 8) : Bool) with
        | true =>
          replace h := ite_t hb_6 h
          refine RunAt.chunk 2 [⟨.ptr [7] 0 0, []⟩, ⟨.d (.sl (List.map (D.int .i64) r_1.1.Starts)), []⟩] (by kernel_rfl) ?_
          refine RunAt.cut (some 63) .lenL [] none [.d (.sl (List.map (D.int .i64) r_1.1.Starts))] (.d (.int .i64 (r_1.1.Starts.length : Int))) [] (by kernel_rfl) (by kernel_rfl) (by kernel_rfl) (cut_len _) ?_
          refine RunAt.chunk 5 [⟨.d (.bool ((r_1.1.Starts.length : Int) == 0)), []⟩, ⟨.d (.bool ((r_1.1.Starts.length : Int) == 0)), []⟩, ⟨.d (.bool ((r_1.1.Starts.length : Int) == 0)), []⟩, ⟨.d (.bool ((r_1.1.Starts.length : Int) == 0)), []⟩, ⟨.d (.bool ((r_1.1.Starts.length : Int) == 0)), []⟩] (by kernel_rfl) ?_
          refine RunAt.done (by kernel_rfl) ?_
          refine kS_nrm ?_
          refine Runs.ret ?_
          obtain rfl := Option.some.inj h
          exact ⟨Out.ret_ne, (by kernel_rfl)⟩
        | false =>
          replace h := ite_f hb_6 h
          refine RunAt.chunk 8 [⟨.tup [], []⟩, ⟨.tup [], []⟩, ⟨.tup [], []⟩, ⟨.tup [], []⟩, ⟨.d (.bool false), []⟩, ⟨.d (.bool false), []⟩, ⟨.d (.bool false), []⟩, ⟨.d (.bool false), []⟩] (by kernel_rfl) ?_
          refine RunAt.done (by kernel_rfl) ?_
          refine kS_nrm ?_
          refine Runs.ret ?_
          obtain rfl := Option.some.inj h
          exact ⟨Out.ret_ne, (by kernel_rfl)⟩
    | false =>
      replace h := ite_f hb_2 h
      refine RunAt.chunk 20 [⟨.tup [], []⟩, ⟨.tup [], []⟩, ⟨.tup [], []⟩, ⟨.tup [], []⟩, ⟨.tup [], []⟩, ⟨.tup [], []⟩, ⟨.tup [], []⟩, ⟨.tup [], []⟩, ⟨.tup [], []⟩, ⟨.tup [], []⟩, ⟨.tup [], []⟩, ⟨.tup [], []⟩, ⟨.tup [], []⟩, ⟨.tup [], []⟩, ⟨.tup [], []⟩, ⟨.tup [], []⟩, ⟨.tup [], []⟩, ⟨.tup [], []⟩, ⟨.d (.bool false), []⟩, ⟨.d (.bool false), []⟩] (by kernel_rfl) ?_
      refine RunAt.done (by kernel_rfl) ?_
      refine kS_nrm ?_
      refine Runs.ret ?_
      obtain rfl := Option.some.inj h
      exact ⟨Out.ret_ne, (by kernel_rfl)⟩
  | false =>
    replace h := ite_f hb_1 h
    refine RunAt.chunk 27 [⟨.tup [], []⟩, ⟨.tup [], []⟩, ⟨.tup [], []⟩, ⟨.tup [], []⟩, ⟨.tup [], []⟩, ⟨.d (.bool false), []⟩, ⟨.d (.bool false), []⟩, ⟨.tup [], []⟩, ⟨.tup [], []⟩, ⟨.tup [], []⟩, ⟨.tup [], []⟩, ⟨.tup [], []⟩, ⟨.tup [], []⟩, ⟨.tup [], []⟩, ⟨.tup [], []⟩, ⟨.tup [], []⟩, ⟨.tup [], []⟩, ⟨.tup [], []⟩, ⟨.tup [], []⟩, ⟨.tup [], []⟩, ⟨.tup [], []⟩, ⟨.tup [], []⟩, ⟨.tup [], []⟩, ⟨.tup [], []⟩, ⟨.tup [], []⟩, ⟨.d (.bool false), []⟩, ⟨.d (.bool false), []⟩] (by kernel_rfl) ?_
    refine RunAt.done (by kernel_rfl) ?_
    refine kS_nrm ?_
    refine Runs.ret ?_
    obtain rfl := Option.some.inj h
    exact ⟨Out.ret_ne, (by kernel_rfl)⟩
theorem hansomlaw41_LayMost_L (n_ : Int) (r : Bool) (h : hansomlaw41_LayMost n_ = some r) : L 11 [.d (.int .i64 n_)] = some (.d (.bool r), [.d (.int .i64 n_)]) := by
  obtain ⟨p, ⟨hne, hf⟩, hr⟩ := hansomlaw41_LayMost_ok n_ r h
  obtain ⟨k, hk⟩ := run_of (F := F11) (args := [.d (.int .i64 n_)]) (ap := [.d (.int .i64 n_)]) (bx0 := updW (fun _ => none) []) rfl rfl (by kernel_rfl) ⟨p, ⟨hne, hf⟩, hr⟩
  exact lim_run (k := k) rfl hk
end Go.Es.Lay
