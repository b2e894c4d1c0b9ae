/- How arguments are read. No condition. -/
import Derived.Test.YthjlplonbkhilaaEsD
import Derived.Test.YthjlplonbkhilaaChecked
import Derived.Test.YthjlplonbkhilaaOmcP
import Derived.KernelRfl
set_option linter.unusedVariables false
set_option linter.unusedSimpArgs false
set_option maxRecDepth 100000
set_option maxHeartbeats 4000000
namespace Go.Es.Omc
open Go.Proofs
theorem dec9 : Dec Try.prog 9 (fun s => [.str s]) wfS := dec_str (by kernel_rfl)
theorem dec5 : Dec Try.prog 5 (fun n => [.int .u8 n]) (wfI .u8) := dec_int (by kernel_rfl)
theorem dec71 : Dec Try.prog 71 Comment.cs Comment.wf := by
  intro l h
  obtain ⟨hl, hf⟩ := of_struct h (by kernel_rfl)
  have hl : l.length = 3 := hl.trans (by kernel_rfl)
  match l, hl with
  | [c0, c1, c2], _ =>
    obtain ⟨v0, e0, w0⟩ := dec5 _ (hf 5 0 1 (List.mem_of_getElem? (i := 0) (by kernel_rfl)) (by kernel_rfl))
    have e0 : [c0] = [(.int .u8 v0 : D)] := e0
    obtain rfl := (List.cons.inj e0).1
    obtain ⟨v1, e1, w1⟩ := dec5 _ (hf 5 1 1 (List.mem_of_getElem? (i := 1) (by kernel_rfl)) (by kernel_rfl))
    have e1 : [c1] = [(.int .u8 v1 : D)] := e1
    obtain rfl := (List.cons.inj e1).1
    obtain ⟨v2, e2, w2⟩ := dec9 _ (hf 9 2 1 (List.mem_of_getElem? (i := 2) (by kernel_rfl)) (by kernel_rfl))
    have e2 : [c2] = [(.str v2 : D)] := e2
    obtain rfl := (List.cons.inj e2).1
    exact ⟨⟨v0, v1, v2⟩, rfl, w0, w1, w2⟩
theorem decD71 : DecD Try.prog 71 Comment.d Comment.wf := decD_agg (by kernel_rfl) dec71
theorem dec22 : Dec Try.prog 22 (fun l => [.sl (List.map Comment.d l)]) (wfL Comment.wf) := dec_slice (te := 71) (by kernel_rfl) decD71
theorem decD9 : DecD Try.prog 9 D.str wfS := decD_flat (by kernel_rfl) dec9
theorem dec23 : Dec Try.prog 23 (fun l => [.sl (List.map D.str l)]) (wfL wfS) := dec_slice (te := 9) (by kernel_rfl) decD9
theorem dec3 : Dec Try.prog 3 (fun n => [.int .i64 n]) (wfI .i64) := dec_int (by kernel_rfl)
theorem dec29 : Dec Try.prog 29 (fun n => [.int .u16 n]) (wfI .u16) := dec_int (by kernel_rfl)
theorem dec37 : Dec Try.prog 37 SegDef.cs SegDef.wf := by
  intro l h
  obtain ⟨hl, hf⟩ := of_struct h (by kernel_rfl)
  have hl : l.length = 8 := hl.trans (by kernel_rfl)
  match l, hl with
  | [c0, c1, c2, c3, c4, c5, c6, c7], _ =>
    obtain ⟨v0, e0, w0⟩ := dec3 _ (hf 3 0 1 (List.mem_of_getElem? (i := 0) (by kernel_rfl)) (by kernel_rfl))
    have e0 : [c0] = [(.int .i64 v0 : D)] := e0
    obtain rfl := (List.cons.inj e0).1
    obtain ⟨v1, e1, w1⟩ := dec3 _ (hf 3 1 1 (List.mem_of_getElem? (i := 1) (by kernel_rfl)) (by kernel_rfl))
    have e1 : [c1] = [(.int .i64 v1 : D)] := e1
    obtain rfl := (List.cons.inj e1).1
    obtain ⟨v2, e2, w2⟩ := dec29 _ (hf 29 2 1 (List.mem_of_getElem? (i := 2) (by kernel_rfl)) (by kernel_rfl))
    have e2 : [c2] = [(.int .u16 v2 : D)] := e2
    obtain rfl := (List.cons.inj e2).1
    obtain ⟨v3, e3, w3⟩ := dec5 _ (hf 5 3 1 (List.mem_of_getElem? (i := 3) (by kernel_rfl)) (by kernel_rfl))
    have e3 : [c3] = [(.int .u8 v3 : D)] := e3
    obtain rfl := (List.cons.inj e3).1
    obtain ⟨v4, e4, w4⟩ := dec3 _ (hf 3 4 1 (List.mem_of_getElem? (i := 4) (by kernel_rfl)) (by kernel_rfl))
    have e4 : [c4] = [(.int .i64 v4 : D)] := e4
    obtain rfl := (List.cons.inj e4).1
    obtain ⟨v5, e5, w5⟩ := dec3 _ (hf 3 5 1 (List.mem_of_getElem? (i := 5) (by kernel_rfl)) (by kernel_rfl))
    have e5 : [c5] = [(.int .i64 v5 : D)] := e5
    obtain rfl := (List.cons.inj e5).1
    obtain ⟨v6, e6, w6⟩ := dec3 _ (hf 3 6 1 (List.mem_of_getElem? (i := 6) (by kernel_rfl)) (by kernel_rfl))
    have e6 : [c6] = [(.int .i64 v6 : D)] := e6
    obtain rfl := (List.cons.inj e6).1
    obtain ⟨v7, e7, w7⟩ := dec3 _ (hf 3 7 1 (List.mem_of_getElem? (i := 7) (by kernel_rfl)) (by kernel_rfl))
    have e7 : [c7] = [(.int .i64 v7 : D)] := e7
    obtain rfl := (List.cons.inj e7).1
    exact ⟨⟨v0, v1, v2, v3, v4, v5, v6, v7⟩, rfl, w0, w1, w2, w3, w4, w5, w6, w7⟩
theorem decD37 : DecD Try.prog 37 SegDef.d SegDef.wf := decD_agg (by kernel_rfl) dec37
theorem dec24 : Dec Try.prog 24 (fun l => [.sl (List.map SegDef.d l)]) (wfL SegDef.wf) := dec_slice (te := 37) (by kernel_rfl) decD37
theorem decD3 : DecD Try.prog 3 (D.int .i64) (wfI .i64) := decD_flat (by kernel_rfl) dec3
theorem dec38 : Dec Try.prog 38 (fun l => [.sl (List.map (D.int .i64) l)]) (wfL (wfI .i64)) := dec_slice (te := 3) (by kernel_rfl) decD3
theorem dec40 : Dec Try.prog 40 GrpDef.cs GrpDef.wf := by
  intro l h
  obtain ⟨hl, hf⟩ := of_struct h (by kernel_rfl)
  have hl : l.length = 2 := hl.trans (by kernel_rfl)
  match l, hl with
  | [c0, c1], _ =>
    obtain ⟨v0, e0, w0⟩ := dec3 _ (hf 3 0 1 (List.mem_of_getElem? (i := 0) (by kernel_rfl)) (by kernel_rfl))
    have e0 : [c0] = [(.int .i64 v0 : D)] := e0
    obtain rfl := (List.cons.inj e0).1
    obtain ⟨v1, e1, w1⟩ := dec38 _ (hf 38 1 1 (List.mem_of_getElem? (i := 1) (by kernel_rfl)) (by kernel_rfl))
    have e1 : [c1] = [(.sl (List.map (D.int .i64) v1) : D)] := e1
    obtain rfl := (List.cons.inj e1).1
    exact ⟨⟨v0, v1⟩, rfl, w0, w1⟩
theorem decD40 : DecD Try.prog 40 GrpDef.d GrpDef.wf := decD_agg (by kernel_rfl) dec40
theorem dec25 : Dec Try.prog 25 (fun l => [.sl (List.map GrpDef.d l)]) (wfL GrpDef.wf) := dec_slice (te := 40) (by kernel_rfl) decD40
theorem dec54 : Dec Try.prog 54 (fun n => [.int .u32 n]) (wfI .u32) := dec_int (by kernel_rfl)
theorem dec56 : Dec Try.prog 56 Ext.cs Ext.wf := by
  intro l h
  obtain ⟨hl, hf⟩ := of_struct h (by kernel_rfl)
  have hl : l.length = 3 := hl.trans (by kernel_rfl)
  match l, hl with
  | [c0, c1, c2], _ =>
    obtain ⟨v0, e0, w0⟩ := dec9 _ (hf 9 0 1 (List.mem_of_getElem? (i := 0) (by kernel_rfl)) (by kernel_rfl))
    have e0 : [c0] = [(.str v0 : D)] := e0
    obtain rfl := (List.cons.inj e0).1
    obtain ⟨v1, e1, w1⟩ := dec3 _ (hf 3 1 1 (List.mem_of_getElem? (i := 1) (by kernel_rfl)) (by kernel_rfl))
    have e1 : [c1] = [(.int .i64 v1 : D)] := e1
    obtain rfl := (List.cons.inj e1).1
    obtain ⟨v2, e2, w2⟩ := dec54 _ (hf 54 2 1 (List.mem_of_getElem? (i := 2) (by kernel_rfl)) (by kernel_rfl))
    have e2 : [c2] = [(.int .u32 v2 : D)] := e2
    obtain rfl := (List.cons.inj e2).1
    exact ⟨⟨v0, v1, v2⟩, rfl, w0, w1, w2⟩
theorem decD56 : DecD Try.prog 56 Ext.d Ext.wf := decD_agg (by kernel_rfl) dec56
theorem dec26 : Dec Try.prog 26 (fun l => [.sl (List.map Ext.d l)]) (wfL Ext.wf) := dec_slice (te := 56) (by kernel_rfl) decD56
theorem dec42 : Dec Try.prog 42 Pub.cs Pub.wf := by
  intro l h
  obtain ⟨hl, hf⟩ := of_struct h (by kernel_rfl)
  have hl : l.length = 5 := hl.trans (by kernel_rfl)
  match l, hl with
  | [c0, c1, c2, c3, c4], _ =>
    obtain ⟨v0, e0, w0⟩ := dec3 _ (hf 3 0 1 (List.mem_of_getElem? (i := 0) (by kernel_rfl)) (by kernel_rfl))
    have e0 : [c0] = [(.int .i64 v0 : D)] := e0
    obtain rfl := (List.cons.inj e0).1
    obtain ⟨v1, e1, w1⟩ := dec3 _ (hf 3 1 1 (List.mem_of_getElem? (i := 1) (by kernel_rfl)) (by kernel_rfl))
    have e1 : [c1] = [(.int .i64 v1 : D)] := e1
    obtain rfl := (List.cons.inj e1).1
    obtain ⟨v2, e2, w2⟩ := dec29 _ (hf 29 2 1 (List.mem_of_getElem? (i := 2) (by kernel_rfl)) (by kernel_rfl))
    have e2 : [c2] = [(.int .u16 v2 : D)] := e2
    obtain rfl := (List.cons.inj e2).1
    obtain ⟨v3, e3, w3⟩ := dec9 _ (hf 9 3 1 (List.mem_of_getElem? (i := 3) (by kernel_rfl)) (by kernel_rfl))
    have e3 : [c3] = [(.str v3 : D)] := e3
    obtain rfl := (List.cons.inj e3).1
    obtain ⟨v4, e4, w4⟩ := dec29 _ (hf 29 4 1 (List.mem_of_getElem? (i := 4) (by kernel_rfl)) (by kernel_rfl))
    have e4 : [c4] = [(.int .u16 v4 : D)] := e4
    obtain rfl := (List.cons.inj e4).1
    exact ⟨⟨v0, v1, v2, v3, v4⟩, rfl, w0, w1, w2, w3, w4⟩
theorem decD42 : DecD Try.prog 42 Pub.d Pub.wf := decD_agg (by kernel_rfl) dec42
theorem dec27 : Dec Try.prog 27 (fun l => [.sl (List.map Pub.d l)]) (wfL Pub.wf) := dec_slice (te := 42) (by kernel_rfl) decD42
theorem decD5 : DecD Try.prog 5 (D.int .u8) (wfI .u8) := decD_flat (by kernel_rfl) dec5
theorem dec43 : Dec Try.prog 43 (fun l => [.sl (List.map (D.int .u8) l)]) (wfL (wfI .u8)) := dec_slice (te := 5) (by kernel_rfl) decD5
theorem dec4 : Dec Try.prog 4 (fun b => [.bool b]) (fun _ => True) := dec_bool (by kernel_rfl)
theorem dec31 : Dec Try.prog 31 Fixup.cs Fixup.wf := by
  intro l h
  obtain ⟨hl, hf⟩ := of_struct h (by kernel_rfl)
  have hl : l.length = 8 := hl.trans (by kernel_rfl)
  match l, hl with
  | [c0, c1, c2, c3, c4, c5, c6, c7], _ =>
    obtain ⟨v0, e0, w0⟩ := dec3 _ (hf 3 0 1 (List.mem_of_getElem? (i := 0) (by kernel_rfl)) (by kernel_rfl))
    have e0 : [c0] = [(.int .i64 v0 : D)] := e0
    obtain rfl := (List.cons.inj e0).1
    obtain ⟨v1, e1, w1⟩ := dec3 _ (hf 3 1 1 (List.mem_of_getElem? (i := 1) (by kernel_rfl)) (by kernel_rfl))
    have e1 : [c1] = [(.int .i64 v1 : D)] := e1
    obtain rfl := (List.cons.inj e1).1
    obtain ⟨v2, e2, w2⟩ := dec4 _ (hf 4 2 1 (List.mem_of_getElem? (i := 2) (by kernel_rfl)) (by kernel_rfl))
    have e2 : [c2] = [(.bool v2 : D)] := e2
    obtain rfl := (List.cons.inj e2).1
    obtain ⟨v3, e3, w3⟩ := dec3 _ (hf 3 3 1 (List.mem_of_getElem? (i := 3) (by kernel_rfl)) (by kernel_rfl))
    have e3 : [c3] = [(.int .i64 v3 : D)] := e3
    obtain rfl := (List.cons.inj e3).1
    obtain ⟨v4, e4, w4⟩ := dec3 _ (hf 3 4 1 (List.mem_of_getElem? (i := 4) (by kernel_rfl)) (by kernel_rfl))
    have e4 : [c4] = [(.int .i64 v4 : D)] := e4
    obtain rfl := (List.cons.inj e4).1
    obtain ⟨v5, e5, w5⟩ := dec3 _ (hf 3 5 1 (List.mem_of_getElem? (i := 5) (by kernel_rfl)) (by kernel_rfl))
    have e5 : [c5] = [(.int .i64 v5 : D)] := e5
    obtain rfl := (List.cons.inj e5).1
    obtain ⟨v6, e6, w6⟩ := dec3 _ (hf 3 6 1 (List.mem_of_getElem? (i := 6) (by kernel_rfl)) (by kernel_rfl))
    have e6 : [c6] = [(.int .i64 v6 : D)] := e6
    obtain rfl := (List.cons.inj e6).1
    obtain ⟨v7, e7, w7⟩ := dec29 _ (hf 29 7 1 (List.mem_of_getElem? (i := 7) (by kernel_rfl)) (by kernel_rfl))
    have e7 : [c7] = [(.int .u16 v7 : D)] := e7
    obtain rfl := (List.cons.inj e7).1
    exact ⟨⟨v0, v1, v2, v3, v4, v5, v6, v7⟩, rfl, w0, w1, w2, w3, w4, w5, w6, w7⟩
theorem decD31 : DecD Try.prog 31 Fixup.d Fixup.wf := decD_agg (by kernel_rfl) dec31
theorem dec44 : Dec Try.prog 44 (fun l => [.sl (List.map Fixup.d l)]) (wfL Fixup.wf) := dec_slice (te := 31) (by kernel_rfl) decD31
theorem dec46 : Dec Try.prog 46 Data.cs Data.wf := by
  intro l h
  obtain ⟨hl, hf⟩ := of_struct h (by kernel_rfl)
  have hl : l.length = 4 := hl.trans (by kernel_rfl)
  match l, hl with
  | [c0, c1, c2, c3], _ =>
    obtain ⟨v0, e0, w0⟩ := dec3 _ (hf 3 0 1 (List.mem_of_getElem? (i := 0) (by kernel_rfl)) (by kernel_rfl))
    have e0 : [c0] = [(.int .i64 v0 : D)] := e0
    obtain rfl := (List.cons.inj e0).1
    obtain ⟨v1, e1, w1⟩ := dec29 _ (hf 29 1 1 (List.mem_of_getElem? (i := 1) (by kernel_rfl)) (by kernel_rfl))
    have e1 : [c1] = [(.int .u16 v1 : D)] := e1
    obtain rfl := (List.cons.inj e1).1
    obtain ⟨v2, e2, w2⟩ := dec43 _ (hf 43 2 1 (List.mem_of_getElem? (i := 2) (by kernel_rfl)) (by kernel_rfl))
    have e2 : [c2] = [(.sl (List.map (D.int .u8) v2) : D)] := e2
    obtain rfl := (List.cons.inj e2).1
    obtain ⟨v3, e3, w3⟩ := dec44 _ (hf 44 3 1 (List.mem_of_getElem? (i := 3) (by kernel_rfl)) (by kernel_rfl))
    have e3 : [c3] = [(.sl (List.map Fixup.d v3) : D)] := e3
    obtain rfl := (List.cons.inj e3).1
    exact ⟨⟨v0, v1, v2, v3⟩, rfl, w0, w1, w2, w3⟩
theorem decD46 : DecD Try.prog 46 Data.d Data.wf := decD_agg (by kernel_rfl) dec46
theorem dec28 : Dec Try.prog 28 (fun l => [.sl (List.map Data.d l)]) (wfL Data.wf) := dec_slice (te := 46) (by kernel_rfl) decD46
theorem dec33 : Dec Try.prog 33 Module.cs Module.wf := by
  intro l h
  obtain ⟨hl, hf⟩ := of_struct h (by kernel_rfl)
  have hl : l.length = 18 := hl.trans (by kernel_rfl)
  match l, hl with
  | [c0, c1, c2, c3, c4, c5, c6, c7, c8, c9, c10, c11, c12, c13, c14, c15, c16, c17], _ =>
    obtain ⟨v0, e0, w0⟩ := dec9 _ (hf 9 0 1 (List.mem_of_getElem? (i := 0) (by kernel_rfl)) (by kernel_rfl))
    have e0 : [c0] = [(.str v0 : D)] := e0
    obtain rfl := (List.cons.inj e0).1
    obtain ⟨v1, e1, w1⟩ := dec22 _ (hf 22 1 1 (List.mem_of_getElem? (i := 1) (by kernel_rfl)) (by kernel_rfl))
    have e1 : [c1] = [(.sl (List.map Comment.d v1) : D)] := e1
    obtain rfl := (List.cons.inj e1).1
    obtain ⟨v2, e2, w2⟩ := dec23 _ (hf 23 2 1 (List.mem_of_getElem? (i := 2) (by kernel_rfl)) (by kernel_rfl))
    have e2 : [c2] = [(.sl (List.map D.str v2) : D)] := e2
    obtain rfl := (List.cons.inj e2).1
    obtain ⟨v3, e3, w3⟩ := dec24 _ (hf 24 3 1 (List.mem_of_getElem? (i := 3) (by kernel_rfl)) (by kernel_rfl))
    have e3 : [c3] = [(.sl (List.map SegDef.d v3) : D)] := e3
    obtain rfl := (List.cons.inj e3).1
    obtain ⟨v4, e4, w4⟩ := dec25 _ (hf 25 4 1 (List.mem_of_getElem? (i := 4) (by kernel_rfl)) (by kernel_rfl))
    have e4 : [c4] = [(.sl (List.map GrpDef.d v4) : D)] := e4
    obtain rfl := (List.cons.inj e4).1
    obtain ⟨v5, e5, w5⟩ := dec26 _ (hf 26 5 1 (List.mem_of_getElem? (i := 5) (by kernel_rfl)) (by kernel_rfl))
    have e5 : [c5] = [(.sl (List.map Ext.d v5) : D)] := e5
    obtain rfl := (List.cons.inj e5).1
    obtain ⟨v6, e6, w6⟩ := dec27 _ (hf 27 6 1 (List.mem_of_getElem? (i := 6) (by kernel_rfl)) (by kernel_rfl))
    have e6 : [c6] = [(.sl (List.map Pub.d v6) : D)] := e6
    obtain rfl := (List.cons.inj e6).1
    obtain ⟨v7, e7, w7⟩ := dec28 _ (hf 28 7 1 (List.mem_of_getElem? (i := 7) (by kernel_rfl)) (by kernel_rfl))
    have e7 : [c7] = [(.sl (List.map Data.d v7) : D)] := e7
    obtain rfl := (List.cons.inj e7).1
    obtain ⟨v8, e8, w8⟩ := dec4 _ (hf 4 8 1 (List.mem_of_getElem? (i := 8) (by kernel_rfl)) (by kernel_rfl))
    have e8 : [c8] = [(.bool v8 : D)] := e8
    obtain rfl := (List.cons.inj e8).1
    obtain ⟨v9, e9, w9⟩ := dec4 _ (hf 4 9 1 (List.mem_of_getElem? (i := 9) (by kernel_rfl)) (by kernel_rfl))
    have e9 : [c9] = [(.bool v9 : D)] := e9
    obtain rfl := (List.cons.inj e9).1
    obtain ⟨v10, e10, w10⟩ := dec31 _ (hf 31 10 8 (List.mem_of_getElem? (i := 10) (by kernel_rfl)) (by kernel_rfl))
    have e10 : [c10, c11, c12, c13, c14, c15, c16, c17] = [(.int .i64 v10.At : D), (.int .i64 v10.Loc : D), (.bool v10.Self : D), (.int .i64 v10.Frame : D), (.int .i64 v10.FrameN : D), (.int .i64 v10.Target : D), (.int .i64 v10.N : D), (.int .u16 v10.Disp : D)] := e10
    have q10_0 := (List.cons.inj e10).1
    have q10_1 := (List.cons.inj (List.cons.inj e10).2).1
    have q10_2 := (List.cons.inj (List.cons.inj (List.cons.inj e10).2).2).1
    have q10_3 := (List.cons.inj (List.cons.inj (List.cons.inj (List.cons.inj e10).2).2).2).1
    have q10_4 := (List.cons.inj (List.cons.inj (List.cons.inj (List.cons.inj (List.cons.inj e10).2).2).2).2).1
    have q10_5 := (List.cons.inj (List.cons.inj (List.cons.inj (List.cons.inj (List.cons.inj (List.cons.inj e10).2).2).2).2).2).1
    have q10_6 := (List.cons.inj (List.cons.inj (List.cons.inj (List.cons.inj (List.cons.inj (List.cons.inj (List.cons.inj e10).2).2).2).2).2).2).1
    have q10_7 := (List.cons.inj (List.cons.inj (List.cons.inj (List.cons.inj (List.cons.inj (List.cons.inj (List.cons.inj (List.cons.inj e10).2).2).2).2).2).2).2).1
    subst q10_0
    subst q10_1
    subst q10_2
    subst q10_3
    subst q10_4
    subst q10_5
    subst q10_6
    subst q10_7
    exact ⟨⟨v0, v1, v2, v3, v4, v5, v6, v7, v8, v9, v10⟩, rfl, w0, w1, w2, w3, w4, w5, w6, w7, w8, w9, w10⟩
theorem decD33 : DecD Try.prog 33 Module.d Module.wf := decD_agg (by kernel_rfl) dec33
end Go.Es.Omc
