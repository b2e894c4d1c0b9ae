/- The interpreter answers as plain Lean does: part 2. No condition. -/
import Derived.Test.YtbogbgbpahonoaaCmbF
import Derived.Test.YtbogbgbpahonoaaCmbP
import Derived.KernelRfl
import Derived.Test.YtbogbgbpahonoaaCmbS0
set_option linter.unusedVariables false
set_option linter.unusedSimpArgs false
set_option maxRecDepth 100000
set_option maxHeartbeats 4000000
namespace Go.Es.Cmb
theorem hansomlaw40_CombAll_l8_ok (l_ : (List Ext)) (many_ : Int) (b_29 : (List Module)) (l0 : (List Ext)) (many1 : Int) (i6 : Int) (v_29 : Nat) (r : (Lp ((List Module) × Int) (List Module))) (h : hansomlaw40_CombAll_l8 b_29 l0 many1 i6 = some r) : Runs L F14l8 (hansomlaw40_CombAll_h8 b_29 l0 many1 i6 v_29) (LQ [] [0, 1, 5, 6] [[29]] (fun (x : ((List Module) × Int)) (g : Nat) => hansomlaw40_CombAll_h8 x.1 l0 many1 x.2 g) (hansomlaw40_CombAll_P8 l_ many_ l0 many1) r) := by
  unfold hansomlaw40_CombAll_l8 at h
  refine Runs.seq ?_
  refine Runs.seq ?_
  refine Runs.ops ?_
  refine RunAt.chunk 4 [⟨.d (.int .i64 i6), []⟩, ⟨.d (.int .i64 many1), []⟩, ⟨.d (.int .i64 (bitsOp .and .i64 many1 3)), []⟩, ⟨.d (.bool (decide (i6 < (bitsOp .and .i64 many1 3)))), []⟩] (by kernel_rfl) ?_
  refine RunAt.done (by kernel_rfl) ?_
  refine kS_nrm ?_
  cases hb_1 : ((decide (i6 < (bitsOp .and .i64 many1 3))) : Bool) with
  | true =>
    replace h := ite_t hb_1 h
    refine Runs.cond_t (by kernel_rfl) ?_
    refine Runs.skip ?_
    refine kS_nrm ?_
    refine Runs.seq ?_
    refine Runs.block ?_
    refine Runs.ops ?_
    refine RunAt.chunk 8 [⟨.ref [29] v_29 0 (List.map Module.d b_29).length 18, []⟩, ⟨.ref [37] 0 0 (List.map D.str ([([83] : List UInt8), ([75] : List UInt8)] : List (List UInt8))).length 1, [([37], some (.arr (List.map D.str ([([83] : List UInt8), ([75] : List UInt8)] : List (List UInt8))) 0 false))]⟩, ⟨.d (.int .i64 i6), []⟩, ⟨.d (.int .i64 (IntKind.wrap .i64 (5 + i6))), []⟩, ⟨.d (.agg [.int .i64 1, .int .i64 2, .int .u16 0, .int .u8 0, .int .i64 (IntKind.wrap .i64 (5 + i6)), .int .i64 1, .int .i64 2, .int .i64 0]), []⟩, ⟨.d (.agg [.int .i64 3, .int .i64 0, .int .u16 0, .int .u8 0, .int .i64 9, .int .i64 2, .int .i64 0, .int .i64 0]), []⟩, ⟨.ref [42] 0 0 (List.map SegDef.d ([({ Align := 1, Combine := 2, Frame := 0, Offset := 0, Len := (IntKind.wrap .i64 (5 + i6)), Name := 1, Class := 2, Overlay := 0 } : SegDef), ({ Align := 3, Combine := 0, Frame := 0, Offset := 0, Len := 9, Name := 2, Class := 0, Overlay := 0 } : SegDef)] : List SegDef)).length 8, [([42], some (.arr (List.map SegDef.d ([({ Align := 1, Combine := 2, Frame := 0, Offset := 0, Len := (IntKind.wrap .i64 (5 + i6)), Name := 1, Class := 2, Overlay := 0 } : SegDef), ({ Align := 3, Combine := 0, Frame := 0, Offset := 0, Len := 9, Name := 2, Class := 0, Overlay := 0 } : SegDef)] : List SegDef)) 0 false))]⟩, ⟨.mix [.d (.str []), .nils, .ref [37] 0 0 (List.map D.str ([([83] : List UInt8), ([75] : List UInt8)] : List (List UInt8))).length 1, .ref [42] 0 0 (List.map SegDef.d ([({ Align := 1, Combine := 2, Frame := 0, Offset := 0, Len := (IntKind.wrap .i64 (5 + i6)), Name := 1, Class := 2, Overlay := 0 } : SegDef), ({ Align := 3, Combine := 0, Frame := 0, Offset := 0, Len := 9, Name := 2, Class := 0, Overlay := 0 } : SegDef)] : List SegDef)).length 8, .nils, .nils, .nils, .nils, .d (.bool false), .d (.bool false), .d (.int .i64 0), .d (.int .i64 0), .d (.bool false), .d (.int .i64 0), .d (.int .i64 0), .d (.int .i64 0), .d (.int .i64 0), .d (.int .u16 0)], []⟩] (by kernel_rfl) ?_
    refine RunAt.cut (some 44) (.bslice (.agg [.str [], .sl [], .sl [], .sl [], .sl [], .sl [], .sl [], .sl [], .bool false, .bool false, .int .i64 0, .int .i64 0, .bool false, .int .i64 0, .int .i64 0, .int .i64 0, .int .i64 0, .int .u16 0]) 1 [0]) [] none [.mix [.d (.str []), .nils, .ref [37] 0 0 (List.map D.str ([([83] : List UInt8), ([75] : List UInt8)] : List (List UInt8))).length 1, .ref [42] 0 0 (List.map SegDef.d ([({ Align := 1, Combine := 2, Frame := 0, Offset := 0, Len := (IntKind.wrap .i64 (5 + i6)), Name := 1, Class := 2, Overlay := 0 } : SegDef), ({ Align := 3, Combine := 0, Frame := 0, Offset := 0, Len := 9, Name := 2, Class := 0, Overlay := 0 } : SegDef)] : List SegDef)).length 8, .nils, .nils, .nils, .nils, .d (.bool false), .d (.bool false), .d (.int .i64 0), .d (.int .i64 0), .d (.bool false), .d (.int .i64 0), .d (.int .i64 0), .d (.int .i64 0), .d (.int .i64 0), .d (.int .u16 0)]] (.ref [44] 0 0 (List.map Module.d ([({ Name := [], Notes := ([] : List Comment), Names := ([([83] : List UInt8), ([75] : List UInt8)] : List (List UInt8)), Segs := ([({ Align := 1, Combine := 2, Frame := 0, Offset := 0, Len := (IntKind.wrap .i64 (5 + i6)), Name := 1, Class := 2, Overlay := 0 } : SegDef), ({ Align := 3, Combine := 0, Frame := 0, Offset := 0, Len := 9, Name := 2, Class := 0, Overlay := 0 } : SegDef)] : List SegDef), Groups := ([] : List GrpDef), Exts := ([] : List Ext), Pubs := ([] : List Pub), Datas := ([] : List Data), Main := false, Is := false, Start := ({ At := 0, Loc := 0, Self := false, Frame := 0, FrameN := 0, Target := 0, N := 0, Disp := 0 } : Fixup) } : Module)] : List Module)).length 18) [([37], some (.arr (List.map D.str ([([83] : List UInt8), ([75] : List UInt8)] : List (List UInt8))) 0 true)), ([42], some (.arr (List.map SegDef.d ([({ Align := 1, Combine := 2, Frame := 0, Offset := 0, Len := (IntKind.wrap .i64 (5 + i6)), Name := 1, Class := 2, Overlay := 0 } : SegDef), ({ Align := 3, Combine := 0, Frame := 0, Offset := 0, Len := 9, Name := 2, Class := 0, Overlay := 0 } : SegDef)] : List SegDef)) 0 true)), ([44], some (.arr (List.map Module.d ([({ Name := [], Notes := ([] : List Comment), Names := ([([83] : List UInt8), ([75] : List UInt8)] : List (List UInt8)), Segs := ([({ Align := 1, Combine := 2, Frame := 0, Offset := 0, Len := (IntKind.wrap .i64 (5 + i6)), Name := 1, Class := 2, Overlay := 0 } : SegDef), ({ Align := 3, Combine := 0, Frame := 0, Offset := 0, Len := 9, Name := 2, Class := 0, Overlay := 0 } : SegDef)] : List SegDef), Groups := ([] : List GrpDef), Exts := ([] : List Ext), Pubs := ([] : List Pub), Datas := ([] : List Data), Main := false, Is := false, Start := ({ At := 0, Loc := 0, Self := false, Frame := 0, FrameN := 0, Target := 0, N := 0, Disp := 0 } : Fixup) } : Module)] : List Module)) 0 false))] (by kernel_rfl) (by kernel_rfl) (by kernel_rfl) (cut_bslice (e := Module.d) (l := ([({ Name := [], Notes := ([] : List Comment), Names := ([([83] : List UInt8), ([75] : List UInt8)] : List (List UInt8)), Segs := ([({ Align := 1, Combine := 2, Frame := 0, Offset := 0, Len := (IntKind.wrap .i64 (5 + i6)), Name := 1, Class := 2, Overlay := 0 } : SegDef), ({ Align := 3, Combine := 0, Frame := 0, Offset := 0, Len := 9, Name := 2, Class := 0, Overlay := 0 } : SegDef)] : List SegDef), Groups := ([] : List GrpDef), Exts := ([] : List Ext), Pubs := ([] : List Pub), Datas := ([] : List Data), Main := false, Is := false, Start := ({ At := 0, Loc := 0, Self := false, Frame := 0, FrameN := 0, Target := 0, N := 0, Disp := 0 } : Fixup) } : Module)] : List Module)) (ws := [([37], some (.arr (List.map D.str ([([83] : List UInt8), ([75] : List UInt8)] : List (List UInt8))) 0 true)), ([42], some (.arr (List.map SegDef.d ([({ Align := 1, Combine := 2, Frame := 0, Offset := 0, Len := (IntKind.wrap .i64 (5 + i6)), Name := 1, Class := 2, Overlay := 0 } : SegDef), ({ Align := 3, Combine := 0, Frame := 0, Offset := 0, Len := 9, Name := 2, Class := 0, Overlay := 0 } : SegDef)] : List SegDef)) 0 true))]) (ds := [.agg [.str [], .sl (List.map Comment.d ([] : List Comment)), .sl (List.map D.str ([([83] : List UInt8), ([75] : List UInt8)] : List (List UInt8))), .sl (List.map SegDef.d ([({ Align := 1, Combine := 2, Frame := 0, Offset := 0, Len := (IntKind.wrap .i64 (5 + i6)), Name := 1, Class := 2, Overlay := 0 } : SegDef), ({ Align := 3, Combine := 0, Frame := 0, Offset := 0, Len := 9, Name := 2, Class := 0, Overlay := 0 } : SegDef)] : List SegDef)), .sl (List.map GrpDef.d ([] : List GrpDef)), .sl (List.map Ext.d ([] : List Ext)), .sl (List.map Pub.d ([] : List Pub)), .sl (List.map Data.d ([] : List Data)), .bool false, .bool false, .int .i64 0, .int .i64 0, .bool false, .int .i64 0, .int .i64 0, .int .i64 0, .int .i64 0, .int .u16 0]]) (snapsM_cons (ws := [([37], some (.arr (List.map D.str ([([83] : List UInt8), ([75] : List UInt8)] : List (List UInt8))) 0 true)), ([42], some (.arr (List.map SegDef.d ([({ Align := 1, Combine := 2, Frame := 0, Offset := 0, Len := (IntKind.wrap .i64 (5 + i6)), Name := 1, Class := 2, Overlay := 0 } : SegDef), ({ Align := 3, Combine := 0, Frame := 0, Offset := 0, Len := 9, Name := 2, Class := 0, Overlay := 0 } : SegDef)] : List SegDef)) 0 true))]) (snap_mix (snaps_d (snaps_n Comment.d (snaps_r (e := D.str) (l := ([([83] : List UInt8), ([75] : List UInt8)] : List (List UInt8))) (fz := false) (by kernel_rfl) (by kernel_rfl) (hl := rfl) (snaps_r (e := SegDef.d) (l := ([({ Align := 1, Combine := 2, Frame := 0, Offset := 0, Len := (IntKind.wrap .i64 (5 + i6)), Name := 1, Class := 2, Overlay := 0 } : SegDef), ({ Align := 3, Combine := 0, Frame := 0, Offset := 0, Len := 9, Name := 2, Class := 0, Overlay := 0 } : SegDef)] : List SegDef)) (fz := false) (by kernel_rfl) (by kernel_rfl) (hl := rfl) (snaps_n GrpDef.d (snaps_n Ext.d (snaps_n Pub.d (snaps_n Data.d (snaps_d (snaps_d (snaps_d (snaps_d (snaps_d (snaps_d (snaps_d (snaps_d (snaps_d (snaps_d snaps_nil))))))))))))))))))) snapsM_nil) (by kernel_rfl) (by kernel_rfl) (by kernel_rfl) (by kernel_rfl)) ?_
    obtain ⟨z_1, hz_1, h⟩ := bind_s h
    refine RunAt.cut (some 45) (.append 18 256 false) [] none [.ref [29] v_29 0 (List.map Module.d b_29).length 18, .ref [44] 0 0 (List.map Module.d ([({ Name := [], Notes := ([] : List Comment), Names := ([([83] : List UInt8), ([75] : List UInt8)] : List (List UInt8)), Segs := ([({ Align := 1, Combine := 2, Frame := 0, Offset := 0, Len := (IntKind.wrap .i64 (5 + i6)), Name := 1, Class := 2, Overlay := 0 } : SegDef), ({ Align := 3, Combine := 0, Frame := 0, Offset := 0, Len := 9, Name := 2, Class := 0, Overlay := 0 } : SegDef)] : List SegDef), Groups := ([] : List GrpDef), Exts := ([] : List Ext), Pubs := ([] : List Pub), Datas := ([] : List Data), Main := false, Is := false, Start := ({ At := 0, Loc := 0, Self := false, Frame := 0, FrameN := 0, Target := 0, N := 0, Disp := 0 } : Fixup) } : Module)] : List Module)).length 18] (.ref [29] (v_29 + 1) 0 (List.map Module.d z_1).length 18) [([44], some (.arr (List.map Module.d ([({ Name := [], Notes := ([] : List Comment), Names := ([([83] : List UInt8), ([75] : List UInt8)] : List (List UInt8)), Segs := ([({ Align := 1, Combine := 2, Frame := 0, Offset := 0, Len := (IntKind.wrap .i64 (5 + i6)), Name := 1, Class := 2, Overlay := 0 } : SegDef), ({ Align := 3, Combine := 0, Frame := 0, Offset := 0, Len := 9, Name := 2, Class := 0, Overlay := 0 } : SegDef)] : List SegDef), Groups := ([] : List GrpDef), Exts := ([] : List Ext), Pubs := ([] : List Pub), Datas := ([] : List Data), Main := false, Is := false, Start := ({ At := 0, Loc := 0, Self := false, Frame := 0, FrameN := 0, Target := 0, N := 0, Disp := 0 } : Fixup) } : Module)] : List Module)) 0 true)), ([29], some (.arr (List.map Module.d z_1) (v_29 + 1) false))] (by kernel_rfl) (by kernel_rfl) (by kernel_rfl) (cut_appR (e := Module.d) (l := b_29) (fz := false) (ws := [([44], some (.arr (List.map Module.d ([({ Name := [], Notes := ([] : List Comment), Names := ([([83] : List UInt8), ([75] : List UInt8)] : List (List UInt8)), Segs := ([({ Align := 1, Combine := 2, Frame := 0, Offset := 0, Len := (IntKind.wrap .i64 (5 + i6)), Name := 1, Class := 2, Overlay := 0 } : SegDef), ({ Align := 3, Combine := 0, Frame := 0, Offset := 0, Len := 9, Name := 2, Class := 0, Overlay := 0 } : SegDef)] : List SegDef), Groups := ([] : List GrpDef), Exts := ([] : List Ext), Pubs := ([] : List Pub), Datas := ([] : List Data), Main := false, Is := false, Start := ({ At := 0, Loc := 0, Self := false, Frame := 0, FrameN := 0, Target := 0, N := 0, Disp := 0 } : Fixup) } : Module)] : List Module)) 0 true))]) (ap_ref (e := Module.d) (l := ([({ Name := [], Notes := ([] : List Comment), Names := ([([83] : List UInt8), ([75] : List UInt8)] : List (List UInt8)), Segs := ([({ Align := 1, Combine := 2, Frame := 0, Offset := 0, Len := (IntKind.wrap .i64 (5 + i6)), Name := 1, Class := 2, Overlay := 0 } : SegDef), ({ Align := 3, Combine := 0, Frame := 0, Offset := 0, Len := 9, Name := 2, Class := 0, Overlay := 0 } : SegDef)] : List SegDef), Groups := ([] : List GrpDef), Exts := ([] : List Ext), Pubs := ([] : List Pub), Datas := ([] : List Data), Main := false, Is := false, Start := ({ At := 0, Loc := 0, Self := false, Frame := 0, FrameN := 0, Target := 0, N := 0, Disp := 0 } : Fixup) } : Module)] : List Module)) (fz := false) (by kernel_rfl) (by kernel_rfl) rfl) (fun _ => rfl) hz_1 (by kernel_rfl) (by kernel_rfl) rfl) ?_
    refine RunAt.chunk 1 [⟨.ref [29] (v_29 + 1) 0 (List.map Module.d z_1).length 18, []⟩] (by kernel_rfl) ?_
    refine RunAt.done (by kernel_rfl) ?_
    refine kB_nrm ?_
    refine kS_nrm ?_
    refine Runs.ops ?_
    refine RunAt.chunk 3 [⟨.d (.int .i64 i6), []⟩, ⟨.d (.int .i64 (IntKind.wrap .i64 (i6 + 1))), []⟩, ⟨.d (.int .i64 (IntKind.wrap .i64 (i6 + 1))), []⟩] (by kernel_rfl) ?_
    refine RunAt.done (by kernel_rfl) ?_
    obtain rfl := Option.some.inj h
    exact ⟨rfl, (v_29 + 1), (Canon.nil (by kernel_rfl))⟩
  | false =>
    replace h := ite_f hb_1 h
    refine Runs.cond_f (by kernel_rfl) ?_
    refine Runs.exit ?_
    refine kS_exit ?_
    obtain rfl := Option.some.inj h
    exact ⟨nofun, rfl, v_29, (Canon.nil (by kernel_rfl))⟩
theorem hansomlaw40_CombAll_l27_ok (l_ : (List Ext)) (many_ : Int) (b_29 : (List Module)) (b_46 : (List Ext)) (l0 : (List Ext)) (many1 : Int) (near8 : Int) (far9 : Int) (i10 : Int) (v_29 : Nat) (v_46 : Nat) (r : (Lp ((List Ext) × Int × Int × Int) ((List Ext) × Int × Int))) (h : hansomlaw40_CombAll_l27 b_29 b_46 l0 many1 near8 far9 i10 = some r) : Runs L F14l27 (hansomlaw40_CombAll_h27 b_29 b_46 l0 many1 near8 far9 i10 v_29 v_46) (LQ [] [0, 1, 5, 7, 8, 9, 10] [[29], [46]] (fun (x : ((List Ext) × Int × Int × Int)) (g : (Nat × Nat)) => hansomlaw40_CombAll_h27 b_29 x.1 l0 many1 x.2.1 x.2.2.1 x.2.2.2 g.1 g.2) (hansomlaw40_CombAll_P27 l_ many_ b_29 l0 many1) r) := by
  unfold hansomlaw40_CombAll_l27 at h
  refine Runs.seq ?_
  refine Runs.seq ?_
  refine Runs.ops ?_
  refine RunAt.chunk 2 [⟨.d (.int .i64 i10), []⟩, ⟨.d (.sl (List.map Ext.d l0)), []⟩] (by kernel_rfl) ?_
  refine RunAt.cut (some 49) .lenL [] none [.d (.sl (List.map Ext.d l0))] (.d (.int .i64 (l0.length : Int))) [] (by kernel_rfl) (by kernel_rfl) (by kernel_rfl) (cut_len _) ?_
  refine RunAt.chunk 2 [⟨.d (.bool (decide (i10 < (l0.length : Int)))), []⟩, ⟨.d (.bool (decide (i10 < (l0.length : Int)))), []⟩] (by kernel_rfl) ?_
  cases hb_1 : ((decide (i10 < (l0.length : Int))) : Bool) with
  | true =>
    replace h := ite_t hb_1 h
    refine RunAt.chunk 3 [⟨.d (.int .i64 i10), []⟩, ⟨.d (.bool (decide (i10 < 6))), []⟩, ⟨.d (.bool (decide (i10 < 6))), []⟩] (by kernel_rfl) ?_
    refine RunAt.done (by kernel_rfl) ?_
    refine kS_nrm ?_
    cases hb_2 : ((decide (i10 < 6)) : Bool) with
    | true =>
      replace h := ite_t hb_2 h
      refine Runs.cond_t (by kernel_rfl) ?_
      refine Runs.skip ?_
      refine kS_nrm ?_
      refine Runs.seq ?_
      refine Runs.block ?_
      refine Runs.seq ?_
      refine Runs.ops ?_
      refine RunAt.chunk 2 [⟨.d (.sl (List.map Ext.d l0)), []⟩, ⟨.d (.int .i64 i10), []⟩] (by kernel_rfl) ?_
      obtain ⟨z_1, hz_1, h⟩ := bind_s h
      refine RunAt.cut (some 59) (.iaddrS 3) [] none [.d (.sl (List.map Ext.d l0)), .d (.int .i64 i10)] (.elt (Ext.d z_1) 0) [] (by kernel_rfl) (by kernel_rfl) (by kernel_rfl) (cut_at hz_1 (fun _ => rfl)) ?_
      refine RunAt.chunk 6 [⟨.elt (Ext.d z_1) 1, []⟩, ⟨.d (.int .i64 z_1.Com), []⟩, ⟨.d (.int .i64 (bitsOp .and .i64 z_1.Com 1)), []⟩, ⟨.d (.int .i64 (IntKind.wrap .i64 (97 + (bitsOp .and .i64 z_1.Com 1)))), []⟩, ⟨.d (.sl (List.map Ext.d l0)), []⟩, ⟨.d (.int .i64 i10), []⟩] (by kernel_rfl) ?_
      obtain ⟨z_2, hz_2, h⟩ := bind_s h
      refine RunAt.cut (some 66) (.iaddrS 3) [] none [.d (.sl (List.map Ext.d l0)), .d (.int .i64 i10)] (.elt (Ext.d z_2) 0) [] (by kernel_rfl) (by kernel_rfl) (by kernel_rfl) (cut_at hz_2 (fun _ => rfl)) ?_
      refine RunAt.chunk 6 [⟨.elt (Ext.d z_2) 2, []⟩, ⟨.d (.int .u32 z_2.Len), []⟩, ⟨.d (.int .u32 (bitsOp .and .u32 z_2.Len 255)), []⟩, ⟨.d (.agg [.str ([69] : List UInt8), .int .i64 (IntKind.wrap .i64 (97 + (bitsOp .and .i64 z_1.Com 1))), .int .u32 (bitsOp .and .u32 z_2.Len 255)]), []⟩, ⟨.ptr [11] 0 0, [([11], some (.cells [.d (.str []), .d (.int .i64 0), .d (.int .u32 0)] 0))]⟩, ⟨.tup [], [([11], some (.cells [.d (.str ([69] : List UInt8)), .d (.int .i64 (IntKind.wrap .i64 (97 + (bitsOp .and .i64 z_1.Com 1)))), .d (.int .u32 (bitsOp .and .u32 z_2.Len 255))] 0))]⟩] (by kernel_rfl) ?_
      refine RunAt.done (by kernel_rfl) ?_
      refine kS_nrm ?_
      refine Runs.seq ?_
      refine Runs.seq ?_
      refine Runs.ops ?_
      refine RunAt.chunk 3 [⟨.ptr [11] 0 1, []⟩, ⟨.d (.int .i64 (IntKind.wrap .i64 (97 + (bitsOp .and .i64 z_1.Com 1)))), []⟩, ⟨.d (.bool ((IntKind.wrap .i64 (97 + (bitsOp .and .i64 z_1.Com 1))) == 98)), []⟩] (by kernel_rfl) ?_
      refine RunAt.done (by kernel_rfl) ?_
      refine kS_nrm ?_
      cases hb_3 : (((IntKind.wrap .i64 (97 + (bitsOp .and .i64 z_1.Com 1))) == 98) : Bool) with
      | true =>
        replace h := ite_t hb_3 h
        refine Runs.cond_t (by kernel_rfl) ?_
        refine Runs.ops ?_
        refine RunAt.chunk 3 [⟨.d (.int .i64 near8), []⟩, ⟨.d (.int .i64 (IntKind.wrap .i64 (near8 + 1))), []⟩, ⟨.d (.int .i64 (IntKind.wrap .i64 (near8 + 1))), []⟩] (by kernel_rfl) ?_
        refine RunAt.done (by kernel_rfl) ?_
        refine kS_nrm ?_
        refine Runs.ops ?_
        refine RunAt.chunk 3 [⟨.ref [46] v_46 0 (List.map Ext.d b_46).length 3, []⟩, ⟨.d (.agg [.str ([69] : List UInt8), .int .i64 (IntKind.wrap .i64 (97 + (bitsOp .and .i64 z_1.Com 1))), .int .u32 (bitsOp .and .u32 z_2.Len 255)]), []⟩, ⟨.ref [80] 0 0 (List.map Ext.d ([({ Name := ([69] : List UInt8), Com := (IntKind.wrap .i64 (97 + (bitsOp .and .i64 z_1.Com 1))), Len := (bitsOp .and .u32 z_2.Len 255) } : Ext)] : List Ext)).length 3, [([80], some (.arr (List.map Ext.d ([({ Name := ([69] : List UInt8), Com := (IntKind.wrap .i64 (97 + (bitsOp .and .i64 z_1.Com 1))), Len := (bitsOp .and .u32 z_2.Len 255) } : Ext)] : List Ext)) 0 false))]⟩] (by kernel_rfl) ?_
        obtain ⟨z_3, hz_3, h⟩ := bind_s h
        refine RunAt.cut (some 81) (.append 3 32 false) [] none [.ref [46] v_46 0 (List.map Ext.d b_46).length 3, .ref [80] 0 0 (List.map Ext.d ([({ Name := ([69] : List UInt8), Com := (IntKind.wrap .i64 (97 + (bitsOp .and .i64 z_1.Com 1))), Len := (bitsOp .and .u32 z_2.Len 255) } : Ext)] : List Ext)).length 3] (.ref [46] (v_46 + 1) 0 (List.map Ext.d z_3).length 3) [([80], some (.arr (List.map Ext.d ([({ Name := ([69] : List UInt8), Com := (IntKind.wrap .i64 (97 + (bitsOp .and .i64 z_1.Com 1))), Len := (bitsOp .and .u32 z_2.Len 255) } : Ext)] : List Ext)) 0 true)), ([46], some (.arr (List.map Ext.d z_3) (v_46 + 1) false))] (by kernel_rfl) (by kernel_rfl) (by kernel_rfl) (cut_appR (e := Ext.d) (l := b_46) (fz := false) (ws := [([80], some (.arr (List.map Ext.d ([({ Name := ([69] : List UInt8), Com := (IntKind.wrap .i64 (97 + (bitsOp .and .i64 z_1.Com 1))), Len := (bitsOp .and .u32 z_2.Len 255) } : Ext)] : List Ext)) 0 true))]) (ap_ref (e := Ext.d) (l := ([({ Name := ([69] : List UInt8), Com := (IntKind.wrap .i64 (97 + (bitsOp .and .i64 z_1.Com 1))), Len := (bitsOp .and .u32 z_2.Len 255) } : Ext)] : List Ext)) (fz := false) (by kernel_rfl) (by kernel_rfl) rfl) (fun _ => rfl) hz_3 (by kernel_rfl) (by kernel_rfl) rfl) ?_
        refine RunAt.chunk 1 [⟨.ref [46] (v_46 + 1) 0 (List.map Ext.d z_3).length 3, []⟩] (by kernel_rfl) ?_
        refine RunAt.done (by kernel_rfl) ?_
        refine kB_nrm ?_
        refine kS_nrm ?_
        refine Runs.ops ?_
        refine RunAt.chunk 3 [⟨.d (.int .i64 i10), []⟩, ⟨.d (.int .i64 (IntKind.wrap .i64 (i10 + 1))), []⟩, ⟨.d (.int .i64 (IntKind.wrap .i64 (i10 + 1))), []⟩] (by kernel_rfl) ?_
        refine RunAt.done (by kernel_rfl) ?_
        obtain rfl := Option.some.inj h
        exact ⟨rfl, (v_29, (v_46 + 1)), (Canon.nil (by kernel_rfl))⟩
      | false =>
        replace h := ite_f hb_3 h
        refine Runs.cond_f (by kernel_rfl) ?_
        refine Runs.ops ?_
        refine RunAt.chunk 3 [⟨.d (.int .i64 far9), []⟩, ⟨.d (.int .i64 (IntKind.wrap .i64 (far9 + 1))), []⟩, ⟨.d (.int .i64 (IntKind.wrap .i64 (far9 + 1))), []⟩] (by kernel_rfl) ?_
        refine RunAt.done (by kernel_rfl) ?_
        refine kS_nrm ?_
        refine Runs.ops ?_
        refine RunAt.chunk 3 [⟨.ref [46] v_46 0 (List.map Ext.d b_46).length 3, []⟩, ⟨.d (.agg [.str ([69] : List UInt8), .int .i64 (IntKind.wrap .i64 (97 + (bitsOp .and .i64 z_1.Com 1))), .int .u32 (bitsOp .and .u32 z_2.Len 255)]), []⟩, ⟨.ref [80] 0 0 (List.map Ext.d ([({ Name := ([69] : List UInt8), Com := (IntKind.wrap .i64 (97 + (bitsOp .and .i64 z_1.Com 1))), Len := (bitsOp .and .u32 z_2.Len 255) } : Ext)] : List Ext)).length 3, [([80], some (.arr (List.map Ext.d ([({ Name := ([69] : List UInt8), Com := (IntKind.wrap .i64 (97 + (bitsOp .and .i64 z_1.Com 1))), Len := (bitsOp .and .u32 z_2.Len 255) } : Ext)] : List Ext)) 0 false))]⟩] (by kernel_rfl) ?_
        obtain ⟨z_4, hz_4, h⟩ := bind_s h
        refine RunAt.cut (some 81) (.append 3 32 false) [] none [.ref [46] v_46 0 (List.map Ext.d b_46).length 3, .ref [80] 0 0 (List.map Ext.d ([({ Name := ([69] : List UInt8), Com := (IntKind.wrap .i64 (97 + (bitsOp .and .i64 z_1.Com 1))), Len := (bitsOp .and .u32 z_2.Len 255) } : Ext)] : List Ext)).length 3] (.ref [46] (v_46 + 1) 0 (List.map Ext.d z_4).length 3) [([80], some (.arr (List.map Ext.d ([({ Name := ([69] : List UInt8), Com := (IntKind.wrap .i64 (97 + (bitsOp .and .i64 z_1.Com 1))), Len := (bitsOp .and .u32 z_2.Len 255) } : Ext)] : List Ext)) 0 true)), ([46], some (.arr (List.map Ext.d z_4) (v_46 + 1) false))] (by kernel_rfl) (by kernel_rfl) (by kernel_rfl) (cut_appR (e := Ext.d) (l := b_46) (fz := false) (ws := [([80], some (.arr (List.map Ext.d ([({ Name := ([69] : List UInt8), Com := (IntKind.wrap .i64 (97 + (bitsOp .and .i64 z_1.Com 1))), Len := (bitsOp .and .u32 z_2.Len 255) } : Ext)] : List Ext)) 0 true))]) (ap_ref (e := Ext.d) (l := ([({ Name := ([69] : List UInt8), Com := (IntKind.wrap .i64 (97 + (bitsOp .and .i64 z_1.Com 1))), Len := (bitsOp .and .u32 z_2.Len 255) } : Ext)] : List Ext)) (fz := false) (by kernel_rfl) (by kernel_rfl) rfl) (fun _ => rfl) hz_4 (by kernel_rfl) (by kernel_rfl) rfl) ?_
        refine RunAt.chunk 1 [⟨.ref [46] (v_46 + 1) 0 (List.map Ext.d z_4).length 3, []⟩] (by kernel_rfl) ?_
        refine RunAt.done (by kernel_rfl) ?_
        refine kB_nrm ?_
        refine kS_nrm ?_
        refine Runs.ops ?_
        refine RunAt.chunk 3 [⟨.d (.int .i64 i10), []⟩, ⟨.d (.int .i64 (IntKind.wrap .i64 (i10 + 1))), []⟩, ⟨.d (.int .i64 (IntKind.wrap .i64 (i10 + 1))), []⟩] (by kernel_rfl) ?_
        refine RunAt.done (by kernel_rfl) ?_
        obtain rfl := Option.some.inj h
        exact ⟨rfl, (v_29, (v_46 + 1)), (Canon.nil (by kernel_rfl))⟩
    | false =>
      replace h := ite_f hb_2 h
      refine Runs.cond_f (by kernel_rfl) ?_
      refine Runs.exit ?_
      refine kS_exit ?_
      obtain rfl := Option.some.inj h
      exact ⟨nofun, rfl, (v_29, v_46), (Canon.nil (by kernel_rfl))⟩
  | false =>
    replace h := ite_f hb_1 h
    refine RunAt.chunk 3 [⟨.tup [], []⟩, ⟨.tup [], []⟩, ⟨.d (.bool false), []⟩] (by kernel_rfl) ?_
    refine RunAt.done (by kernel_rfl) ?_
    refine kS_nrm ?_
    refine Runs.cond_f (by kernel_rfl) ?_
    refine Runs.exit ?_
    refine kS_exit ?_
    obtain rfl := Option.some.inj h
    exact ⟨nofun, rfl, (v_29, v_46), (Canon.nil (by kernel_rfl))⟩
theorem hansomlaw40_CombAll_l76_ok (l_ : (List Ext)) (many_ : Int) (b_29 : (List Module)) (b_46 : (List Ext)) (many1 : Int) (m12 : (List Comb)) (sum15 : Int) (i16 : Int) (v_29 : Nat) (v_46 : Nat) (f_29 : Bool) (f_46 : Bool) (r : (Lp (Int × Int) (Bool ⊕ Unit))) (h : hansomlaw40_CombAll_l76 b_29 b_46 many1 m12 sum15 i16 = some r) : Runs L F14l76 (hansomlaw40_CombAll_h76 b_29 b_46 many1 m12 sum15 i16 v_29 v_46 f_29 f_46) (LQ [] [1, 5, 7, 12, 15, 16] [[29], [46]] (fun (x : (Int × Int)) (g : (Nat × Nat × Bool × Bool)) => hansomlaw40_CombAll_h76 b_29 b_46 many1 m12 x.1 x.2 g.1 g.2.1 g.2.2.1 g.2.2.2) (hansomlaw40_CombAll_P76 l_ many_ b_29 b_46 many1 m12) r) := by
  unfold hansomlaw40_CombAll_l76 at h
  refine Runs.seq ?_
  refine Runs.seq ?_
  refine Runs.ops ?_
  refine RunAt.chunk 2 [⟨.d (.int .i64 i16), []⟩, ⟨.ref [29] v_29 0 (List.map Module.d b_29).length 18, []⟩] (by kernel_rfl) ?_
  refine RunAt.cut (some 111) .lenL [] none [.ref [29] v_29 0 (List.map Module.d b_29).length 18] (.d (.int .i64 (b_29.length : Int))) [] (by kernel_rfl) (by kernel_rfl) (by kernel_rfl) (cut_lenR (e := Module.d) b_29 rfl) ?_
  refine RunAt.chunk 1 [⟨.d (.bool (decide (i16 < (b_29.length : Int)))), []⟩] (by kernel_rfl) ?_
  refine RunAt.done (by kernel_rfl) ?_
  refine kS_nrm ?_
  cases hb_5 : ((decide (i16 < (b_29.length : Int))) : Bool) with
  | true =>
    replace h := ite_t hb_5 h
    refine Runs.cond_t (by kernel_rfl) ?_
    refine Runs.skip ?_
    refine kS_nrm ?_
    refine Runs.seq ?_
    refine Runs.block ?_
    refine Runs.seq ?_
    refine Runs.ops ?_
    refine RunAt.chunk 2 [⟨.d (.sl (List.map Comb.d m12)), []⟩, ⟨.d (.int .i64 i16), []⟩] (by kernel_rfl) ?_
    obtain ⟨r_2, hr_2, h⟩ := bind_s h
    have hc_2 := comb_Find_L m12 i16 1 r_2 hr_2
    refine RunAt.cut (some 118) (.callf 52) [] none [.d (.sl (List.map Comb.d m12)), .d (.int .i64 i16), .d (.int .i64 1)] (.tup [.d (.int .i64 r_2.1), .d (.int .i64 r_2.2.1), .d (.bool r_2.2.2)]) [] (by kernel_rfl) (by kernel_rfl) (by kernel_rfl) (cut_call (call_of (ws := []) (us := []) (by kernel_rfl) (by kernel_rfl) hc_2 (by kernel_rfl) (by kernel_rfl))) ?_
    refine RunAt.chunk 7 [⟨.tup [.d (.int .i64 r_2.1), .d (.int .i64 r_2.2.1), .d (.bool r_2.2.2)], []⟩, ⟨.d (.int .i64 r_2.1), []⟩, ⟨.d (.int .i64 r_2.2.1), []⟩, ⟨.d (.bool r_2.2.2), []⟩, ⟨.d (.int .i64 r_2.1), []⟩, ⟨.d (.int .i64 r_2.2.1), []⟩, ⟨.d (.bool r_2.2.2), []⟩] (by kernel_rfl) ?_
    refine RunAt.done (by kernel_rfl) ?_
    refine kS_nrm ?_
    refine Runs.seq ?_
    refine Runs.ops ?_
    refine RunAt.chunk 2 [⟨.d (.sl (List.map Comb.d m12)), []⟩, ⟨.d (.int .i64 i16), []⟩] (by kernel_rfl) ?_
    obtain ⟨r_3, hr_3, h⟩ := bind_s h
    have hc_3 := comb_Find_L m12 i16 2 r_3 hr_3
    refine RunAt.cut (some 125) (.callf 52) [] none [.d (.sl (List.map Comb.d m12)), .d (.int .i64 i16), .d (.int .i64 2)] (.tup [.d (.int .i64 r_3.1), .d (.int .i64 r_3.2.1), .d (.bool r_3.2.2)]) [] (by kernel_rfl) (by kernel_rfl) (by kernel_rfl) (cut_call (call_of (ws := []) (us := []) (by kernel_rfl) (by kernel_rfl) hc_3 (by kernel_rfl) (by kernel_rfl))) ?_
    refine RunAt.chunk 7 [⟨.tup [.d (.int .i64 r_3.1), .d (.int .i64 r_3.2.1), .d (.bool r_3.2.2)], []⟩, ⟨.d (.int .i64 r_3.1), []⟩, ⟨.d (.int .i64 r_3.2.1), []⟩, ⟨.d (.bool r_3.2.2), []⟩, ⟨.d (.int .i64 r_3.1), []⟩, ⟨.d (.int .i64 r_3.2.1), []⟩, ⟨.d (.bool r_3.2.2), []⟩] (by kernel_rfl) ?_
    refine RunAt.done (by kernel_rfl) ?_
    refine kS_nrm ?_
    refine Runs.seq ?_
    refine Runs.seq ?_
    refine Runs.ops ?_
    refine RunAt.chunk 3 [⟨.d (.bool r_2.2.2), []⟩, ⟨.d (.bool (!r_2.2.2)), []⟩, ⟨.d (.bool (!r_2.2.2)), []⟩] (by kernel_rfl) ?_
    cases hb_6 : ((!r_2.2.2) : Bool) with
    | true =>
      replace h := ite_t hb_6 h
      refine RunAt.chunk 32 [⟨.tup [], []⟩, ⟨.tup [], []⟩, ⟨.d (.bool true), []⟩, ⟨.d (.bool true), []⟩, ⟨.tup [], []⟩, ⟨.tup [], []⟩, ⟨.d (.bool true), []⟩, ⟨.d (.bool true), []⟩, ⟨.tup [], []⟩, ⟨.tup [], []⟩, ⟨.tup [], []⟩, ⟨.d (.bool true), []⟩, ⟨.d (.bool true), []⟩, ⟨.tup [], []⟩, ⟨.tup [], []⟩, ⟨.d (.bool true), []⟩, ⟨.d (.bool true), []⟩, ⟨.tup [], []⟩, ⟨.tup [], []⟩, ⟨.tup [], []⟩, ⟨.tup [], []⟩, ⟨.tup [], []⟩, ⟨.tup [], []⟩, ⟨.d (.bool true), []⟩, ⟨.d (.bool true), []⟩, ⟨.tup [], []⟩, ⟨.tup [], []⟩, ⟨.tup [], []⟩, ⟨.tup [], []⟩, ⟨.tup [], []⟩, ⟨.tup [], []⟩, ⟨.d (.bool true), []⟩] (by kernel_rfl) ?_
      refine RunAt.done (by kernel_rfl) ?_
      refine kS_nrm ?_
      refine Runs.cond_t (by kernel_rfl) ?_
      refine Runs.seq ?_
      refine Runs.ops ?_
      refine RunAt.chunk 1 [⟨.d (.bool false), []⟩] (by kernel_rfl) ?_
      refine RunAt.done (by kernel_rfl) ?_
      refine kS_nrm ?_
      refine Runs.ret ?_
      refine kS_ret ?_
      refine kB_ret ?_
      refine kS_ret ?_
      obtain rfl := Option.some.inj h
      exact ⟨nofun, rfl, (by kernel_rfl)⟩
    | false =>
      replace h := ite_f hb_6 h
      refine RunAt.chunk 4 [⟨.d (.bool r_3.2.2), []⟩, ⟨.d (.bool (!r_3.2.2)), []⟩, ⟨.d (.bool (!r_3.2.2)), []⟩, ⟨.d (.bool (!r_3.2.2)), []⟩] (by kernel_rfl) ?_
      cases hb_7 : ((!r_3.2.2) : Bool) with
      | true =>
        replace h := ite_t hb_7 h
        refine RunAt.chunk 28 [⟨.tup [], []⟩, ⟨.tup [], []⟩, ⟨.d (.bool true), []⟩, ⟨.d (.bool true), []⟩, ⟨.tup [], []⟩, ⟨.tup [], []⟩, ⟨.tup [], []⟩, ⟨.d (.bool true), []⟩, ⟨.d (.bool true), []⟩, ⟨.tup [], []⟩, ⟨.tup [], []⟩, ⟨.d (.bool true), []⟩, ⟨.d (.bool true), []⟩, ⟨.tup [], []⟩, ⟨.tup [], []⟩, ⟨.tup [], []⟩, ⟨.tup [], []⟩, ⟨.tup [], []⟩, ⟨.tup [], []⟩, ⟨.d (.bool true), []⟩, ⟨.d (.bool true), []⟩, ⟨.tup [], []⟩, ⟨.tup [], []⟩, ⟨.tup [], []⟩, ⟨.tup [], []⟩, ⟨.tup [], []⟩, ⟨.tup [], []⟩, ⟨.d (.bool true), []⟩] (by kernel_rfl) ?_
        refine RunAt.done (by kernel_rfl) ?_
        refine kS_nrm ?_
        refine Runs.cond_t (by kernel_rfl) ?_
        refine Runs.seq ?_
        refine Runs.ops ?_
        refine RunAt.chunk 1 [⟨.d (.bool false), []⟩] (by kernel_rfl) ?_
        refine RunAt.done (by kernel_rfl) ?_
        refine kS_nrm ?_
        refine Runs.ret ?_
        refine kS_ret ?_
        refine kB_ret ?_
        refine kS_ret ?_
        obtain rfl := Option.some.inj h
        exact ⟨nofun, rfl, (by kernel_rfl)⟩
      | false =>
        replace h := ite_f hb_7 h
        refine RunAt.chunk 4 [⟨.d (.int .i64 r_2.1), []⟩, ⟨.d (.bool (r_2.1 != 0)), []⟩, ⟨.d (.bool (r_2.1 != 0)), []⟩, ⟨.d (.bool (r_2.1 != 0)), []⟩] (by kernel_rfl) ?_
        cases hb_8 : ((r_2.1 != 0) : Bool) with
        | true =>
          replace h := ite_t hb_8 h
          refine RunAt.chunk 24 [⟨.tup [], []⟩, ⟨.tup [], []⟩, ⟨.tup [], []⟩, ⟨.d (.bool true), []⟩, ⟨.d (.bool true), []⟩, ⟨.tup [], []⟩, ⟨.tup [], []⟩, ⟨.d (.bool true), []⟩, ⟨.d (.bool true), []⟩, ⟨.tup [], []⟩, ⟨.tup [], []⟩, ⟨.tup [], []⟩, ⟨.tup [], []⟩, ⟨.tup [], []⟩, ⟨.tup [], []⟩, ⟨.d (.bool true), []⟩, ⟨.d (.bool true), []⟩, ⟨.tup [], []⟩, ⟨.tup [], []⟩, ⟨.tup [], []⟩, ⟨.tup [], []⟩, ⟨.tup [], []⟩, ⟨.tup [], []⟩, ⟨.d (.bool true), []⟩] (by kernel_rfl) ?_
          refine RunAt.done (by kernel_rfl) ?_
          refine kS_nrm ?_
          refine Runs.cond_t (by kernel_rfl) ?_
          refine Runs.seq ?_
          refine Runs.ops ?_
          refine RunAt.chunk 1 [⟨.d (.bool false), []⟩] (by kernel_rfl) ?_
          refine RunAt.done (by kernel_rfl) ?_
          refine kS_nrm ?_
          refine Runs.ret ?_
          refine kS_ret ?_
          refine kB_ret ?_
          refine kS_ret ?_
          obtain rfl := Option.some.inj h
          exact ⟨nofun, rfl, (by kernel_rfl)⟩
        | false =>
          replace h := ite_f hb_8 h
          refine RunAt.chunk 5 [⟨.d (.int .i64 r_2.2.1), []⟩, ⟨.d (.int .i64 sum15), []⟩, ⟨.d (.bool (r_2.2.1 != sum15)), []⟩, ⟨.d (.bool (r_2.2.1 != sum15)), []⟩, ⟨.d (.bool (r_2.2.1 != sum15)), []⟩] (by kernel_rfl) ?_
          cases hb_9 : ((r_2.2.1 != sum15) : Bool) with
          | true =>
            replace h := ite_t hb_9 h
            refine RunAt.chunk 19 [⟨.tup [], []⟩, ⟨.tup [], []⟩, ⟨.d (.bool true), []⟩, ⟨.d (.bool true), []⟩, ⟨.tup [], []⟩, ⟨.tup [], []⟩, ⟨.tup [], []⟩, ⟨.tup [], []⟩, ⟨.tup [], []⟩, ⟨.tup [], []⟩, ⟨.d (.bool true), []⟩, ⟨.d (.bool true), []⟩, ⟨.tup [], []⟩, ⟨.tup [], []⟩, ⟨.tup [], []⟩, ⟨.tup [], []⟩, ⟨.tup [], []⟩, ⟨.tup [], []⟩, ⟨.d (.bool true), []⟩] (by kernel_rfl) ?_
            refine RunAt.done (by kernel_rfl) ?_
            refine kS_nrm ?_
            refine Runs.cond_t (by kernel_rfl) ?_
            refine Runs.seq ?_
            refine Runs.ops ?_
            refine RunAt.chunk 1 [⟨.d (.bool false), []⟩] (by kernel_rfl) ?_
            refine RunAt.done (by kernel_rfl) ?_
            refine kS_nrm ?_
            refine Runs.ret ?_
            refine kS_ret ?_
            refine kB_ret ?_
            refine kS_ret ?_
            obtain rfl := Option.some.inj h
            exact ⟨nofun, rfl, (by kernel_rfl)⟩
          | false =>
            replace h := ite_f hb_9 h
            refine RunAt.chunk 4 [⟨.d (.int .i64 r_3.2.1), []⟩, ⟨.d (.bool (r_3.2.1 != 0)), []⟩, ⟨.d (.bool (r_3.2.1 != 0)), []⟩, ⟨.d (.bool (r_3.2.1 != 0)), []⟩] (by kernel_rfl) ?_
            cases hb_10 : ((r_3.2.1 != 0) : Bool) with
            | true =>
              replace h := ite_t hb_10 h
              refine RunAt.chunk 15 [⟨.tup [], []⟩, ⟨.tup [], []⟩, ⟨.tup [], []⟩, ⟨.tup [], []⟩, ⟨.tup [], []⟩, ⟨.tup [], []⟩, ⟨.d (.bool true), []⟩, ⟨.d (.bool true), []⟩, ⟨.tup [], []⟩, ⟨.tup [], []⟩, ⟨.tup [], []⟩, ⟨.tup [], []⟩, ⟨.tup [], []⟩, ⟨.tup [], []⟩, ⟨.d (.bool true), []⟩] (by kernel_rfl) ?_
              refine RunAt.done (by kernel_rfl) ?_
              refine kS_nrm ?_
              refine Runs.cond_t (by kernel_rfl) ?_
              refine Runs.seq ?_
              refine Runs.ops ?_
              refine RunAt.chunk 1 [⟨.d (.bool false), []⟩] (by kernel_rfl) ?_
              refine RunAt.done (by kernel_rfl) ?_
              refine kS_nrm ?_
              refine Runs.ret ?_
              refine kS_ret ?_
              refine kB_ret ?_
              refine kS_ret ?_
              obtain rfl := Option.some.inj h
              exact ⟨nofun, rfl, (by kernel_rfl)⟩
            | false =>
              replace h := ite_f hb_10 h
              refine RunAt.chunk 2 [⟨.d (.sl (List.map Comb.d m12)), []⟩, ⟨.d (.int .i64 r_3.1), []⟩] (by kernel_rfl) ?_
              obtain ⟨z_1, hz_1, h⟩ := bind_s h
              refine RunAt.cut (some 151) (.iaddrS 8) [] none [.d (.sl (List.map Comb.d m12)), .d (.int .i64 r_3.1)] (.elt (Comb.d z_1) 0) [] (by kernel_rfl) (by kernel_rfl) (by kernel_rfl) (cut_at hz_1 (fun _ => rfl)) ?_
              refine RunAt.chunk 5 [⟨.elt (Comb.d z_1) 0, []⟩, ⟨.d (.str z_1.Name), []⟩, ⟨.d (.bool (z_1.Name != ([75] : List UInt8))), []⟩, ⟨.d (.bool (z_1.Name != ([75] : List UInt8))), []⟩, ⟨.d (.bool (z_1.Name != ([75] : List UInt8))), []⟩] (by kernel_rfl) ?_
              cases hb_11 : ((z_1.Name != ([75] : List UInt8)) : Bool) with
              | true =>
                replace h := ite_t hb_11 h
                refine RunAt.chunk 7 [⟨.tup [], []⟩, ⟨.tup [], []⟩, ⟨.tup [], []⟩, ⟨.tup [], []⟩, ⟨.tup [], []⟩, ⟨.tup [], []⟩, ⟨.d (.bool true), []⟩] (by kernel_rfl) ?_
                refine RunAt.done (by kernel_rfl) ?_
                refine kS_nrm ?_
                refine Runs.cond_t (by kernel_rfl) ?_
                refine Runs.seq ?_
                refine Runs.ops ?_
                refine RunAt.chunk 1 [⟨.d (.bool false), []⟩] (by kernel_rfl) ?_
                refine RunAt.done (by kernel_rfl) ?_
                refine kS_nrm ?_
                refine Runs.ret ?_
                refine kS_ret ?_
                refine kB_ret ?_
                refine kS_ret ?_
                obtain rfl := Option.some.inj h
                exact ⟨nofun, rfl, (by kernel_rfl)⟩
              | false =>
                replace h := ite_f hb_11 h
                refine RunAt.chunk 2 [⟨.d (.sl (List.map Comb.d m12)), []⟩, ⟨.d (.int .i64 r_3.1), []⟩] (by kernel_rfl) ?_
                obtain ⟨z_2, hz_2, h⟩ := bind_s h
                refine RunAt.cut (some 159) (.iaddrS 8) [] none [.d (.sl (List.map Comb.d m12)), .d (.int .i64 r_3.1)] (.elt (Comb.d z_2) 0) [] (by kernel_rfl) (by kernel_rfl) (by kernel_rfl) (cut_at hz_2 (fun _ => rfl)) ?_
                refine RunAt.chunk 4 [⟨.elt (Comb.d z_2) 1, []⟩, ⟨.d (.str z_2.Class), []⟩, ⟨.d (.bool (z_2.Class != ([] : List UInt8))), []⟩, ⟨.d (.bool (z_2.Class != ([] : List UInt8))), []⟩] (by kernel_rfl) ?_
                refine RunAt.done (by kernel_rfl) ?_
                refine kS_nrm ?_
                cases hb_12 : ((z_2.Class != ([] : List UInt8)) : Bool) with
                | true =>
                  replace h := ite_t hb_12 h
                  refine Runs.cond_t (by kernel_rfl) ?_
                  refine Runs.seq ?_
                  refine Runs.ops ?_
                  refine RunAt.chunk 1 [⟨.d (.bool false), []⟩] (by kernel_rfl) ?_
                  refine RunAt.done (by kernel_rfl) ?_
                  refine kS_nrm ?_
                  refine Runs.ret ?_
                  refine kS_ret ?_
                  refine kB_ret ?_
                  refine kS_ret ?_
                  obtain rfl := Option.some.inj h
                  exact ⟨nofun, rfl, (by kernel_rfl)⟩
                | false =>
                  replace h := ite_f hb_12 h
                  refine Runs.cond_f (by kernel_rfl) ?_
                  refine Runs.skip ?_
                  refine kS_nrm ?_
                  refine Runs.ops ?_
                  refine RunAt.chunk 5 [⟨.d (.int .i64 sum15), []⟩, ⟨.d (.int .i64 i16), []⟩, ⟨.d (.int .i64 (IntKind.wrap .i64 (5 + i16))), []⟩, ⟨.d (.int .i64 (IntKind.wrap .i64 (sum15 + (IntKind.wrap .i64 (5 + i16))))), []⟩, ⟨.d (.int .i64 (IntKind.wrap .i64 (sum15 + (IntKind.wrap .i64 (5 + i16))))), []⟩] (by kernel_rfl) ?_
                  refine RunAt.done (by kernel_rfl) ?_
                  refine kB_nrm ?_
                  refine kS_nrm ?_
                  refine Runs.ops ?_
                  refine RunAt.chunk 3 [⟨.d (.int .i64 i16), []⟩, ⟨.d (.int .i64 (IntKind.wrap .i64 (i16 + 1))), []⟩, ⟨.d (.int .i64 (IntKind.wrap .i64 (i16 + 1))), []⟩] (by kernel_rfl) ?_
                  refine RunAt.done (by kernel_rfl) ?_
                  obtain rfl := Option.some.inj h
                  exact ⟨rfl, (v_29, v_46, f_29, f_46), (Canon.nil (by kernel_rfl))⟩
  | false =>
    replace h := ite_f hb_5 h
    refine Runs.cond_f (by kernel_rfl) ?_
    refine Runs.exit ?_
    refine kS_exit ?_
    obtain rfl := Option.some.inj h
    exact ⟨nofun, rfl, (v_46, f_46), (Canon.nil (by kernel_rfl))⟩
theorem hansomlaw40_CombAll_l103_ok (l_ : (List Ext)) (many_ : Int) (b_46 : (List Ext)) (many1 : Int) (m12 : (List Comb)) (i23 : Int) (v_46 : Nat) (f_46 : Bool) (r : (Lp Int (Bool ⊕ Unit))) (h : hansomlaw40_CombAll_l103 b_46 many1 m12 i23 = some r) : Runs L F14l103 (hansomlaw40_CombAll_h103 b_46 many1 m12 i23 v_46 f_46) (LQ [] [1, 7, 12, 23] [[46]] (fun (x : Int) (g : (Nat × Bool)) => hansomlaw40_CombAll_h103 b_46 many1 m12 x g.1 g.2) (hansomlaw40_CombAll_P103 l_ many_ b_46 many1 m12) r) := by
  unfold hansomlaw40_CombAll_l103 at h
  refine Runs.seq ?_
  refine Runs.seq ?_
  refine Runs.ops ?_
  refine RunAt.chunk 2 [⟨.d (.int .i64 i23), []⟩, ⟨.ref [46] v_46 0 (List.map Ext.d b_46).length 3, []⟩] (by kernel_rfl) ?_
  refine RunAt.cut (some 170) .lenL [] none [.ref [46] v_46 0 (List.map Ext.d b_46).length 3] (.d (.int .i64 (b_46.length : Int))) [] (by kernel_rfl) (by kernel_rfl) (by kernel_rfl) (cut_lenR (e := Ext.d) b_46 rfl) ?_
  refine RunAt.chunk 1 [⟨.d (.bool (decide (i23 < (b_46.length : Int)))), []⟩] (by kernel_rfl) ?_
  refine RunAt.done (by kernel_rfl) ?_
  refine kS_nrm ?_
  cases hb_5 : ((decide (i23 < (b_46.length : Int))) : Bool) with
  | true =>
    replace h := ite_t hb_5 h
    refine Runs.cond_t (by kernel_rfl) ?_
    refine Runs.skip ?_
    refine kS_nrm ?_
    refine Runs.seq ?_
    refine Runs.block ?_
    refine Runs.seq ?_
    refine Runs.ops ?_
    refine RunAt.chunk 2 [⟨.d (.sl (List.map Comb.d m12)), []⟩, ⟨.d (.int .i64 i23), []⟩] (by kernel_rfl) ?_
    obtain ⟨r_2, hr_2, h⟩ := bind_s h
    have hc_2 := comb_Find_L m12 (-1) i23 r_2 hr_2
    refine RunAt.cut (some 177) (.callf 52) [] none [.d (.sl (List.map Comb.d m12)), .d (.int .i64 (-1)), .d (.int .i64 i23)] (.tup [.d (.int .i64 r_2.1), .d (.int .i64 r_2.2.1), .d (.bool r_2.2.2)]) [] (by kernel_rfl) (by kernel_rfl) (by kernel_rfl) (cut_call (call_of (ws := []) (us := []) (by kernel_rfl) (by kernel_rfl) hc_2 (by kernel_rfl) (by kernel_rfl))) ?_
    refine RunAt.chunk 7 [⟨.tup [.d (.int .i64 r_2.1), .d (.int .i64 r_2.2.1), .d (.bool r_2.2.2)], []⟩, ⟨.d (.int .i64 r_2.1), []⟩, ⟨.d (.int .i64 r_2.2.1), []⟩, ⟨.d (.bool r_2.2.2), []⟩, ⟨.d (.int .i64 r_2.1), []⟩, ⟨.d (.int .i64 r_2.2.1), []⟩, ⟨.d (.bool r_2.2.2), []⟩] (by kernel_rfl) ?_
    refine RunAt.done (by kernel_rfl) ?_
    refine kS_nrm ?_
    refine Runs.seq ?_
    refine Runs.ops ?_
    refine RunAt.chunk 3 [⟨.d (.bool r_2.2.2), []⟩, ⟨.d (.bool (!r_2.2.2)), []⟩, ⟨.d (.bool (!r_2.2.2)), []⟩] (by kernel_rfl) ?_
    cases hb_6 : ((!r_2.2.2) : Bool) with
    | true =>
      replace h := ite_t hb_6 h
      refine RunAt.chunk 35 [⟨.tup [], []⟩, ⟨.tup [], []⟩, ⟨.tup [], []⟩, ⟨.d (.bool true), []⟩, ⟨.d (.bool true), []⟩, ⟨.tup [], []⟩, ⟨.tup [], []⟩, ⟨.tup [], []⟩, ⟨.tup [], []⟩, ⟨.tup [], []⟩, ⟨.tup [], []⟩, ⟨.tup [], []⟩, ⟨.tup [], []⟩, ⟨.tup [], []⟩, ⟨.tup [], []⟩, ⟨.tup [], []⟩, ⟨.tup [], []⟩, ⟨.tup [], []⟩, ⟨.d (.bool true), []⟩, ⟨.d (.bool true), []⟩, ⟨.tup [], []⟩, ⟨.tup [], []⟩, ⟨.tup [], []⟩, ⟨.tup [], []⟩, ⟨.tup [], []⟩, ⟨.tup [], []⟩, ⟨.tup [], []⟩, ⟨.tup [], []⟩, ⟨.tup [], []⟩, ⟨.tup [], []⟩, ⟨.tup [], []⟩, ⟨.tup [], []⟩, ⟨.tup [], []⟩, ⟨.tup [], []⟩, ⟨.d (.bool true), []⟩] (by kernel_rfl) ?_
      refine RunAt.done (by kernel_rfl) ?_
      refine kS_nrm ?_
      refine Runs.cond_t (by kernel_rfl) ?_
      refine Runs.seq ?_
      refine Runs.ops ?_
      refine RunAt.chunk 1 [⟨.d (.bool false), []⟩] (by kernel_rfl) ?_
      refine RunAt.done (by kernel_rfl) ?_
      refine kS_nrm ?_
      refine Runs.ret ?_
      refine kB_ret ?_
      refine kS_ret ?_
      obtain rfl := Option.some.inj h
      exact ⟨nofun, rfl, (by kernel_rfl)⟩
    | false =>
      replace h := ite_f hb_6 h
      refine RunAt.chunk 5 [⟨.d (.int .i64 r_2.2.1), []⟩, ⟨.d (.int .i64 (Int.tmod r_2.2.1 2)), []⟩, ⟨.d (.bool ((Int.tmod r_2.2.1 2) != 0)), []⟩, ⟨.d (.bool ((Int.tmod r_2.2.1 2) != 0)), []⟩, ⟨.d (.bool ((Int.tmod r_2.2.1 2) != 0)), []⟩] (by kernel_rfl) ?_
      cases hb_7 : (((Int.tmod r_2.2.1 2) != 0) : Bool) with
      | true =>
        replace h := ite_t hb_7 h
        refine RunAt.chunk 30 [⟨.tup [], []⟩, ⟨.tup [], []⟩, ⟨.tup [], []⟩, ⟨.tup [], []⟩, ⟨.tup [], []⟩, ⟨.tup [], []⟩, ⟨.tup [], []⟩, ⟨.tup [], []⟩, ⟨.tup [], []⟩, ⟨.tup [], []⟩, ⟨.tup [], []⟩, ⟨.tup [], []⟩, ⟨.tup [], []⟩, ⟨.d (.bool true), []⟩, ⟨.d (.bool true), []⟩, ⟨.tup [], []⟩, ⟨.tup [], []⟩, ⟨.tup [], []⟩, ⟨.tup [], []⟩, ⟨.tup [], []⟩, ⟨.tup [], []⟩, ⟨.tup [], []⟩, ⟨.tup [], []⟩, ⟨.tup [], []⟩, ⟨.tup [], []⟩, ⟨.tup [], []⟩, ⟨.tup [], []⟩, ⟨.tup [], []⟩, ⟨.tup [], []⟩, ⟨.d (.bool true), []⟩] (by kernel_rfl) ?_
        refine RunAt.done (by kernel_rfl) ?_
        refine kS_nrm ?_
        refine Runs.cond_t (by kernel_rfl) ?_
        refine Runs.seq ?_
        refine Runs.ops ?_
        refine RunAt.chunk 1 [⟨.d (.bool false), []⟩] (by kernel_rfl) ?_
        refine RunAt.done (by kernel_rfl) ?_
        refine kS_nrm ?_
        refine Runs.ret ?_
        refine kB_ret ?_
        refine kS_ret ?_
        obtain rfl := Option.some.inj h
        exact ⟨nofun, rfl, (by kernel_rfl)⟩
      | false =>
        replace h := ite_f hb_7 h
        refine RunAt.chunk 2 [⟨.d (.sl (List.map Comb.d m12)), []⟩, ⟨.d (.int .i64 r_2.1), []⟩] (by kernel_rfl) ?_
        obtain ⟨z_1, hz_1, h⟩ := bind_s h
        refine RunAt.cut (some 191) (.iaddrS 8) [] none [.d (.sl (List.map Comb.d m12)), .d (.int .i64 r_2.1)] (.elt (Comb.d z_1) 0) [] (by kernel_rfl) (by kernel_rfl) (by kernel_rfl) (cut_at hz_1 (fun _ => rfl)) ?_
        refine RunAt.chunk 5 [⟨.elt (Comb.d z_1) 1, []⟩, ⟨.d (.str z_1.Class), []⟩, ⟨.d (.bool (z_1.Class == ([66, 83, 83] : List UInt8))), []⟩, ⟨.ref [46] v_46 0 (List.map Ext.d b_46).length 3, []⟩, ⟨.d (.int .i64 i23), []⟩] (by kernel_rfl) ?_
        obtain ⟨z_2, hz_2, h⟩ := bind_s h
        refine RunAt.cut (some 197) (.iaddrS 3) [] none [.ref [46] v_46 0 (List.map Ext.d b_46).length 3, .d (.int .i64 i23)] (.eref [46] v_46 (0 + (i23).toNat) 0) [] (by kernel_rfl) (by kernel_rfl) (by kernel_rfl) (cut_atR (e := Ext.d) (l := b_46) hz_2 rfl) ?_
        refine RunAt.chunk 1 [⟨.eref [46] v_46 (0 + (i23).toNat) 1, []⟩] (by kernel_rfl) ?_
        refine RunAt.cut (some 199) (.load none) [] none [.eref [46] v_46 (0 + (i23).toNat) 1] (.d (.int .i64 z_2.Com)) [] (by kernel_rfl) (by kernel_rfl) (by kernel_rfl) (cut_loadR (e := Ext.d) (l := b_46) (fz := f_46) (y := z_2) (by kernel_rfl) hz_2 (by kernel_rfl) (by kernel_rfl)) ?_
        refine RunAt.chunk 4 [⟨.d (.bool (z_2.Com == 98)), []⟩, ⟨.d (.bool ((z_1.Class == ([66, 83, 83] : List UInt8)) != (z_2.Com == 98))), []⟩, ⟨.d (.bool ((z_1.Class == ([66, 83, 83] : List UInt8)) != (z_2.Com == 98))), []⟩, ⟨.d (.bool ((z_1.Class == ([66, 83, 83] : List UInt8)) != (z_2.Com == 98))), []⟩] (by kernel_rfl) ?_
        cases hb_8 : (((z_1.Class == ([66, 83, 83] : List UInt8)) != (z_2.Com == 98)) : Bool) with
        | true =>
          replace h := ite_t hb_8 h
          refine RunAt.chunk 15 [⟨.tup [], []⟩, ⟨.tup [], []⟩, ⟨.tup [], []⟩, ⟨.tup [], []⟩, ⟨.tup [], []⟩, ⟨.tup [], []⟩, ⟨.tup [], []⟩, ⟨.tup [], []⟩, ⟨.tup [], []⟩, ⟨.tup [], []⟩, ⟨.tup [], []⟩, ⟨.tup [], []⟩, ⟨.tup [], []⟩, ⟨.tup [], []⟩, ⟨.d (.bool true), []⟩] (by kernel_rfl) ?_
          refine RunAt.done (by kernel_rfl) ?_
          refine kS_nrm ?_
          refine Runs.cond_t (by kernel_rfl) ?_
          refine Runs.seq ?_
          refine Runs.ops ?_
          refine RunAt.chunk 1 [⟨.d (.bool false), []⟩] (by kernel_rfl) ?_
          refine RunAt.done (by kernel_rfl) ?_
          refine kS_nrm ?_
          refine Runs.ret ?_
          refine kB_ret ?_
          refine kS_ret ?_
          obtain rfl := Option.some.inj h
          exact ⟨nofun, rfl, (by kernel_rfl)⟩
        | false =>
          replace h := ite_f hb_8 h
          refine RunAt.chunk 2 [⟨.d (.sl (List.map Comb.d m12)), []⟩, ⟨.d (.int .i64 r_2.1), []⟩] (by kernel_rfl) ?_
          obtain ⟨z_3, hz_3, h⟩ := bind_s h
          refine RunAt.cut (some 206) (.iaddrS 8) [] none [.d (.sl (List.map Comb.d m12)), .d (.int .i64 r_2.1)] (.elt (Comb.d z_3) 0) [] (by kernel_rfl) (by kernel_rfl) (by kernel_rfl) (cut_at hz_3 (fun _ => rfl)) ?_
          refine RunAt.chunk 5 [⟨.elt (Comb.d z_3) 6, []⟩, ⟨.d (.int .i64 z_3.Len), []⟩, ⟨.d (.int .i64 r_2.2.1), []⟩, ⟨.ref [46] v_46 0 (List.map Ext.d b_46).length 3, []⟩, ⟨.d (.int .i64 i23), []⟩] (by kernel_rfl) ?_
          obtain ⟨z_4, hz_4, h⟩ := bind_s h
          refine RunAt.cut (some 212) (.iaddrS 3) [] none [.ref [46] v_46 0 (List.map Ext.d b_46).length 3, .d (.int .i64 i23)] (.eref [46] v_46 (0 + (i23).toNat) 0) [] (by kernel_rfl) (by kernel_rfl) (by kernel_rfl) (cut_atR (e := Ext.d) (l := b_46) hz_4 rfl) ?_
          refine RunAt.chunk 1 [⟨.eref [46] v_46 (0 + (i23).toNat) 2, []⟩] (by kernel_rfl) ?_
          refine RunAt.cut (some 214) (.load none) [] none [.eref [46] v_46 (0 + (i23).toNat) 2] (.d (.int .u32 z_4.Len)) [] (by kernel_rfl) (by kernel_rfl) (by kernel_rfl) (cut_loadR (e := Ext.d) (l := b_46) (fz := f_46) (y := z_4) (by kernel_rfl) hz_4 (by kernel_rfl) (by kernel_rfl)) ?_
          refine RunAt.chunk 4 [⟨.d (.int .i64 (IntKind.wrap .i64 z_4.Len)), []⟩, ⟨.d (.int .i64 (IntKind.wrap .i64 (r_2.2.1 + (IntKind.wrap .i64 z_4.Len)))), []⟩, ⟨.d (.bool (decide (z_3.Len < (IntKind.wrap .i64 (r_2.2.1 + (IntKind.wrap .i64 z_4.Len)))))), []⟩, ⟨.d (.bool (decide (z_3.Len < (IntKind.wrap .i64 (r_2.2.1 + (IntKind.wrap .i64 z_4.Len)))))), []⟩] (by kernel_rfl) ?_
          refine RunAt.done (by kernel_rfl) ?_
          refine kS_nrm ?_
          cases hb_9 : ((decide (z_3.Len < (IntKind.wrap .i64 (r_2.2.1 + (IntKind.wrap .i64 z_4.Len))))) : Bool) with
          | true =>
            replace h := ite_t hb_9 h
            refine Runs.cond_t (by kernel_rfl) ?_
            refine Runs.seq ?_
            refine Runs.ops ?_
            refine RunAt.chunk 1 [⟨.d (.bool false), []⟩] (by kernel_rfl) ?_
            refine RunAt.done (by kernel_rfl) ?_
            refine kS_nrm ?_
            refine Runs.ret ?_
            refine kB_ret ?_
            refine kS_ret ?_
            obtain rfl := Option.some.inj h
            exact ⟨nofun, rfl, (by kernel_rfl)⟩
          | false =>
            replace h := ite_f hb_9 h
            refine Runs.cond_f (by kernel_rfl) ?_
            refine Runs.skip ?_
            refine kB_nrm ?_
            refine kS_nrm ?_
            refine Runs.ops ?_
            refine RunAt.chunk 3 [⟨.d (.int .i64 i23), []⟩, ⟨.d (.int .i64 (IntKind.wrap .i64 (i23 + 1))), []⟩, ⟨.d (.int .i64 (IntKind.wrap .i64 (i23 + 1))), []⟩] (by kernel_rfl) ?_
            refine RunAt.done (by kernel_rfl) ?_
            obtain rfl := Option.some.inj h
            exact ⟨rfl, (v_46, f_46), (Canon.nil (by kernel_rfl))⟩
  | false =>
    replace h := ite_f hb_5 h
    refine Runs.cond_f (by kernel_rfl) ?_
    refine Runs.exit ?_
    refine kS_exit ?_
    obtain rfl := Option.some.inj h
    exact ⟨nofun, rfl, (), (Canon.nil (by kernel_rfl))⟩
theorem hansomlaw40_CombAll_j62_ok (l_ : (List Ext)) (many_ : Int) (b_29 : (List Module)) (b_46 : (List Ext)) (many1 : Int) (m12 : (List Comb)) (e13 : Int) (want14 : Int) (v_29 : Nat) (v_46 : Nat) (f_29 : Bool) (f_46 : Bool) (r : Bool) (h : hansomlaw40_CombAll_j62 b_29 b_46 many1 m12 e13 want14 = some r) : Runs L F14b62 (hansomlaw40_CombAll_h62 b_29 b_46 many1 m12 e13 want14 v_29 v_46 f_29 f_46) (hansomlaw40_CombAll_Q l_ many_ r) := by
  unfold hansomlaw40_CombAll_j62 at h
  refine Runs.seq ?_
  refine Runs.seq ?_
  refine Runs.ops ?_
  refine RunAt.chunk 3 [⟨.d (.int .i64 e13), []⟩, ⟨.d (.bool (e13 != 0)), []⟩, ⟨.d (.bool (e13 != 0)), []⟩] (by kernel_rfl) ?_
  cases hb_3 : ((e13 != 0) : Bool) with
  | true =>
    replace h := ite_t hb_3 h
    refine RunAt.chunk 5 [⟨.tup [], []⟩, ⟨.tup [], []⟩, ⟨.tup [], []⟩, ⟨.tup [], []⟩, ⟨.d (.bool true), []⟩] (by kernel_rfl) ?_
    refine RunAt.done (by kernel_rfl) ?_
    refine kS_nrm ?_
    refine Runs.cond_t (by kernel_rfl) ?_
    refine Runs.seq ?_
    refine Runs.ops ?_
    refine RunAt.chunk 1 [⟨.d (.bool false), []⟩] (by kernel_rfl) ?_
    refine RunAt.done (by kernel_rfl) ?_
    refine kS_nrm ?_
    refine Runs.ret ?_
    refine kS_ret ?_
    obtain rfl := Option.some.inj h
    exact ⟨Out.ret_ne, (by kernel_rfl)⟩
  | false =>
    replace h := ite_f hb_3 h
    refine RunAt.chunk 1 [⟨.d (.sl (List.map Comb.d m12)), []⟩] (by kernel_rfl) ?_
    refine RunAt.cut (some 105) .lenL [] none [.d (.sl (List.map Comb.d m12))] (.d (.int .i64 (m12.length : Int))) [] (by kernel_rfl) (by kernel_rfl) (by kernel_rfl) (cut_len _) ?_
    refine RunAt.chunk 3 [⟨.d (.int .i64 want14), []⟩, ⟨.d (.bool ((m12.length : Int) != want14)), []⟩, ⟨.d (.bool ((m12.length : Int) != want14)), []⟩] (by kernel_rfl) ?_
    refine RunAt.done (by kernel_rfl) ?_
    refine kS_nrm ?_
    cases hb_4 : (((m12.length : Int) != want14) : Bool) with
    | true =>
      replace h := ite_t hb_4 h
      refine Runs.cond_t (by kernel_rfl) ?_
      refine Runs.seq ?_
      refine Runs.ops ?_
      refine RunAt.chunk 1 [⟨.d (.bool false), []⟩] (by kernel_rfl) ?_
      refine RunAt.done (by kernel_rfl) ?_
      refine kS_nrm ?_
      refine Runs.ret ?_
      refine kS_ret ?_
      obtain rfl := Option.some.inj h
      exact ⟨Out.ret_ne, (by kernel_rfl)⟩
    | false =>
      replace h := ite_f hb_4 h
      refine Runs.cond_f (by kernel_rfl) ?_
      refine Runs.skip ?_
      refine kS_nrm ?_
      refine Runs.seq ?_
      refine Runs.ops ?_
      refine RunAt.chunk 1 [⟨.d (.int .i64 0), []⟩] (by kernel_rfl) ?_
      refine RunAt.done (by kernel_rfl) ?_
      refine kS_nrm ?_
      refine Runs.seq ?_
      refine Runs.seq ?_
      refine Runs.ops ?_
      refine RunAt.chunk 1 [⟨.d (.int .i64 0), []⟩] (by kernel_rfl) ?_
      refine RunAt.done (by kernel_rfl) ?_
      refine kS_nrm ?_
      refine Runs.block ?_
      obtain ⟨e_3, he_3, h⟩ := bind_s h
      refine Runs.loop (fun x : (Int × Int) => hansomlaw40_CombAll_l76 b_29 b_46 many1 m12 x.1 x.2) (fun (x : (Int × Int)) (g : (Nat × Nat × Bool × Bool)) => hansomlaw40_CombAll_h76 b_29 b_46 many1 m12 x.1 x.2 g.1 g.2.1 g.2.2.1 g.2.2.2) (hansomlaw40_CombAll_P76 l_ many_ b_29 b_46 many1 m12) (fun x g r hr => hansomlaw40_CombAll_l76_ok l_ many_ b_29 b_46 many1 m12 x.1 x.2 g.1 g.2.1 g.2.2.1 g.2.2.2 r hr) (v_29, v_46, f_29, f_46) he_3 (Canon.nil (by kernel_rfl)) ?_
      rintro ⟨o, s⟩ hp
      cases e_3 with
      | inl e_4 =>
        obtain ⟨ho, hf⟩ := hp
        have ho' : o = .ret := ho
        subst ho'
        refine kB_ret ?_
        refine kS_ret ?_
        obtain rfl := Option.some.inj h
        exact ⟨Out.ret_ne, hf⟩
      | inr e_5 =>
        obtain ⟨ho, g_3, hk_3⟩ := hp
        have ho' : o = .exit 4 := ho
        subst ho'
        refine kB_hit ?_
        refine kS_nrm ?_
        refine Runs.canon _ hk_3 ?_
        refine Runs.seq ?_
        refine Runs.seq ?_
        refine Runs.ops ?_
        refine RunAt.chunk 1 [⟨.d (.int .i64 0), []⟩] (by kernel_rfl) ?_
        refine RunAt.done (by kernel_rfl) ?_
        refine kS_nrm ?_
        refine Runs.block ?_
        obtain ⟨e_6, he_4, h⟩ := bind_s h
        refine Runs.loop (fun x : Int => hansomlaw40_CombAll_l103 b_46 many1 m12 x) (fun (x : Int) (g : (Nat × Bool)) => hansomlaw40_CombAll_h103 b_46 many1 m12 x g.1 g.2) (hansomlaw40_CombAll_P103 l_ many_ b_46 many1 m12) (fun x g r hr => hansomlaw40_CombAll_l103_ok l_ many_ b_46 many1 m12 x g.1 g.2 r hr) (g_3.1, g_3.2) he_4 (Canon.nil (by kernel_rfl)) ?_
        rintro ⟨o, s⟩ hp
        cases e_6 with
        | inl e_7 =>
          obtain ⟨ho, hf⟩ := hp
          have ho' : o = .ret := ho
          subst ho'
          refine kB_ret ?_
          refine kS_ret ?_
          obtain rfl := Option.some.inj h
          exact ⟨Out.ret_ne, hf⟩
        | inr e_8 =>
          obtain ⟨ho, g_4, hk_4⟩ := hp
          have ho' : o = .exit 6 := ho
          subst ho'
          refine kB_hit ?_
          refine kS_nrm ?_
          refine Runs.canon _ hk_4 ?_
          refine Runs.seq ?_
          refine Runs.ops ?_
          refine RunAt.chunk 6 [⟨.d (.int .i64 many1), []⟩, ⟨.d (.int .i64 (bitsOp .and .i64 many1 7)), []⟩, ⟨.d (.int .i64 (IntKind.wrap .i64 (65536 + (bitsOp .and .i64 many1 7)))), []⟩, ⟨.d (.int .u32 (IntKind.wrap .u32 (IntKind.wrap .i64 (65536 + (bitsOp .and .i64 many1 7))))), []⟩, ⟨.d (.agg [.str [], .int .i64 97, .int .u32 (IntKind.wrap .u32 (IntKind.wrap .i64 (65536 + (bitsOp .and .i64 many1 7))))]), []⟩, ⟨.ref [225] 0 0 (List.map Ext.d ([({ Name := [], Com := 97, Len := (IntKind.wrap .u32 (IntKind.wrap .i64 (65536 + (bitsOp .and .i64 many1 7)))) } : Ext)] : List Ext)).length 3, [([225], some (.arr (List.map Ext.d ([({ Name := [], Com := 97, Len := (IntKind.wrap .u32 (IntKind.wrap .i64 (65536 + (bitsOp .and .i64 many1 7)))) } : Ext)] : List Ext)) 0 false))]⟩] (by kernel_rfl) ?_
          obtain ⟨r_2, hr_2, h⟩ := bind_s h
          have hc_2 := comb_All_L ([] : List Module) ([({ Name := [], Com := 97, Len := (IntKind.wrap .u32 (IntKind.wrap .i64 (65536 + (bitsOp .and .i64 many1 7)))) } : Ext)] : List Ext) r_2 hr_2
          refine RunAt.cut (some 226) (.callf 54) [] none [.nils, .ref [225] 0 0 (List.map Ext.d ([({ Name := [], Com := 97, Len := (IntKind.wrap .u32 (IntKind.wrap .i64 (65536 + (bitsOp .and .i64 many1 7)))) } : Ext)] : List Ext)).length 3] (.tup [.d (.sl (List.map Comb.d r_2.1)), .d (.int .i64 r_2.2)]) [([225], some (.arr (List.map Ext.d ([({ Name := [], Com := 97, Len := (IntKind.wrap .u32 (IntKind.wrap .i64 (65536 + (bitsOp .and .i64 many1 7)))) } : Ext)] : List Ext)) 0 true))] (by kernel_rfl) (by kernel_rfl) (by kernel_rfl) (cut_call (call_of (ws := [([225], some (.arr (List.map Ext.d ([({ Name := [], Com := 97, Len := (IntKind.wrap .u32 (IntKind.wrap .i64 (65536 + (bitsOp .and .i64 many1 7)))) } : Ext)] : List Ext)) 0 true))]) (us := [([225], some (.arr (List.map Ext.d ([({ Name := [], Com := 97, Len := (IntKind.wrap .u32 (IntKind.wrap .i64 (65536 + (bitsOp .and .i64 many1 7)))) } : Ext)] : List Ext)) 0 true))]) (by kernel_rfl) (gives_cons (ws := []) (give_same (by kernel_rfl)) (gives_cons (ws := [([225], some (.arr (List.map Ext.d ([({ Name := [], Com := 97, Len := (IntKind.wrap .u32 (IntKind.wrap .i64 (65536 + (bitsOp .and .i64 many1 7)))) } : Ext)] : List Ext)) 0 true))]) (give_ref (e := Ext.d) (l := ([({ Name := [], Com := 97, Len := (IntKind.wrap .u32 (IntKind.wrap .i64 (65536 + (bitsOp .and .i64 many1 7)))) } : Ext)] : List Ext)) (fz := false) (by kernel_rfl) (by kernel_rfl) rfl) gives_nil)) hc_2 (by kernel_rfl) (by kernel_rfl))) ?_
          refine RunAt.chunk 5 [⟨.tup [.d (.sl (List.map Comb.d r_2.1)), .d (.int .i64 r_2.2)], []⟩, ⟨.d (.sl (List.map Comb.d r_2.1)), []⟩, ⟨.d (.int .i64 r_2.2), []⟩, ⟨.d (.sl (List.map Comb.d r_2.1)), []⟩, ⟨.d (.int .i64 r_2.2), []⟩] (by kernel_rfl) ?_
          refine RunAt.done (by kernel_rfl) ?_
          refine kS_nrm ?_
          refine Runs.seq ?_
          refine Runs.ops ?_
          obtain ⟨r_3, hr_3, h⟩ := bind_s h
          have hc_3 := hansomlaw40_awake_L r_3 hr_3
          refine RunAt.cut (some 229) (.callf 53) [] none [] (.d (.bool r_3)) [] (by kernel_rfl) (by kernel_rfl) (by kernel_rfl) (cut_call (call_of (ws := []) (us := []) (by kernel_rfl) (by kernel_rfl) hc_3 (by kernel_rfl) (by kernel_rfl))) ?_
          refine RunAt.chunk 1 [⟨.d (.bool r_3), []⟩] (by kernel_rfl) ?_
          cases hb_5 : (r_3 : Bool) with
          | true =>
            replace h := ite_t hb_5 h
            refine RunAt.chunk 8 [⟨.d (.int .i64 r_2.2), []⟩, ⟨.d (.bool (r_2.2 == 0)), []⟩, ⟨.d (.int .i64 many1), []⟩, ⟨.d (.int .i64 (bitsOp .and .i64 many1 7)), []⟩, ⟨.d (.bool ((bitsOp .and .i64 many1 7) == 0)), []⟩, ⟨.d (.bool ((r_2.2 == 0) == ((bitsOp .and .i64 many1 7) == 0))), []⟩, ⟨.d (.bool ((r_2.2 == 0) == ((bitsOp .and .i64 many1 7) == 0))), []⟩, ⟨.d (.bool ((r_2.2 == 0) == ((bitsOp .and .i64 many1 7) == 0))), []⟩] (by kernel_rfl) ?_
            cases hb_6 : (((r_2.2 == 0) == ((bitsOp .and .i64 many1 7) == 0)) : Bool) with
            | true =>
              replace h := ite_t hb_6 h
              refine RunAt.chunk 3 [⟨.d (.int .i64 r_2.2), []⟩, ⟨.d (.bool (r_2.2 == 0)), []⟩, ⟨.d (.bool (r_2.2 == 0)), []⟩] (by kernel_rfl) ?_
              cases hb_7 : ((r_2.2 == 0) : Bool) with
              | true =>
                replace h := ite_t hb_7 h
                refine RunAt.chunk 5 [⟨.tup [], []⟩, ⟨.tup [], []⟩, ⟨.d (.bool true), []⟩, ⟨.d (.bool true), []⟩, ⟨.d (.bool true), []⟩] (by kernel_rfl) ?_
                refine RunAt.done (by kernel_rfl) ?_
                refine kS_nrm ?_
                refine Runs.ret ?_
                obtain rfl := Option.some.inj h
                exact ⟨Out.ret_ne, (by kernel_rfl)⟩
              | false =>
                replace h := ite_f hb_7 h
                refine RunAt.chunk 5 [⟨.d (.int .i64 r_2.2), []⟩, ⟨.d (.bool (r_2.2 == 8)), []⟩, ⟨.d (.bool (r_2.2 == 8)), []⟩, ⟨.d (.bool (r_2.2 == 8)), []⟩, ⟨.d (.bool (r_2.2 == 8)), []⟩] (by kernel_rfl) ?_
                refine RunAt.done (by kernel_rfl) ?_
                refine kS_nrm ?_
                refine Runs.ret ?_
                obtain rfl := Option.some.inj h
                exact ⟨Out.ret_ne, (by kernel_rfl)⟩
            | false =>
              replace h := ite_f hb_6 h
              refine RunAt.chunk 8 [⟨.tup [], []⟩, ⟨.tup [], []⟩, ⟨.tup [], []⟩, ⟨.tup [], []⟩, ⟨.tup [], []⟩, ⟨.tup [], []⟩, ⟨.d (.bool false), []⟩, ⟨.d (.bool false), []⟩] (by kernel_rfl) ?_
              refine RunAt.done (by kernel_rfl) ?_
              refine kS_nrm ?_
              refine Runs.ret ?_
              obtain rfl := Option.some.inj h
              exact ⟨Out.ret_ne, (by kernel_rfl)⟩
          | false =>
            replace h := ite_f hb_5 h
            refine RunAt.chunk 16 [⟨.tup [], []⟩, ⟨.tup [], []⟩, ⟨.tup [], []⟩, ⟨.tup [], []⟩, ⟨.tup [], []⟩, ⟨.tup [], []⟩, ⟨.d (.bool false), []⟩, ⟨.d (.bool false), []⟩, ⟨.tup [], []⟩, ⟨.tup [], []⟩, ⟨.tup [], []⟩, ⟨.tup [], []⟩, ⟨.tup [], []⟩, ⟨.tup [], []⟩, ⟨.d (.bool false), []⟩, ⟨.d (.bool false), []⟩] (by kernel_rfl) ?_
            refine RunAt.done (by kernel_rfl) ?_
            refine kS_nrm ?_
            refine Runs.ret ?_
            obtain rfl := Option.some.inj h
            exact ⟨Out.ret_ne, (by kernel_rfl)⟩
theorem hansomlaw40_CombAll_j56_ok (l_ : (List Ext)) (many_ : Int) (b_29 : (List Module)) (b_46 : (List Ext)) (many1 : Int) (m12 : (List Comb)) (e13 : Int) (want14 : Int) (v_29 : Nat) (v_46 : Nat) (f_29 : Bool) (f_46 : Bool) (r : Bool) (h : hansomlaw40_CombAll_j56 b_29 b_46 many1 m12 e13 want14 = some r) : Runs L F14b56 (hansomlaw40_CombAll_h56 b_29 b_46 many1 m12 e13 want14 v_29 v_46 f_29 f_46) (hansomlaw40_CombAll_Q l_ many_ r) := by
  unfold hansomlaw40_CombAll_j56 at h
  refine Runs.seq ?_
  refine Runs.seq ?_
  refine Runs.ops ?_
  refine RunAt.chunk 1 [⟨.ref [29] v_29 0 (List.map Module.d b_29).length 18, []⟩] (by kernel_rfl) ?_
  refine RunAt.cut (some 94) .lenL [] none [.ref [29] v_29 0 (List.map Module.d b_29).length 18] (.d (.int .i64 (b_29.length : Int))) [] (by kernel_rfl) (by kernel_rfl) (by kernel_rfl) (cut_lenR (e := Module.d) b_29 rfl) ?_
  refine RunAt.chunk 1 [⟨.d (.bool (decide ((b_29.length : Int) > 0))), []⟩] (by kernel_rfl) ?_
  refine RunAt.done (by kernel_rfl) ?_
  refine kS_nrm ?_
  cases hb_2 : ((decide ((b_29.length : Int) > 0)) : Bool) with
  | true =>
    replace h := ite_t hb_2 h
    refine Runs.cond_t (by kernel_rfl) ?_
    refine Runs.ops ?_
    refine RunAt.chunk 2 [⟨.d (.int .i64 want14), []⟩, ⟨.ref [29] v_29 0 (List.map Module.d b_29).length 18, []⟩] (by kernel_rfl) ?_
    refine RunAt.cut (some 98) .lenL [] none [.ref [29] v_29 0 (List.map Module.d b_29).length 18] (.d (.int .i64 (b_29.length : Int))) [] (by kernel_rfl) (by kernel_rfl) (by kernel_rfl) (cut_lenR (e := Module.d) b_29 rfl) ?_
    refine RunAt.chunk 3 [⟨.d (.int .i64 (IntKind.wrap .i64 (1 + (b_29.length : Int)))), []⟩, ⟨.d (.int .i64 (IntKind.wrap .i64 (want14 + (IntKind.wrap .i64 (1 + (b_29.length : Int)))))), []⟩, ⟨.d (.int .i64 (IntKind.wrap .i64 (want14 + (IntKind.wrap .i64 (1 + (b_29.length : Int)))))), []⟩] (by kernel_rfl) ?_
    refine RunAt.done (by kernel_rfl) ?_
    refine kS_nrm ?_
    refine Runs.canon (hansomlaw40_CombAll_h62 b_29 b_46 many1 m12 e13 (IntKind.wrap .i64 (want14 + (IntKind.wrap .i64 (1 + (b_29.length : Int))))) v_29 v_46 f_29 f_46) (Canon.nil (by kernel_rfl)) ?_
    exact hansomlaw40_CombAll_j62_ok l_ many_ b_29 b_46 many1 m12 e13 (IntKind.wrap .i64 (want14 + (IntKind.wrap .i64 (1 + (b_29.length : Int))))) v_29 v_46 f_29 f_46 r h
  | false =>
    replace h := ite_f hb_2 h
    refine Runs.cond_f (by kernel_rfl) ?_
    refine Runs.skip ?_
    refine kS_nrm ?_
    refine Runs.canon (hansomlaw40_CombAll_h62 b_29 b_46 many1 m12 e13 want14 v_29 v_46 f_29 f_46) (Canon.nil (by kernel_rfl)) ?_
    exact hansomlaw40_CombAll_j62_ok l_ many_ b_29 b_46 many1 m12 e13 want14 v_29 v_46 f_29 f_46 r h
theorem hansomlaw40_CombAll_ok (l_ : (List Ext)) (many_ : Int) (r : Bool) (h : hansomlaw40_CombAll l_ many_ = some r) : Runs L F14.body ⟨tmOf [.d (.sl (List.map Ext.d l_)), .d (.int .i64 many_)] 0, updW (fun _ => none) []⟩ (hansomlaw40_CombAll_Q l_ many_ r) := by
  unfold hansomlaw40_CombAll at h
  refine Runs.seq ?_
  refine Runs.ops ?_
  refine RunAt.chunk 1 [⟨.d (.bool false), []⟩] (by kernel_rfl) ?_
  refine RunAt.done (by kernel_rfl) ?_
  refine kS_nrm ?_
  refine Runs.seq ?_
  refine Runs.ops ?_
  refine RunAt.chunk 2 [⟨.ref [29] 0 0 (List.map Module.d ([] : List Module)).length 18, [([29], some (.arr (List.map Module.d ([] : List Module)) 0 false))]⟩, ⟨.ref [29] 0 0 (List.map Module.d ([] : List Module)).length 18, []⟩] (by kernel_rfl) ?_
  refine RunAt.done (by kernel_rfl) ?_
  refine kS_nrm ?_
  refine Runs.seq ?_
  refine Runs.seq ?_
  refine Runs.ops ?_
  refine RunAt.chunk 1 [⟨.d (.int .i64 0), []⟩] (by kernel_rfl) ?_
  refine RunAt.done (by kernel_rfl) ?_
  refine kS_nrm ?_
  refine Runs.block ?_
  obtain ⟨e_1, he_1, h⟩ := bind_s h
  refine Runs.loop (fun x : ((List Module) × Int) => hansomlaw40_CombAll_l8 x.1 l_ many_ x.2) (fun (x : ((List Module) × Int)) (g : Nat) => hansomlaw40_CombAll_h8 x.1 l_ many_ x.2 g) (hansomlaw40_CombAll_P8 l_ many_ l_ many_) (fun x g r hr => hansomlaw40_CombAll_l8_ok l_ many_ x.1 l_ many_ x.2 g r hr) 0 he_1 (Canon.nil (by kernel_rfl)) ?_
  rintro ⟨o, s⟩ hp
  obtain ⟨ho, g_1, hk_1⟩ := hp
  have ho' : o = .exit 0 := ho
  subst ho'
  refine kB_hit ?_
  refine kS_nrm ?_
  refine Runs.canon _ hk_1 ?_
  refine Runs.seq ?_
  refine Runs.ops ?_
  refine RunAt.chunk 2 [⟨.ref [46] 0 0 (List.map Ext.d ([] : List Ext)).length 3, [([46], some (.arr (List.map Ext.d ([] : List Ext)) 0 false))]⟩, ⟨.ref [46] 0 0 (List.map Ext.d ([] : List Ext)).length 3, []⟩] (by kernel_rfl) ?_
  refine RunAt.done (by kernel_rfl) ?_
  refine kS_nrm ?_
  refine Runs.seq ?_
  refine Runs.ops ?_
  refine RunAt.chunk 2 [⟨.d (.int .i64 0), []⟩, ⟨.d (.int .i64 0), []⟩] (by kernel_rfl) ?_
  refine RunAt.done (by kernel_rfl) ?_
  refine kS_nrm ?_
  refine Runs.seq ?_
  refine Runs.seq ?_
  refine Runs.ops ?_
  refine RunAt.chunk 1 [⟨.d (.int .i64 0), []⟩] (by kernel_rfl) ?_
  refine RunAt.done (by kernel_rfl) ?_
  refine kS_nrm ?_
  refine Runs.block ?_
  obtain ⟨e_2, he_2, h⟩ := bind_s h
  refine Runs.loop (fun x : ((List Ext) × Int × Int × Int) => hansomlaw40_CombAll_l27 e_1 x.1 l_ many_ x.2.1 x.2.2.1 x.2.2.2) (fun (x : ((List Ext) × Int × Int × Int)) (g : (Nat × Nat)) => hansomlaw40_CombAll_h27 e_1 x.1 l_ many_ x.2.1 x.2.2.1 x.2.2.2 g.1 g.2) (hansomlaw40_CombAll_P27 l_ many_ e_1 l_ many_) (fun x g r hr => hansomlaw40_CombAll_l27_ok l_ many_ e_1 x.1 l_ many_ x.2.1 x.2.2.1 x.2.2.2 g.1 g.2 r hr) (g_1, 0) he_2 (Canon.nil (by kernel_rfl)) ?_
  rintro ⟨o, s⟩ hp
  obtain ⟨ho, g_2, hk_2⟩ := hp
  have ho' : o = .exit 2 := ho
  subst ho'
  refine kB_hit ?_
  refine kS_nrm ?_
  refine Runs.canon _ hk_2 ?_
  refine Runs.seq ?_
  refine Runs.ops ?_
  refine RunAt.chunk 2 [⟨.ref [29] g_2.1 0 (List.map Module.d e_1).length 18, []⟩, ⟨.ref [46] g_2.2 0 (List.map Ext.d e_2.1).length 3, []⟩] (by kernel_rfl) ?_
  obtain ⟨r_1, hr_1, h⟩ := bind_s h
  have hc_1 := comb_All_L e_1 e_2.1 r_1 hr_1
  refine RunAt.cut (some 85) (.callf 54) [] none [.ref [29] g_2.1 0 (List.map Module.d e_1).length 18, .ref [46] g_2.2 0 (List.map Ext.d e_2.1).length 3] (.tup [.d (.sl (List.map Comb.d r_1.1)), .d (.int .i64 r_1.2)]) [([29], some (.arr (List.map Module.d e_1) g_2.1 true)), ([46], some (.arr (List.map Ext.d e_2.1) g_2.2 true))] (by kernel_rfl) (by kernel_rfl) (by kernel_rfl) (cut_call (call_of (ws := [([29], some (.arr (List.map Module.d e_1) g_2.1 true)), ([46], some (.arr (List.map Ext.d e_2.1) g_2.2 true))]) (us := [([29], some (.arr (List.map Module.d e_1) g_2.1 true)), ([46], some (.arr (List.map Ext.d e_2.1) g_2.2 true))]) (by kernel_rfl) (gives_cons (ws := [([29], some (.arr (List.map Module.d e_1) g_2.1 true))]) (give_ref (e := Module.d) (l := e_1) (fz := false) (by kernel_rfl) (by kernel_rfl) rfl) (gives_cons (ws := [([46], some (.arr (List.map Ext.d e_2.1) g_2.2 true))]) (give_ref (e := Ext.d) (l := e_2.1) (fz := false) (by kernel_rfl) (by kernel_rfl) rfl) gives_nil)) hc_1 (by kernel_rfl) (by kernel_rfl))) ?_
  refine RunAt.chunk 5 [⟨.tup [.d (.sl (List.map Comb.d r_1.1)), .d (.int .i64 r_1.2)], []⟩, ⟨.d (.sl (List.map Comb.d r_1.1)), []⟩, ⟨.d (.int .i64 r_1.2), []⟩, ⟨.d (.sl (List.map Comb.d r_1.1)), []⟩, ⟨.d (.int .i64 r_1.2), []⟩] (by kernel_rfl) ?_
  refine RunAt.done (by kernel_rfl) ?_
  refine kS_nrm ?_
  refine Runs.seq ?_
  refine Runs.ops ?_
  refine RunAt.chunk 2 [⟨.d (.int .i64 e_2.2.2), []⟩, ⟨.d (.int .i64 e_2.2.2), []⟩] (by kernel_rfl) ?_
  refine RunAt.done (by kernel_rfl) ?_
  refine kS_nrm ?_
  refine Runs.seq ?_
  refine Runs.seq ?_
  refine Runs.ops ?_
  refine RunAt.chunk 2 [⟨.d (.int .i64 e_2.2.1), []⟩, ⟨.d (.bool (decide (e_2.2.1 > 0))), []⟩] (by kernel_rfl) ?_
  refine RunAt.done (by kernel_rfl) ?_
  refine kS_nrm ?_
  cases hb_1 : ((decide (e_2.2.1 > 0)) : Bool) with
  | true =>
    replace h := ite_t hb_1 h
    refine Runs.cond_t (by kernel_rfl) ?_
    refine Runs.ops ?_
    refine RunAt.chunk 3 [⟨.d (.int .i64 e_2.2.2), []⟩, ⟨.d (.int .i64 (IntKind.wrap .i64 (e_2.2.2 + 1))), []⟩, ⟨.d (.int .i64 (IntKind.wrap .i64 (e_2.2.2 + 1))), []⟩] (by kernel_rfl) ?_
    refine RunAt.done (by kernel_rfl) ?_
    refine kS_nrm ?_
    refine Runs.canon (hansomlaw40_CombAll_h56 e_1 e_2.1 many_ r_1.1 r_1.2 (IntKind.wrap .i64 (e_2.2.2 + 1)) g_2.1 g_2.2 true true) (Canon.nil (by kernel_rfl)) ?_
    exact hansomlaw40_CombAll_j56_ok l_ many_ e_1 e_2.1 many_ r_1.1 r_1.2 (IntKind.wrap .i64 (e_2.2.2 + 1)) g_2.1 g_2.2 true true r h
  | false =>
    replace h := ite_f hb_1 h
    refine Runs.cond_f (by kernel_rfl) ?_
    refine Runs.skip ?_
    refine kS_nrm ?_
    refine Runs.canon (hansomlaw40_CombAll_h56 e_1 e_2.1 many_ r_1.1 r_1.2 e_2.2.2 g_2.1 g_2.2 true true) (Canon.nil (by kernel_rfl)) ?_
    exact hansomlaw40_CombAll_j56_ok l_ many_ e_1 e_2.1 many_ r_1.1 r_1.2 e_2.2.2 g_2.1 g_2.2 true true r h
theorem hansomlaw40_CombAll_L (l_ : (List Ext)) (many_ : Int) (r : Bool) (h : hansomlaw40_CombAll l_ many_ = some r) : L 14 [.d (.sl (List.map Ext.d l_)), .d (.int .i64 many_)] = some (.d (.bool r), [.d (.sl (List.map Ext.d l_)), .d (.int .i64 many_)]) := by
  obtain ⟨p, ⟨hne, hf⟩, hr⟩ := hansomlaw40_CombAll_ok l_ many_ r h
  obtain ⟨k, hk⟩ := run_of (F := F14) (args := [.d (.sl (List.map Ext.d l_)), .d (.int .i64 many_)]) (ap := [.d (.sl (List.map Ext.d l_)), .d (.int .i64 many_)]) (bx0 := updW (fun _ => none) []) rfl rfl (by kernel_rfl) ⟨p, ⟨hne, hf⟩, hr⟩
  exact lim_run (k := k) rfl hk
end Go.Es.Cmb
