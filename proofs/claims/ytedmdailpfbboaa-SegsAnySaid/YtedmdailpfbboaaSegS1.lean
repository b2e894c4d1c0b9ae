/- The interpreter answers as plain Lean does: part 2. No condition. -/
import Derived.Test.YtedmdailpfbboaaSegF
import Derived.Test.YtedmdailpfbboaaSegP
import Derived.KernelRfl
import Derived.Test.YtedmdailpfbboaaSegS0
set_option linter.unusedVariables false
set_option linter.unusedSimpArgs false
set_option maxRecDepth 100000
set_option maxHeartbeats 4000000
namespace Go.Es.Seg
theorem hansomlaw21_SegsGroup_ok (name_ : Int) (l_ : (List Int)) (at_ : Int) (r : Bool) (h : hansomlaw21_SegsGroup name_ l_ at_ = some r) : Runs L F14.body ⟨tmOf [.d (.int .i64 name_), .d (.sl (List.map (D.int .i64) l_)), .d (.int .i64 at_)] 0, updW (fun _ => none) []⟩ (hansomlaw21_SegsGroup_Q name_ l_ at_ r) := by
  unfold hansomlaw21_SegsGroup at h
  refine Runs.seq ?_
  refine Runs.ops ?_
  refine RunAt.chunk 1 [⟨.d (.bool false), []⟩] (by kernel_rfl) ?_
  refine RunAt.done (by kernel_rfl) ?_
  refine kS_nrm ?_
  refine Runs.seq ?_
  refine Runs.ops ?_
  refine RunAt.chunk 5 [⟨.d (.int .i64 name_), []⟩, ⟨.d (.int .i64 (bitsOp .and .i64 name_ 32767)), []⟩, ⟨.mix [.d (.int .i64 (bitsOp .and .i64 name_ 32767)), .nils], []⟩, ⟨.ptr [7] 0 0, [([7], some (.cells [.d (.int .i64 0), .nils] 0))]⟩, ⟨.tup [], [([7], some (.cells [.d (.int .i64 (bitsOp .and .i64 name_ 32767)), .nils] 0))]⟩] (by kernel_rfl) ?_
  refine RunAt.done (by kernel_rfl) ?_
  refine kS_nrm ?_
  refine Runs.canon (hansomlaw21_SegsGroup_h4 ({ Name := (bitsOp .and .i64 name_ 32767), Segs := ([] : List Int) } : GrpDef) l_ at_ 0) (Canon.cons (ownB_nil (ver := 0) (v := 0) (cs := [.d (.int .i64 (bitsOp .and .i64 name_ 32767)), .nils]) (cs' := [.d (.int .i64 (bitsOp .and .i64 name_ 32767)), .ref [901, 7] 0 0 (List.map (D.int .i64) ([] : List Int)).length 1]) (D.int .i64) (by kernel_rfl) (by kernel_rfl) (by kernel_rfl) (by decide) (by kernel_rfl)) (Canon.nil (by kernel_rfl))) ?_
  refine Runs.seq ?_
  refine Runs.seq ?_
  refine Runs.ops ?_
  refine RunAt.chunk 1 [⟨.d (.int .i64 0), []⟩] (by kernel_rfl) ?_
  refine RunAt.done (by kernel_rfl) ?_
  refine kS_nrm ?_
  refine Runs.block ?_
  obtain ⟨e_1, he_1, h⟩ := bind_s h
  refine Runs.loop (fun x : (GrpDef × Int) => hansomlaw21_SegsGroup_l8 x.1 l_ at_ x.2) (fun (x : (GrpDef × Int)) (g : Nat) => hansomlaw21_SegsGroup_h8 x.1 l_ at_ x.2 g) (hansomlaw21_SegsGroup_P8 name_ l_ at_ l_ at_) (fun x g r hr => hansomlaw21_SegsGroup_l8_ok name_ l_ at_ x.1 l_ at_ x.2 g r hr) 0 he_1 (Canon.nil (by kernel_rfl)) ?_
  rintro ⟨o, s⟩ hp
  obtain ⟨ho, g_1, hk_1⟩ := hp
  have ho' : o = .exit 0 := ho
  subst ho'
  refine kB_hit ?_
  refine kS_nrm ?_
  refine Runs.canon _ hk_1 ?_
  refine Runs.seq ?_
  refine Runs.ops ?_
  refine RunAt.chunk 1 [⟨.mix [.d (.int .i64 e_1.Name), .ref [901, 7] g_1 0 (List.map (D.int .i64) e_1.Segs).length 1], []⟩] (by kernel_rfl) ?_
  obtain ⟨r_1, hr_1, h⟩ := bind_s h
  have hc_1 := segs_Group_L e_1 r_1 hr_1
  refine RunAt.cut (some 40) (.callf 63) [] none [.mix [.d (.int .i64 e_1.Name), .ref [901, 7] g_1 0 (List.map (D.int .i64) e_1.Segs).length 1]] (.d (Record.d r_1)) [([901, 7], some (.arr (List.map (D.int .i64) e_1.Segs) g_1 true))] (by kernel_rfl) (by kernel_rfl) (by kernel_rfl) (cut_call (call_of (ws := [([901, 7], some (.arr (List.map (D.int .i64) e_1.Segs) g_1 true))]) (us := [([901, 7], some (.arr (List.map (D.int .i64) e_1.Segs) g_1 true))]) (by kernel_rfl) (gives_cons (ws := [([901, 7], some (.arr (List.map (D.int .i64) e_1.Segs) g_1 true))]) (give_mix (snaps_d (snaps_r (e := (D.int .i64)) (l := e_1.Segs) (fz := false) (by kernel_rfl) (by kernel_rfl) (hl := rfl) snaps_nil))) gives_nil) hc_1 (by kernel_rfl) (by kernel_rfl))) ?_
  refine RunAt.chunk 2 [⟨.ptr [9] 0 0, [([9], some (.cells [.d (.int .u8 0), .nils] 0))]⟩, ⟨.tup [], [([9], some (.cells [.d (.int .u8 r_1.Kind), .d (.sl (List.map (D.int .u8) r_1.Body))] 0))]⟩] (by kernel_rfl) ?_
  refine RunAt.done (by kernel_rfl) ?_
  refine kS_nrm ?_
  refine Runs.seq ?_
  refine Runs.ops ?_
  refine RunAt.chunk 2 [⟨.ptr [9] 0 1, []⟩, ⟨.d (.sl (List.map (D.int .u8) r_1.Body)), []⟩] (by kernel_rfl) ?_
  obtain ⟨r_2, hr_2, h⟩ := bind_s h
  have hc_2 := segs_Groups_L r_1.Body r_2 hr_2
  refine RunAt.cut (some 44) (.callf 64) [] none [.d (.sl (List.map (D.int .u8) r_1.Body))] (.tup [.d (GrpDef.d r_2.1), .d (.int .i64 r_2.2)]) [] (by kernel_rfl) (by kernel_rfl) (by kernel_rfl) (cut_call (call_of (ws := []) (us := []) (by kernel_rfl) (by kernel_rfl) hc_2 (by kernel_rfl) (by kernel_rfl))) ?_
  refine RunAt.chunk 6 [⟨.tup [.d (GrpDef.d r_2.1), .d (.int .i64 r_2.2)], []⟩, ⟨.d (GrpDef.d r_2.1), []⟩, ⟨.d (.int .i64 r_2.2), []⟩, ⟨.ptr [10] 0 0, [([10], some (.cells [.d (.int .i64 0), .nils] 0))]⟩, ⟨.tup [], [([10], some (.cells [.d (.int .i64 r_2.1.Name), .d (.sl (List.map (D.int .i64) r_2.1.Segs))] 0))]⟩, ⟨.d (.int .i64 r_2.2), []⟩] (by kernel_rfl) ?_
  refine RunAt.done (by kernel_rfl) ?_
  refine kS_nrm ?_
  refine Runs.seq ?_
  refine Runs.seq ?_
  refine Runs.ops ?_
  refine RunAt.chunk 2 [⟨.ptr [9] 0 1, []⟩, ⟨.d (.sl (List.map (D.int .u8) r_1.Body)), []⟩] (by kernel_rfl) ?_
  refine RunAt.cut (some 49) .bytesStr [[51]] none [.d (.sl (List.map (D.int .u8) r_1.Body))] (.d (.str (b2s r_1.Body))) [] (by kernel_rfl) (by kernel_rfl) (by kernel_rfl) (cut_bs _) ?_
  refine RunAt.chunk 1 [⟨.mix [.d (.int .i64 e_1.Name), .ref [901, 7] g_1 0 (List.map (D.int .i64) e_1.Segs).length 1], []⟩] (by kernel_rfl) ?_
  obtain ⟨r_3, hr_3, h⟩ := bind_s h
  have hc_3 := hansomref21_Group_L e_1 r_3 hr_3
  refine RunAt.cut (some 51) (.callf 65) [] (some []) [.mix [.d (.int .i64 e_1.Name), .ref [901, 7] g_1 0 (List.map (D.int .i64) e_1.Segs).length 1]] (.d (.str r_3)) [([901, 7], some (.arr (List.map (D.int .i64) e_1.Segs) g_1 true))] (by kernel_rfl) (by kernel_rfl) (by kernel_rfl) (cut_call (call_of (ws := [([901, 7], some (.arr (List.map (D.int .i64) e_1.Segs) g_1 true))]) (us := [([901, 7], some (.arr (List.map (D.int .i64) e_1.Segs) g_1 true))]) (by kernel_rfl) (gives_cons (ws := [([901, 7], some (.arr (List.map (D.int .i64) e_1.Segs) g_1 true))]) (give_mix (snaps_d (snaps_r (e := (D.int .i64)) (l := e_1.Segs) (fz := true) (by kernel_rfl) (by kernel_rfl) (hl := rfl) snaps_nil))) gives_nil) hc_3 (by kernel_rfl) (by kernel_rfl))) ?_
  refine RunAt.chunk 2 [⟨.d (.bool ((b2s r_1.Body) != r_3)), []⟩, ⟨.d (.bool ((b2s r_1.Body) != r_3)), []⟩] (by kernel_rfl) ?_
  cases hb_1 : (((b2s r_1.Body) != r_3) : Bool) with
  | true =>
    replace h := ite_t hb_1 h
    refine RunAt.chunk 24 [⟨.tup [], []⟩, ⟨.tup [], []⟩, ⟨.tup [], []⟩, ⟨.d (.bool true), []⟩, ⟨.d (.bool true), []⟩, ⟨.tup [], []⟩, ⟨.tup [], []⟩, ⟨.d (.bool true), []⟩, ⟨.d (.bool true), []⟩, ⟨.tup [], []⟩, ⟨.tup [], []⟩, ⟨.tup [], []⟩, ⟨.tup [], []⟩, ⟨.tup [], []⟩, ⟨.d (.bool true), []⟩, ⟨.d (.bool true), []⟩, ⟨.tup [], []⟩, ⟨.tup [], []⟩, ⟨.tup [], []⟩, ⟨.tup [], []⟩, ⟨.tup [], []⟩, ⟨.tup [], []⟩, ⟨.tup [], []⟩, ⟨.d (.bool true), []⟩] (by kernel_rfl) ?_
    refine RunAt.done (by kernel_rfl) ?_
    refine kS_nrm ?_
    refine Runs.cond_t (by kernel_rfl) ?_
    refine Runs.seq ?_
    refine Runs.ops ?_
    refine RunAt.chunk 1 [⟨.d (.bool false), []⟩] (by kernel_rfl) ?_
    refine RunAt.done (by kernel_rfl) ?_
    refine kS_nrm ?_
    refine Runs.ret ?_
    refine kS_ret ?_
    obtain rfl := Option.some.inj h
    exact ⟨Out.ret_ne, (by kernel_rfl)⟩
  | false =>
    replace h := ite_f hb_1 h
    refine RunAt.chunk 5 [⟨.ptr [9] 0 0, []⟩, ⟨.d (.int .u8 r_1.Kind), []⟩, ⟨.d (.bool (r_1.Kind != 154)), []⟩, ⟨.d (.bool (r_1.Kind != 154)), []⟩, ⟨.d (.bool (r_1.Kind != 154)), []⟩] (by kernel_rfl) ?_
    cases hb_2 : ((r_1.Kind != 154) : Bool) with
    | true =>
      replace h := ite_t hb_2 h
      refine RunAt.chunk 19 [⟨.tup [], []⟩, ⟨.tup [], []⟩, ⟨.d (.bool true), []⟩, ⟨.d (.bool true), []⟩, ⟨.tup [], []⟩, ⟨.tup [], []⟩, ⟨.tup [], []⟩, ⟨.tup [], []⟩, ⟨.tup [], []⟩, ⟨.d (.bool true), []⟩, ⟨.d (.bool true), []⟩, ⟨.tup [], []⟩, ⟨.tup [], []⟩, ⟨.tup [], []⟩, ⟨.tup [], []⟩, ⟨.tup [], []⟩, ⟨.tup [], []⟩, ⟨.tup [], []⟩, ⟨.d (.bool true), []⟩] (by kernel_rfl) ?_
      refine RunAt.done (by kernel_rfl) ?_
      refine kS_nrm ?_
      refine Runs.cond_t (by kernel_rfl) ?_
      refine Runs.seq ?_
      refine Runs.ops ?_
      refine RunAt.chunk 1 [⟨.d (.bool false), []⟩] (by kernel_rfl) ?_
      refine RunAt.done (by kernel_rfl) ?_
      refine kS_nrm ?_
      refine Runs.ret ?_
      refine kS_ret ?_
      obtain rfl := Option.some.inj h
      exact ⟨Out.ret_ne, (by kernel_rfl)⟩
    | false =>
      replace h := ite_f hb_2 h
      refine RunAt.chunk 4 [⟨.d (.int .i64 r_2.2), []⟩, ⟨.d (.bool (r_2.2 != 0)), []⟩, ⟨.d (.bool (r_2.2 != 0)), []⟩, ⟨.d (.bool (r_2.2 != 0)), []⟩] (by kernel_rfl) ?_
      cases hb_3 : ((r_2.2 != 0) : Bool) with
      | true =>
        replace h := ite_t hb_3 h
        refine RunAt.chunk 15 [⟨.tup [], []⟩, ⟨.tup [], []⟩, ⟨.tup [], []⟩, ⟨.tup [], []⟩, ⟨.tup [], []⟩, ⟨.d (.bool true), []⟩, ⟨.d (.bool true), []⟩, ⟨.tup [], []⟩, ⟨.tup [], []⟩, ⟨.tup [], []⟩, ⟨.tup [], []⟩, ⟨.tup [], []⟩, ⟨.tup [], []⟩, ⟨.tup [], []⟩, ⟨.d (.bool true), []⟩] (by kernel_rfl) ?_
        refine RunAt.done (by kernel_rfl) ?_
        refine kS_nrm ?_
        refine Runs.cond_t (by kernel_rfl) ?_
        refine Runs.seq ?_
        refine Runs.ops ?_
        refine RunAt.chunk 1 [⟨.d (.bool false), []⟩] (by kernel_rfl) ?_
        refine RunAt.done (by kernel_rfl) ?_
        refine kS_nrm ?_
        refine Runs.ret ?_
        refine kS_ret ?_
        obtain rfl := Option.some.inj h
        exact ⟨Out.ret_ne, (by kernel_rfl)⟩
      | false =>
        replace h := ite_f hb_3 h
        refine RunAt.chunk 7 [⟨.ptr [10] 0 0, []⟩, ⟨.d (.int .i64 r_2.1.Name), []⟩, ⟨.ptr [7] 0 0, []⟩, ⟨.d (.int .i64 e_1.Name), []⟩, ⟨.d (.bool (r_2.1.Name != e_1.Name)), []⟩, ⟨.d (.bool (r_2.1.Name != e_1.Name)), []⟩, ⟨.d (.bool (r_2.1.Name != e_1.Name)), []⟩] (by kernel_rfl) ?_
        cases hb_4 : ((r_2.1.Name != e_1.Name) : Bool) with
        | true =>
          replace h := ite_t hb_4 h
          refine RunAt.chunk 8 [⟨.tup [], []⟩, ⟨.tup [], []⟩, ⟨.tup [], []⟩, ⟨.tup [], []⟩, ⟨.tup [], []⟩, ⟨.tup [], []⟩, ⟨.tup [], []⟩, ⟨.d (.bool true), []⟩] (by kernel_rfl) ?_
          refine RunAt.done (by kernel_rfl) ?_
          refine kS_nrm ?_
          refine Runs.cond_t (by kernel_rfl) ?_
          refine Runs.seq ?_
          refine Runs.ops ?_
          refine RunAt.chunk 1 [⟨.d (.bool false), []⟩] (by kernel_rfl) ?_
          refine RunAt.done (by kernel_rfl) ?_
          refine kS_nrm ?_
          refine Runs.ret ?_
          refine kS_ret ?_
          obtain rfl := Option.some.inj h
          exact ⟨Out.ret_ne, (by kernel_rfl)⟩
        | false =>
          replace h := ite_f hb_4 h
          refine RunAt.chunk 2 [⟨.ptr [10] 0 1, []⟩, ⟨.d (.sl (List.map (D.int .i64) r_2.1.Segs)), []⟩] (by kernel_rfl) ?_
          refine RunAt.cut (some 72) .lenL [] none [.d (.sl (List.map (D.int .i64) r_2.1.Segs))] (.d (.int .i64 (r_2.1.Segs.length : Int))) [] (by kernel_rfl) (by kernel_rfl) (by kernel_rfl) (cut_len _) ?_
          refine RunAt.chunk 2 [⟨.ptr [7] 0 1, []⟩, ⟨.ref [901, 7] g_1 0 (List.map (D.int .i64) e_1.Segs).length 1, []⟩] (by kernel_rfl) ?_
          refine RunAt.cut (some 75) .lenL [] none [.ref [901, 7] g_1 0 (List.map (D.int .i64) e_1.Segs).length 1] (.d (.int .i64 (e_1.Segs.length : Int))) [] (by kernel_rfl) (by kernel_rfl) (by kernel_rfl) (cut_lenR (e := (D.int .i64)) e_1.Segs rfl) ?_
          refine RunAt.chunk 2 [⟨.d (.bool ((r_2.1.Segs.length : Int) != (e_1.Segs.length : Int))), []⟩, ⟨.d (.bool ((r_2.1.Segs.length : Int) != (e_1.Segs.length : Int))), []⟩] (by kernel_rfl) ?_
          refine RunAt.done (by kernel_rfl) ?_
          refine kS_nrm ?_
          cases hb_5 : (((r_2.1.Segs.length : Int) != (e_1.Segs.length : Int)) : Bool) with
          | true =>
            replace h := ite_t hb_5 h
            refine Runs.cond_t (by kernel_rfl) ?_
            refine Runs.seq ?_
            refine Runs.ops ?_
            refine RunAt.chunk 1 [⟨.d (.bool false), []⟩] (by kernel_rfl) ?_
            refine RunAt.done (by kernel_rfl) ?_
            refine kS_nrm ?_
            refine Runs.ret ?_
            refine kS_ret ?_
            obtain rfl := Option.some.inj h
            exact ⟨Out.ret_ne, (by kernel_rfl)⟩
          | false =>
            replace h := ite_f hb_5 h
            refine Runs.cond_f (by kernel_rfl) ?_
            refine Runs.skip ?_
            refine kS_nrm ?_
            refine Runs.seq ?_
            refine Runs.seq ?_
            refine Runs.ops ?_
            refine RunAt.chunk 1 [⟨.d (.int .i64 0), []⟩] (by kernel_rfl) ?_
            refine RunAt.done (by kernel_rfl) ?_
            refine kS_nrm ?_
            refine Runs.block ?_
            obtain ⟨e_2, he_2, h⟩ := bind_s h
            refine Runs.loop (fun x : Int => hansomlaw21_SegsGroup_l35 e_1 r_1 r_2.1 at_ x) (fun (x : Int) (g : (Nat × Bool)) => hansomlaw21_SegsGroup_h35 e_1 r_1 r_2.1 at_ x g.1 g.2) (hansomlaw21_SegsGroup_P35 name_ l_ at_ e_1 r_1 r_2.1 at_) (fun x g r hr => hansomlaw21_SegsGroup_l35_ok name_ l_ at_ e_1 r_1 r_2.1 at_ x g.1 g.2 r hr) (g_1, true) he_2 (Canon.nil (by kernel_rfl)) ?_
            rintro ⟨o, s⟩ hp
            cases e_2 with
            | inl e_3 =>
              obtain ⟨ho, hf⟩ := hp
              have ho' : o = .ret := ho
              subst ho'
              refine kB_ret ?_
              refine kS_ret ?_
              obtain rfl := Option.some.inj h
              exact ⟨Out.ret_ne, hf⟩
            | inr e_4 =>
              obtain ⟨ho, g_2, hk_2⟩ := hp
              have ho' : o = .exit 2 := ho
              subst ho'
              refine kB_hit ?_
              refine kS_nrm ?_
              refine Runs.canon _ hk_2 ?_
              refine Runs.seq ?_
              refine Runs.ops ?_
              refine RunAt.chunk 3 [⟨.ref [97] 0 0 (List.map (D.int .u8) ([] : List Int)).length 1, [([97], some (.arr (List.map (D.int .u8) ([] : List Int)) 0 false))]⟩, ⟨.ptr [9] 0 1, []⟩, ⟨.d (.sl (List.map (D.int .u8) r_1.Body)), []⟩] (by kernel_rfl) ?_
              obtain ⟨z_1, hz_1, h⟩ := bind_s h
              refine RunAt.cut (some 100) (.append 1 1 false) [] none [.ref [97] 0 0 (List.map (D.int .u8) ([] : List Int)).length 1, .d (.sl (List.map (D.int .u8) r_1.Body))] (.ref [97] 1 0 (List.map (D.int .u8) z_1).length 1) [([97], some (.arr (List.map (D.int .u8) z_1) 1 false))] (by kernel_rfl) (by kernel_rfl) (by kernel_rfl) (cut_appR (e := (D.int .u8)) (l := ([] : List Int)) (fz := false) (ws := []) (ap_data _) (fun _ => rfl) hz_1 (by kernel_rfl) (by kernel_rfl) rfl) ?_
              refine RunAt.chunk 4 [⟨.d (.int .i64 at_), []⟩, ⟨.d (.int .i64 (bitsOp .and .i64 at_ 127)), []⟩, ⟨.d (.int .u8 (IntKind.wrap .u8 (bitsOp .and .i64 at_ 127))), []⟩, ⟨.ref [104] 0 0 (List.map (D.int .u8) ([(IntKind.wrap .u8 (bitsOp .and .i64 at_ 127)), 1] : List Int)).length 1, [([104], some (.arr (List.map (D.int .u8) ([(IntKind.wrap .u8 (bitsOp .and .i64 at_ 127)), 1] : List Int)) 0 false))]⟩] (by kernel_rfl) ?_
              obtain ⟨z_2, hz_2, h⟩ := bind_s h
              refine RunAt.cut (some 105) (.append 1 1 false) [] none [.ref [97] 1 0 (List.map (D.int .u8) z_1).length 1, .ref [104] 0 0 (List.map (D.int .u8) ([(IntKind.wrap .u8 (bitsOp .and .i64 at_ 127)), 1] : List Int)).length 1] (.ref [97] 2 0 (List.map (D.int .u8) z_2).length 1) [([104], some (.arr (List.map (D.int .u8) ([(IntKind.wrap .u8 (bitsOp .and .i64 at_ 127)), 1] : List Int)) 0 true)), ([97], some (.arr (List.map (D.int .u8) z_2) 2 false))] (by kernel_rfl) (by kernel_rfl) (by kernel_rfl) (cut_appR (e := (D.int .u8)) (l := z_1) (fz := false) (ws := [([104], some (.arr (List.map (D.int .u8) ([(IntKind.wrap .u8 (bitsOp .and .i64 at_ 127)), 1] : List Int)) 0 true))]) (ap_ref (e := (D.int .u8)) (l := ([(IntKind.wrap .u8 (bitsOp .and .i64 at_ 127)), 1] : List Int)) (fz := false) (by kernel_rfl) (by kernel_rfl) rfl) (fun _ => rfl) hz_2 (by kernel_rfl) (by kernel_rfl) rfl) ?_
              obtain ⟨r_4, hr_4, h⟩ := bind_s h
              have hc_4 := segs_Groups_L z_2 r_4 hr_4
              refine RunAt.cut (some 106) (.callf 64) [] none [.ref [97] 2 0 (List.map (D.int .u8) z_2).length 1] (.tup [.d (GrpDef.d r_4.1), .d (.int .i64 r_4.2)]) [([97], some (.arr (List.map (D.int .u8) z_2) 2 true))] (by kernel_rfl) (by kernel_rfl) (by kernel_rfl) (cut_call (call_of (ws := [([97], some (.arr (List.map (D.int .u8) z_2) 2 true))]) (us := [([97], some (.arr (List.map (D.int .u8) z_2) 2 true))]) (by kernel_rfl) (gives_cons (ws := [([97], some (.arr (List.map (D.int .u8) z_2) 2 true))]) (give_ref (e := (D.int .u8)) (l := z_2) (fz := false) (by kernel_rfl) (by kernel_rfl) rfl) gives_nil) hc_4 (by kernel_rfl) (by kernel_rfl))) ?_
              refine RunAt.chunk 6 [⟨.tup [.d (GrpDef.d r_4.1), .d (.int .i64 r_4.2)], []⟩, ⟨.d (GrpDef.d r_4.1), []⟩, ⟨.d (.int .i64 r_4.2), []⟩, ⟨.ptr [13] 0 0, [([13], some (.cells [.d (.int .i64 0), .nils] 0))]⟩, ⟨.tup [], [([13], some (.cells [.d (.int .i64 r_4.1.Name), .d (.sl (List.map (D.int .i64) r_4.1.Segs))] 0))]⟩, ⟨.d (.int .i64 r_4.2), []⟩] (by kernel_rfl) ?_
              refine RunAt.done (by kernel_rfl) ?_
              refine kS_nrm ?_
              refine Runs.seq ?_
              refine Runs.ops ?_
              refine RunAt.chunk 2 [⟨.ref [109] 0 0 (List.map (D.int .i64) ([1, 1, 2, 16, 256] : List Int)).length 1, [([109], some (.arr (List.map (D.int .i64) ([1, 1, 2, 16, 256] : List Int)) 0 false))]⟩, ⟨.ref [109] 0 0 (List.map (D.int .i64) ([1, 1, 2, 16, 256] : List Int)).length 1, []⟩] (by kernel_rfl) ?_
              refine RunAt.done (by kernel_rfl) ?_
              refine kS_nrm ?_
              refine Runs.seq ?_
              refine Runs.ops ?_
              obtain ⟨r_5, hr_5, h⟩ := bind_s h
              have hc_5 := hansomlaw21_awake_L r_5 hr_5
              refine RunAt.cut (some 110) (.callf 58) [] none [] (.d (.bool r_5)) [] (by kernel_rfl) (by kernel_rfl) (by kernel_rfl) (cut_call (call_of (ws := []) (us := []) (by kernel_rfl) (by kernel_rfl) hc_5 (by kernel_rfl) (by kernel_rfl))) ?_
              refine RunAt.chunk 1 [⟨.d (.bool r_5), []⟩] (by kernel_rfl) ?_
              cases hb_6 : (r_5 : Bool) with
              | true =>
                replace h := ite_t hb_6 h
                refine RunAt.chunk 4 [⟨.d (.int .i64 r_4.2), []⟩, ⟨.d (.bool (r_4.2 == 3)), []⟩, ⟨.d (.bool (r_4.2 == 3)), []⟩, ⟨.d (.bool (r_4.2 == 3)), []⟩] (by kernel_rfl) ?_
                cases hb_7 : ((r_4.2 == 3) : Bool) with
                | true =>
                  replace h := ite_t hb_7 h
                  refine RunAt.chunk 3 [⟨.d (.int .i64 at_), []⟩, ⟨.d (.int .i64 (bitsOp .and .i64 at_ 255)), []⟩, ⟨.d (.int .i64 (Int.tmod (bitsOp .and .i64 at_ 255) 5)), []⟩] (by kernel_rfl) ?_
                  obtain ⟨r_6, hr_6, h⟩ := bind_s h
                  have hc_6 := segs_Step_L (Int.tmod (bitsOp .and .i64 at_ 255) 5) r_6 hr_6
                  refine RunAt.cut (some 119) (.callf 66) [] (some []) [.d (.int .i64 (Int.tmod (bitsOp .and .i64 at_ 255) 5))] (.d (.int .i64 r_6)) [] (by kernel_rfl) (by kernel_rfl) (by kernel_rfl) (cut_call (call_of (ws := []) (us := []) (by kernel_rfl) (by kernel_rfl) hc_6 (by kernel_rfl) (by kernel_rfl))) ?_
                  refine RunAt.chunk 4 [⟨.ref [109] 0 0 (List.map (D.int .i64) ([1, 1, 2, 16, 256] : List Int)).length 1, []⟩, ⟨.d (.int .i64 at_), []⟩, ⟨.d (.int .i64 (bitsOp .and .i64 at_ 255)), []⟩, ⟨.d (.int .i64 (Int.tmod (bitsOp .and .i64 at_ 255) 5)), []⟩] (by kernel_rfl) ?_
                  obtain ⟨z_3, hz_3, h⟩ := bind_s h
                  refine RunAt.cut (some 124) (.iaddrS 1) [] none [.ref [109] 0 0 (List.map (D.int .i64) ([1, 1, 2, 16, 256] : List Int)).length 1, .d (.int .i64 (Int.tmod (bitsOp .and .i64 at_ 255) 5))] (.eref [109] 0 (0 + ((Int.tmod (bitsOp .and .i64 at_ 255) 5)).toNat) 0) [] (by kernel_rfl) (by kernel_rfl) (by kernel_rfl) (cut_atR (e := (D.int .i64)) (l := ([1, 1, 2, 16, 256] : List Int)) hz_3 rfl) ?_
                  refine RunAt.cut (some 125) (.load none) [[119]] none [.eref [109] 0 (0 + ((Int.tmod (bitsOp .and .i64 at_ 255) 5)).toNat) 0] (.d (.int .i64 z_3)) [] (by kernel_rfl) (by kernel_rfl) (by kernel_rfl) (cut_loadR (e := (D.int .i64)) (l := ([1, 1, 2, 16, 256] : List Int)) (fz := false) (y := z_3) (by kernel_rfl) hz_3 (by kernel_rfl) (by kernel_rfl)) ?_
                  refine RunAt.chunk 3 [⟨.d (.bool (r_6 == z_3)), []⟩, ⟨.d (.bool (r_6 == z_3)), []⟩, ⟨.d (.bool (r_6 == z_3)), []⟩] (by kernel_rfl) ?_
                  cases hb_8 : ((r_6 == z_3) : Bool) with
                  | true =>
                    replace h := ite_t hb_8 h
                    refine RunAt.chunk 3 [⟨.d (.int .i64 at_), []⟩, ⟨.d (.int .i64 (bitsOp .and .i64 at_ 7)), []⟩, ⟨.d (.int .i64 (IntKind.wrap .i64 (5 + (bitsOp .and .i64 at_ 7)))), []⟩] (by kernel_rfl) ?_
                    obtain ⟨r_7, hr_7, h⟩ := bind_s h
                    have hc_7 := segs_Step_L (IntKind.wrap .i64 (5 + (bitsOp .and .i64 at_ 7))) r_7 hr_7
                    refine RunAt.cut (some 132) (.callf 66) [] none [.d (.int .i64 (IntKind.wrap .i64 (5 + (bitsOp .and .i64 at_ 7))))] (.d (.int .i64 r_7)) [] (by kernel_rfl) (by kernel_rfl) (by kernel_rfl) (cut_call (call_of (ws := []) (us := []) (by kernel_rfl) (by kernel_rfl) hc_7 (by kernel_rfl) (by kernel_rfl))) ?_
                    refine RunAt.chunk 3 [⟨.d (.bool (r_7 == 1)), []⟩, ⟨.d (.bool (r_7 == 1)), []⟩, ⟨.d (.bool (r_7 == 1)), []⟩] (by kernel_rfl) ?_
                    refine RunAt.done (by kernel_rfl) ?_
                    refine kS_nrm ?_
                    refine Runs.ret ?_
                    obtain rfl := Option.some.inj h
                    exact ⟨Out.ret_ne, (by kernel_rfl)⟩
                  | false =>
                    replace h := ite_f hb_8 h
                    refine RunAt.chunk 7 [⟨.tup [], []⟩, ⟨.tup [], []⟩, ⟨.tup [], []⟩, ⟨.tup [], []⟩, ⟨.tup [], []⟩, ⟨.d (.bool false), []⟩, ⟨.d (.bool false), []⟩] (by kernel_rfl) ?_
                    refine RunAt.done (by kernel_rfl) ?_
                    refine kS_nrm ?_
                    refine Runs.ret ?_
                    obtain rfl := Option.some.inj h
                    exact ⟨Out.ret_ne, (by kernel_rfl)⟩
                | false =>
                  replace h := ite_f hb_7 h
                  refine RunAt.chunk 20 [⟨.tup [], []⟩, ⟨.tup [], []⟩, ⟨.tup [], []⟩, ⟨.tup [], []⟩, ⟨.tup [], []⟩, ⟨.tup [], []⟩, ⟨.tup [], []⟩, ⟨.tup [], []⟩, ⟨.tup [], []⟩, ⟨.tup [], []⟩, ⟨.tup [], []⟩, ⟨.d (.bool false), []⟩, ⟨.d (.bool false), []⟩, ⟨.tup [], []⟩, ⟨.tup [], []⟩, ⟨.tup [], []⟩, ⟨.tup [], []⟩, ⟨.tup [], []⟩, ⟨.d (.bool false), []⟩, ⟨.d (.bool false), []⟩] (by kernel_rfl) ?_
                  refine RunAt.done (by kernel_rfl) ?_
                  refine kS_nrm ?_
                  refine Runs.ret ?_
                  obtain rfl := Option.some.inj h
                  exact ⟨Out.ret_ne, (by kernel_rfl)⟩
              | false =>
                replace h := ite_f hb_6 h
                refine RunAt.chunk 24 [⟨.tup [], []⟩, ⟨.tup [], []⟩, ⟨.d (.bool false), []⟩, ⟨.d (.bool false), []⟩, ⟨.tup [], []⟩, ⟨.tup [], []⟩, ⟨.tup [], []⟩, ⟨.tup [], []⟩, ⟨.tup [], []⟩, ⟨.tup [], []⟩, ⟨.tup [], []⟩, ⟨.tup [], []⟩, ⟨.tup [], []⟩, ⟨.tup [], []⟩, ⟨.tup [], []⟩, ⟨.d (.bool false), []⟩, ⟨.d (.bool false), []⟩, ⟨.tup [], []⟩, ⟨.tup [], []⟩, ⟨.tup [], []⟩, ⟨.tup [], []⟩, ⟨.tup [], []⟩, ⟨.d (.bool false), []⟩, ⟨.d (.bool false), []⟩] (by kernel_rfl) ?_
                refine RunAt.done (by kernel_rfl) ?_
                refine kS_nrm ?_
                refine Runs.ret ?_
                obtain rfl := Option.some.inj h
                exact ⟨Out.ret_ne, (by kernel_rfl)⟩
theorem hansomlaw21_SegsGroup_L (name_ : Int) (l_ : (List Int)) (at_ : Int) (r : Bool) (h : hansomlaw21_SegsGroup name_ l_ at_ = some r) : L 14 [.d (.int .i64 name_), .d (.sl (List.map (D.int .i64) l_)), .d (.int .i64 at_)] = some (.d (.bool r), [.d (.int .i64 name_), .d (.sl (List.map (D.int .i64) l_)), .d (.int .i64 at_)]) := by
  obtain ⟨p, ⟨hne, hf⟩, hr⟩ := hansomlaw21_SegsGroup_ok name_ l_ at_ r h
  obtain ⟨k, hk⟩ := run_of (F := F14) (args := [.d (.int .i64 name_), .d (.sl (List.map (D.int .i64) l_)), .d (.int .i64 at_)]) (ap := [.d (.int .i64 name_), .d (.sl (List.map (D.int .i64) l_)), .d (.int .i64 at_)]) (bx0 := updW (fun _ => none) []) rfl rfl (by kernel_rfl) ⟨p, ⟨hne, hf⟩, hr⟩
  exact lim_run (k := k) rfl hk
end Go.Es.Seg
