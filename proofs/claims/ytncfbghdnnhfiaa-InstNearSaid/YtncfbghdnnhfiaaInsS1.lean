/- The interpreter answers as plain Lean does: part 2. No condition. -/
import Derived.Test.YtncfbghdnnhfiaaInsF
import Derived.Test.YtncfbghdnnhfiaaInsP
import Derived.KernelRfl
import Derived.Test.YtncfbghdnnhfiaaInsS0
set_option linter.unusedVariables false
set_option linter.unusedSimpArgs false
set_option maxRecDepth 100000
set_option maxHeartbeats 4000000
namespace Go.Es.Ins
def isa_goes_Q (op_ : Int) (r : (Row × Bool)) (p : Out × St) : Prop := (∀ i, p.1 ≠ .exit i) ∧ finF F45 [.d (.int .u8 op_)] p.2 = some (.tup [.d (Row.d r.1), .d (.bool r.2)], [.d (.int .u8 op_)])
theorem isa_goes_j20_ok (op_ : Int) (b_2 : Row) (op0 : Int) (t4 : Int) (t5 : Bool) (r : (Row × Bool)) (h : isa_goes_j20 b_2 op0 t4 t5 = some r) : Runs L F45b20 (isa_goes_h20 b_2 op0 t4 t5) (kB 0 (kS L F45c91 (isa_goes_Q op_ r))) := by
 unfold isa_goes_j20 at h
 cases hb_2 : (t5 : Bool) with
 | true =>
  replace h := ite_t hb_2 h
  refine Ct <| Sq <| Ro <| Rc 4 [⟨.d (.int .u8 op0), []⟩, ⟨.d (.int .u8 (IntKind.wrap .u8 (op0 - 224))), []⟩, ⟨.d (.int .i64 (IntKind.wrap .i64 (IntKind.wrap .u8 (op0 - 224)))), []⟩, ⟨.d (.int .i64 (IntKind.wrap .i64 (74 + (IntKind.wrap .i64 (IntKind.wrap .u8 (op0 - 224)))))), []⟩] ?_
  obtain ⟨r_1, hr_1, h⟩ := bind_s h
  have hc_1 := isa_row_L (IntKind.wrap .i64 (74 + (IntKind.wrap .i64 (IntKind.wrap .u8 (op0 - 224))))) 9 0 r_1 hr_1
  refine Rt (some 14) (.callf 38) [] none [.d (.int .i64 (IntKind.wrap .i64 (74 + (IntKind.wrap .i64 (IntKind.wrap .u8 (op0 - 224)))))), .d (.int .i64 9), .d (.int .i64 0)] (.tup [.d (Row.d r_1.1), .d (.bool r_1.2)]) [] (cut_call (call_of (ws := []) (us := []) (by kernel_rfl) (by kernel_rfl) hc_1 (by kernel_rfl) (by kernel_rfl))) <| Rc 4 [⟨.d (Row.d r_1.1), []⟩, ⟨.d (.bool r_1.2), []⟩, ⟨.tup [], [([2], some (.cells [.d (.int .i64 r_1.1.Name), .d (.int .i64 r_1.1.A), .d (.int .i64 r_1.1.B), .d (.bool r_1.1.Mod)] 0))]⟩, ⟨.d (.bool r_1.2), []⟩] <| Rd <| kS_nrm <| Runs.ret <| kB_ret <| kS_ret ?_
  obtain rfl := Option.some.inj h
  exact ⟨Out.ret_ne, (by kernel_rfl)⟩
 | false =>
  replace h := ite_f hb_2 h
  refine Cf <| Sq <| Ro <| Rc 2 [⟨.d (.bool (t4 == 228)), []⟩, ⟨.d (.bool (t4 == 228)), []⟩] <| Rd <| kS_nrm ?_
  cases hb_3 : ((t4 == 228) : Bool) with
  | true =>
   replace h := ite_t hb_3 h
   refine Ct <| Sq <| Ro ?_
   obtain ⟨r_2, hr_2, h⟩ := bind_s h
   have hc_2 := isa_row_L 78 14 6 r_2 hr_2
   refine Rt (some 19) (.callf 38) [] none [.d (.int .i64 78), .d (.int .i64 14), .d (.int .i64 6)] (.tup [.d (Row.d r_2.1), .d (.bool r_2.2)]) [] (cut_call (call_of (ws := []) (us := []) (by kernel_rfl) (by kernel_rfl) hc_2 (by kernel_rfl) (by kernel_rfl))) <| Rc 4 [⟨.d (Row.d r_2.1), []⟩, ⟨.d (.bool r_2.2), []⟩, ⟨.tup [], [([2], some (.cells [.d (.int .i64 r_2.1.Name), .d (.int .i64 r_2.1.A), .d (.int .i64 r_2.1.B), .d (.bool r_2.1.Mod)] 0))]⟩, ⟨.d (.bool r_2.2), []⟩] <| Rd <| kS_nrm <| Runs.ret <| kB_ret <| kS_ret ?_
   obtain rfl := Option.some.inj h
   exact ⟨Out.ret_ne, (by kernel_rfl)⟩
  | false =>
   replace h := ite_f hb_3 h
   refine Cf <| Sq <| Ro <| Rc 2 [⟨.d (.bool (t4 == 229)), []⟩, ⟨.d (.bool (t4 == 229)), []⟩] <| Rd <| kS_nrm ?_
   cases hb_4 : ((t4 == 229) : Bool) with
   | true =>
    replace h := ite_t hb_4 h
    refine Ct <| Sq <| Ro ?_
    obtain ⟨r_3, hr_3, h⟩ := bind_s h
    have hc_3 := isa_row_L 78 16 6 r_3 hr_3
    refine Rt (some 24) (.callf 38) [] none [.d (.int .i64 78), .d (.int .i64 16), .d (.int .i64 6)] (.tup [.d (Row.d r_3.1), .d (.bool r_3.2)]) [] (cut_call (call_of (ws := []) (us := []) (by kernel_rfl) (by kernel_rfl) hc_3 (by kernel_rfl) (by kernel_rfl))) <| Rc 4 [⟨.d (Row.d r_3.1), []⟩, ⟨.d (.bool r_3.2), []⟩, ⟨.tup [], [([2], some (.cells [.d (.int .i64 r_3.1.Name), .d (.int .i64 r_3.1.A), .d (.int .i64 r_3.1.B), .d (.bool r_3.1.Mod)] 0))]⟩, ⟨.d (.bool r_3.2), []⟩] <| Rd <| kS_nrm <| Runs.ret <| kB_ret <| kS_ret ?_
    obtain rfl := Option.some.inj h
    exact ⟨Out.ret_ne, (by kernel_rfl)⟩
   | false =>
    replace h := ite_f hb_4 h
    refine Cf <| Sq <| Ro <| Rc 2 [⟨.d (.bool (t4 == 230)), []⟩, ⟨.d (.bool (t4 == 230)), []⟩] <| Rd <| kS_nrm ?_
    cases hb_5 : ((t4 == 230) : Bool) with
    | true =>
     replace h := ite_t hb_5 h
     refine Ct <| Sq <| Ro ?_
     obtain ⟨r_4, hr_4, h⟩ := bind_s h
     have hc_4 := isa_row_L 79 6 14 r_4 hr_4
     refine Rt (some 29) (.callf 38) [] none [.d (.int .i64 79), .d (.int .i64 6), .d (.int .i64 14)] (.tup [.d (Row.d r_4.1), .d (.bool r_4.2)]) [] (cut_call (call_of (ws := []) (us := []) (by kernel_rfl) (by kernel_rfl) hc_4 (by kernel_rfl) (by kernel_rfl))) <| Rc 4 [⟨.d (Row.d r_4.1), []⟩, ⟨.d (.bool r_4.2), []⟩, ⟨.tup [], [([2], some (.cells [.d (.int .i64 r_4.1.Name), .d (.int .i64 r_4.1.A), .d (.int .i64 r_4.1.B), .d (.bool r_4.1.Mod)] 0))]⟩, ⟨.d (.bool r_4.2), []⟩] <| Rd <| kS_nrm <| Runs.ret <| kB_ret <| kS_ret ?_
     obtain rfl := Option.some.inj h
     exact ⟨Out.ret_ne, (by kernel_rfl)⟩
    | false =>
     replace h := ite_f hb_5 h
     refine Cf <| Sq <| Ro <| Rc 2 [⟨.d (.bool (t4 == 231)), []⟩, ⟨.d (.bool (t4 == 231)), []⟩] <| Rd <| kS_nrm ?_
     cases hb_6 : ((t4 == 231) : Bool) with
     | true =>
      replace h := ite_t hb_6 h
      refine Ct <| Sq <| Ro ?_
      obtain ⟨r_5, hr_5, h⟩ := bind_s h
      have hc_5 := isa_row_L 79 6 16 r_5 hr_5
      refine Rt (some 34) (.callf 38) [] none [.d (.int .i64 79), .d (.int .i64 6), .d (.int .i64 16)] (.tup [.d (Row.d r_5.1), .d (.bool r_5.2)]) [] (cut_call (call_of (ws := []) (us := []) (by kernel_rfl) (by kernel_rfl) hc_5 (by kernel_rfl) (by kernel_rfl))) <| Rc 4 [⟨.d (Row.d r_5.1), []⟩, ⟨.d (.bool r_5.2), []⟩, ⟨.tup [], [([2], some (.cells [.d (.int .i64 r_5.1.Name), .d (.int .i64 r_5.1.A), .d (.int .i64 r_5.1.B), .d (.bool r_5.1.Mod)] 0))]⟩, ⟨.d (.bool r_5.2), []⟩] <| Rd <| kS_nrm <| Runs.ret <| kB_ret <| kS_ret ?_
      obtain rfl := Option.some.inj h
      exact ⟨Out.ret_ne, (by kernel_rfl)⟩
     | false =>
      replace h := ite_f hb_6 h
      refine Cf <| Sq <| Ro <| Rc 2 [⟨.d (.bool (t4 == 232)), []⟩, ⟨.d (.bool (t4 == 232)), []⟩] <| Rd <| kS_nrm ?_
      cases hb_7 : ((t4 == 232) : Bool) with
      | true =>
       replace h := ite_t hb_7 h
       refine Ct <| Sq <| Ro ?_
       obtain ⟨r_6, hr_6, h⟩ := bind_s h
       have hc_6 := isa_row_L 39 10 0 r_6 hr_6
       refine Rt (some 39) (.callf 38) [] none [.d (.int .i64 39), .d (.int .i64 10), .d (.int .i64 0)] (.tup [.d (Row.d r_6.1), .d (.bool r_6.2)]) [] (cut_call (call_of (ws := []) (us := []) (by kernel_rfl) (by kernel_rfl) hc_6 (by kernel_rfl) (by kernel_rfl))) <| Rc 4 [⟨.d (Row.d r_6.1), []⟩, ⟨.d (.bool r_6.2), []⟩, ⟨.tup [], [([2], some (.cells [.d (.int .i64 r_6.1.Name), .d (.int .i64 r_6.1.A), .d (.int .i64 r_6.1.B), .d (.bool r_6.1.Mod)] 0))]⟩, ⟨.d (.bool r_6.2), []⟩] <| Rd <| kS_nrm <| Runs.ret <| kB_ret <| kS_ret ?_
       obtain rfl := Option.some.inj h
       exact ⟨Out.ret_ne, (by kernel_rfl)⟩
      | false =>
       replace h := ite_f hb_7 h
       refine Cf <| Sq <| Ro <| Rc 2 [⟨.d (.bool (t4 == 233)), []⟩, ⟨.d (.bool (t4 == 233)), []⟩] <| Rd <| kS_nrm ?_
       cases hb_8 : ((t4 == 233) : Bool) with
       | true =>
        replace h := ite_t hb_8 h
        refine Ct <| Sq <| Ro ?_
        obtain ⟨r_7, hr_7, h⟩ := bind_s h
        have hc_7 := isa_row_L 80 10 0 r_7 hr_7
        refine Rt (some 44) (.callf 38) [] none [.d (.int .i64 80), .d (.int .i64 10), .d (.int .i64 0)] (.tup [.d (Row.d r_7.1), .d (.bool r_7.2)]) [] (cut_call (call_of (ws := []) (us := []) (by kernel_rfl) (by kernel_rfl) hc_7 (by kernel_rfl) (by kernel_rfl))) <| Rc 4 [⟨.d (Row.d r_7.1), []⟩, ⟨.d (.bool r_7.2), []⟩, ⟨.tup [], [([2], some (.cells [.d (.int .i64 r_7.1.Name), .d (.int .i64 r_7.1.A), .d (.int .i64 r_7.1.B), .d (.bool r_7.1.Mod)] 0))]⟩, ⟨.d (.bool r_7.2), []⟩] <| Rd <| kS_nrm <| Runs.ret <| kB_ret <| kS_ret ?_
        obtain rfl := Option.some.inj h
        exact ⟨Out.ret_ne, (by kernel_rfl)⟩
       | false =>
        replace h := ite_f hb_8 h
        refine Cf <| Sq <| Ro <| Rc 2 [⟨.d (.bool (t4 == 234)), []⟩, ⟨.d (.bool (t4 == 234)), []⟩] <| Rd <| kS_nrm ?_
        cases hb_9 : ((t4 == 234) : Bool) with
        | true =>
         replace h := ite_t hb_9 h
         refine Ct <| Sq <| Ro ?_
         obtain ⟨r_8, hr_8, h⟩ := bind_s h
         have hc_8 := isa_row_L 81 11 0 r_8 hr_8
         refine Rt (some 49) (.callf 38) [] none [.d (.int .i64 81), .d (.int .i64 11), .d (.int .i64 0)] (.tup [.d (Row.d r_8.1), .d (.bool r_8.2)]) [] (cut_call (call_of (ws := []) (us := []) (by kernel_rfl) (by kernel_rfl) hc_8 (by kernel_rfl) (by kernel_rfl))) <| Rc 4 [⟨.d (Row.d r_8.1), []⟩, ⟨.d (.bool r_8.2), []⟩, ⟨.tup [], [([2], some (.cells [.d (.int .i64 r_8.1.Name), .d (.int .i64 r_8.1.A), .d (.int .i64 r_8.1.B), .d (.bool r_8.1.Mod)] 0))]⟩, ⟨.d (.bool r_8.2), []⟩] <| Rd <| kS_nrm <| Runs.ret <| kB_ret <| kS_ret ?_
         obtain rfl := Option.some.inj h
         exact ⟨Out.ret_ne, (by kernel_rfl)⟩
        | false =>
         replace h := ite_f hb_9 h
         refine Cf <| Sq <| Ro <| Rc 2 [⟨.d (.bool (t4 == 235)), []⟩, ⟨.d (.bool (t4 == 235)), []⟩] <| Rd <| kS_nrm ?_
         cases hb_10 : ((t4 == 235) : Bool) with
         | true =>
          replace h := ite_t hb_10 h
          refine Ct <| Sq <| Ro ?_
          obtain ⟨r_9, hr_9, h⟩ := bind_s h
          have hc_9 := isa_row_L 80 9 0 r_9 hr_9
          refine Rt (some 54) (.callf 38) [] none [.d (.int .i64 80), .d (.int .i64 9), .d (.int .i64 0)] (.tup [.d (Row.d r_9.1), .d (.bool r_9.2)]) [] (cut_call (call_of (ws := []) (us := []) (by kernel_rfl) (by kernel_rfl) hc_9 (by kernel_rfl) (by kernel_rfl))) <| Rc 4 [⟨.d (Row.d r_9.1), []⟩, ⟨.d (.bool r_9.2), []⟩, ⟨.tup [], [([2], some (.cells [.d (.int .i64 r_9.1.Name), .d (.int .i64 r_9.1.A), .d (.int .i64 r_9.1.B), .d (.bool r_9.1.Mod)] 0))]⟩, ⟨.d (.bool r_9.2), []⟩] <| Rd <| kS_nrm <| Runs.ret <| kB_ret <| kS_ret ?_
          obtain rfl := Option.some.inj h
          exact ⟨Out.ret_ne, (by kernel_rfl)⟩
         | false =>
          replace h := ite_f hb_10 h
          refine Cf <| Sq <| Ro <| Rc 2 [⟨.d (.bool (t4 == 236)), []⟩, ⟨.d (.bool (t4 == 236)), []⟩] <| Rd <| kS_nrm ?_
          cases hb_11 : ((t4 == 236) : Bool) with
          | true =>
           replace h := ite_t hb_11 h
           refine Ct <| Sq <| Ro ?_
           obtain ⟨r_10, hr_10, h⟩ := bind_s h
           have hc_10 := isa_row_L 78 14 17 r_10 hr_10
           refine Rt (some 59) (.callf 38) [] none [.d (.int .i64 78), .d (.int .i64 14), .d (.int .i64 17)] (.tup [.d (Row.d r_10.1), .d (.bool r_10.2)]) [] (cut_call (call_of (ws := []) (us := []) (by kernel_rfl) (by kernel_rfl) hc_10 (by kernel_rfl) (by kernel_rfl))) <| Rc 4 [⟨.d (Row.d r_10.1), []⟩, ⟨.d (.bool r_10.2), []⟩, ⟨.tup [], [([2], some (.cells [.d (.int .i64 r_10.1.Name), .d (.int .i64 r_10.1.A), .d (.int .i64 r_10.1.B), .d (.bool r_10.1.Mod)] 0))]⟩, ⟨.d (.bool r_10.2), []⟩] <| Rd <| kS_nrm <| Runs.ret <| kB_ret <| kS_ret ?_
           obtain rfl := Option.some.inj h
           exact ⟨Out.ret_ne, (by kernel_rfl)⟩
          | false =>
           replace h := ite_f hb_11 h
           refine Cf <| Sq <| Ro <| Rc 2 [⟨.d (.bool (t4 == 237)), []⟩, ⟨.d (.bool (t4 == 237)), []⟩] <| Rd <| kS_nrm ?_
           cases hb_12 : ((t4 == 237) : Bool) with
           | true =>
            replace h := ite_t hb_12 h
            refine Ct <| Sq <| Ro ?_
            obtain ⟨r_11, hr_11, h⟩ := bind_s h
            have hc_11 := isa_row_L 78 16 17 r_11 hr_11
            refine Rt (some 64) (.callf 38) [] none [.d (.int .i64 78), .d (.int .i64 16), .d (.int .i64 17)] (.tup [.d (Row.d r_11.1), .d (.bool r_11.2)]) [] (cut_call (call_of (ws := []) (us := []) (by kernel_rfl) (by kernel_rfl) hc_11 (by kernel_rfl) (by kernel_rfl))) <| Rc 4 [⟨.d (Row.d r_11.1), []⟩, ⟨.d (.bool r_11.2), []⟩, ⟨.tup [], [([2], some (.cells [.d (.int .i64 r_11.1.Name), .d (.int .i64 r_11.1.A), .d (.int .i64 r_11.1.B), .d (.bool r_11.1.Mod)] 0))]⟩, ⟨.d (.bool r_11.2), []⟩] <| Rd <| kS_nrm <| Runs.ret <| kB_ret <| kS_ret ?_
            obtain rfl := Option.some.inj h
            exact ⟨Out.ret_ne, (by kernel_rfl)⟩
           | false =>
            replace h := ite_f hb_12 h
            refine Cf <| Sq <| Ro <| Rc 2 [⟨.d (.bool (t4 == 238)), []⟩, ⟨.d (.bool (t4 == 238)), []⟩] <| Rd <| kS_nrm ?_
            cases hb_13 : ((t4 == 238) : Bool) with
            | true =>
             replace h := ite_t hb_13 h
             refine Ct <| Sq <| Ro ?_
             obtain ⟨r_12, hr_12, h⟩ := bind_s h
             have hc_12 := isa_row_L 79 17 14 r_12 hr_12
             refine Rt (some 69) (.callf 38) [] none [.d (.int .i64 79), .d (.int .i64 17), .d (.int .i64 14)] (.tup [.d (Row.d r_12.1), .d (.bool r_12.2)]) [] (cut_call (call_of (ws := []) (us := []) (by kernel_rfl) (by kernel_rfl) hc_12 (by kernel_rfl) (by kernel_rfl))) <| Rc 4 [⟨.d (Row.d r_12.1), []⟩, ⟨.d (.bool r_12.2), []⟩, ⟨.tup [], [([2], some (.cells [.d (.int .i64 r_12.1.Name), .d (.int .i64 r_12.1.A), .d (.int .i64 r_12.1.B), .d (.bool r_12.1.Mod)] 0))]⟩, ⟨.d (.bool r_12.2), []⟩] <| Rd <| kS_nrm <| Runs.ret <| kB_ret <| kS_ret ?_
             obtain rfl := Option.some.inj h
             exact ⟨Out.ret_ne, (by kernel_rfl)⟩
            | false =>
             replace h := ite_f hb_13 h
             refine Cf <| Runs.skip <| kB_nrm <| kS_nrm <| Sq <| Ro ?_
             obtain ⟨r_13, hr_13, h⟩ := bind_s h
             have hc_13 := isa_row_L 79 17 16 r_13 hr_13
             refine Rt (some 72) (.callf 38) [] none [.d (.int .i64 79), .d (.int .i64 17), .d (.int .i64 16)] (.tup [.d (Row.d r_13.1), .d (.bool r_13.2)]) [] (cut_call (call_of (ws := []) (us := []) (by kernel_rfl) (by kernel_rfl) hc_13 (by kernel_rfl) (by kernel_rfl))) <| Rc 4 [⟨.d (Row.d r_13.1), []⟩, ⟨.d (.bool r_13.2), []⟩, ⟨.tup [], [([2], some (.cells [.d (.int .i64 r_13.1.Name), .d (.int .i64 r_13.1.A), .d (.int .i64 r_13.1.B), .d (.bool r_13.1.Mod)] 0))]⟩, ⟨.d (.bool r_13.2), []⟩] <| Rd <| kS_nrm <| Runs.ret ?_
             obtain rfl := Option.some.inj h
             exact ⟨Out.ret_ne, (by kernel_rfl)⟩
theorem isa_goes_ok (op_ : Int) (r : (Row × Bool)) (h : isa_goes op_ = some r) : Runs L F45.body ⟨tmOf [.d (.int .u8 op_)] 0, updW (fun _ => none) []⟩ (isa_goes_Q op_ r) := by
 unfold isa_goes at h
 refine Sq <| Ro <| Rc 2 [⟨.ptr [2] 0 0, [([2], some (.cells [.d (.int .i64 0), .d (.int .i64 0), .d (.int .i64 0), .d (.bool false)] 0))]⟩, ⟨.d (.bool false), []⟩] <| Rd <| kS_nrm <| Sq <| Sq <| Ro <| Rc 1 [⟨.d (.int .u8 op_), []⟩] <| Rd <| kS_nrm <| Runs.block <| Sq <| Sq <| Ro <| Rc 2 [⟨.d (.bool (op_ == 224)), []⟩, ⟨.d (.bool (op_ == 224)), []⟩] <| Rd <| kS_nrm ?_
 cases hb_1 : ((op_ == 224) : Bool) with
 | true =>
  replace h := ite_t hb_1 h
  refine Ct <| Runs.skip <| kS_nrm <| Runs.canon (isa_goes_h20 ({ Name := 0, A := 0, B := 0, Mod := false } : Row) op_ op_ true) (Canon.nil (by kernel_rfl)) ?_
  exact isa_goes_j20_ok op_ ({ Name := 0, A := 0, B := 0, Mod := false } : Row) op_ op_ true r h
 | false =>
  replace h := ite_f hb_1 h
  refine Cf <| Sq <| Ro <| Rc 2 [⟨.d (.bool (op_ == 225)), []⟩, ⟨.d (.bool (op_ == 225)), []⟩] <| Rd <| kS_nrm ?_
  cases hb_14 : ((op_ == 225) : Bool) with
  | true =>
   replace h := ite_t hb_14 h
   refine Ct <| Runs.skip <| kS_nrm <| Runs.canon (isa_goes_h20 ({ Name := 0, A := 0, B := 0, Mod := false } : Row) op_ op_ true) (Canon.nil (by kernel_rfl)) ?_
   exact isa_goes_j20_ok op_ ({ Name := 0, A := 0, B := 0, Mod := false } : Row) op_ op_ true r h
  | false =>
   replace h := ite_f hb_14 h
   refine Cf <| Sq <| Ro <| Rc 2 [⟨.d (.bool (op_ == 226)), []⟩, ⟨.d (.bool (op_ == 226)), []⟩] <| Rd <| kS_nrm ?_
   cases hb_15 : ((op_ == 226) : Bool) with
   | true =>
    replace h := ite_t hb_15 h
    refine Ct <| Runs.skip <| kS_nrm <| Runs.canon (isa_goes_h20 ({ Name := 0, A := 0, B := 0, Mod := false } : Row) op_ op_ true) (Canon.nil (by kernel_rfl)) ?_
    exact isa_goes_j20_ok op_ ({ Name := 0, A := 0, B := 0, Mod := false } : Row) op_ op_ true r h
   | false =>
    replace h := ite_f hb_15 h
    refine Cf <| Ro <| Rc 2 [⟨.d (.bool (op_ == 227)), []⟩, ⟨.d (.bool (op_ == 227)), []⟩] <| Rd <| kS_nrm <| Runs.canon (isa_goes_h20 ({ Name := 0, A := 0, B := 0, Mod := false } : Row) op_ op_ (op_ == 227)) (Canon.nil (by kernel_rfl)) ?_
    exact isa_goes_j20_ok op_ ({ Name := 0, A := 0, B := 0, Mod := false } : Row) op_ op_ (op_ == 227) r h
theorem isa_goes_L (op_ : Int) (r : (Row × Bool)) (h : isa_goes op_ = some r) : L 45 [.d (.int .u8 op_)] = some (.tup [.d (Row.d r.1), .d (.bool r.2)], [.d (.int .u8 op_)]) := by
 obtain ⟨p, ⟨hne, hf⟩, hr⟩ := isa_goes_ok op_ r h
 obtain ⟨k, hk⟩ := run_of (F := F45) (args := [.d (.int .u8 op_)]) (ap := [.d (.int .u8 op_)]) (bx0 := updW (fun _ => none) []) rfl rfl (by kernel_rfl) ⟨p, ⟨hne, hf⟩, hr⟩
 exact lim_run (k := k) rfl hk
def isa_rest_h18 (b_4 : Row) (op0 : Int) (reg1 : Int) (t21 : Bool) : St := ⟨tab [(0, .d (.int .u8 op0)), (1, .d (.int .i64 reg1)), (4, .ptr [4] 0 0), (21, .d (.bool t21))], tabB [([4], some (.cells [.d (.int .i64 b_4.Name), .d (.int .i64 b_4.A), .d (.int .i64 b_4.B), .d (.bool b_4.Mod)] 0))]⟩
def isa_rest_h37 (b_4 : Row) (op0 : Int) (reg1 : Int) (e6 : Int) (i7 : Int) : St := ⟨tab [(0, .d (.int .u8 op0)), (1, .d (.int .i64 reg1)), (4, .ptr [4] 0 0), (6, .d (.int .i64 e6)), (7, .d (.int .i64 i7))], tabB [([4], some (.cells [.d (.int .i64 b_4.Name), .d (.int .i64 b_4.A), .d (.int .i64 b_4.B), .d (.bool b_4.Mod)] 0))]⟩
def isa_rest_Q (op_ : Int) (reg_ : Int) (r : (Row × Bool)) (p : Out × St) : Prop := (∀ i, p.1 ≠ .exit i) ∧ finF F46 [.d (.int .u8 op_), .d (.int .i64 reg_)] p.2 = some (.tup [.d (Row.d r.1), .d (.bool r.2)], [.d (.int .u8 op_), .d (.int .i64 reg_)])
theorem isa_rest_j37_ok (op_ : Int) (reg_ : Int) (b_4 : Row) (op0 : Int) (reg1 : Int) (e6 : Int) (i7 : Int) (r : (Row × Bool)) (h : isa_rest_j37 b_4 op0 reg1 e6 i7 = some r) : Runs L F46b37 (isa_rest_h37 b_4 op0 reg1 e6 i7) (isa_rest_Q op_ reg_ r) := by
 unfold isa_rest_j37 at h
 refine Sq <| Sq <| Ro <| Rc 2 [⟨.d (.int .u8 op0), []⟩, ⟨.d (.bool (decide (op0 < 248))), []⟩] <| Rd <| kS_nrm ?_
 cases hb_7 : ((decide (op0 < 248)) : Bool) with
 | true =>
  replace h := ite_t hb_7 h
  refine Ct <| Sq <| Sq <| Ro <| Rc 1 [⟨.d (.int .i64 reg1), []⟩] <| Rd <| kS_nrm <| Runs.block <| Sq <| Ro <| Rc 2 [⟨.d (.bool (reg1 == 0)), []⟩, ⟨.d (.bool (reg1 == 0)), []⟩] <| Rd <| kS_nrm ?_
  cases hb_8 : ((reg1 == 0) : Bool) with
  | true =>
   replace h := ite_t hb_8 h
   refine Ct <| Sq <| Ro <| Rc 2 [⟨.d (.int .i64 e6), []⟩, ⟨.d (.int .i64 i7), []⟩] ?_
   obtain ⟨r_5, hr_5, h⟩ := bind_s h
   have hc_5 := isa_mod_L 33 e6 i7 r_5 hr_5
   refine Rt (some 51) (.callf 67) [] none [.d (.int .i64 33), .d (.int .i64 e6), .d (.int .i64 i7)] (.tup [.d (Row.d r_5.1), .d (.bool r_5.2)]) [] (cut_call (call_of (ws := []) (us := []) (by kernel_rfl) (by kernel_rfl) hc_5 (by kernel_rfl) (by kernel_rfl))) <| Rc 4 [⟨.d (Row.d r_5.1), []⟩, ⟨.d (.bool r_5.2), []⟩, ⟨.tup [], [([4], some (.cells [.d (.int .i64 r_5.1.Name), .d (.int .i64 r_5.1.A), .d (.int .i64 r_5.1.B), .d (.bool r_5.1.Mod)] 0))]⟩, ⟨.d (.bool r_5.2), []⟩] <| Rd <| kS_nrm <| Runs.ret <| kB_ret <| kS_ret <| kS_ret ?_
   obtain rfl := Option.some.inj h
   exact ⟨Out.ret_ne, (by kernel_rfl)⟩
  | false =>
   replace h := ite_f hb_8 h
   refine Cf <| Sq <| Ro <| Rc 2 [⟨.d (.bool (reg1 == 1)), []⟩, ⟨.d (.bool (reg1 == 1)), []⟩] <| Rd <| kS_nrm ?_
   cases hb_9 : ((reg1 == 1) : Bool) with
   | true =>
    replace h := ite_t hb_9 h
    refine Ct <| Sq <| Ro ?_
    obtain ⟨r_6, hr_6, h⟩ := bind_s h
    have hc_6 := isa_bad_L r_6 hr_6
    refine Rt (some 56) (.callf 39) [] none [] (.tup [.d (Row.d r_6.1), .d (.bool r_6.2)]) [] (cut_call (call_of (ws := []) (us := []) (by kernel_rfl) (by kernel_rfl) hc_6 (by kernel_rfl) (by kernel_rfl))) <| Rc 4 [⟨.d (Row.d r_6.1), []⟩, ⟨.d (.bool r_6.2), []⟩, ⟨.tup [], [([4], some (.cells [.d (.int .i64 r_6.1.Name), .d (.int .i64 r_6.1.A), .d (.int .i64 r_6.1.B), .d (.bool r_6.1.Mod)] 0))]⟩, ⟨.d (.bool r_6.2), []⟩] <| Rd <| kS_nrm <| Runs.ret <| kB_ret <| kS_ret <| kS_ret ?_
    obtain rfl := Option.some.inj h
    exact ⟨Out.ret_ne, (by kernel_rfl)⟩
   | false =>
    replace h := ite_f hb_9 h
    refine Cf <| Runs.skip <| kB_nrm <| kS_nrm <| Sq <| Ro <| Rc 4 [⟨.d (.int .i64 reg1), []⟩, ⟨.d (.int .i64 (IntKind.wrap .i64 (84 + reg1))), []⟩, ⟨.d (.int .i64 (IntKind.wrap .i64 ((IntKind.wrap .i64 (84 + reg1)) - 2))), []⟩, ⟨.d (.int .i64 e6), []⟩] ?_
    obtain ⟨r_7, hr_7, h⟩ := bind_s h
    have hc_7 := isa_mod_L (IntKind.wrap .i64 ((IntKind.wrap .i64 (84 + reg1)) - 2)) e6 0 r_7 hr_7
    refine Rt (some 63) (.callf 67) [] none [.d (.int .i64 (IntKind.wrap .i64 ((IntKind.wrap .i64 (84 + reg1)) - 2))), .d (.int .i64 e6), .d (.int .i64 0)] (.tup [.d (Row.d r_7.1), .d (.bool r_7.2)]) [] (cut_call (call_of (ws := []) (us := []) (by kernel_rfl) (by kernel_rfl) hc_7 (by kernel_rfl) (by kernel_rfl))) <| Rc 4 [⟨.d (Row.d r_7.1), []⟩, ⟨.d (.bool r_7.2), []⟩, ⟨.tup [], [([4], some (.cells [.d (.int .i64 r_7.1.Name), .d (.int .i64 r_7.1.A), .d (.int .i64 r_7.1.B), .d (.bool r_7.1.Mod)] 0))]⟩, ⟨.d (.bool r_7.2), []⟩] <| Rd <| kS_nrm <| Runs.ret <| kS_ret ?_
    obtain rfl := Option.some.inj h
    exact ⟨Out.ret_ne, (by kernel_rfl)⟩
 | false =>
  replace h := ite_f hb_7 h
  refine Cf <| Runs.skip <| kS_nrm <| Sq <| Runs.block <| Sq <| Ro <| Rc 3 [⟨.d (.int .i64 reg1), []⟩, ⟨.d (.bool (decide (reg1 < 2))), []⟩, ⟨.d (.bool (decide (reg1 < 2))), []⟩] <| Rd <| kS_nrm ?_
  cases hb_10 : ((decide (reg1 < 2)) : Bool) with
  | true =>
   replace h := ite_t hb_10 h
   refine Ct <| Sq <| Ro <| Rc 3 [⟨.d (.int .i64 reg1), []⟩, ⟨.d (.int .i64 (IntKind.wrap .i64 (15 + reg1))), []⟩, ⟨.d (.int .i64 e6), []⟩] ?_
   obtain ⟨r_8, hr_8, h⟩ := bind_s h
   have hc_8 := isa_mod_L (IntKind.wrap .i64 (15 + reg1)) e6 0 r_8 hr_8
   refine Rt (some 72) (.callf 67) [] none [.d (.int .i64 (IntKind.wrap .i64 (15 + reg1))), .d (.int .i64 e6), .d (.int .i64 0)] (.tup [.d (Row.d r_8.1), .d (.bool r_8.2)]) [] (cut_call (call_of (ws := []) (us := []) (by kernel_rfl) (by kernel_rfl) hc_8 (by kernel_rfl) (by kernel_rfl))) <| Rc 4 [⟨.d (Row.d r_8.1), []⟩, ⟨.d (.bool r_8.2), []⟩, ⟨.tup [], [([4], some (.cells [.d (.int .i64 r_8.1.Name), .d (.int .i64 r_8.1.A), .d (.int .i64 r_8.1.B), .d (.bool r_8.1.Mod)] 0))]⟩, ⟨.d (.bool r_8.2), []⟩] <| Rd <| kS_nrm <| Runs.ret <| kB_ret <| kS_ret ?_
   obtain rfl := Option.some.inj h
   exact ⟨Out.ret_ne, (by kernel_rfl)⟩
  | false =>
   replace h := ite_f hb_10 h
   refine Cf <| Sq <| Ro <| Rc 3 [⟨.d (.int .u8 op0), []⟩, ⟨.d (.bool (op0 == 254)), []⟩, ⟨.d (.bool (op0 == 254)), []⟩] ?_
   cases hb_11 : ((op0 == 254) : Bool) with
   | true =>
    replace h := ite_t hb_11 h
    refine Rc 4 [⟨.tup [], []⟩, ⟨.tup [], []⟩, ⟨.d (.bool true), []⟩, ⟨.d (.bool true), []⟩] <| Rd <| kS_nrm <| Ct <| Sq <| Ro ?_
    obtain ⟨r_9, hr_9, h⟩ := bind_s h
    have hc_9 := isa_bad_L r_9 hr_9
    refine Rt (some 82) (.callf 39) [] none [] (.tup [.d (Row.d r_9.1), .d (.bool r_9.2)]) [] (cut_call (call_of (ws := []) (us := []) (by kernel_rfl) (by kernel_rfl) hc_9 (by kernel_rfl) (by kernel_rfl))) <| Rc 4 [⟨.d (Row.d r_9.1), []⟩, ⟨.d (.bool r_9.2), []⟩, ⟨.tup [], [([4], some (.cells [.d (.int .i64 r_9.1.Name), .d (.int .i64 r_9.1.A), .d (.int .i64 r_9.1.B), .d (.bool r_9.1.Mod)] 0))]⟩, ⟨.d (.bool r_9.2), []⟩] <| Rd <| kS_nrm <| Runs.ret <| kB_ret <| kS_ret ?_
    obtain rfl := Option.some.inj h
    exact ⟨Out.ret_ne, (by kernel_rfl)⟩
   | false =>
    replace h := ite_f hb_11 h
    refine Rc 4 [⟨.d (.int .i64 reg1), []⟩, ⟨.d (.bool (reg1 == 7)), []⟩, ⟨.d (.bool (reg1 == 7)), []⟩, ⟨.d (.bool (reg1 == 7)), []⟩] <| Rd <| kS_nrm ?_
    cases hb_12 : ((reg1 == 7) : Bool) with
    | true =>
     replace h := ite_t hb_12 h
     refine Ct <| Sq <| Ro ?_
     obtain ⟨r_10, hr_10, h⟩ := bind_s h
     have hc_10 := isa_bad_L r_10 hr_10
     refine Rt (some 82) (.callf 39) [] none [] (.tup [.d (Row.d r_10.1), .d (.bool r_10.2)]) [] (cut_call (call_of (ws := []) (us := []) (by kernel_rfl) (by kernel_rfl) hc_10 (by kernel_rfl) (by kernel_rfl))) <| Rc 4 [⟨.d (Row.d r_10.1), []⟩, ⟨.d (.bool r_10.2), []⟩, ⟨.tup [], [([4], some (.cells [.d (.int .i64 r_10.1.Name), .d (.int .i64 r_10.1.A), .d (.int .i64 r_10.1.B), .d (.bool r_10.1.Mod)] 0))]⟩, ⟨.d (.bool r_10.2), []⟩] <| Rd <| kS_nrm <| Runs.ret <| kB_ret <| kS_ret ?_
     obtain rfl := Option.some.inj h
     exact ⟨Out.ret_ne, (by kernel_rfl)⟩
    | false =>
     replace h := ite_f hb_12 h
     refine Cf <| Runs.skip <| kB_nrm <| kS_nrm <| Sq <| Ro <| Rc 3 [⟨.ref [85] 0 0 (List.map (D.int .i64) ([39, 40, 80, 81, 9] : List Int)).length 1, [([85], some (.arr (List.map (D.int .i64) ([39, 40, 80, 81, 9] : List Int)) 0 false))]⟩, ⟨.d (.int .i64 reg1), []⟩, ⟨.d (.int .i64 (IntKind.wrap .i64 (reg1 - 2))), []⟩] ?_
     obtain ⟨z_1, hz_1, h⟩ := bind_s h
     refine Rt (some 88) (.iaddrS 1) [] none [.ref [85] 0 0 (List.map (D.int .i64) ([39, 40, 80, 81, 9] : List Int)).length 1, .d (.int .i64 (IntKind.wrap .i64 (reg1 - 2)))] (.eref [85] 0 (0 + ((IntKind.wrap .i64 (reg1 - 2))).toNat) 0) [] (cut_atR (e := (D.int .i64)) (l := ([39, 40, 80, 81, 9] : List Int)) hz_1 rfl) <| Rt (some 89) (.load none) [] none [.eref [85] 0 (0 + ((IntKind.wrap .i64 (reg1 - 2))).toNat) 0] (.d (.int .i64 z_1)) [] (cut_loadR (e := (D.int .i64)) (l := ([39, 40, 80, 81, 9] : List Int)) (fz := false) (y := z_1) (by kernel_rfl) hz_1 (by kernel_rfl) (by kernel_rfl)) <| Rc 1 [⟨.d (.int .i64 z_1), []⟩] <| Rd <| kS_nrm <| Sq <| Sq <| Ro <| Rc 3 [⟨.d (.int .i64 reg1), []⟩, ⟨.d (.bool (reg1 == 3)), []⟩, ⟨.d (.bool (reg1 == 3)), []⟩] ?_
     cases hb_13 : ((reg1 == 3) : Bool) with
     | true =>
      replace h := ite_t hb_13 h
      refine Rc 3 [⟨.tup [], []⟩, ⟨.tup [], []⟩, ⟨.d (.bool true), []⟩] <| Rd <| kS_nrm <| Ct <| Ro <| Rc 1 [⟨.d (.int .i64 19), []⟩] <| Rd <| kS_nrm <| Sq <| Ro <| Rc 2 [⟨.d (.int .i64 z_1), []⟩, ⟨.d (.int .i64 19), []⟩] ?_
      obtain ⟨r_11, hr_11, h⟩ := bind_s h
      have hc_11 := isa_mod_L z_1 19 0 r_11 hr_11
      refine Rt (some 98) (.callf 67) [] none [.d (.int .i64 z_1), .d (.int .i64 19), .d (.int .i64 0)] (.tup [.d (Row.d r_11.1), .d (.bool r_11.2)]) [] (cut_call (call_of (ws := []) (us := []) (by kernel_rfl) (by kernel_rfl) hc_11 (by kernel_rfl) (by kernel_rfl))) <| Rc 4 [⟨.d (Row.d r_11.1), []⟩, ⟨.d (.bool r_11.2), []⟩, ⟨.tup [], [([4], some (.cells [.d (.int .i64 r_11.1.Name), .d (.int .i64 r_11.1.A), .d (.int .i64 r_11.1.B), .d (.bool r_11.1.Mod)] 0))]⟩, ⟨.d (.bool r_11.2), []⟩] <| Rd <| kS_nrm <| Runs.ret ?_
      obtain rfl := Option.some.inj h
      exact ⟨Out.ret_ne, (by kernel_rfl)⟩
     | false =>
      replace h := ite_f hb_13 h
      refine Rc 3 [⟨.d (.int .i64 reg1), []⟩, ⟨.d (.bool (reg1 == 5)), []⟩, ⟨.d (.bool (reg1 == 5)), []⟩] <| Rd <| kS_nrm ?_
      cases hb_14 : ((reg1 == 5) : Bool) with
      | true =>
       replace h := ite_t hb_14 h
       refine Ct <| Ro <| Rc 1 [⟨.d (.int .i64 19), []⟩] <| Rd <| kS_nrm <| Sq <| Ro <| Rc 2 [⟨.d (.int .i64 z_1), []⟩, ⟨.d (.int .i64 19), []⟩] ?_
       obtain ⟨r_12, hr_12, h⟩ := bind_s h
       have hc_12 := isa_mod_L z_1 19 0 r_12 hr_12
       refine Rt (some 98) (.callf 67) [] none [.d (.int .i64 z_1), .d (.int .i64 19), .d (.int .i64 0)] (.tup [.d (Row.d r_12.1), .d (.bool r_12.2)]) [] (cut_call (call_of (ws := []) (us := []) (by kernel_rfl) (by kernel_rfl) hc_12 (by kernel_rfl) (by kernel_rfl))) <| Rc 4 [⟨.d (Row.d r_12.1), []⟩, ⟨.d (.bool r_12.2), []⟩, ⟨.tup [], [([4], some (.cells [.d (.int .i64 r_12.1.Name), .d (.int .i64 r_12.1.A), .d (.int .i64 r_12.1.B), .d (.bool r_12.1.Mod)] 0))]⟩, ⟨.d (.bool r_12.2), []⟩] <| Rd <| kS_nrm <| Runs.ret ?_
       obtain rfl := Option.some.inj h
       exact ⟨Out.ret_ne, (by kernel_rfl)⟩
      | false =>
       replace h := ite_f hb_14 h
       refine Cf <| Runs.skip <| kS_nrm <| Sq <| Ro <| Rc 2 [⟨.d (.int .i64 z_1), []⟩, ⟨.d (.int .i64 e6), []⟩] ?_
       obtain ⟨r_13, hr_13, h⟩ := bind_s h
       have hc_13 := isa_mod_L z_1 e6 0 r_13 hr_13
       refine Rt (some 98) (.callf 67) [] none [.d (.int .i64 z_1), .d (.int .i64 e6), .d (.int .i64 0)] (.tup [.d (Row.d r_13.1), .d (.bool r_13.2)]) [] (cut_call (call_of (ws := []) (us := []) (by kernel_rfl) (by kernel_rfl) hc_13 (by kernel_rfl) (by kernel_rfl))) <| Rc 4 [⟨.d (Row.d r_13.1), []⟩, ⟨.d (.bool r_13.2), []⟩, ⟨.tup [], [([4], some (.cells [.d (.int .i64 r_13.1.Name), .d (.int .i64 r_13.1.A), .d (.int .i64 r_13.1.B), .d (.bool r_13.1.Mod)] 0))]⟩, ⟨.d (.bool r_13.2), []⟩] <| Rd <| kS_nrm <| Runs.ret ?_
       obtain rfl := Option.some.inj h
       exact ⟨Out.ret_ne, (by kernel_rfl)⟩
theorem isa_rest_j18_ok (op_ : Int) (reg_ : Int) (b_4 : Row) (op0 : Int) (reg1 : Int) (t21 : Bool) (r : (Row × Bool)) (h : isa_rest_j18 b_4 op0 reg1 t21 = some r) : Runs L F46b18 (isa_rest_h18 b_4 op0 reg1 t21) (kB 0 (kS L F46c29 (isa_rest_Q op_ reg_ r))) := by
 unfold isa_rest_j18 at h
 cases hb_4 : (t21 : Bool) with
 | true =>
  replace h := ite_t hb_4 h
  refine Ct <| Sq <| Ro <| Rc 4 [⟨.d (.int .u8 op0), []⟩, ⟨.d (.int .u8 (IntKind.wrap .u8 (op0 - 248))), []⟩, ⟨.d (.int .i64 (IntKind.wrap .i64 (IntKind.wrap .u8 (op0 - 248)))), []⟩, ⟨.d (.int .i64 (IntKind.wrap .i64 (90 + (IntKind.wrap .i64 (IntKind.wrap .u8 (op0 - 248)))))), []⟩] ?_
  obtain ⟨r_3, hr_3, h⟩ := bind_s h
  have hc_3 := isa_row_L (IntKind.wrap .i64 (90 + (IntKind.wrap .i64 (IntKind.wrap .u8 (op0 - 248))))) 0 0 r_3 hr_3
  refine Rt (some 32) (.callf 38) [] none [.d (.int .i64 (IntKind.wrap .i64 (90 + (IntKind.wrap .i64 (IntKind.wrap .u8 (op0 - 248)))))), .d (.int .i64 0), .d (.int .i64 0)] (.tup [.d (Row.d r_3.1), .d (.bool r_3.2)]) [] (cut_call (call_of (ws := []) (us := []) (by kernel_rfl) (by kernel_rfl) hc_3 (by kernel_rfl) (by kernel_rfl))) <| Rc 4 [⟨.d (Row.d r_3.1), []⟩, ⟨.d (.bool r_3.2), []⟩, ⟨.tup [], [([4], some (.cells [.d (.int .i64 r_3.1.Name), .d (.int .i64 r_3.1.A), .d (.int .i64 r_3.1.B), .d (.bool r_3.1.Mod)] 0))]⟩, ⟨.d (.bool r_3.2), []⟩] <| Rd <| kS_nrm <| Runs.ret <| kB_ret <| kS_ret ?_
  obtain rfl := Option.some.inj h
  exact ⟨Out.ret_ne, (by kernel_rfl)⟩
 | false =>
  replace h := ite_f hb_4 h
  refine Cf <| Sq <| Ro <| Rc 3 [⟨.d (.int .u8 op0), []⟩, ⟨.d (.bool (decide (op0 < 246))), []⟩, ⟨.d (.bool (decide (op0 < 246))), []⟩] <| Rd <| kS_nrm ?_
  cases hb_5 : ((decide (op0 < 246)) : Bool) with
  | true =>
   replace h := ite_t hb_5 h
   refine Ct <| Sq <| Ro ?_
   obtain ⟨r_4, hr_4, h⟩ := bind_s h
   have hc_4 := isa_bad_L r_4 hr_4
   refine Rt (some 38) (.callf 39) [] none [] (.tup [.d (Row.d r_4.1), .d (.bool r_4.2)]) [] (cut_call (call_of (ws := []) (us := []) (by kernel_rfl) (by kernel_rfl) hc_4 (by kernel_rfl) (by kernel_rfl))) <| Rc 4 [⟨.d (Row.d r_4.1), []⟩, ⟨.d (.bool r_4.2), []⟩, ⟨.tup [], [([4], some (.cells [.d (.int .i64 r_4.1.Name), .d (.int .i64 r_4.1.A), .d (.int .i64 r_4.1.B), .d (.bool r_4.1.Mod)] 0))]⟩, ⟨.d (.bool r_4.2), []⟩] <| Rd <| kS_nrm <| Runs.ret <| kB_ret <| kS_ret ?_
   obtain rfl := Option.some.inj h
   exact ⟨Out.ret_ne, (by kernel_rfl)⟩
  | false =>
   replace h := ite_f hb_5 h
   refine Cf <| Runs.skip <| kB_nrm <| kS_nrm <| Sq <| Ro <| Rc 2 [⟨.d (.int .i64 1), []⟩, ⟨.d (.int .i64 6), []⟩] <| Rd <| kS_nrm <| Sq <| Sq <| Ro <| Rc 3 [⟨.d (.int .u8 op0), []⟩, ⟨.d (.int .u8 (bitsOp .and .u8 op0 1)), []⟩, ⟨.d (.bool ((bitsOp .and .u8 op0 1) == 1)), []⟩] <| Rd <| kS_nrm ?_
   cases hb_6 : (((bitsOp .and .u8 op0 1) == 1) : Bool) with
   | true =>
    replace h := ite_t hb_6 h
    refine Ct <| Ro <| Rc 2 [⟨.d (.int .i64 2), []⟩, ⟨.d (.int .i64 7), []⟩] <| Rd <| kS_nrm <| Runs.canon (isa_rest_h37 b_4 op0 reg1 2 7) (Canon.nil (by kernel_rfl)) ?_
    exact isa_rest_j37_ok op_ reg_ b_4 op0 reg1 2 7 r h
   | false =>
    replace h := ite_f hb_6 h
    refine Cf <| Runs.skip <| kS_nrm <| Runs.canon (isa_rest_h37 b_4 op0 reg1 1 6) (Canon.nil (by kernel_rfl)) ?_
    exact isa_rest_j37_ok op_ reg_ b_4 op0 reg1 1 6 r h
theorem isa_rest_ok (op_ : Int) (reg_ : Int) (r : (Row × Bool)) (h : isa_rest op_ reg_ = some r) : Runs L F46.body ⟨tmOf [.d (.int .u8 op_), .d (.int .i64 reg_)] 0, updW (fun _ => none) []⟩ (isa_rest_Q op_ reg_ r) := by
 unfold isa_rest at h
 refine Sq <| Ro <| Rc 2 [⟨.ptr [4] 0 0, [([4], some (.cells [.d (.int .i64 0), .d (.int .i64 0), .d (.int .i64 0), .d (.bool false)] 0))]⟩, ⟨.d (.bool false), []⟩] <| Rd <| kS_nrm <| Sq <| Runs.block <| Sq <| Ro <| Rc 3 [⟨.d (.int .u8 op_), []⟩, ⟨.d (.bool (op_ == 244)), []⟩, ⟨.d (.bool (op_ == 244)), []⟩] <| Rd <| kS_nrm ?_
 cases hb_1 : ((op_ == 244) : Bool) with
 | true =>
  replace h := ite_t hb_1 h
  refine Ct <| Sq <| Ro ?_
  obtain ⟨r_1, hr_1, h⟩ := bind_s h
  have hc_1 := isa_row_L 82 0 0 r_1 hr_1
  refine Rt (some 12) (.callf 38) [] none [.d (.int .i64 82), .d (.int .i64 0), .d (.int .i64 0)] (.tup [.d (Row.d r_1.1), .d (.bool r_1.2)]) [] (cut_call (call_of (ws := []) (us := []) (by kernel_rfl) (by kernel_rfl) hc_1 (by kernel_rfl) (by kernel_rfl))) <| Rc 4 [⟨.d (Row.d r_1.1), []⟩, ⟨.d (.bool r_1.2), []⟩, ⟨.tup [], [([4], some (.cells [.d (.int .i64 r_1.1.Name), .d (.int .i64 r_1.1.A), .d (.int .i64 r_1.1.B), .d (.bool r_1.1.Mod)] 0))]⟩, ⟨.d (.bool r_1.2), []⟩] <| Rd <| kS_nrm <| Runs.ret <| kB_ret <| kS_ret ?_
  obtain rfl := Option.some.inj h
  exact ⟨Out.ret_ne, (by kernel_rfl)⟩
 | false =>
  replace h := ite_f hb_1 h
  refine Cf <| Sq <| Ro <| Rc 3 [⟨.d (.int .u8 op_), []⟩, ⟨.d (.bool (op_ == 245)), []⟩, ⟨.d (.bool (op_ == 245)), []⟩] <| Rd <| kS_nrm ?_
  cases hb_2 : ((op_ == 245) : Bool) with
  | true =>
   replace h := ite_t hb_2 h
   refine Ct <| Sq <| Ro ?_
   obtain ⟨r_2, hr_2, h⟩ := bind_s h
   have hc_2 := isa_row_L 83 0 0 r_2 hr_2
   refine Rt (some 18) (.callf 38) [] none [.d (.int .i64 83), .d (.int .i64 0), .d (.int .i64 0)] (.tup [.d (Row.d r_2.1), .d (.bool r_2.2)]) [] (cut_call (call_of (ws := []) (us := []) (by kernel_rfl) (by kernel_rfl) hc_2 (by kernel_rfl) (by kernel_rfl))) <| Rc 4 [⟨.d (Row.d r_2.1), []⟩, ⟨.d (.bool r_2.2), []⟩, ⟨.tup [], [([4], some (.cells [.d (.int .i64 r_2.1.Name), .d (.int .i64 r_2.1.A), .d (.int .i64 r_2.1.B), .d (.bool r_2.1.Mod)] 0))]⟩, ⟨.d (.bool r_2.2), []⟩] <| Rd <| kS_nrm <| Runs.ret <| kB_ret <| kS_ret ?_
   obtain rfl := Option.some.inj h
   exact ⟨Out.ret_ne, (by kernel_rfl)⟩
  | false =>
   replace h := ite_f hb_2 h
   refine Cf <| Sq <| Ro <| Rc 3 [⟨.d (.int .u8 op_), []⟩, ⟨.d (.bool (decide (op_ ≥ 248))), []⟩, ⟨.d (.bool (decide (op_ ≥ 248))), []⟩] ?_
   cases hb_3 : ((decide (op_ ≥ 248)) : Bool) with
   | true =>
    replace h := ite_t hb_3 h
    refine Rc 4 [⟨.d (.int .u8 op_), []⟩, ⟨.d (.bool (decide (op_ < 254))), []⟩, ⟨.d (.bool (decide (op_ < 254))), []⟩, ⟨.d (.bool (decide (op_ < 254))), []⟩] <| Rd <| kS_nrm <| Runs.canon (isa_rest_h18 ({ Name := 0, A := 0, B := 0, Mod := false } : Row) op_ reg_ (decide (op_ < 254))) (Canon.nil (by kernel_rfl)) ?_
    exact isa_rest_j18_ok op_ reg_ ({ Name := 0, A := 0, B := 0, Mod := false } : Row) op_ reg_ (decide (op_ < 254)) r h
   | false =>
    replace h := ite_f hb_3 h
    refine Rc 4 [⟨.tup [], []⟩, ⟨.tup [], []⟩, ⟨.d (.bool false), []⟩, ⟨.d (.bool false), []⟩] <| Rd <| kS_nrm <| Runs.canon (isa_rest_h18 ({ Name := 0, A := 0, B := 0, Mod := false } : Row) op_ reg_ false) (Canon.nil (by kernel_rfl)) ?_
    exact isa_rest_j18_ok op_ reg_ ({ Name := 0, A := 0, B := 0, Mod := false } : Row) op_ reg_ false r h
theorem isa_rest_L (op_ : Int) (reg_ : Int) (r : (Row × Bool)) (h : isa_rest op_ reg_ = some r) : L 46 [.d (.int .u8 op_), .d (.int .i64 reg_)] = some (.tup [.d (Row.d r.1), .d (.bool r.2)], [.d (.int .u8 op_), .d (.int .i64 reg_)]) := by
 obtain ⟨p, ⟨hne, hf⟩, hr⟩ := isa_rest_ok op_ reg_ r h
 obtain ⟨k, hk⟩ := run_of (F := F46) (args := [.d (.int .u8 op_), .d (.int .i64 reg_)]) (ap := [.d (.int .u8 op_), .d (.int .i64 reg_)]) (bx0 := updW (fun _ => none) []) rfl rfl (by kernel_rfl) ⟨p, ⟨hne, hf⟩, hr⟩
 exact lim_run (k := k) rfl hk
def isa_Of_Q (op_ : Int) (reg_ : Int) (r : (Row × Bool)) (p : Out × St) : Prop := (∀ i, p.1 ≠ .exit i) ∧ finF F11 [.d (.int .u8 op_), .d (.int .i64 reg_)] p.2 = some (.tup [.d (Row.d r.1), .d (.bool r.2)], [.d (.int .u8 op_), .d (.int .i64 reg_)])
theorem isa_Of_ok (op_ : Int) (reg_ : Int) (r : (Row × Bool)) (h : isa_Of op_ reg_ = some r) : Runs L F11.body ⟨tmOf [.d (.int .u8 op_), .d (.int .i64 reg_)] 0, updW (fun _ => none) []⟩ (isa_Of_Q op_ reg_ r) := by
 unfold isa_Of at h
 refine Sq <| Ro <| Rc 2 [⟨.ptr [4] 0 0, [([4], some (.cells [.d (.int .i64 0), .d (.int .i64 0), .d (.int .i64 0), .d (.bool false)] 0))]⟩, ⟨.d (.bool false), []⟩] <| Rd <| kS_nrm <| Sq <| Ro <| Rc 3 [⟨.d (.int .i64 reg_), []⟩, ⟨.d (.int .i64 (bitsOp .and .i64 reg_ 7)), []⟩, ⟨.d (.int .i64 (bitsOp .and .i64 reg_ 7)), []⟩] <| Rd <| kS_nrm <| Sq <| Runs.block <| Sq <| Ro <| Rc 3 [⟨.d (.int .u8 op_), []⟩, ⟨.d (.bool (decide (op_ < 64))), []⟩, ⟨.d (.bool (decide (op_ < 64))), []⟩] <| Rd <| kS_nrm ?_
 cases hb_1 : ((decide (op_ < 64)) : Bool) with
 | true =>
  replace h := ite_t hb_1 h
  refine Ct <| Sq <| Ro <| Rc 1 [⟨.d (.int .u8 op_), []⟩] ?_
  obtain ⟨r_1, hr_1, h⟩ := bind_s h
  have hc_1 := isa_sums_L op_ r_1 hr_1
  refine Rt (some 13) (.callf 37) [] none [.d (.int .u8 op_)] (.tup [.d (Row.d r_1.1), .d (.bool r_1.2)]) [] (cut_call (call_of (ws := []) (us := []) (by kernel_rfl) (by kernel_rfl) hc_1 (by kernel_rfl) (by kernel_rfl))) <| Rc 4 [⟨.d (Row.d r_1.1), []⟩, ⟨.d (.bool r_1.2), []⟩, ⟨.tup [], [([4], some (.cells [.d (.int .i64 r_1.1.Name), .d (.int .i64 r_1.1.A), .d (.int .i64 r_1.1.B), .d (.bool r_1.1.Mod)] 0))]⟩, ⟨.d (.bool r_1.2), []⟩] <| Rd <| kS_nrm <| Runs.ret <| kB_ret <| kS_ret ?_
  obtain rfl := Option.some.inj h
  exact ⟨Out.ret_ne, (by kernel_rfl)⟩
 | false =>
  replace h := ite_f hb_1 h
  refine Cf <| Sq <| Ro <| Rc 3 [⟨.d (.int .u8 op_), []⟩, ⟨.d (.bool (decide (op_ < 96))), []⟩, ⟨.d (.bool (decide (op_ < 96))), []⟩] <| Rd <| kS_nrm ?_
  cases hb_2 : ((decide (op_ < 96)) : Bool) with
  | true =>
   replace h := ite_t hb_2 h
   refine Ct <| Sq <| Ro <| Rc 4 [⟨.ref [19] 0 0 (List.map (D.int .i64) ([15, 16, 9, 10] : List Int)).length 1, [([19], some (.arr (List.map (D.int .i64) ([15, 16, 9, 10] : List Int)) 0 false))]⟩, ⟨.d (.int .u8 op_), []⟩, ⟨.d (.int .u8 (IntKind.wrap .u8 (op_ - 64))), []⟩, ⟨.d (.int .u8 (shrI .u8 (IntKind.wrap .u8 (op_ - 64)) 3)), []⟩] ?_
   obtain ⟨z_1, hz_1, h⟩ := bind_s h
   refine Rt (some 23) (.iaddrS 1) [] none [.ref [19] 0 0 (List.map (D.int .i64) ([15, 16, 9, 10] : List Int)).length 1, .d (.int .u8 (shrI .u8 (IntKind.wrap .u8 (op_ - 64)) 3))] (.eref [19] 0 (0 + ((shrI .u8 (IntKind.wrap .u8 (op_ - 64)) 3)).toNat) 0) [] (cut_atR (e := (D.int .i64)) (l := ([15, 16, 9, 10] : List Int)) hz_1 rfl) <| Rt (some 24) (.load none) [] none [.eref [19] 0 (0 + ((shrI .u8 (IntKind.wrap .u8 (op_ - 64)) 3)).toNat) 0] (.d (.int .i64 z_1)) [] (cut_loadR (e := (D.int .i64)) (l := ([15, 16, 9, 10] : List Int)) (fz := false) (y := z_1) (by kernel_rfl) hz_1 (by kernel_rfl) (by kernel_rfl)) <| Rc 1 [⟨.d (.int .i64 z_1), []⟩] <| Rd <| kS_nrm <| Sq <| Ro <| Rc 1 [⟨.d (.int .i64 z_1), []⟩] ?_
   obtain ⟨r_2, hr_2, h⟩ := bind_s h
   have hc_2 := isa_row_L z_1 22 0 r_2 hr_2
   refine Rt (some 26) (.callf 38) [] none [.d (.int .i64 z_1), .d (.int .i64 22), .d (.int .i64 0)] (.tup [.d (Row.d r_2.1), .d (.bool r_2.2)]) [] (cut_call (call_of (ws := []) (us := []) (by kernel_rfl) (by kernel_rfl) hc_2 (by kernel_rfl) (by kernel_rfl))) <| Rc 4 [⟨.d (Row.d r_2.1), []⟩, ⟨.d (.bool r_2.2), []⟩, ⟨.tup [], [([4], some (.cells [.d (.int .i64 r_2.1.Name), .d (.int .i64 r_2.1.A), .d (.int .i64 r_2.1.B), .d (.bool r_2.1.Mod)] 0))]⟩, ⟨.d (.bool r_2.2), []⟩] <| Rd <| kS_nrm <| Runs.ret <| kB_ret <| kS_ret ?_
   obtain rfl := Option.some.inj h
   exact ⟨Out.ret_ne, (by kernel_rfl)⟩
  | false =>
   replace h := ite_f hb_2 h
   refine Cf <| Sq <| Ro <| Rc 3 [⟨.d (.int .u8 op_), []⟩, ⟨.d (.bool (decide (op_ < 112))), []⟩, ⟨.d (.bool (decide (op_ < 112))), []⟩] <| Rd <| kS_nrm ?_
   cases hb_3 : ((decide (op_ < 112)) : Bool) with
   | true =>
    replace h := ite_t hb_3 h
    refine Ct <| Sq <| Ro ?_
    obtain ⟨r_3, hr_3, h⟩ := bind_s h
    have hc_3 := isa_bad_L r_3 hr_3
    refine Rt (some 32) (.callf 39) [] none [] (.tup [.d (Row.d r_3.1), .d (.bool r_3.2)]) [] (cut_call (call_of (ws := []) (us := []) (by kernel_rfl) (by kernel_rfl) hc_3 (by kernel_rfl) (by kernel_rfl))) <| Rc 4 [⟨.d (Row.d r_3.1), []⟩, ⟨.d (.bool r_3.2), []⟩, ⟨.tup [], [([4], some (.cells [.d (.int .i64 r_3.1.Name), .d (.int .i64 r_3.1.A), .d (.int .i64 r_3.1.B), .d (.bool r_3.1.Mod)] 0))]⟩, ⟨.d (.bool r_3.2), []⟩] <| Rd <| kS_nrm <| Runs.ret <| kB_ret <| kS_ret ?_
    obtain rfl := Option.some.inj h
    exact ⟨Out.ret_ne, (by kernel_rfl)⟩
   | false =>
    replace h := ite_f hb_3 h
    refine Cf <| Sq <| Ro <| Rc 3 [⟨.d (.int .u8 op_), []⟩, ⟨.d (.bool (decide (op_ < 128))), []⟩, ⟨.d (.bool (decide (op_ < 128))), []⟩] <| Rd <| kS_nrm ?_
    cases hb_4 : ((decide (op_ < 128)) : Bool) with
    | true =>
     replace h := ite_t hb_4 h
     refine Ct <| Sq <| Ro <| Rc 4 [⟨.d (.int .u8 op_), []⟩, ⟨.d (.int .u8 (IntKind.wrap .u8 (op_ - 112))), []⟩, ⟨.d (.int .i64 (IntKind.wrap .i64 (IntKind.wrap .u8 (op_ - 112)))), []⟩, ⟨.d (.int .i64 (IntKind.wrap .i64 (17 + (IntKind.wrap .i64 (IntKind.wrap .u8 (op_ - 112)))))), []⟩] ?_
     obtain ⟨r_4, hr_4, h⟩ := bind_s h
     have hc_4 := isa_row_L (IntKind.wrap .i64 (17 + (IntKind.wrap .i64 (IntKind.wrap .u8 (op_ - 112))))) 9 0 r_4 hr_4
     refine Rt (some 42) (.callf 38) [] none [.d (.int .i64 (IntKind.wrap .i64 (17 + (IntKind.wrap .i64 (IntKind.wrap .u8 (op_ - 112)))))), .d (.int .i64 9), .d (.int .i64 0)] (.tup [.d (Row.d r_4.1), .d (.bool r_4.2)]) [] (cut_call (call_of (ws := []) (us := []) (by kernel_rfl) (by kernel_rfl) hc_4 (by kernel_rfl) (by kernel_rfl))) <| Rc 4 [⟨.d (Row.d r_4.1), []⟩, ⟨.d (.bool r_4.2), []⟩, ⟨.tup [], [([4], some (.cells [.d (.int .i64 r_4.1.Name), .d (.int .i64 r_4.1.A), .d (.int .i64 r_4.1.B), .d (.bool r_4.1.Mod)] 0))]⟩, ⟨.d (.bool r_4.2), []⟩] <| Rd <| kS_nrm <| Runs.ret <| kB_ret <| kS_ret ?_
     obtain rfl := Option.some.inj h
     exact ⟨Out.ret_ne, (by kernel_rfl)⟩
    | false =>
     replace h := ite_f hb_4 h
     refine Cf <| Sq <| Ro <| Rc 3 [⟨.d (.int .u8 op_), []⟩, ⟨.d (.bool (decide (op_ < 144))), []⟩, ⟨.d (.bool (decide (op_ < 144))), []⟩] <| Rd <| kS_nrm ?_
     cases hb_5 : ((decide (op_ < 144)) : Bool) with
     | true =>
      replace h := ite_t hb_5 h
      refine Ct <| Sq <| Ro <| Rc 2 [⟨.d (.int .u8 op_), []⟩, ⟨.d (.int .i64 (bitsOp .and .i64 reg_ 7)), []⟩] ?_
      obtain ⟨r_5, hr_5, h⟩ := bind_s h
      have hc_5 := isa_moves_L op_ (bitsOp .and .i64 reg_ 7) r_5 hr_5
      refine Rt (some 50) (.callf 40) [] none [.d (.int .u8 op_), .d (.int .i64 (bitsOp .and .i64 reg_ 7))] (.tup [.d (Row.d r_5.1), .d (.bool r_5.2)]) [] (cut_call (call_of (ws := []) (us := []) (by kernel_rfl) (by kernel_rfl) hc_5 (by kernel_rfl) (by kernel_rfl))) <| Rc 4 [⟨.d (Row.d r_5.1), []⟩, ⟨.d (.bool r_5.2), []⟩, ⟨.tup [], [([4], some (.cells [.d (.int .i64 r_5.1.Name), .d (.int .i64 r_5.1.A), .d (.int .i64 r_5.1.B), .d (.bool r_5.1.Mod)] 0))]⟩, ⟨.d (.bool r_5.2), []⟩] <| Rd <| kS_nrm <| Runs.ret <| kB_ret <| kS_ret ?_
      obtain rfl := Option.some.inj h
      exact ⟨Out.ret_ne, (by kernel_rfl)⟩
     | false =>
      replace h := ite_f hb_5 h
      refine Cf <| Sq <| Ro <| Rc 3 [⟨.d (.int .u8 op_), []⟩, ⟨.d (.bool (decide (op_ < 160))), []⟩, ⟨.d (.bool (decide (op_ < 160))), []⟩] <| Rd <| kS_nrm ?_
      cases hb_6 : ((decide (op_ < 160)) : Bool) with
      | true =>
       replace h := ite_t hb_6 h
       refine Ct <| Sq <| Ro <| Rc 1 [⟨.d (.int .u8 op_), []⟩] ?_
       obtain ⟨r_6, hr_6, h⟩ := bind_s h
       have hc_6 := isa_words_L op_ r_6 hr_6
       refine Rt (some 57) (.callf 41) [] none [.d (.int .u8 op_)] (.tup [.d (Row.d r_6.1), .d (.bool r_6.2)]) [] (cut_call (call_of (ws := []) (us := []) (by kernel_rfl) (by kernel_rfl) hc_6 (by kernel_rfl) (by kernel_rfl))) <| Rc 4 [⟨.d (Row.d r_6.1), []⟩, ⟨.d (.bool r_6.2), []⟩, ⟨.tup [], [([4], some (.cells [.d (.int .i64 r_6.1.Name), .d (.int .i64 r_6.1.A), .d (.int .i64 r_6.1.B), .d (.bool r_6.1.Mod)] 0))]⟩, ⟨.d (.bool r_6.2), []⟩] <| Rd <| kS_nrm <| Runs.ret <| kB_ret <| kS_ret ?_
       obtain rfl := Option.some.inj h
       exact ⟨Out.ret_ne, (by kernel_rfl)⟩
      | false =>
       replace h := ite_f hb_6 h
       refine Cf <| Sq <| Ro <| Rc 3 [⟨.d (.int .u8 op_), []⟩, ⟨.d (.bool (decide (op_ < 176))), []⟩, ⟨.d (.bool (decide (op_ < 176))), []⟩] <| Rd <| kS_nrm ?_
       cases hb_7 : ((decide (op_ < 176)) : Bool) with
       | true =>
        replace h := ite_t hb_7 h
        refine Ct <| Sq <| Ro <| Rc 1 [⟨.d (.int .u8 op_), []⟩] ?_
        obtain ⟨r_7, hr_7, h⟩ := bind_s h
        have hc_7 := isa_texts_L op_ r_7 hr_7
        refine Rt (some 64) (.callf 42) [] none [.d (.int .u8 op_)] (.tup [.d (Row.d r_7.1), .d (.bool r_7.2)]) [] (cut_call (call_of (ws := []) (us := []) (by kernel_rfl) (by kernel_rfl) hc_7 (by kernel_rfl) (by kernel_rfl))) <| Rc 4 [⟨.d (Row.d r_7.1), []⟩, ⟨.d (.bool r_7.2), []⟩, ⟨.tup [], [([4], some (.cells [.d (.int .i64 r_7.1.Name), .d (.int .i64 r_7.1.A), .d (.int .i64 r_7.1.B), .d (.bool r_7.1.Mod)] 0))]⟩, ⟨.d (.bool r_7.2), []⟩] <| Rd <| kS_nrm <| Runs.ret <| kB_ret <| kS_ret ?_
        obtain rfl := Option.some.inj h
        exact ⟨Out.ret_ne, (by kernel_rfl)⟩
       | false =>
        replace h := ite_f hb_7 h
        refine Cf <| Sq <| Ro <| Rc 3 [⟨.d (.int .u8 op_), []⟩, ⟨.d (.bool (decide (op_ < 184))), []⟩, ⟨.d (.bool (decide (op_ < 184))), []⟩] <| Rd <| kS_nrm ?_
        cases hb_8 : ((decide (op_ < 184)) : Bool) with
        | true =>
         replace h := ite_t hb_8 h
         refine Ct <| Sq <| Ro ?_
         obtain ⟨r_8, hr_8, h⟩ := bind_s h
         have hc_8 := isa_row_L 35 21 6 r_8 hr_8
         refine Rt (some 70) (.callf 38) [] none [.d (.int .i64 35), .d (.int .i64 21), .d (.int .i64 6)] (.tup [.d (Row.d r_8.1), .d (.bool r_8.2)]) [] (cut_call (call_of (ws := []) (us := []) (by kernel_rfl) (by kernel_rfl) hc_8 (by kernel_rfl) (by kernel_rfl))) <| Rc 4 [⟨.d (Row.d r_8.1), []⟩, ⟨.d (.bool r_8.2), []⟩, ⟨.tup [], [([4], some (.cells [.d (.int .i64 r_8.1.Name), .d (.int .i64 r_8.1.A), .d (.int .i64 r_8.1.B), .d (.bool r_8.1.Mod)] 0))]⟩, ⟨.d (.bool r_8.2), []⟩] <| Rd <| kS_nrm <| Runs.ret <| kB_ret <| kS_ret ?_
         obtain rfl := Option.some.inj h
         exact ⟨Out.ret_ne, (by kernel_rfl)⟩
        | false =>
         replace h := ite_f hb_8 h
         refine Cf <| Sq <| Ro <| Rc 3 [⟨.d (.int .u8 op_), []⟩, ⟨.d (.bool (decide (op_ < 192))), []⟩, ⟨.d (.bool (decide (op_ < 192))), []⟩] <| Rd <| kS_nrm ?_
         cases hb_9 : ((decide (op_ < 192)) : Bool) with
         | true =>
          replace h := ite_t hb_9 h
          refine Ct <| Sq <| Ro ?_
          obtain ⟨r_9, hr_9, h⟩ := bind_s h
          have hc_9 := isa_row_L 35 22 7 r_9 hr_9
          refine Rt (some 76) (.callf 38) [] none [.d (.int .i64 35), .d (.int .i64 22), .d (.int .i64 7)] (.tup [.d (Row.d r_9.1), .d (.bool r_9.2)]) [] (cut_call (call_of (ws := []) (us := []) (by kernel_rfl) (by kernel_rfl) hc_9 (by kernel_rfl) (by kernel_rfl))) <| Rc 4 [⟨.d (Row.d r_9.1), []⟩, ⟨.d (.bool r_9.2), []⟩, ⟨.tup [], [([4], some (.cells [.d (.int .i64 r_9.1.Name), .d (.int .i64 r_9.1.A), .d (.int .i64 r_9.1.B), .d (.bool r_9.1.Mod)] 0))]⟩, ⟨.d (.bool r_9.2), []⟩] <| Rd <| kS_nrm <| Runs.ret <| kB_ret <| kS_ret ?_
          obtain rfl := Option.some.inj h
          exact ⟨Out.ret_ne, (by kernel_rfl)⟩
         | false =>
          replace h := ite_f hb_9 h
          refine Cf <| Sq <| Ro <| Rc 3 [⟨.d (.int .u8 op_), []⟩, ⟨.d (.bool (decide (op_ < 208))), []⟩, ⟨.d (.bool (decide (op_ < 208))), []⟩] <| Rd <| kS_nrm ?_
          cases hb_10 : ((decide (op_ < 208)) : Bool) with
          | true =>
           replace h := ite_t hb_10 h
           refine Ct <| Sq <| Ro <| Rc 2 [⟨.d (.int .u8 op_), []⟩, ⟨.d (.int .i64 (bitsOp .and .i64 reg_ 7)), []⟩] ?_
           obtain ⟨r_10, hr_10, h⟩ := bind_s h
           have hc_10 := isa_backs_L op_ (bitsOp .and .i64 reg_ 7) r_10 hr_10
           refine Rt (some 84) (.callf 43) [] none [.d (.int .u8 op_), .d (.int .i64 (bitsOp .and .i64 reg_ 7))] (.tup [.d (Row.d r_10.1), .d (.bool r_10.2)]) [] (cut_call (call_of (ws := []) (us := []) (by kernel_rfl) (by kernel_rfl) hc_10 (by kernel_rfl) (by kernel_rfl))) <| Rc 4 [⟨.d (Row.d r_10.1), []⟩, ⟨.d (.bool r_10.2), []⟩, ⟨.tup [], [([4], some (.cells [.d (.int .i64 r_10.1.Name), .d (.int .i64 r_10.1.A), .d (.int .i64 r_10.1.B), .d (.bool r_10.1.Mod)] 0))]⟩, ⟨.d (.bool r_10.2), []⟩] <| Rd <| kS_nrm <| Runs.ret <| kB_ret <| kS_ret ?_
           obtain rfl := Option.some.inj h
           exact ⟨Out.ret_ne, (by kernel_rfl)⟩
          | false =>
           replace h := ite_f hb_10 h
           refine Cf <| Sq <| Ro <| Rc 3 [⟨.d (.int .u8 op_), []⟩, ⟨.d (.bool (decide (op_ < 224))), []⟩, ⟨.d (.bool (decide (op_ < 224))), []⟩] <| Rd <| kS_nrm ?_
           cases hb_11 : ((decide (op_ < 224)) : Bool) with
           | true =>
            replace h := ite_t hb_11 h
            refine Ct <| Sq <| Ro <| Rc 2 [⟨.d (.int .u8 op_), []⟩, ⟨.d (.int .i64 (bitsOp .and .i64 reg_ 7)), []⟩] ?_
            obtain ⟨r_11, hr_11, h⟩ := bind_s h
            have hc_11 := isa_turns_L op_ (bitsOp .and .i64 reg_ 7) r_11 hr_11
            refine Rt (some 92) (.callf 44) [] none [.d (.int .u8 op_), .d (.int .i64 (bitsOp .and .i64 reg_ 7))] (.tup [.d (Row.d r_11.1), .d (.bool r_11.2)]) [] (cut_call (call_of (ws := []) (us := []) (by kernel_rfl) (by kernel_rfl) hc_11 (by kernel_rfl) (by kernel_rfl))) <| Rc 4 [⟨.d (Row.d r_11.1), []⟩, ⟨.d (.bool r_11.2), []⟩, ⟨.tup [], [([4], some (.cells [.d (.int .i64 r_11.1.Name), .d (.int .i64 r_11.1.A), .d (.int .i64 r_11.1.B), .d (.bool r_11.1.Mod)] 0))]⟩, ⟨.d (.bool r_11.2), []⟩] <| Rd <| kS_nrm <| Runs.ret <| kB_ret <| kS_ret ?_
            obtain rfl := Option.some.inj h
            exact ⟨Out.ret_ne, (by kernel_rfl)⟩
           | false =>
            replace h := ite_f hb_11 h
            refine Cf <| Sq <| Ro <| Rc 3 [⟨.d (.int .u8 op_), []⟩, ⟨.d (.bool (decide (op_ < 240))), []⟩, ⟨.d (.bool (decide (op_ < 240))), []⟩] <| Rd <| kS_nrm ?_
            cases hb_12 : ((decide (op_ < 240)) : Bool) with
            | true =>
             replace h := ite_t hb_12 h
             refine Ct <| Sq <| Ro <| Rc 1 [⟨.d (.int .u8 op_), []⟩] ?_
             obtain ⟨r_12, hr_12, h⟩ := bind_s h
             have hc_12 := isa_goes_L op_ r_12 hr_12
             refine Rt (some 99) (.callf 45) [] none [.d (.int .u8 op_)] (.tup [.d (Row.d r_12.1), .d (.bool r_12.2)]) [] (cut_call (call_of (ws := []) (us := []) (by kernel_rfl) (by kernel_rfl) hc_12 (by kernel_rfl) (by kernel_rfl))) <| Rc 4 [⟨.d (Row.d r_12.1), []⟩, ⟨.d (.bool r_12.2), []⟩, ⟨.tup [], [([4], some (.cells [.d (.int .i64 r_12.1.Name), .d (.int .i64 r_12.1.A), .d (.int .i64 r_12.1.B), .d (.bool r_12.1.Mod)] 0))]⟩, ⟨.d (.bool r_12.2), []⟩] <| Rd <| kS_nrm <| Runs.ret <| kB_ret <| kS_ret ?_
             obtain rfl := Option.some.inj h
             exact ⟨Out.ret_ne, (by kernel_rfl)⟩
            | false =>
             replace h := ite_f hb_12 h
             refine Cf <| Runs.skip <| kB_nrm <| kS_nrm <| Sq <| Ro <| Rc 2 [⟨.d (.int .u8 op_), []⟩, ⟨.d (.int .i64 (bitsOp .and .i64 reg_ 7)), []⟩] ?_
             obtain ⟨r_13, hr_13, h⟩ := bind_s h
             have hc_13 := isa_rest_L op_ (bitsOp .and .i64 reg_ 7) r_13 hr_13
             refine Rt (some 104) (.callf 46) [] none [.d (.int .u8 op_), .d (.int .i64 (bitsOp .and .i64 reg_ 7))] (.tup [.d (Row.d r_13.1), .d (.bool r_13.2)]) [] (cut_call (call_of (ws := []) (us := []) (by kernel_rfl) (by kernel_rfl) hc_13 (by kernel_rfl) (by kernel_rfl))) <| Rc 4 [⟨.d (Row.d r_13.1), []⟩, ⟨.d (.bool r_13.2), []⟩, ⟨.tup [], [([4], some (.cells [.d (.int .i64 r_13.1.Name), .d (.int .i64 r_13.1.A), .d (.int .i64 r_13.1.B), .d (.bool r_13.1.Mod)] 0))]⟩, ⟨.d (.bool r_13.2), []⟩] <| Rd <| kS_nrm <| Runs.ret ?_
             obtain rfl := Option.some.inj h
             exact ⟨Out.ret_ne, (by kernel_rfl)⟩
theorem isa_Of_L (op_ : Int) (reg_ : Int) (r : (Row × Bool)) (h : isa_Of op_ reg_ = some r) : L 11 [.d (.int .u8 op_), .d (.int .i64 reg_)] = some (.tup [.d (Row.d r.1), .d (.bool r.2)], [.d (.int .u8 op_), .d (.int .i64 reg_)]) := by
 obtain ⟨p, ⟨hne, hf⟩, hr⟩ := isa_Of_ok op_ reg_ r h
 obtain ⟨k, hk⟩ := run_of (F := F11) (args := [.d (.int .u8 op_), .d (.int .i64 reg_)]) (ap := [.d (.int .u8 op_), .d (.int .i64 reg_)]) (bx0 := updW (fun _ => none) []) rfl rfl (by kernel_rfl) ⟨p, ⟨hne, hf⟩, hr⟩
 exact lim_run (k := k) rfl hk
def inst_Row_Q (i_ : Inst) (r : (Row × Bool)) (p : Out × St) : Prop := (∀ i, p.1 ≠ .exit i) ∧ finF F60 [.d (Inst.d i_)] p.2 = some (.tup [.d (Row.d r.1), .d (.bool r.2)], [.d (Inst.d i_)])
theorem inst_Row_ok (i_ : Inst) (r : (Row × Bool)) (h : inst_Row i_ = some r) : Runs L F60.body ⟨tmOf [.d (Inst.d i_)] 0, updW (fun _ => none) []⟩ (inst_Row_Q i_ r) := by
 unfold inst_Row at h
 refine Sq <| Ro <| Rc 3 [⟨.ptr [1] 0 0, [([1], some (.cells [.d (.bool i_.Lock), .d (.int .i64 i_.Rep), .d (.int .i64 i_.Seg), .d (.int .u8 i_.Op), .d (.int .i64 i_.Mod), .d (.int .i64 i_.Reg), .d (.int .i64 i_.RM), .d (.int .u16 i_.Disp), .d (.int .u16 i_.Imm), .d (.int .u16 i_.Sel)] 0))]⟩, ⟨.ptr [2] 0 0, [([2], some (.cells [.d (.int .i64 0), .d (.int .i64 0), .d (.int .i64 0), .d (.bool false)] 0))]⟩, ⟨.d (.bool false), []⟩] <| Rd <| kS_nrm <| Sq <| Sq <| Ro <| Rc 2 [⟨.ptr [1] 0 3, []⟩, ⟨.d (.int .u8 i_.Op), []⟩] ?_
 obtain ⟨r_1, hr_1, h⟩ := bind_s h
 have hc_1 := isa_Prefix_L i_.Op r_1 hr_1
 refine Rt (some 6) (.callf 20) [] none [.d (.int .u8 i_.Op)] (.d (.bool r_1)) [] (cut_call (call_of (ws := []) (us := []) (by kernel_rfl) (by kernel_rfl) hc_1 (by kernel_rfl) (by kernel_rfl))) <| Rd <| kS_nrm ?_
 cases hb_1 : (r_1 : Bool) with
 | true =>
  replace h := ite_t hb_1 h
  refine Ct <| Sq <| Ro <| Rc 3 [⟨.d (.agg [.int .i64 0, .int .i64 0, .int .i64 0, .bool false]), []⟩, ⟨.tup [], [([2], some (.cells [.d (.int .i64 0), .d (.int .i64 0), .d (.int .i64 0), .d (.bool false)] 0))]⟩, ⟨.d (.bool false), []⟩] <| Rd <| kS_nrm <| Runs.ret <| kS_ret ?_
  obtain rfl := Option.some.inj h
  exact ⟨Out.ret_ne, (by kernel_rfl)⟩
 | false =>
  replace h := ite_f hb_1 h
  refine Cf <| Runs.skip <| kS_nrm <| Sq <| Ro <| Rc 4 [⟨.ptr [1] 0 3, []⟩, ⟨.d (.int .u8 i_.Op), []⟩, ⟨.ptr [1] 0 5, []⟩, ⟨.d (.int .i64 i_.Reg), []⟩] ?_
  obtain ⟨r_2, hr_2, h⟩ := bind_s h
  have hc_2 := isa_Of_L i_.Op i_.Reg r_2 hr_2
  refine Rt (some 12) (.callf 11) [] none [.d (.int .u8 i_.Op), .d (.int .i64 i_.Reg)] (.tup [.d (Row.d r_2.1), .d (.bool r_2.2)]) [] (cut_call (call_of (ws := []) (us := []) (by kernel_rfl) (by kernel_rfl) hc_2 (by kernel_rfl) (by kernel_rfl))) <| Rc 4 [⟨.d (Row.d r_2.1), []⟩, ⟨.d (.bool r_2.2), []⟩, ⟨.tup [], [([2], some (.cells [.d (.int .i64 r_2.1.Name), .d (.int .i64 r_2.1.A), .d (.int .i64 r_2.1.B), .d (.bool r_2.1.Mod)] 0))]⟩, ⟨.d (.bool r_2.2), []⟩] <| Rd <| kS_nrm <| Runs.ret ?_
  obtain rfl := Option.some.inj h
  exact ⟨Out.ret_ne, (by kernel_rfl)⟩
theorem inst_Row_L (i_ : Inst) (r : (Row × Bool)) (h : inst_Row i_ = some r) : L 60 [.d (Inst.d i_)] = some (.tup [.d (Row.d r.1), .d (.bool r.2)], [.d (Inst.d i_)]) := by
 obtain ⟨p, ⟨hne, hf⟩, hr⟩ := inst_Row_ok i_ r h
 obtain ⟨k, hk⟩ := run_of (F := F60) (args := [.d (Inst.d i_)]) (ap := [.d (Inst.d i_)]) (bx0 := updW (fun _ => none) []) rfl rfl (by kernel_rfl) ⟨p, ⟨hne, hf⟩, hr⟩
 exact lim_run (k := k) rfl hk
def inst_Disps_Q (mod_ : Int) (rm_ : Int) (r : Int) (p : Out × St) : Prop := (∀ i, p.1 ≠ .exit i) ∧ finF F59 [.d (.int .i64 mod_), .d (.int .i64 rm_)] p.2 = some (.d (.int .i64 r), [.d (.int .i64 mod_), .d (.int .i64 rm_)])
theorem inst_Disps_ok (mod_ : Int) (rm_ : Int) (r : Int) (h : inst_Disps mod_ rm_ = some r) : Runs L F59.body ⟨tmOf [.d (.int .i64 mod_), .d (.int .i64 rm_)] 0, updW (fun _ => none) []⟩ (inst_Disps_Q mod_ rm_ r) := by
 unfold inst_Disps at h
 refine Sq <| Ro <| Rc 1 [⟨.d (.int .i64 0), []⟩] <| Rd <| kS_nrm <| Sq <| Runs.block <| Sq <| Ro <| Rc 3 [⟨.d (.int .i64 mod_), []⟩, ⟨.d (.bool (mod_ == 1)), []⟩, ⟨.d (.bool (mod_ == 1)), []⟩] <| Rd <| kS_nrm ?_
 cases hb_1 : ((mod_ == 1) : Bool) with
 | true =>
  replace h := ite_t hb_1 h
  refine Ct <| Sq <| Ro <| Rc 1 [⟨.d (.int .i64 1), []⟩] <| Rd <| kS_nrm <| Runs.ret <| kB_ret <| kS_ret ?_
  obtain rfl := Option.some.inj h
  exact ⟨Out.ret_ne, (by kernel_rfl)⟩
 | false =>
  replace h := ite_f hb_1 h
  refine Cf <| Sq <| Sq <| Ro <| Rc 3 [⟨.d (.int .i64 mod_), []⟩, ⟨.d (.bool (mod_ == 2)), []⟩, ⟨.d (.bool (mod_ == 2)), []⟩] <| Rd <| kS_nrm ?_
  cases hb_2 : ((mod_ == 2) : Bool) with
  | true =>
   replace h := ite_t hb_2 h
   refine Ct <| Runs.skip <| kS_nrm <| Ct <| Sq <| Ro <| Rc 1 [⟨.d (.int .i64 2), []⟩] <| Rd <| kS_nrm <| Runs.ret <| kB_ret <| kS_ret ?_
   obtain rfl := Option.some.inj h
   exact ⟨Out.ret_ne, (by kernel_rfl)⟩
  | false =>
   replace h := ite_f hb_2 h
   refine Cf <| Ro <| Rc 3 [⟨.d (.int .i64 mod_), []⟩, ⟨.d (.bool (mod_ == 0)), []⟩, ⟨.d (.bool (mod_ == 0)), []⟩] ?_
   cases hb_3 : ((mod_ == 0) : Bool) with
   | true =>
    replace h := ite_t hb_3 h
    refine Rc 4 [⟨.d (.int .i64 rm_), []⟩, ⟨.d (.bool (rm_ == 6)), []⟩, ⟨.d (.bool (rm_ == 6)), []⟩, ⟨.d (.bool (rm_ == 6)), []⟩] <| Rd <| kS_nrm ?_
    cases hb_4 : ((rm_ == 6) : Bool) with
    | true =>
     replace h := ite_t hb_4 h
     refine Ct <| Sq <| Ro <| Rc 1 [⟨.d (.int .i64 2), []⟩] <| Rd <| kS_nrm <| Runs.ret <| kB_ret <| kS_ret ?_
     obtain rfl := Option.some.inj h
     exact ⟨Out.ret_ne, (by kernel_rfl)⟩
    | false =>
     replace h := ite_f hb_4 h
     refine Cf <| Runs.skip <| kB_nrm <| kS_nrm <| Sq <| Ro <| Rc 1 [⟨.d (.int .i64 0), []⟩] <| Rd <| kS_nrm <| Runs.ret ?_
     obtain rfl := Option.some.inj h
     exact ⟨Out.ret_ne, (by kernel_rfl)⟩
   | false =>
    replace h := ite_f hb_3 h
    refine Rc 4 [⟨.tup [], []⟩, ⟨.tup [], []⟩, ⟨.d (.bool false), []⟩, ⟨.d (.bool false), []⟩] <| Rd <| kS_nrm <| Cf <| Runs.skip <| kB_nrm <| kS_nrm <| Sq <| Ro <| Rc 1 [⟨.d (.int .i64 0), []⟩] <| Rd <| kS_nrm <| Runs.ret ?_
    obtain rfl := Option.some.inj h
    exact ⟨Out.ret_ne, (by kernel_rfl)⟩
theorem inst_Disps_L (mod_ : Int) (rm_ : Int) (r : Int) (h : inst_Disps mod_ rm_ = some r) : L 59 [.d (.int .i64 mod_), .d (.int .i64 rm_)] = some (.d (.int .i64 r), [.d (.int .i64 mod_), .d (.int .i64 rm_)]) := by
 obtain ⟨p, ⟨hne, hf⟩, hr⟩ := inst_Disps_ok mod_ rm_ r h
 obtain ⟨k, hk⟩ := run_of (F := F59) (args := [.d (.int .i64 mod_), .d (.int .i64 rm_)]) (ap := [.d (.int .i64 mod_), .d (.int .i64 rm_)]) (bx0 := updW (fun _ => none) []) rfl rfl (by kernel_rfl) ⟨p, ⟨hne, hf⟩, hr⟩
 exact lim_run (k := k) rfl hk
def bits_Low_Q (w_ : Int) (r : Int) (p : Out × St) : Prop := (∀ i, p.1 ≠ .exit i) ∧ finF F73 [.d (.int .u16 w_)] p.2 = some (.d (.int .u8 r), [.d (.int .u16 w_)])
theorem bits_Low_ok (w_ : Int) (r : Int) (h : bits_Low w_ = some r) : Runs L F73.body ⟨tmOf [.d (.int .u16 w_)] 0, updW (fun _ => none) []⟩ (bits_Low_Q w_ r) := by
 unfold bits_Low at h
 refine Sq <| Ro <| Rc 1 [⟨.d (.int .u8 0), []⟩] <| Rd <| kS_nrm <| Sq <| Ro <| Rc 3 [⟨.d (.int .u16 w_), []⟩, ⟨.d (.int .u8 (IntKind.wrap .u8 w_)), []⟩, ⟨.d (.int .u8 (IntKind.wrap .u8 w_)), []⟩] <| Rd <| kS_nrm <| Runs.ret ?_
 obtain rfl := Option.some.inj h
 exact ⟨Out.ret_ne, (by kernel_rfl)⟩
theorem bits_Low_L (w_ : Int) (r : Int) (h : bits_Low w_ = some r) : L 73 [.d (.int .u16 w_)] = some (.d (.int .u8 r), [.d (.int .u16 w_)]) := by
 obtain ⟨p, ⟨hne, hf⟩, hr⟩ := bits_Low_ok w_ r h
 obtain ⟨k, hk⟩ := run_of (F := F73) (args := [.d (.int .u16 w_)]) (ap := [.d (.int .u16 w_)]) (bx0 := updW (fun _ => none) []) rfl rfl (by kernel_rfl) ⟨p, ⟨hne, hf⟩, hr⟩
 exact lim_run (k := k) rfl hk
def bits_Sign_Q (b_ : Int) (r : Int) (p : Out × St) : Prop := (∀ i, p.1 ≠ .exit i) ∧ finF F72 [.d (.int .u8 b_)] p.2 = some (.d (.int .u16 r), [.d (.int .u8 b_)])
theorem bits_Sign_ok (b_ : Int) (r : Int) (h : bits_Sign b_ = some r) : Runs L F72.body ⟨tmOf [.d (.int .u8 b_)] 0, updW (fun _ => none) []⟩ (bits_Sign_Q b_ r) := by
 unfold bits_Sign at h
 refine Sq <| Ro <| Rc 1 [⟨.d (.int .u16 0), []⟩] <| Rd <| kS_nrm <| Sq <| Ro <| Rc 5 [⟨.d (.int .u8 b_), []⟩, ⟨.d (.int .i8 (IntKind.wrap .i8 b_)), []⟩, ⟨.d (.int .i16 (IntKind.wrap .i16 (IntKind.wrap .i8 b_))), []⟩, ⟨.d (.int .u16 (IntKind.wrap .u16 (IntKind.wrap .i16 (IntKind.wrap .i8 b_)))), []⟩, ⟨.d (.int .u16 (IntKind.wrap .u16 (IntKind.wrap .i16 (IntKind.wrap .i8 b_)))), []⟩] <| Rd <| kS_nrm <| Runs.ret ?_
 obtain rfl := Option.some.inj h
 exact ⟨Out.ret_ne, (by kernel_rfl)⟩
theorem bits_Sign_L (b_ : Int) (r : Int) (h : bits_Sign b_ = some r) : L 72 [.d (.int .u8 b_)] = some (.d (.int .u16 r), [.d (.int .u8 b_)]) := by
 obtain ⟨p, ⟨hne, hf⟩, hr⟩ := bits_Sign_ok b_ r h
 obtain ⟨k, hk⟩ := run_of (F := F72) (args := [.d (.int .u8 b_)]) (ap := [.d (.int .u8 b_)]) (bx0 := updW (fun _ => none) []) rfl rfl (by kernel_rfl) ⟨p, ⟨hne, hf⟩, hr⟩
 exact lim_run (k := k) rfl hk
def bits_Fits_Q (w_ : Int) (r : Bool) (p : Out × St) : Prop := (∀ i, p.1 ≠ .exit i) ∧ finF F68 [.d (.int .u16 w_)] p.2 = some (.d (.bool r), [.d (.int .u16 w_)])
theorem bits_Fits_ok (w_ : Int) (r : Bool) (h : bits_Fits w_ = some r) : Runs L F68.body ⟨tmOf [.d (.int .u16 w_)] 0, updW (fun _ => none) []⟩ (bits_Fits_Q w_ r) := by
 unfold bits_Fits at h
 refine Sq <| Ro <| Rc 1 [⟨.d (.bool false), []⟩] <| Rd <| kS_nrm <| Sq <| Ro <| Rc 1 [⟨.d (.int .u16 w_), []⟩] ?_
 obtain ⟨r_1, hr_1, h⟩ := bind_s h
 have hc_1 := bits_Low_L w_ r_1 hr_1
 refine Rt (some 4) (.callf 73) [] none [.d (.int .u16 w_)] (.d (.int .u8 r_1)) [] (cut_call (call_of (ws := []) (us := []) (by kernel_rfl) (by kernel_rfl) hc_1 (by kernel_rfl) (by kernel_rfl))) ?_
 obtain ⟨r_2, hr_2, h⟩ := bind_s h
 have hc_2 := bits_Sign_L r_1 r_2 hr_2
 refine Rt (some 5) (.callf 72) [] none [.d (.int .u8 r_1)] (.d (.int .u16 r_2)) [] (cut_call (call_of (ws := []) (us := []) (by kernel_rfl) (by kernel_rfl) hc_2 (by kernel_rfl) (by kernel_rfl))) <| Rc 3 [⟨.d (.int .u16 w_), []⟩, ⟨.d (.bool (r_2 == w_)), []⟩, ⟨.d (.bool (r_2 == w_)), []⟩] <| Rd <| kS_nrm <| Runs.ret ?_
 obtain rfl := Option.some.inj h
 exact ⟨Out.ret_ne, (by kernel_rfl)⟩
theorem bits_Fits_L (w_ : Int) (r : Bool) (h : bits_Fits w_ = some r) : L 68 [.d (.int .u16 w_)] = some (.d (.bool r), [.d (.int .u16 w_)]) := by
 obtain ⟨p, ⟨hne, hf⟩, hr⟩ := bits_Fits_ok w_ r h
 obtain ⟨k, hk⟩ := run_of (F := F68) (args := [.d (.int .u16 w_)]) (ap := [.d (.int .u16 w_)]) (bx0 := updW (fun _ => none) []) rfl rfl (by kernel_rfl) ⟨p, ⟨hne, hf⟩, hr⟩
 exact lim_run (k := k) rfl hk
def inst_second_h26 (i2 : Inst) : St := ⟨tab [(2, .ptr [2] 0 0)], tabB [([2], some (.cells [.d (.bool i2.Lock), .d (.int .i64 i2.Rep), .d (.int .i64 i2.Seg), .d (.int .u8 i2.Op), .d (.int .i64 i2.Mod), .d (.int .i64 i2.Reg), .d (.int .i64 i2.RM), .d (.int .u16 i2.Disp), .d (.int .u16 i2.Imm), .d (.int .u16 i2.Sel)] 0))]⟩
def inst_second_Q (i_ : Inst) (r_ : Row) (r : Bool) (p : Out × St) : Prop := (∀ i, p.1 ≠ .exit i) ∧ finF F61 [.d (Inst.d i_), .d (Row.d r_)] p.2 = some (.d (.bool r), [.d (Inst.d i_), .d (Row.d r_)])
theorem inst_second_j26_ok (i_ : Inst) (r_ : Row) (i2 : Inst) (r : Bool) (h : inst_second_j26 i2 = some r) : Runs L F61b26 (inst_second_h26 i2) (inst_second_Q i_ r_ r) := by
 unfold inst_second_j26 at h
 refine Sq <| Sq <| Ro <| Rc 4 [⟨.ptr [2] 0 4, []⟩, ⟨.d (.int .i64 i2.Mod), []⟩, ⟨.ptr [2] 0 6, []⟩, ⟨.d (.int .i64 i2.RM), []⟩] ?_
 obtain ⟨r_1, hr_1, h⟩ := bind_s h
 have hc_1 := inst_Disps_L i2.Mod i2.RM r_1 hr_1
 refine Rt (some 76) (.callf 59) [] none [.d (.int .i64 i2.Mod), .d (.int .i64 i2.RM)] (.d (.int .i64 r_1)) [] (cut_call (call_of (ws := []) (us := []) (by kernel_rfl) (by kernel_rfl) hc_1 (by kernel_rfl) (by kernel_rfl))) <| Rd <| kS_nrm <| Runs.block <| Sq <| Ro <| Rc 2 [⟨.d (.bool (r_1 == 0)), []⟩, ⟨.d (.bool (r_1 == 0)), []⟩] <| Rd <| kS_nrm ?_
 cases hb_15 : ((r_1 == 0) : Bool) with
 | true =>
  replace h := ite_t hb_15 h
  refine Ct <| Sq <| Ro <| Rc 4 [⟨.ptr [2] 0 7, []⟩, ⟨.d (.int .u16 i2.Disp), []⟩, ⟨.d (.bool (i2.Disp == 0)), []⟩, ⟨.d (.bool (i2.Disp == 0)), []⟩] <| Rd <| kS_nrm <| Runs.ret <| kB_ret <| kS_ret ?_
  obtain rfl := Option.some.inj h
  exact ⟨Out.ret_ne, (by kernel_rfl)⟩
 | false =>
  replace h := ite_f hb_15 h
  refine Cf <| Sq <| Ro <| Rc 2 [⟨.d (.bool (r_1 == 1)), []⟩, ⟨.d (.bool (r_1 == 1)), []⟩] <| Rd <| kS_nrm ?_
  cases hb_16 : ((r_1 == 1) : Bool) with
  | true =>
   replace h := ite_t hb_16 h
   refine Ct <| Sq <| Ro <| Rc 2 [⟨.ptr [2] 0 7, []⟩, ⟨.d (.int .u16 i2.Disp), []⟩] ?_
   obtain ⟨r_2, hr_2, h⟩ := bind_s h
   have hc_2 := bits_Fits_L i2.Disp r_2 hr_2
   refine Rt (some 86) (.callf 68) [] none [.d (.int .u16 i2.Disp)] (.d (.bool r_2)) [] (cut_call (call_of (ws := []) (us := []) (by kernel_rfl) (by kernel_rfl) hc_2 (by kernel_rfl) (by kernel_rfl))) <| Rc 1 [⟨.d (.bool r_2), []⟩] <| Rd <| kS_nrm <| Runs.ret <| kB_ret <| kS_ret ?_
   obtain rfl := Option.some.inj h
   exact ⟨Out.ret_ne, (by kernel_rfl)⟩
  | false =>
   replace h := ite_f hb_16 h
   refine Cf <| Runs.skip <| kB_nrm <| kS_nrm <| Sq <| Ro <| Rc 1 [⟨.d (.bool true), []⟩] <| Rd <| kS_nrm <| Runs.ret ?_
   obtain rfl := Option.some.inj h
   exact ⟨Out.ret_ne, (by kernel_rfl)⟩
theorem inst_second_ok (i_ : Inst) (r_ : Row) (r : Bool) (h : inst_second i_ r_ = some r) : Runs L F61.body ⟨tmOf [.d (Inst.d i_), .d (Row.d r_)] 0, updW (fun _ => none) []⟩ (inst_second_Q i_ r_ r) := by
 unfold inst_second at h
 refine Sq <| Ro <| Rc 3 [⟨.ptr [2] 0 0, [([2], some (.cells [.d (.bool i_.Lock), .d (.int .i64 i_.Rep), .d (.int .i64 i_.Seg), .d (.int .u8 i_.Op), .d (.int .i64 i_.Mod), .d (.int .i64 i_.Reg), .d (.int .i64 i_.RM), .d (.int .u16 i_.Disp), .d (.int .u16 i_.Imm), .d (.int .u16 i_.Sel)] 0))]⟩, ⟨.ptr [3] 0 0, [([3], some (.cells [.d (.int .i64 r_.Name), .d (.int .i64 r_.A), .d (.int .i64 r_.B), .d (.bool r_.Mod)] 0))]⟩, ⟨.d (.bool false), []⟩] <| Rd <| kS_nrm <| Sq <| Sq <| Ro <| Rc 3 [⟨.ptr [3] 0 3, []⟩, ⟨.d (.bool r_.Mod), []⟩, ⟨.d (.bool (!r_.Mod)), []⟩] <| Rd <| kS_nrm ?_
 cases hb_1 : ((!r_.Mod) : Bool) with
 | true =>
  replace h := ite_t hb_1 h
  refine Ct <| Sq <| Ro <| Rc 4 [⟨.ptr [2] 0 4, []⟩, ⟨.d (.int .i64 i_.Mod), []⟩, ⟨.d (.bool (i_.Mod == 0)), []⟩, ⟨.d (.bool (i_.Mod == 0)), []⟩] ?_
  cases hb_2 : ((i_.Mod == 0) : Bool) with
  | true =>
   replace h := ite_t hb_2 h
   refine Rc 5 [⟨.ptr [2] 0 5, []⟩, ⟨.d (.int .i64 i_.Reg), []⟩, ⟨.d (.bool (i_.Reg == 0)), []⟩, ⟨.d (.bool (i_.Reg == 0)), []⟩, ⟨.d (.bool (i_.Reg == 0)), []⟩] ?_
   cases hb_3 : ((i_.Reg == 0) : Bool) with
   | true =>
    replace h := ite_t hb_3 h
    refine Rc 5 [⟨.ptr [2] 0 6, []⟩, ⟨.d (.int .i64 i_.RM), []⟩, ⟨.d (.bool (i_.RM == 0)), []⟩, ⟨.d (.bool (i_.RM == 0)), []⟩, ⟨.d (.bool (i_.RM == 0)), []⟩] ?_
    cases hb_4 : ((i_.RM == 0) : Bool) with
    | true =>
     replace h := ite_t hb_4 h
     refine Rc 5 [⟨.ptr [2] 0 7, []⟩, ⟨.d (.int .u16 i_.Disp), []⟩, ⟨.d (.bool (i_.Disp == 0)), []⟩, ⟨.d (.bool (i_.Disp == 0)), []⟩, ⟨.d (.bool (i_.Disp == 0)), []⟩] <| Rd <| kS_nrm <| Runs.ret <| kS_ret ?_
     obtain rfl := Option.some.inj h
     exact ⟨Out.ret_ne, (by kernel_rfl)⟩
    | false =>
     replace h := ite_f hb_4 h
     refine Rc 5 [⟨.tup [], []⟩, ⟨.tup [], []⟩, ⟨.tup [], []⟩, ⟨.d (.bool false), []⟩, ⟨.d (.bool false), []⟩] <| Rd <| kS_nrm <| Runs.ret <| kS_ret ?_
     obtain rfl := Option.some.inj h
     exact ⟨Out.ret_ne, (by kernel_rfl)⟩
   | false =>
    replace h := ite_f hb_3 h
    refine Rc 10 [⟨.tup [], []⟩, ⟨.tup [], []⟩, ⟨.tup [], []⟩, ⟨.d (.bool false), []⟩, ⟨.d (.bool false), []⟩, ⟨.tup [], []⟩, ⟨.tup [], []⟩, ⟨.tup [], []⟩, ⟨.d (.bool false), []⟩, ⟨.d (.bool false), []⟩] <| Rd <| kS_nrm <| Runs.ret <| kS_ret ?_
    obtain rfl := Option.some.inj h
    exact ⟨Out.ret_ne, (by kernel_rfl)⟩
  | false =>
   replace h := ite_f hb_2 h
   refine Rc 15 [⟨.tup [], []⟩, ⟨.tup [], []⟩, ⟨.tup [], []⟩, ⟨.d (.bool false), []⟩, ⟨.d (.bool false), []⟩, ⟨.tup [], []⟩, ⟨.tup [], []⟩, ⟨.tup [], []⟩, ⟨.d (.bool false), []⟩, ⟨.d (.bool false), []⟩, ⟨.tup [], []⟩, ⟨.tup [], []⟩, ⟨.tup [], []⟩, ⟨.d (.bool false), []⟩, ⟨.d (.bool false), []⟩] <| Rd <| kS_nrm <| Runs.ret <| kS_ret ?_
   obtain rfl := Option.some.inj h
   exact ⟨Out.ret_ne, (by kernel_rfl)⟩
 | false =>
  replace h := ite_f hb_1 h
  refine Cf <| Runs.skip <| kS_nrm <| Sq <| Sq <| Ro <| Rc 4 [⟨.ptr [2] 0 4, []⟩, ⟨.d (.int .i64 i_.Mod), []⟩, ⟨.d (.bool (decide (i_.Mod < 0))), []⟩, ⟨.d (.bool (decide (i_.Mod < 0))), []⟩] ?_
  cases hb_5 : ((decide (i_.Mod < 0)) : Bool) with
  | true =>
   replace h := ite_t hb_5 h
   refine Rc 24 [⟨.tup [], []⟩, ⟨.tup [], []⟩, ⟨.tup [], []⟩, ⟨.d (.bool true), []⟩, ⟨.d (.bool true), []⟩, ⟨.tup [], []⟩, ⟨.tup [], []⟩, ⟨.tup [], []⟩, ⟨.d (.bool true), []⟩, ⟨.d (.bool true), []⟩, ⟨.tup [], []⟩, ⟨.tup [], []⟩, ⟨.tup [], []⟩, ⟨.d (.bool true), []⟩, ⟨.d (.bool true), []⟩, ⟨.tup [], []⟩, ⟨.tup [], []⟩, ⟨.tup [], []⟩, ⟨.d (.bool true), []⟩, ⟨.d (.bool true), []⟩, ⟨.tup [], []⟩, ⟨.tup [], []⟩, ⟨.tup [], []⟩, ⟨.d (.bool true), []⟩] <| Rd <| kS_nrm <| Ct <| Sq <| Ro <| Rc 1 [⟨.d (.bool false), []⟩] <| Rd <| kS_nrm <| Runs.ret <| kS_ret ?_
   obtain rfl := Option.some.inj h
   exact ⟨Out.ret_ne, (by kernel_rfl)⟩
  | false =>
   replace h := ite_f hb_5 h
   refine Rc 5 [⟨.ptr [2] 0 4, []⟩, ⟨.d (.int .i64 i_.Mod), []⟩, ⟨.d (.bool (decide (i_.Mod > 3))), []⟩, ⟨.d (.bool (decide (i_.Mod > 3))), []⟩, ⟨.d (.bool (decide (i_.Mod > 3))), []⟩] ?_
   cases hb_6 : ((decide (i_.Mod > 3)) : Bool) with
   | true =>
    replace h := ite_t hb_6 h
    refine Rc 19 [⟨.tup [], []⟩, ⟨.tup [], []⟩, ⟨.tup [], []⟩, ⟨.d (.bool true), []⟩, ⟨.d (.bool true), []⟩, ⟨.tup [], []⟩, ⟨.tup [], []⟩, ⟨.tup [], []⟩, ⟨.d (.bool true), []⟩, ⟨.d (.bool true), []⟩, ⟨.tup [], []⟩, ⟨.tup [], []⟩, ⟨.tup [], []⟩, ⟨.d (.bool true), []⟩, ⟨.d (.bool true), []⟩, ⟨.tup [], []⟩, ⟨.tup [], []⟩, ⟨.tup [], []⟩, ⟨.d (.bool true), []⟩] <| Rd <| kS_nrm <| Ct <| Sq <| Ro <| Rc 1 [⟨.d (.bool false), []⟩] <| Rd <| kS_nrm <| Runs.ret <| kS_ret ?_
    obtain rfl := Option.some.inj h
    exact ⟨Out.ret_ne, (by kernel_rfl)⟩
   | false =>
    replace h := ite_f hb_6 h
    refine Rc 5 [⟨.ptr [2] 0 5, []⟩, ⟨.d (.int .i64 i_.Reg), []⟩, ⟨.d (.bool (decide (i_.Reg < 0))), []⟩, ⟨.d (.bool (decide (i_.Reg < 0))), []⟩, ⟨.d (.bool (decide (i_.Reg < 0))), []⟩] ?_
    cases hb_7 : ((decide (i_.Reg < 0)) : Bool) with
    | true =>
     replace h := ite_t hb_7 h
     refine Rc 14 [⟨.tup [], []⟩, ⟨.tup [], []⟩, ⟨.tup [], []⟩, ⟨.d (.bool true), []⟩, ⟨.d (.bool true), []⟩, ⟨.tup [], []⟩, ⟨.tup [], []⟩, ⟨.tup [], []⟩, ⟨.d (.bool true), []⟩, ⟨.d (.bool true), []⟩, ⟨.tup [], []⟩, ⟨.tup [], []⟩, ⟨.tup [], []⟩, ⟨.d (.bool true), []⟩] <| Rd <| kS_nrm <| Ct <| Sq <| Ro <| Rc 1 [⟨.d (.bool false), []⟩] <| Rd <| kS_nrm <| Runs.ret <| kS_ret ?_
     obtain rfl := Option.some.inj h
     exact ⟨Out.ret_ne, (by kernel_rfl)⟩
    | false =>
     replace h := ite_f hb_7 h
     refine Rc 5 [⟨.ptr [2] 0 5, []⟩, ⟨.d (.int .i64 i_.Reg), []⟩, ⟨.d (.bool (decide (i_.Reg > 7))), []⟩, ⟨.d (.bool (decide (i_.Reg > 7))), []⟩, ⟨.d (.bool (decide (i_.Reg > 7))), []⟩] ?_
     cases hb_8 : ((decide (i_.Reg > 7)) : Bool) with
     | true =>
      replace h := ite_t hb_8 h
      refine Rc 9 [⟨.tup [], []⟩, ⟨.tup [], []⟩, ⟨.tup [], []⟩, ⟨.d (.bool true), []⟩, ⟨.d (.bool true), []⟩, ⟨.tup [], []⟩, ⟨.tup [], []⟩, ⟨.tup [], []⟩, ⟨.d (.bool true), []⟩] <| Rd <| kS_nrm <| Ct <| Sq <| Ro <| Rc 1 [⟨.d (.bool false), []⟩] <| Rd <| kS_nrm <| Runs.ret <| kS_ret ?_
      obtain rfl := Option.some.inj h
      exact ⟨Out.ret_ne, (by kernel_rfl)⟩
     | false =>
      replace h := ite_f hb_8 h
      refine Rc 5 [⟨.ptr [2] 0 6, []⟩, ⟨.d (.int .i64 i_.RM), []⟩, ⟨.d (.bool (decide (i_.RM < 0))), []⟩, ⟨.d (.bool (decide (i_.RM < 0))), []⟩, ⟨.d (.bool (decide (i_.RM < 0))), []⟩] ?_
      cases hb_9 : ((decide (i_.RM < 0)) : Bool) with
      | true =>
       replace h := ite_t hb_9 h
       refine Rc 4 [⟨.tup [], []⟩, ⟨.tup [], []⟩, ⟨.tup [], []⟩, ⟨.d (.bool true), []⟩] <| Rd <| kS_nrm <| Ct <| Sq <| Ro <| Rc 1 [⟨.d (.bool false), []⟩] <| Rd <| kS_nrm <| Runs.ret <| kS_ret ?_
       obtain rfl := Option.some.inj h
       exact ⟨Out.ret_ne, (by kernel_rfl)⟩
      | false =>
       replace h := ite_f hb_9 h
       refine Rc 4 [⟨.ptr [2] 0 6, []⟩, ⟨.d (.int .i64 i_.RM), []⟩, ⟨.d (.bool (decide (i_.RM > 7))), []⟩, ⟨.d (.bool (decide (i_.RM > 7))), []⟩] <| Rd <| kS_nrm ?_
       cases hb_10 : ((decide (i_.RM > 7)) : Bool) with
       | true =>
        replace h := ite_t hb_10 h
        refine Ct <| Sq <| Ro <| Rc 1 [⟨.d (.bool false), []⟩] <| Rd <| kS_nrm <| Runs.ret <| kS_ret ?_
        obtain rfl := Option.some.inj h
        exact ⟨Out.ret_ne, (by kernel_rfl)⟩
       | false =>
        replace h := ite_f hb_10 h
        refine Cf <| Runs.skip <| kS_nrm <| Sq <| Sq <| Ro <| Rc 4 [⟨.ptr [2] 0 4, []⟩, ⟨.d (.int .i64 i_.Mod), []⟩, ⟨.d (.bool (i_.Mod == 3)), []⟩, ⟨.d (.bool (i_.Mod == 3)), []⟩] ?_
        cases hb_11 : ((i_.Mod == 3) : Bool) with
        | true =>
         replace h := ite_t hb_11 h
         refine Rc 4 [⟨.ptr [3] 0 1, []⟩, ⟨.d (.int .i64 r_.A), []⟩, ⟨.d (.bool (r_.A == 19)), []⟩, ⟨.d (.bool (r_.A == 19)), []⟩] ?_
         cases hb_12 : ((r_.A == 19) : Bool) with
         | true =>
          replace h := ite_t hb_12 h
          refine Rc 10 [⟨.tup [], []⟩, ⟨.tup [], []⟩, ⟨.tup [], []⟩, ⟨.d (.bool true), []⟩, ⟨.d (.bool true), []⟩, ⟨.tup [], []⟩, ⟨.tup [], []⟩, ⟨.tup [], []⟩, ⟨.d (.bool true), []⟩, ⟨.d (.bool true), []⟩] <| Rd <| kS_nrm <| Ct <| Sq <| Ro <| Rc 1 [⟨.d (.bool false), []⟩] <| Rd <| kS_nrm <| Runs.ret <| kS_ret ?_
          obtain rfl := Option.some.inj h
          exact ⟨Out.ret_ne, (by kernel_rfl)⟩
         | false =>
          replace h := ite_f hb_12 h
          refine Rc 5 [⟨.ptr [3] 0 2, []⟩, ⟨.d (.int .i64 r_.B), []⟩, ⟨.d (.bool (r_.B == 19)), []⟩, ⟨.d (.bool (r_.B == 19)), []⟩, ⟨.d (.bool (r_.B == 19)), []⟩] ?_
          cases hb_13 : ((r_.B == 19) : Bool) with
          | true =>
           replace h := ite_t hb_13 h
           refine Rc 5 [⟨.tup [], []⟩, ⟨.tup [], []⟩, ⟨.tup [], []⟩, ⟨.d (.bool true), []⟩, ⟨.d (.bool true), []⟩] <| Rd <| kS_nrm <| Ct <| Sq <| Ro <| Rc 1 [⟨.d (.bool false), []⟩] <| Rd <| kS_nrm <| Runs.ret <| kS_ret ?_
           obtain rfl := Option.some.inj h
           exact ⟨Out.ret_ne, (by kernel_rfl)⟩
          | false =>
           replace h := ite_f hb_13 h
           refine Rc 5 [⟨.ptr [3] 0 2, []⟩, ⟨.d (.int .i64 r_.B), []⟩, ⟨.d (.bool (r_.B == 20)), []⟩, ⟨.d (.bool (r_.B == 20)), []⟩, ⟨.d (.bool (r_.B == 20)), []⟩] <| Rd <| kS_nrm ?_
           cases hb_14 : ((r_.B == 20) : Bool) with
           | true =>
            replace h := ite_t hb_14 h
            refine Ct <| Sq <| Ro <| Rc 1 [⟨.d (.bool false), []⟩] <| Rd <| kS_nrm <| Runs.ret <| kS_ret ?_
            obtain rfl := Option.some.inj h
            exact ⟨Out.ret_ne, (by kernel_rfl)⟩
           | false =>
            replace h := ite_f hb_14 h
            refine Cf <| Runs.skip <| kS_nrm <| Runs.canon (inst_second_h26 i_) (Canon.nil (by kernel_rfl)) ?_
            exact inst_second_j26_ok i_ r_ i_ r h
        | false =>
         replace h := ite_f hb_11 h
         refine Rc 14 [⟨.tup [], []⟩, ⟨.tup [], []⟩, ⟨.tup [], []⟩, ⟨.tup [], []⟩, ⟨.tup [], []⟩, ⟨.tup [], []⟩, ⟨.tup [], []⟩, ⟨.tup [], []⟩, ⟨.tup [], []⟩, ⟨.tup [], []⟩, ⟨.tup [], []⟩, ⟨.tup [], []⟩, ⟨.tup [], []⟩, ⟨.d (.bool false), []⟩] <| Rd <| kS_nrm <| Cf <| Runs.skip <| kS_nrm <| Runs.canon (inst_second_h26 i_) (Canon.nil (by kernel_rfl)) ?_
         exact inst_second_j26_ok i_ r_ i_ r h
theorem inst_second_L (i_ : Inst) (r_ : Row) (r : Bool) (h : inst_second i_ r_ = some r) : L 61 [.d (Inst.d i_), .d (Row.d r_)] = some (.d (.bool r), [.d (Inst.d i_), .d (Row.d r_)]) := by
 obtain ⟨p, ⟨hne, hf⟩, hr⟩ := inst_second_ok i_ r_ r h
 obtain ⟨k, hk⟩ := run_of (F := F61) (args := [.d (Inst.d i_), .d (Row.d r_)]) (ap := [.d (Inst.d i_), .d (Row.d r_)]) (bx0 := updW (fun _ => none) []) rfl rfl (by kernel_rfl) ⟨p, ⟨hne, hf⟩, hr⟩
 exact lim_run (k := k) rfl hk
def inst_behind_h6 (i2 : Inst) (r3 : Row) (t11 : (A2 Int)) (t12 : Int) : St := ⟨tab [(2, .ptr [2] 0 0), (3, .ptr [3] 0 0), (11, .d (.agg [.int .i64 t11.a0, .int .i64 t11.a1])), (12, .d (.int .i64 t12))], tabB [([2], some (.cells [.d (.bool i2.Lock), .d (.int .i64 i2.Rep), .d (.int .i64 i2.Seg), .d (.int .u8 i2.Op), .d (.int .i64 i2.Mod), .d (.int .i64 i2.Reg), .d (.int .i64 i2.RM), .d (.int .u16 i2.Disp), .d (.int .u16 i2.Imm), .d (.int .u16 i2.Sel)] 0)), ([3], some (.cells [.d (.int .i64 r3.Name), .d (.int .i64 r3.A), .d (.int .i64 r3.B), .d (.bool r3.Mod)] 0))]⟩
def inst_behind_h32 (i2 : Inst) (r3 : Row) (t11 : (A2 Int)) (t12 : Int) (t15 : Int) (t41 : Bool) : St := ⟨tab [(2, .ptr [2] 0 0), (3, .ptr [3] 0 0), (11, .d (.agg [.int .i64 t11.a0, .int .i64 t11.a1])), (12, .d (.int .i64 t12)), (15, .d (.int .i64 t15)), (41, .d (.bool t41))], tabB [([2], some (.cells [.d (.bool i2.Lock), .d (.int .i64 i2.Rep), .d (.int .i64 i2.Seg), .d (.int .u8 i2.Op), .d (.int .i64 i2.Mod), .d (.int .i64 i2.Reg), .d (.int .i64 i2.RM), .d (.int .u16 i2.Disp), .d (.int .u16 i2.Imm), .d (.int .u16 i2.Sel)] 0)), ([3], some (.cells [.d (.int .i64 r3.Name), .d (.int .i64 r3.A), .d (.int .i64 r3.B), .d (.bool r3.Mod)] 0))]⟩
def inst_behind_h62 (i2 : Inst) : St := ⟨tab [(2, .ptr [2] 0 0)], tabB [([2], some (.cells [.d (.bool i2.Lock), .d (.int .i64 i2.Rep), .d (.int .i64 i2.Seg), .d (.int .u8 i2.Op), .d (.int .i64 i2.Mod), .d (.int .i64 i2.Reg), .d (.int .i64 i2.RM), .d (.int .u16 i2.Disp), .d (.int .u16 i2.Imm), .d (.int .u16 i2.Sel)] 0))]⟩
def inst_behind_Q (i_ : Inst) (r_ : Row) (r : Bool) (p : Out × St) : Prop := (∀ i, p.1 ≠ .exit i) ∧ finF F62 [.d (Inst.d i_), .d (Row.d r_)] p.2 = some (.d (.bool r), [.d (Inst.d i_), .d (Row.d r_)])
def inst_behind_P6 (i_ : Inst) (r_ : Row) (i2 : Inst) (r3 : Row) (t11 : (A2 Int)) (e : (Bool ⊕ Unit)) (p : Out × St) : Prop := match e with
 | .inl x => p.1 = .ret ∧ finF F62 [.d (Inst.d i_), .d (Row.d r_)] p.2 = some (.d (.bool x), [.d (Inst.d i_), .d (Row.d r_)])
 | .inr x => p.1 = .exit 0 ∧ ∃ g : Unit, Canon [] [2] [[2]] p.2 (inst_behind_h62 i2)
theorem inst_behind_j32_ok (i_ : Inst) (r_ : Row) (i2 : Inst) (r3 : Row) (t11 : (A2 Int)) (t12 : Int) (t15 : Int) (t41 : Bool) (r : (Lp Int (Bool ⊕ Unit))) (h : inst_behind_j32 i2 r3 t11 t12 t15 t41 = some r) : Runs L F62b32 (inst_behind_h32 i2 r3 t11 t12 t15 t41) (kB 2 (kB 1 (kS L F62c61 (LQ [] [2, 3, 11, 12] [[2], [3]] (fun (x : Int) (g : Unit) => inst_behind_h6 i2 r3 t11 x) (inst_behind_P6 i_ r_ i2 r3 t11) r)))) := by
 unfold inst_behind_j32 at h
 cases hb_8 : (t41 : Bool) with
 | true =>
  replace h := ite_t hb_8 h
  refine Ct <| Sq <| Ro <| Rc 2 [⟨.ptr [2] 0 8, []⟩, ⟨.d (.int .u16 i2.Imm), []⟩] ?_
  obtain ⟨r_1, hr_1, h⟩ := bind_s h
  have hc_1 := bits_Fits_L i2.Imm r_1 hr_1
  refine Rt (some 46) (.callf 68) [] none [.d (.int .u16 i2.Imm)] (.d (.bool r_1)) [] (cut_call (call_of (ws := []) (us := []) (by kernel_rfl) (by kernel_rfl) hc_1 (by kernel_rfl) (by kernel_rfl))) <| Rc 1 [⟨.d (.bool r_1), []⟩] ?_
  cases hb_9 : (r_1 : Bool) with
  | true =>
   replace h := ite_t hb_9 h
   refine Rc 5 [⟨.ptr [2] 0 9, []⟩, ⟨.d (.int .u16 i2.Sel), []⟩, ⟨.d (.bool (i2.Sel == 0)), []⟩, ⟨.d (.bool (i2.Sel == 0)), []⟩, ⟨.d (.bool (i2.Sel == 0)), []⟩] <| Rd <| kS_nrm <| Runs.ret <| kB_ret <| kB_ret <| kS_ret ?_
   obtain rfl := Option.some.inj h
   exact ⟨nofun, rfl, (by kernel_rfl)⟩
  | false =>
   replace h := ite_f hb_9 h
   refine Rc 5 [⟨.tup [], []⟩, ⟨.tup [], []⟩, ⟨.tup [], []⟩, ⟨.d (.bool false), []⟩, ⟨.d (.bool false), []⟩] <| Rd <| kS_nrm <| Runs.ret <| kB_ret <| kB_ret <| kS_ret ?_
   obtain rfl := Option.some.inj h
   exact ⟨nofun, rfl, (by kernel_rfl)⟩
 | false =>
  replace h := ite_f hb_8 h
  refine Cf <| Sq <| Sq <| Ro <| Rc 2 [⟨.d (.bool (t15 == 7)), []⟩, ⟨.d (.bool (t15 == 7)), []⟩] <| Rd <| kS_nrm ?_
  cases hb_10 : ((t15 == 7) : Bool) with
  | true =>
   replace h := ite_t hb_10 h
   refine Ct <| Runs.skip <| kS_nrm <| Ct <| Sq <| Ro <| Rc 4 [⟨.ptr [2] 0 9, []⟩, ⟨.d (.int .u16 i2.Sel), []⟩, ⟨.d (.bool (i2.Sel == 0)), []⟩, ⟨.d (.bool (i2.Sel == 0)), []⟩] <| Rd <| kS_nrm <| Runs.ret <| kB_ret <| kB_ret <| kS_ret ?_
   obtain rfl := Option.some.inj h
   exact ⟨nofun, rfl, (by kernel_rfl)⟩
  | false =>
   replace h := ite_f hb_10 h
   refine Cf <| Sq <| Ro <| Rc 2 [⟨.d (.bool (t15 == 10)), []⟩, ⟨.d (.bool (t15 == 10)), []⟩] <| Rd <| kS_nrm ?_
   cases hb_11 : ((t15 == 10) : Bool) with
   | true =>
    replace h := ite_t hb_11 h
    refine Ct <| Runs.skip <| kS_nrm <| Ct <| Sq <| Ro <| Rc 4 [⟨.ptr [2] 0 9, []⟩, ⟨.d (.int .u16 i2.Sel), []⟩, ⟨.d (.bool (i2.Sel == 0)), []⟩, ⟨.d (.bool (i2.Sel == 0)), []⟩] <| Rd <| kS_nrm <| Runs.ret <| kB_ret <| kB_ret <| kS_ret ?_
    obtain rfl := Option.some.inj h
    exact ⟨nofun, rfl, (by kernel_rfl)⟩
   | false =>
    replace h := ite_f hb_11 h
    refine Cf <| Sq <| Ro <| Rc 2 [⟨.d (.bool (t15 == 12)), []⟩, ⟨.d (.bool (t15 == 12)), []⟩] <| Rd <| kS_nrm ?_
    cases hb_12 : ((t15 == 12) : Bool) with
    | true =>
     replace h := ite_t hb_12 h
     refine Ct <| Runs.skip <| kS_nrm <| Ct <| Sq <| Ro <| Rc 4 [⟨.ptr [2] 0 9, []⟩, ⟨.d (.int .u16 i2.Sel), []⟩, ⟨.d (.bool (i2.Sel == 0)), []⟩, ⟨.d (.bool (i2.Sel == 0)), []⟩] <| Rd <| kS_nrm <| Runs.ret <| kB_ret <| kB_ret <| kS_ret ?_
     obtain rfl := Option.some.inj h
     exact ⟨nofun, rfl, (by kernel_rfl)⟩
    | false =>
     replace h := ite_f hb_12 h
     refine Cf <| Ro <| Rc 2 [⟨.d (.bool (t15 == 13)), []⟩, ⟨.d (.bool (t15 == 13)), []⟩] <| Rd <| kS_nrm ?_
     cases hb_13 : ((t15 == 13) : Bool) with
     | true =>
      replace h := ite_t hb_13 h
      refine Ct <| Sq <| Ro <| Rc 4 [⟨.ptr [2] 0 9, []⟩, ⟨.d (.int .u16 i2.Sel), []⟩, ⟨.d (.bool (i2.Sel == 0)), []⟩, ⟨.d (.bool (i2.Sel == 0)), []⟩] <| Rd <| kS_nrm <| Runs.ret <| kB_ret <| kB_ret <| kS_ret ?_
      obtain rfl := Option.some.inj h
      exact ⟨nofun, rfl, (by kernel_rfl)⟩
     | false =>
      replace h := ite_f hb_13 h
      refine Cf <| Sq <| Ro <| Rc 2 [⟨.d (.bool (t15 == 11)), []⟩, ⟨.d (.bool (t15 == 11)), []⟩] <| Rd <| kS_nrm ?_
      cases hb_14 : ((t15 == 11) : Bool) with
      | true =>
       replace h := ite_t hb_14 h
       refine Ct <| Sq <| Ro <| Rc 1 [⟨.d (.bool true), []⟩] <| Rd <| kS_nrm <| Runs.ret <| kB_ret <| kB_ret <| kS_ret ?_
       obtain rfl := Option.some.inj h
       exact ⟨nofun, rfl, (by kernel_rfl)⟩
      | false =>
       replace h := ite_f hb_14 h
       refine Cf <| Runs.skip <| kB_nrm <| kB_nrm <| kS_nrm <| Ro <| Rc 2 [⟨.d (.int .i64 (IntKind.wrap .i64 (t12 + 1))), []⟩, ⟨.d (.int .i64 (IntKind.wrap .i64 (t12 + 1))), []⟩] <| Rd ?_
       obtain rfl := Option.some.inj h
       exact ⟨rfl, (), (Canon.nil (by kernel_rfl))⟩
theorem inst_behind_l6_ok (i_ : Inst) (r_ : Row) (i2 : Inst) (r3 : Row) (t11 : (A2 Int)) (t12 : Int) (r : (Lp Int (Bool ⊕ Unit))) (h : inst_behind_l6 i2 r3 t11 t12 = some r) : Runs L F62l6 (inst_behind_h6 i2 r3 t11 t12) (LQ [] [2, 3, 11, 12] [[2], [3]] (fun (x : Int) (g : Unit) => inst_behind_h6 i2 r3 t11 x) (inst_behind_P6 i_ r_ i2 r3 t11) r) := by
 unfold inst_behind_l6 at h
 refine Sq <| Ro <| Rc 1 [⟨.d (.bool (decide (t12 < 2))), []⟩] <| Rd <| kS_nrm <| Sq ?_
 cases hb_1 : ((decide (t12 < 2)) : Bool) with
 | true =>
  replace h := ite_t hb_1 h
  refine Ct <| Runs.skip <| kS_nrm <| Sq <| Runs.block <| Sq <| Ro ?_
  obtain ⟨z_1, hz_1, h⟩ := bind_s h
  refine Rt (some 14) (.indexA 2 1 none) [] none [.d (.agg [.int .i64 t11.a0, .int .i64 t11.a1]), .d (.int .i64 t12)] (.d (.int .i64 z_1)) [] (cut_ixA (e := (D.int .i64)) (l := t11.l) hz_1 rfl) <| Rc 1 [⟨.d (.int .i64 z_1), []⟩] <| Rd <| kS_nrm <| Sq <| Ro <| Rc 1 [⟨.d (.int .i64 z_1), []⟩] <| Rd <| kS_nrm <| Runs.block <| Sq <| Ro <| Rc 2 [⟨.d (.bool (z_1 == 6)), []⟩, ⟨.d (.bool (z_1 == 6)), []⟩] <| Rd <| kS_nrm ?_
  cases hb_2 : ((z_1 == 6) : Bool) with
  | true =>
   replace h := ite_t hb_2 h
   refine Ct <| Sq <| Ro <| Rc 4 [⟨.ptr [2] 0 8, []⟩, ⟨.d (.int .u16 i2.Imm), []⟩, ⟨.d (.bool (decide (i2.Imm < 256))), []⟩, ⟨.d (.bool (decide (i2.Imm < 256))), []⟩] ?_
   cases hb_3 : ((decide (i2.Imm < 256)) : Bool) with
   | true =>
    replace h := ite_t hb_3 h
    refine Rc 5 [⟨.ptr [2] 0 9, []⟩, ⟨.d (.int .u16 i2.Sel), []⟩, ⟨.d (.bool (i2.Sel == 0)), []⟩, ⟨.d (.bool (i2.Sel == 0)), []⟩, ⟨.d (.bool (i2.Sel == 0)), []⟩] ?_
    cases hb_4 : ((i2.Sel == 0) : Bool) with
    | true =>
     replace h := ite_t hb_4 h
     refine Rc 4 [⟨.ptr [3] 0 0, []⟩, ⟨.d (.int .i64 r3.Name), []⟩, ⟨.d (.bool (r3.Name != 70)), []⟩, ⟨.d (.bool (r3.Name != 70)), []⟩] ?_
     cases hb_5 : ((r3.Name != 70) : Bool) with
     | true =>
      replace h := ite_t hb_5 h
      refine Rc 5 [⟨.ptr [3] 0 0, []⟩, ⟨.d (.int .i64 r3.Name), []⟩, ⟨.d (.bool (r3.Name != 71)), []⟩, ⟨.d (.bool (r3.Name != 71)), []⟩, ⟨.d (.bool (r3.Name != 71)), []⟩] ?_
      cases hb_6 : ((r3.Name != 71) : Bool) with
      | true =>
       replace h := ite_t hb_6 h
       refine Rc 6 [⟨.tup [], []⟩, ⟨.tup [], []⟩, ⟨.tup [], []⟩, ⟨.d (.bool true), []⟩, ⟨.d (.bool true), []⟩, ⟨.d (.bool true), []⟩] <| Rd <| kS_nrm <| Runs.ret <| kB_ret <| kB_ret <| kS_ret ?_
       obtain rfl := Option.some.inj h
       exact ⟨nofun, rfl, (by kernel_rfl)⟩
      | false =>
       replace h := ite_f hb_6 h
       refine Rc 6 [⟨.ptr [2] 0 8, []⟩, ⟨.d (.int .u16 i2.Imm), []⟩, ⟨.d (.bool (i2.Imm == 10)), []⟩, ⟨.d (.bool (i2.Imm == 10)), []⟩, ⟨.d (.bool (i2.Imm == 10)), []⟩, ⟨.d (.bool (i2.Imm == 10)), []⟩] <| Rd <| kS_nrm <| Runs.ret <| kB_ret <| kB_ret <| kS_ret ?_
       obtain rfl := Option.some.inj h
       exact ⟨nofun, rfl, (by kernel_rfl)⟩
     | false =>
      replace h := ite_f hb_5 h
      refine Rc 11 [⟨.tup [], []⟩, ⟨.tup [], []⟩, ⟨.tup [], []⟩, ⟨.d (.bool false), []⟩, ⟨.d (.bool false), []⟩, ⟨.ptr [2] 0 8, []⟩, ⟨.d (.int .u16 i2.Imm), []⟩, ⟨.d (.bool (i2.Imm == 10)), []⟩, ⟨.d (.bool (i2.Imm == 10)), []⟩, ⟨.d (.bool (i2.Imm == 10)), []⟩, ⟨.d (.bool (i2.Imm == 10)), []⟩] <| Rd <| kS_nrm <| Runs.ret <| kB_ret <| kB_ret <| kS_ret ?_
      obtain rfl := Option.some.inj h
      exact ⟨nofun, rfl, (by kernel_rfl)⟩
    | false =>
     replace h := ite_f hb_4 h
     refine Rc 15 [⟨.tup [], []⟩, ⟨.tup [], []⟩, ⟨.tup [], []⟩, ⟨.tup [], []⟩, ⟨.tup [], []⟩, ⟨.tup [], []⟩, ⟨.tup [], []⟩, ⟨.tup [], []⟩, ⟨.tup [], []⟩, ⟨.tup [], []⟩, ⟨.tup [], []⟩, ⟨.tup [], []⟩, ⟨.tup [], []⟩, ⟨.d (.bool false), []⟩, ⟨.d (.bool false), []⟩] <| Rd <| kS_nrm <| Runs.ret <| kB_ret <| kB_ret <| kS_ret ?_
     obtain rfl := Option.some.inj h
     exact ⟨nofun, rfl, (by kernel_rfl)⟩
   | false =>
    replace h := ite_f hb_3 h
    refine Rc 20 [⟨.tup [], []⟩, ⟨.tup [], []⟩, ⟨.tup [], []⟩, ⟨.d (.bool false), []⟩, ⟨.d (.bool false), []⟩, ⟨.tup [], []⟩, ⟨.tup [], []⟩, ⟨.tup [], []⟩, ⟨.tup [], []⟩, ⟨.tup [], []⟩, ⟨.tup [], []⟩, ⟨.tup [], []⟩, ⟨.tup [], []⟩, ⟨.tup [], []⟩, ⟨.tup [], []⟩, ⟨.tup [], []⟩, ⟨.tup [], []⟩, ⟨.tup [], []⟩, ⟨.d (.bool false), []⟩, ⟨.d (.bool false), []⟩] <| Rd <| kS_nrm <| Runs.ret <| kB_ret <| kB_ret <| kS_ret ?_
    obtain rfl := Option.some.inj h
    exact ⟨nofun, rfl, (by kernel_rfl)⟩
  | false =>
   replace h := ite_f hb_2 h
   refine Cf <| Sq <| Sq <| Ro <| Rc 2 [⟨.d (.bool (z_1 == 8)), []⟩, ⟨.d (.bool (z_1 == 8)), []⟩] <| Rd <| kS_nrm ?_
   cases hb_7 : ((z_1 == 8) : Bool) with
   | true =>
    replace h := ite_t hb_7 h
    refine Ct <| Runs.skip <| kS_nrm <| Runs.canon (inst_behind_h32 i2 r3 t11 t12 z_1 true) (Canon.nil (by kernel_rfl)) ?_
    exact inst_behind_j32_ok i_ r_ i2 r3 t11 t12 z_1 true r h
   | false =>
    replace h := ite_f hb_7 h
    refine Cf <| Ro <| Rc 2 [⟨.d (.bool (z_1 == 9)), []⟩, ⟨.d (.bool (z_1 == 9)), []⟩] <| Rd <| kS_nrm <| Runs.canon (inst_behind_h32 i2 r3 t11 t12 z_1 (z_1 == 9)) (Canon.nil (by kernel_rfl)) ?_
    exact inst_behind_j32_ok i_ r_ i2 r3 t11 t12 z_1 (z_1 == 9) r h
 | false =>
  replace h := ite_f hb_1 h
  refine Cf <| Runs.exit <| kS_exit ?_
  obtain rfl := Option.some.inj h
  exact ⟨nofun, rfl, (), (Canon.nil (by kernel_rfl))⟩
theorem inst_behind_ok (i_ : Inst) (r_ : Row) (r : Bool) (h : inst_behind i_ r_ = some r) : Runs L F62.body ⟨tmOf [.d (Inst.d i_), .d (Row.d r_)] 0, updW (fun _ => none) []⟩ (inst_behind_Q i_ r_ r) := by
 unfold inst_behind at h
 refine Sq <| Ro <| Rc 3 [⟨.ptr [2] 0 0, [([2], some (.cells [.d (.bool i_.Lock), .d (.int .i64 i_.Rep), .d (.int .i64 i_.Seg), .d (.int .u8 i_.Op), .d (.int .i64 i_.Mod), .d (.int .i64 i_.Reg), .d (.int .i64 i_.RM), .d (.int .u16 i_.Disp), .d (.int .u16 i_.Imm), .d (.int .u16 i_.Sel)] 0))]⟩, ⟨.ptr [3] 0 0, [([3], some (.cells [.d (.int .i64 r_.Name), .d (.int .i64 r_.A), .d (.int .i64 r_.B), .d (.bool r_.Mod)] 0))]⟩, ⟨.d (.bool false), []⟩] <| Rd <| kS_nrm <| Sq <| Sq <| Ro <| Rc 6 [⟨.ptr [3] 0 1, []⟩, ⟨.d (.int .i64 r_.A), []⟩, ⟨.ptr [3] 0 2, []⟩, ⟨.d (.int .i64 r_.B), []⟩, ⟨.d (.agg [.int .i64 r_.A, .int .i64 r_.B]), []⟩, ⟨.d (.int .i64 0), []⟩] <| Rd <| kS_nrm <| Runs.block ?_
 obtain ⟨e_1, he_1, h⟩ := bind_s h
 refine Runs.loop (fun x : Int => inst_behind_l6 i_ r_ ({ a0 := r_.A, a1 := r_.B } : (A2 Int)) x) (fun (x : Int) (g : Unit) => inst_behind_h6 i_ r_ ({ a0 := r_.A, a1 := r_.B } : (A2 Int)) x) (inst_behind_P6 i_ r_ i_ r_ ({ a0 := r_.A, a1 := r_.B } : (A2 Int))) (fun x g r hr => inst_behind_l6_ok i_ r_ i_ r_ ({ a0 := r_.A, a1 := r_.B } : (A2 Int)) x  r hr) () he_1 (Canon.nil (by kernel_rfl)) ?_
 rintro ⟨o, s⟩ hp
 cases e_1 with
 | inl e_2 =>
  obtain ⟨ho, hf⟩ := hp
  have ho' : o = .ret := ho
  subst ho'
  refine kB_ret <| kS_ret ?_
  obtain rfl := Option.some.inj h
  exact ⟨Out.ret_ne, hf⟩
 | inr e_3 =>
  obtain ⟨ho, g_1, hk_1⟩ := hp
  have ho' : o = .exit 0 := ho
  subst ho'
  refine kB_hit <| kS_nrm <| Runs.canon _ hk_1 <| Sq <| Ro <| Rc 4 [⟨.ptr [2] 0 8, []⟩, ⟨.d (.int .u16 i_.Imm), []⟩, ⟨.d (.bool (i_.Imm == 0)), []⟩, ⟨.d (.bool (i_.Imm == 0)), []⟩] ?_
  cases hb_1 : ((i_.Imm == 0) : Bool) with
  | true =>
   replace h := ite_t hb_1 h
   refine Rc 5 [⟨.ptr [2] 0 9, []⟩, ⟨.d (.int .u16 i_.Sel), []⟩, ⟨.d (.bool (i_.Sel == 0)), []⟩, ⟨.d (.bool (i_.Sel == 0)), []⟩, ⟨.d (.bool (i_.Sel == 0)), []⟩] <| Rd <| kS_nrm <| Runs.ret ?_
   obtain rfl := Option.some.inj h
   exact ⟨Out.ret_ne, (by kernel_rfl)⟩
  | false =>
   replace h := ite_f hb_1 h
   refine Rc 5 [⟨.tup [], []⟩, ⟨.tup [], []⟩, ⟨.tup [], []⟩, ⟨.d (.bool false), []⟩, ⟨.d (.bool false), []⟩] <| Rd <| kS_nrm <| Runs.ret ?_
   obtain rfl := Option.some.inj h
   exact ⟨Out.ret_ne, (by kernel_rfl)⟩
theorem inst_behind_L (i_ : Inst) (r_ : Row) (r : Bool) (h : inst_behind i_ r_ = some r) : L 62 [.d (Inst.d i_), .d (Row.d r_)] = some (.d (.bool r), [.d (Inst.d i_), .d (Row.d r_)]) := by
 obtain ⟨p, ⟨hne, hf⟩, hr⟩ := inst_behind_ok i_ r_ r h
 obtain ⟨k, hk⟩ := run_of (F := F62) (args := [.d (Inst.d i_), .d (Row.d r_)]) (ap := [.d (Inst.d i_), .d (Row.d r_)]) (bx0 := updW (fun _ => none) []) rfl rfl (by kernel_rfl) ⟨p, ⟨hne, hf⟩, hr⟩
 exact lim_run (k := k) rfl hk
def isa_Repeats_h28 (t3 : Int) (t4 : Bool) : St := ⟨tab [(3, .d (.int .i64 t3)), (4, .d (.bool t4))], tabB []⟩
def isa_Repeats_Q (name_ : Int) (r : Int) (p : Out × St) : Prop := (∀ i, p.1 ≠ .exit i) ∧ finF F15 [.d (.int .i64 name_)] p.2 = some (.d (.int .i64 r), [.d (.int .i64 name_)])
theorem isa_Repeats_j28_ok (name_ : Int) (t3 : Int) (t4 : Bool) (r : Int) (h : isa_Repeats_j28 t3 t4 = some r) : Runs L F15b28 (isa_Repeats_h28 t3 t4) (kB 0 (kS L F15c51 (isa_Repeats_Q name_ r))) := by
 unfold isa_Repeats_j28 at h
 cases hb_2 : (t4 : Bool) with
 | true =>
  replace h := ite_t hb_2 h
  refine Ct <| Sq <| Ro <| Rc 1 [⟨.d (.int .i64 1), []⟩] <| Rd <| kS_nrm <| Runs.ret <| kB_ret <| kS_ret ?_
  obtain rfl := Option.some.inj h
  exact ⟨Out.ret_ne, (by kernel_rfl)⟩
 | false =>
  replace h := ite_f hb_2 h
  refine Cf <| Sq <| Sq <| Ro <| Rc 2 [⟨.d (.bool (t3 == 48)), []⟩, ⟨.d (.bool (t3 == 48)), []⟩] <| Rd <| kS_nrm ?_
  cases hb_3 : ((t3 == 48) : Bool) with
  | true =>
   replace h := ite_t hb_3 h
   refine Ct <| Runs.skip <| kS_nrm <| Ct <| Sq <| Ro <| Rc 1 [⟨.d (.int .i64 2), []⟩] <| Rd <| kS_nrm <| Runs.ret <| kB_ret <| kS_ret ?_
   obtain rfl := Option.some.inj h
   exact ⟨Out.ret_ne, (by kernel_rfl)⟩
  | false =>
   replace h := ite_f hb_3 h
   refine Cf <| Sq <| Ro <| Rc 2 [⟨.d (.bool (t3 == 49)), []⟩, ⟨.d (.bool (t3 == 49)), []⟩] <| Rd <| kS_nrm ?_
   cases hb_4 : ((t3 == 49) : Bool) with
   | true =>
    replace h := ite_t hb_4 h
    refine Ct <| Runs.skip <| kS_nrm <| Ct <| Sq <| Ro <| Rc 1 [⟨.d (.int .i64 2), []⟩] <| Rd <| kS_nrm <| Runs.ret <| kB_ret <| kS_ret ?_
    obtain rfl := Option.some.inj h
    exact ⟨Out.ret_ne, (by kernel_rfl)⟩
   | false =>
    replace h := ite_f hb_4 h
    refine Cf <| Sq <| Ro <| Rc 2 [⟨.d (.bool (t3 == 54)), []⟩, ⟨.d (.bool (t3 == 54)), []⟩] <| Rd <| kS_nrm ?_
    cases hb_5 : ((t3 == 54) : Bool) with
    | true =>
     replace h := ite_t hb_5 h
     refine Ct <| Runs.skip <| kS_nrm <| Ct <| Sq <| Ro <| Rc 1 [⟨.d (.int .i64 2), []⟩] <| Rd <| kS_nrm <| Runs.ret <| kB_ret <| kS_ret ?_
     obtain rfl := Option.some.inj h
     exact ⟨Out.ret_ne, (by kernel_rfl)⟩
    | false =>
     replace h := ite_f hb_5 h
     refine Cf <| Ro <| Rc 2 [⟨.d (.bool (t3 == 55)), []⟩, ⟨.d (.bool (t3 == 55)), []⟩] <| Rd <| kS_nrm ?_
     cases hb_6 : ((t3 == 55) : Bool) with
     | true =>
      replace h := ite_t hb_6 h
      refine Ct <| Sq <| Ro <| Rc 1 [⟨.d (.int .i64 2), []⟩] <| Rd <| kS_nrm <| Runs.ret <| kB_ret <| kS_ret ?_
      obtain rfl := Option.some.inj h
      exact ⟨Out.ret_ne, (by kernel_rfl)⟩
     | false =>
      replace h := ite_f hb_6 h
      refine Cf <| Runs.skip <| kB_nrm <| kS_nrm <| Sq <| Ro <| Rc 1 [⟨.d (.int .i64 0), []⟩] <| Rd <| kS_nrm <| Runs.ret ?_
      obtain rfl := Option.some.inj h
      exact ⟨Out.ret_ne, (by kernel_rfl)⟩
theorem isa_Repeats_ok (name_ : Int) (r : Int) (h : isa_Repeats name_ = some r) : Runs L F15.body ⟨tmOf [.d (.int .i64 name_)] 0, updW (fun _ => none) []⟩ (isa_Repeats_Q name_ r) := by
 unfold isa_Repeats at h
 refine Sq <| Ro <| Rc 1 [⟨.d (.int .i64 0), []⟩] <| Rd <| kS_nrm <| Sq <| Sq <| Ro <| Rc 1 [⟨.d (.int .i64 name_), []⟩] <| Rd <| kS_nrm <| Runs.block <| Sq <| Sq <| Ro <| Rc 2 [⟨.d (.bool (name_ == 46)), []⟩, ⟨.d (.bool (name_ == 46)), []⟩] <| Rd <| kS_nrm ?_
 cases hb_1 : ((name_ == 46) : Bool) with
 | true =>
  replace h := ite_t hb_1 h
  refine Ct <| Runs.skip <| kS_nrm <| Runs.canon (isa_Repeats_h28 name_ true) (Canon.nil (by kernel_rfl)) ?_
  exact isa_Repeats_j28_ok name_ name_ true r h
 | false =>
  replace h := ite_f hb_1 h
  refine Cf <| Sq <| Ro <| Rc 2 [⟨.d (.bool (name_ == 47)), []⟩, ⟨.d (.bool (name_ == 47)), []⟩] <| Rd <| kS_nrm ?_
  cases hb_7 : ((name_ == 47) : Bool) with
  | true =>
   replace h := ite_t hb_7 h
   refine Ct <| Runs.skip <| kS_nrm <| Runs.canon (isa_Repeats_h28 name_ true) (Canon.nil (by kernel_rfl)) ?_
   exact isa_Repeats_j28_ok name_ name_ true r h
  | false =>
   replace h := ite_f hb_7 h
   refine Cf <| Sq <| Ro <| Rc 2 [⟨.d (.bool (name_ == 50)), []⟩, ⟨.d (.bool (name_ == 50)), []⟩] <| Rd <| kS_nrm ?_
   cases hb_8 : ((name_ == 50) : Bool) with
   | true =>
    replace h := ite_t hb_8 h
    refine Ct <| Runs.skip <| kS_nrm <| Runs.canon (isa_Repeats_h28 name_ true) (Canon.nil (by kernel_rfl)) ?_
    exact isa_Repeats_j28_ok name_ name_ true r h
   | false =>
    replace h := ite_f hb_8 h
    refine Cf <| Sq <| Ro <| Rc 2 [⟨.d (.bool (name_ == 51)), []⟩, ⟨.d (.bool (name_ == 51)), []⟩] <| Rd <| kS_nrm ?_
    cases hb_9 : ((name_ == 51) : Bool) with
    | true =>
     replace h := ite_t hb_9 h
     refine Ct <| Runs.skip <| kS_nrm <| Runs.canon (isa_Repeats_h28 name_ true) (Canon.nil (by kernel_rfl)) ?_
     exact isa_Repeats_j28_ok name_ name_ true r h
    | false =>
     replace h := ite_f hb_9 h
     refine Cf <| Sq <| Ro <| Rc 2 [⟨.d (.bool (name_ == 52)), []⟩, ⟨.d (.bool (name_ == 52)), []⟩] <| Rd <| kS_nrm ?_
     cases hb_10 : ((name_ == 52) : Bool) with
     | true =>
      replace h := ite_t hb_10 h
      refine Ct <| Runs.skip <| kS_nrm <| Runs.canon (isa_Repeats_h28 name_ true) (Canon.nil (by kernel_rfl)) ?_
      exact isa_Repeats_j28_ok name_ name_ true r h
     | false =>
      replace h := ite_f hb_10 h
      refine Cf <| Ro <| Rc 2 [⟨.d (.bool (name_ == 53)), []⟩, ⟨.d (.bool (name_ == 53)), []⟩] <| Rd <| kS_nrm <| Runs.canon (isa_Repeats_h28 name_ (name_ == 53)) (Canon.nil (by kernel_rfl)) ?_
      exact isa_Repeats_j28_ok name_ name_ (name_ == 53) r h
theorem isa_Repeats_L (name_ : Int) (r : Int) (h : isa_Repeats name_ = some r) : L 15 [.d (.int .i64 name_)] = some (.d (.int .i64 r), [.d (.int .i64 name_)]) := by
 obtain ⟨p, ⟨hne, hf⟩, hr⟩ := isa_Repeats_ok name_ r h
 obtain ⟨k, hk⟩ := run_of (F := F15) (args := [.d (.int .i64 name_)]) (ap := [.d (.int .i64 name_)]) (bx0 := updW (fun _ => none) []) rfl rfl (by kernel_rfl) ⟨p, ⟨hne, hf⟩, hr⟩
 exact lim_run (k := k) rfl hk
def inst_prefixes_Q (i_ : Inst) (r_ : Row) (r : Bool) (p : Out × St) : Prop := (∀ i, p.1 ≠ .exit i) ∧ finF F63 [.d (Inst.d i_), .d (Row.d r_)] p.2 = some (.d (.bool r), [.d (Inst.d i_), .d (Row.d r_)])
theorem inst_prefixes_ok (i_ : Inst) (r_ : Row) (r : Bool) (h : inst_prefixes i_ r_ = some r) : Runs L F63.body ⟨tmOf [.d (Inst.d i_), .d (Row.d r_)] 0, updW (fun _ => none) []⟩ (inst_prefixes_Q i_ r_ r) := by
 unfold inst_prefixes at h
 refine Sq <| Ro <| Rc 3 [⟨.ptr [2] 0 0, [([2], some (.cells [.d (.bool i_.Lock), .d (.int .i64 i_.Rep), .d (.int .i64 i_.Seg), .d (.int .u8 i_.Op), .d (.int .i64 i_.Mod), .d (.int .i64 i_.Reg), .d (.int .i64 i_.RM), .d (.int .u16 i_.Disp), .d (.int .u16 i_.Imm), .d (.int .u16 i_.Sel)] 0))]⟩, ⟨.ptr [3] 0 0, [([3], some (.cells [.d (.int .i64 r_.Name), .d (.int .i64 r_.A), .d (.int .i64 r_.B), .d (.bool r_.Mod)] 0))]⟩, ⟨.d (.bool false), []⟩] <| Rd <| kS_nrm <| Sq <| Ro <| Rc 2 [⟨.ptr [3] 0 0, []⟩, ⟨.d (.int .i64 r_.Name), []⟩] ?_
 obtain ⟨r_1, hr_1, h⟩ := bind_s h
 have hc_1 := isa_Repeats_L r_.Name r_1 hr_1
 refine Rt (some 8) (.callf 15) [] none [.d (.int .i64 r_.Name)] (.d (.int .i64 r_1)) [] (cut_call (call_of (ws := []) (us := []) (by kernel_rfl) (by kernel_rfl) hc_1 (by kernel_rfl) (by kernel_rfl))) <| Rc 1 [⟨.d (.int .i64 r_1), []⟩] <| Rd <| kS_nrm <| Sq <| Sq <| Ro <| Rc 2 [⟨.ptr [2] 0 1, []⟩, ⟨.d (.int .i64 i_.Rep), []⟩] <| Rd <| kS_nrm <| Runs.block <| Sq <| Ro <| Rc 2 [⟨.d (.bool (i_.Rep == 0)), []⟩, ⟨.d (.bool (i_.Rep == 0)), []⟩] <| Rd <| kS_nrm ?_
 cases hb_1 : ((i_.Rep == 0) : Bool) with
 | true =>
  replace h := ite_t hb_1 h
  refine Ct <| Runs.skip <| kB_nrm <| kS_nrm <| Sq <| Ro <| Rc 4 [⟨.ptr [2] 0 2, []⟩, ⟨.d (.int .i64 i_.Seg), []⟩, ⟨.d (.bool (decide (i_.Seg ≥ 0))), []⟩, ⟨.d (.bool (decide (i_.Seg ≥ 0))), []⟩] ?_
  cases hb_2 : ((decide (i_.Seg ≥ 0)) : Bool) with
  | true =>
   replace h := ite_t hb_2 h
   refine Rc 5 [⟨.ptr [2] 0 2, []⟩, ⟨.d (.int .i64 i_.Seg), []⟩, ⟨.d (.bool (decide (i_.Seg ≤ 4))), []⟩, ⟨.d (.bool (decide (i_.Seg ≤ 4))), []⟩, ⟨.d (.bool (decide (i_.Seg ≤ 4))), []⟩] <| Rd <| kS_nrm <| Runs.ret ?_
   obtain rfl := Option.some.inj h
   exact ⟨Out.ret_ne, (by kernel_rfl)⟩
  | false =>
   replace h := ite_f hb_2 h
   refine Rc 5 [⟨.tup [], []⟩, ⟨.tup [], []⟩, ⟨.tup [], []⟩, ⟨.d (.bool false), []⟩, ⟨.d (.bool false), []⟩] <| Rd <| kS_nrm <| Runs.ret ?_
   obtain rfl := Option.some.inj h
   exact ⟨Out.ret_ne, (by kernel_rfl)⟩
 | false =>
  replace h := ite_f hb_1 h
  refine Cf <| Sq <| Ro <| Rc 2 [⟨.d (.bool (i_.Rep == 1)), []⟩, ⟨.d (.bool (i_.Rep == 1)), []⟩] <| Rd <| kS_nrm ?_
  cases hb_3 : ((i_.Rep == 1) : Bool) with
  | true =>
   replace h := ite_t hb_3 h
   refine Ct <| Sq <| Ro <| Rc 2 [⟨.d (.int .i64 r_1), []⟩, ⟨.d (.bool (decide (r_1 < 2))), []⟩] <| Rd <| kS_nrm ?_
   cases hb_4 : ((decide (r_1 < 2)) : Bool) with
   | true =>
    replace h := ite_t hb_4 h
    refine Ct <| Sq <| Ro <| Rc 1 [⟨.d (.bool false), []⟩] <| Rd <| kS_nrm <| Runs.ret <| kB_ret <| kS_ret ?_
    obtain rfl := Option.some.inj h
    exact ⟨Out.ret_ne, (by kernel_rfl)⟩
   | false =>
    replace h := ite_f hb_4 h
    refine Cf <| Runs.skip <| kB_nrm <| kS_nrm <| Sq <| Ro <| Rc 4 [⟨.ptr [2] 0 2, []⟩, ⟨.d (.int .i64 i_.Seg), []⟩, ⟨.d (.bool (decide (i_.Seg ≥ 0))), []⟩, ⟨.d (.bool (decide (i_.Seg ≥ 0))), []⟩] ?_
    cases hb_5 : ((decide (i_.Seg ≥ 0)) : Bool) with
    | true =>
     replace h := ite_t hb_5 h
     refine Rc 5 [⟨.ptr [2] 0 2, []⟩, ⟨.d (.int .i64 i_.Seg), []⟩, ⟨.d (.bool (decide (i_.Seg ≤ 4))), []⟩, ⟨.d (.bool (decide (i_.Seg ≤ 4))), []⟩, ⟨.d (.bool (decide (i_.Seg ≤ 4))), []⟩] <| Rd <| kS_nrm <| Runs.ret ?_
     obtain rfl := Option.some.inj h
     exact ⟨Out.ret_ne, (by kernel_rfl)⟩
    | false =>
     replace h := ite_f hb_5 h
     refine Rc 5 [⟨.tup [], []⟩, ⟨.tup [], []⟩, ⟨.tup [], []⟩, ⟨.d (.bool false), []⟩, ⟨.d (.bool false), []⟩] <| Rd <| kS_nrm <| Runs.ret ?_
     obtain rfl := Option.some.inj h
     exact ⟨Out.ret_ne, (by kernel_rfl)⟩
  | false =>
   replace h := ite_f hb_3 h
   refine Cf <| Sq <| Ro <| Rc 2 [⟨.d (.bool (i_.Rep == 2)), []⟩, ⟨.d (.bool (i_.Rep == 2)), []⟩] <| Rd <| kS_nrm ?_
   cases hb_6 : ((i_.Rep == 2) : Bool) with
   | true =>
    replace h := ite_t hb_6 h
    refine Ct <| Sq <| Ro <| Rc 2 [⟨.d (.int .i64 r_1), []⟩, ⟨.d (.bool (decide (r_1 < 1))), []⟩] <| Rd <| kS_nrm ?_
    cases hb_7 : ((decide (r_1 < 1)) : Bool) with
    | true =>
     replace h := ite_t hb_7 h
     refine Ct <| Sq <| Ro <| Rc 1 [⟨.d (.bool false), []⟩] <| Rd <| kS_nrm <| Runs.ret <| kB_ret <| kS_ret ?_
     obtain rfl := Option.some.inj h
     exact ⟨Out.ret_ne, (by kernel_rfl)⟩
    | false =>
     replace h := ite_f hb_7 h
     refine Cf <| Runs.skip <| kB_nrm <| kS_nrm <| Sq <| Ro <| Rc 4 [⟨.ptr [2] 0 2, []⟩, ⟨.d (.int .i64 i_.Seg), []⟩, ⟨.d (.bool (decide (i_.Seg ≥ 0))), []⟩, ⟨.d (.bool (decide (i_.Seg ≥ 0))), []⟩] ?_
     cases hb_8 : ((decide (i_.Seg ≥ 0)) : Bool) with
     | true =>
      replace h := ite_t hb_8 h
      refine Rc 5 [⟨.ptr [2] 0 2, []⟩, ⟨.d (.int .i64 i_.Seg), []⟩, ⟨.d (.bool (decide (i_.Seg ≤ 4))), []⟩, ⟨.d (.bool (decide (i_.Seg ≤ 4))), []⟩, ⟨.d (.bool (decide (i_.Seg ≤ 4))), []⟩] <| Rd <| kS_nrm <| Runs.ret ?_
      obtain rfl := Option.some.inj h
      exact ⟨Out.ret_ne, (by kernel_rfl)⟩
     | false =>
      replace h := ite_f hb_8 h
      refine Rc 5 [⟨.tup [], []⟩, ⟨.tup [], []⟩, ⟨.tup [], []⟩, ⟨.d (.bool false), []⟩, ⟨.d (.bool false), []⟩] <| Rd <| kS_nrm <| Runs.ret ?_
      obtain rfl := Option.some.inj h
      exact ⟨Out.ret_ne, (by kernel_rfl)⟩
   | false =>
    replace h := ite_f hb_6 h
    refine Cf <| Sq <| Ro <| Rc 1 [⟨.d (.bool false), []⟩] <| Rd <| kS_nrm <| Runs.ret <| kB_ret <| kS_ret ?_
    obtain rfl := Option.some.inj h
    exact ⟨Out.ret_ne, (by kernel_rfl)⟩
theorem inst_prefixes_L (i_ : Inst) (r_ : Row) (r : Bool) (h : inst_prefixes i_ r_ = some r) : L 63 [.d (Inst.d i_), .d (Row.d r_)] = some (.d (.bool r), [.d (Inst.d i_), .d (Row.d r_)]) := by
 obtain ⟨p, ⟨hne, hf⟩, hr⟩ := inst_prefixes_ok i_ r_ r h
 obtain ⟨k, hk⟩ := run_of (F := F63) (args := [.d (Inst.d i_), .d (Row.d r_)]) (ap := [.d (Inst.d i_), .d (Row.d r_)]) (bx0 := updW (fun _ => none) []) rfl rfl (by kernel_rfl) ⟨p, ⟨hne, hf⟩, hr⟩
 exact lim_run (k := k) rfl hk
def inst_May_Q (i_ : Inst) (r : Bool) (p : Out × St) : Prop := (∀ i, p.1 ≠ .exit i) ∧ finF F30 [.d (Inst.d i_)] p.2 = some (.d (.bool r), [.d (Inst.d i_)])
theorem inst_May_ok (i_ : Inst) (r : Bool) (h : inst_May i_ = some r) : Runs L F30.body ⟨tmOf [.d (Inst.d i_)] 0, updW (fun _ => none) []⟩ (inst_May_Q i_ r) := by
 unfold inst_May at h
 refine Sq <| Ro <| Rc 2 [⟨.ptr [1] 0 0, [([1], some (.cells [.d (.bool i_.Lock), .d (.int .i64 i_.Rep), .d (.int .i64 i_.Seg), .d (.int .u8 i_.Op), .d (.int .i64 i_.Mod), .d (.int .i64 i_.Reg), .d (.int .i64 i_.RM), .d (.int .u16 i_.Disp), .d (.int .u16 i_.Imm), .d (.int .u16 i_.Sel)] 0))]⟩, ⟨.d (.bool false), []⟩] <| Rd <| kS_nrm <| Sq <| Ro <| Rc 1 [⟨.d (Inst.d i_), []⟩] ?_
 obtain ⟨r_1, hr_1, h⟩ := bind_s h
 have hc_1 := inst_Row_L i_ r_1 hr_1
 refine Rt (some 7) (.callf 60) [] none [.d (Inst.d i_)] (.tup [.d (Row.d r_1.1), .d (.bool r_1.2)]) [] (cut_call (call_of (ws := []) (us := []) (by kernel_rfl) (by kernel_rfl) hc_1 (by kernel_rfl) (by kernel_rfl))) <| Rc 6 [⟨.tup [.d (Row.d r_1.1), .d (.bool r_1.2)], []⟩, ⟨.d (Row.d r_1.1), []⟩, ⟨.d (.bool r_1.2), []⟩, ⟨.ptr [3] 0 0, [([3], some (.cells [.d (.int .i64 0), .d (.int .i64 0), .d (.int .i64 0), .d (.bool false)] 0))]⟩, ⟨.tup [], [([3], some (.cells [.d (.int .i64 r_1.1.Name), .d (.int .i64 r_1.1.A), .d (.int .i64 r_1.1.B), .d (.bool r_1.1.Mod)] 0))]⟩, ⟨.d (.bool r_1.2), []⟩] <| Rd <| kS_nrm <| Sq <| Ro <| Rc 2 [⟨.d (.bool r_1.2), []⟩, ⟨.d (.bool r_1.2), []⟩] ?_
 cases hb_1 : (r_1.2 : Bool) with
 | true =>
  replace h := ite_t hb_1 h
  refine Rc 2 [⟨.d (Inst.d i_), []⟩, ⟨.d (Row.d r_1.1), []⟩] ?_
  obtain ⟨r_2, hr_2, h⟩ := bind_s h
  have hc_2 := inst_second_L i_ r_1.1 r_2 hr_2
  refine Rt (some 14) (.callf 61) [] none [.d (Inst.d i_), .d (Row.d r_1.1)] (.d (.bool r_2)) [] (cut_call (call_of (ws := []) (us := []) (by kernel_rfl) (by kernel_rfl) hc_2 (by kernel_rfl) (by kernel_rfl))) <| Rc 2 [⟨.d (.bool r_2), []⟩, ⟨.d (.bool r_2), []⟩] ?_
  cases hb_2 : (r_2 : Bool) with
  | true =>
   replace h := ite_t hb_2 h
   refine Rc 2 [⟨.d (Inst.d i_), []⟩, ⟨.d (Row.d r_1.1), []⟩] ?_
   obtain ⟨r_3, hr_3, h⟩ := bind_s h
   have hc_3 := inst_behind_L i_ r_1.1 r_3 hr_3
   refine Rt (some 19) (.callf 62) [] none [.d (Inst.d i_), .d (Row.d r_1.1)] (.d (.bool r_3)) [] (cut_call (call_of (ws := []) (us := []) (by kernel_rfl) (by kernel_rfl) hc_3 (by kernel_rfl) (by kernel_rfl))) <| Rc 2 [⟨.d (.bool r_3), []⟩, ⟨.d (.bool r_3), []⟩] ?_
   cases hb_3 : (r_3 : Bool) with
   | true =>
    replace h := ite_t hb_3 h
    refine Rc 2 [⟨.d (Inst.d i_), []⟩, ⟨.d (Row.d r_1.1), []⟩] ?_
    obtain ⟨r_4, hr_4, h⟩ := bind_s h
    have hc_4 := inst_prefixes_L i_ r_1.1 r_4 hr_4
    refine Rt (some 24) (.callf 63) [] none [.d (Inst.d i_), .d (Row.d r_1.1)] (.d (.bool r_4)) [] (cut_call (call_of (ws := []) (us := []) (by kernel_rfl) (by kernel_rfl) hc_4 (by kernel_rfl) (by kernel_rfl))) <| Rc 2 [⟨.d (.bool r_4), []⟩, ⟨.d (.bool r_4), []⟩] <| Rd <| kS_nrm <| Runs.ret ?_
    obtain rfl := Option.some.inj h
    exact ⟨Out.ret_ne, (by kernel_rfl)⟩
   | false =>
    replace h := ite_f hb_3 h
    refine Rc 5 [⟨.tup [], []⟩, ⟨.tup [], []⟩, ⟨.tup [], []⟩, ⟨.d (.bool false), []⟩, ⟨.d (.bool false), []⟩] <| Rd <| kS_nrm <| Runs.ret ?_
    obtain rfl := Option.some.inj h
    exact ⟨Out.ret_ne, (by kernel_rfl)⟩
  | false =>
   replace h := ite_f hb_2 h
   refine Rc 10 [⟨.tup [], []⟩, ⟨.tup [], []⟩, ⟨.tup [], []⟩, ⟨.d (.bool false), []⟩, ⟨.d (.bool false), []⟩, ⟨.tup [], []⟩, ⟨.tup [], []⟩, ⟨.tup [], []⟩, ⟨.d (.bool false), []⟩, ⟨.d (.bool false), []⟩] <| Rd <| kS_nrm <| Runs.ret ?_
   obtain rfl := Option.some.inj h
   exact ⟨Out.ret_ne, (by kernel_rfl)⟩
 | false =>
  replace h := ite_f hb_1 h
  refine Rc 15 [⟨.tup [], []⟩, ⟨.tup [], []⟩, ⟨.tup [], []⟩, ⟨.d (.bool false), []⟩, ⟨.d (.bool false), []⟩, ⟨.tup [], []⟩, ⟨.tup [], []⟩, ⟨.tup [], []⟩, ⟨.d (.bool false), []⟩, ⟨.d (.bool false), []⟩, ⟨.tup [], []⟩, ⟨.tup [], []⟩, ⟨.tup [], []⟩, ⟨.d (.bool false), []⟩, ⟨.d (.bool false), []⟩] <| Rd <| kS_nrm <| Runs.ret ?_
  obtain rfl := Option.some.inj h
  exact ⟨Out.ret_ne, (by kernel_rfl)⟩
theorem inst_May_L (i_ : Inst) (r : Bool) (h : inst_May i_ = some r) : L 30 [.d (Inst.d i_)] = some (.d (.bool r), [.d (Inst.d i_)]) := by
 obtain ⟨p, ⟨hne, hf⟩, hr⟩ := inst_May_ok i_ r h
 obtain ⟨k, hk⟩ := run_of (F := F30) (args := [.d (Inst.d i_)]) (ap := [.d (Inst.d i_)]) (bx0 := updW (fun _ => none) []) rfl rfl (by kernel_rfl) ⟨p, ⟨hne, hf⟩, hr⟩
 exact lim_run (k := k) rfl hk
def isa_Immediate_h16 (t3 : Int) (t4 : Bool) : St := ⟨tab [(3, .d (.int .i64 t3)), (4, .d (.bool t4))], tabB []⟩
def isa_Immediate_Q (op_ : Int) (r : Int) (p : Out × St) : Prop := (∀ i, p.1 ≠ .exit i) ∧ finF F17 [.d (.int .i64 op_)] p.2 = some (.d (.int .i64 r), [.d (.int .i64 op_)])
theorem isa_Immediate_j16_ok (op_ : Int) (t3 : Int) (t4 : Bool) (r : Int) (h : isa_Immediate_j16 t3 t4 = some r) : Runs L F17b16 (isa_Immediate_h16 t3 t4) (kB 0 (kS L F17c45 (isa_Immediate_Q op_ r))) := by
 unfold isa_Immediate_j16 at h
 cases hb_2 : (t4 : Bool) with
 | true =>
  replace h := ite_t hb_2 h
  refine Ct <| Sq <| Ro <| Rc 1 [⟨.d (.int .i64 1), []⟩] <| Rd <| kS_nrm <| Runs.ret <| kB_ret <| kS_ret ?_
  obtain rfl := Option.some.inj h
  exact ⟨Out.ret_ne, (by kernel_rfl)⟩
 | false =>
  replace h := ite_f hb_2 h
  refine Cf <| Sq <| Sq <| Ro <| Rc 2 [⟨.d (.bool (t3 == 7)), []⟩, ⟨.d (.bool (t3 == 7)), []⟩] <| Rd <| kS_nrm ?_
  cases hb_3 : ((t3 == 7) : Bool) with
  | true =>
   replace h := ite_t hb_3 h
   refine Ct <| Runs.skip <| kS_nrm <| Ct <| Sq <| Ro <| Rc 1 [⟨.d (.int .i64 2), []⟩] <| Rd <| kS_nrm <| Runs.ret <| kB_ret <| kS_ret ?_
   obtain rfl := Option.some.inj h
   exact ⟨Out.ret_ne, (by kernel_rfl)⟩
  | false =>
   replace h := ite_f hb_3 h
   refine Cf <| Sq <| Ro <| Rc 2 [⟨.d (.bool (t3 == 10)), []⟩, ⟨.d (.bool (t3 == 10)), []⟩] <| Rd <| kS_nrm ?_
   cases hb_4 : ((t3 == 10) : Bool) with
   | true =>
    replace h := ite_t hb_4 h
    refine Ct <| Runs.skip <| kS_nrm <| Ct <| Sq <| Ro <| Rc 1 [⟨.d (.int .i64 2), []⟩] <| Rd <| kS_nrm <| Runs.ret <| kB_ret <| kS_ret ?_
    obtain rfl := Option.some.inj h
    exact ⟨Out.ret_ne, (by kernel_rfl)⟩
   | false =>
    replace h := ite_f hb_4 h
    refine Cf <| Sq <| Ro <| Rc 2 [⟨.d (.bool (t3 == 12)), []⟩, ⟨.d (.bool (t3 == 12)), []⟩] <| Rd <| kS_nrm ?_
    cases hb_5 : ((t3 == 12) : Bool) with
    | true =>
     replace h := ite_t hb_5 h
     refine Ct <| Runs.skip <| kS_nrm <| Ct <| Sq <| Ro <| Rc 1 [⟨.d (.int .i64 2), []⟩] <| Rd <| kS_nrm <| Runs.ret <| kB_ret <| kS_ret ?_
     obtain rfl := Option.some.inj h
     exact ⟨Out.ret_ne, (by kernel_rfl)⟩
    | false =>
     replace h := ite_f hb_5 h
     refine Cf <| Ro <| Rc 2 [⟨.d (.bool (t3 == 13)), []⟩, ⟨.d (.bool (t3 == 13)), []⟩] <| Rd <| kS_nrm ?_
     cases hb_6 : ((t3 == 13) : Bool) with
     | true =>
      replace h := ite_t hb_6 h
      refine Ct <| Sq <| Ro <| Rc 1 [⟨.d (.int .i64 2), []⟩] <| Rd <| kS_nrm <| Runs.ret <| kB_ret <| kS_ret ?_
      obtain rfl := Option.some.inj h
      exact ⟨Out.ret_ne, (by kernel_rfl)⟩
     | false =>
      replace h := ite_f hb_6 h
      refine Cf <| Sq <| Ro <| Rc 2 [⟨.d (.bool (t3 == 11)), []⟩, ⟨.d (.bool (t3 == 11)), []⟩] <| Rd <| kS_nrm ?_
      cases hb_7 : ((t3 == 11) : Bool) with
      | true =>
       replace h := ite_t hb_7 h
       refine Ct <| Sq <| Ro <| Rc 1 [⟨.d (.int .i64 4), []⟩] <| Rd <| kS_nrm <| Runs.ret <| kB_ret <| kS_ret ?_
       obtain rfl := Option.some.inj h
       exact ⟨Out.ret_ne, (by kernel_rfl)⟩
      | false =>
       replace h := ite_f hb_7 h
       refine Cf <| Runs.skip <| kB_nrm <| kS_nrm <| Sq <| Ro <| Rc 1 [⟨.d (.int .i64 0), []⟩] <| Rd <| kS_nrm <| Runs.ret ?_
       obtain rfl := Option.some.inj h
       exact ⟨Out.ret_ne, (by kernel_rfl)⟩
theorem isa_Immediate_ok (op_ : Int) (r : Int) (h : isa_Immediate op_ = some r) : Runs L F17.body ⟨tmOf [.d (.int .i64 op_)] 0, updW (fun _ => none) []⟩ (isa_Immediate_Q op_ r) := by
 unfold isa_Immediate at h
 refine Sq <| Ro <| Rc 1 [⟨.d (.int .i64 0), []⟩] <| Rd <| kS_nrm <| Sq <| Sq <| Ro <| Rc 1 [⟨.d (.int .i64 op_), []⟩] <| Rd <| kS_nrm <| Runs.block <| Sq <| Sq <| Ro <| Rc 2 [⟨.d (.bool (op_ == 6)), []⟩, ⟨.d (.bool (op_ == 6)), []⟩] <| Rd <| kS_nrm ?_
 cases hb_1 : ((op_ == 6) : Bool) with
 | true =>
  replace h := ite_t hb_1 h
  refine Ct <| Runs.skip <| kS_nrm <| Runs.canon (isa_Immediate_h16 op_ true) (Canon.nil (by kernel_rfl)) ?_
  exact isa_Immediate_j16_ok op_ op_ true r h
 | false =>
  replace h := ite_f hb_1 h
  refine Cf <| Sq <| Ro <| Rc 2 [⟨.d (.bool (op_ == 8)), []⟩, ⟨.d (.bool (op_ == 8)), []⟩] <| Rd <| kS_nrm ?_
  cases hb_8 : ((op_ == 8) : Bool) with
  | true =>
   replace h := ite_t hb_8 h
   refine Ct <| Runs.skip <| kS_nrm <| Runs.canon (isa_Immediate_h16 op_ true) (Canon.nil (by kernel_rfl)) ?_
   exact isa_Immediate_j16_ok op_ op_ true r h
  | false =>
   replace h := ite_f hb_8 h
   refine Cf <| Ro <| Rc 2 [⟨.d (.bool (op_ == 9)), []⟩, ⟨.d (.bool (op_ == 9)), []⟩] <| Rd <| kS_nrm <| Runs.canon (isa_Immediate_h16 op_ (op_ == 9)) (Canon.nil (by kernel_rfl)) ?_
   exact isa_Immediate_j16_ok op_ op_ (op_ == 9) r h
theorem isa_Immediate_L (op_ : Int) (r : Int) (h : isa_Immediate op_ = some r) : L 17 [.d (.int .i64 op_)] = some (.d (.int .i64 r), [.d (.int .i64 op_)]) := by
 obtain ⟨p, ⟨hne, hf⟩, hr⟩ := isa_Immediate_ok op_ r h
 obtain ⟨k, hk⟩ := run_of (F := F17) (args := [.d (.int .i64 op_)]) (ap := [.d (.int .i64 op_)]) (bx0 := updW (fun _ => none) []) rfl rfl (by kernel_rfl) ⟨p, ⟨hne, hf⟩, hr⟩
 exact lim_run (k := k) rfl hk
def inst_Imms_Q (r_ : Row) (r : Int) (p : Out × St) : Prop := (∀ i, p.1 ≠ .exit i) ∧ finF F64 [.d (Row.d r_)] p.2 = some (.d (.int .i64 r), [.d (Row.d r_)])
theorem inst_Imms_ok (r_ : Row) (r : Int) (h : inst_Imms r_ = some r) : Runs L F64.body ⟨tmOf [.d (Row.d r_)] 0, updW (fun _ => none) []⟩ (inst_Imms_Q r_ r) := by
 unfold inst_Imms at h
 refine Sq <| Ro <| Rc 2 [⟨.ptr [1] 0 0, [([1], some (.cells [.d (.int .i64 r_.Name), .d (.int .i64 r_.A), .d (.int .i64 r_.B), .d (.bool r_.Mod)] 0))]⟩, ⟨.d (.int .i64 0), []⟩] <| Rd <| kS_nrm <| Sq <| Ro <| Rc 2 [⟨.ptr [1] 0 1, []⟩, ⟨.d (.int .i64 r_.A), []⟩] ?_
 obtain ⟨r_1, hr_1, h⟩ := bind_s h
 have hc_1 := isa_Immediate_L r_.A r_1 hr_1
 refine Rt (some 5) (.callf 17) [] (some []) [.d (.int .i64 r_.A)] (.d (.int .i64 r_1)) [] (cut_call (call_of (ws := []) (us := []) (by kernel_rfl) (by kernel_rfl) hc_1 (by kernel_rfl) (by kernel_rfl))) <| Rc 2 [⟨.ptr [1] 0 2, []⟩, ⟨.d (.int .i64 r_.B), []⟩] ?_
 obtain ⟨r_2, hr_2, h⟩ := bind_s h
 have hc_2 := isa_Immediate_L r_.B r_2 hr_2
 refine Rt (some 8) (.callf 17) [] none [.d (.int .i64 r_.B)] (.d (.int .i64 r_2)) [] (cut_call (call_of (ws := []) (us := []) (by kernel_rfl) (by kernel_rfl) hc_2 (by kernel_rfl) (by kernel_rfl))) <| Rc 2 [⟨.d (.int .i64 (IntKind.wrap .i64 (r_1 + r_2))), []⟩, ⟨.d (.int .i64 (IntKind.wrap .i64 (r_1 + r_2))), []⟩] <| Rd <| kS_nrm <| Runs.ret ?_
 obtain rfl := Option.some.inj h
 exact ⟨Out.ret_ne, (by kernel_rfl)⟩
theorem inst_Imms_L (r_ : Row) (r : Int) (h : inst_Imms r_ = some r) : L 64 [.d (Row.d r_)] = some (.d (.int .i64 r), [.d (Row.d r_)]) := by
 obtain ⟨p, ⟨hne, hf⟩, hr⟩ := inst_Imms_ok r_ r h
 obtain ⟨k, hk⟩ := run_of (F := F64) (args := [.d (Row.d r_)]) (ap := [.d (Row.d r_)]) (bx0 := updW (fun _ => none) []) rfl rfl (by kernel_rfl) ⟨p, ⟨hne, hf⟩, hr⟩
 exact lim_run (k := k) rfl hk
def inst_Len_h20 (i1 : Inst) (r3 : Row) (n5 : Int) : St := ⟨tab [(1, .ptr [1] 0 0), (3, .ptr [3] 0 0), (5, .d (.int .i64 n5))], tabB [([1], some (.cells [.d (.bool i1.Lock), .d (.int .i64 i1.Rep), .d (.int .i64 i1.Seg), .d (.int .u8 i1.Op), .d (.int .i64 i1.Mod), .d (.int .i64 i1.Reg), .d (.int .i64 i1.RM), .d (.int .u16 i1.Disp), .d (.int .u16 i1.Imm), .d (.int .u16 i1.Sel)] 0)), ([3], some (.cells [.d (.int .i64 r3.Name), .d (.int .i64 r3.A), .d (.int .i64 r3.B), .d (.bool r3.Mod)] 0))]⟩
def inst_Len_h26 (i1 : Inst) (r3 : Row) (n5 : Int) : St := ⟨tab [(1, .ptr [1] 0 0), (3, .ptr [3] 0 0), (5, .d (.int .i64 n5))], tabB [([1], some (.cells [.d (.bool i1.Lock), .d (.int .i64 i1.Rep), .d (.int .i64 i1.Seg), .d (.int .u8 i1.Op), .d (.int .i64 i1.Mod), .d (.int .i64 i1.Reg), .d (.int .i64 i1.RM), .d (.int .u16 i1.Disp), .d (.int .u16 i1.Imm), .d (.int .u16 i1.Sel)] 0)), ([3], some (.cells [.d (.int .i64 r3.Name), .d (.int .i64 r3.A), .d (.int .i64 r3.B), .d (.bool r3.Mod)] 0))]⟩
def inst_Len_Q (i_ : Inst) (r : Int) (p : Out × St) : Prop := (∀ i, p.1 ≠ .exit i) ∧ finF F31 [.d (Inst.d i_)] p.2 = some (.d (.int .i64 r), [.d (Inst.d i_)])
theorem inst_Len_j26_ok (i_ : Inst) (i1 : Inst) (r3 : Row) (n5 : Int) (r : Int) (h : inst_Len_j26 i1 r3 n5 = some r) : Runs L F31b26 (inst_Len_h26 i1 r3 n5) (inst_Len_Q i_ r) := by
 unfold inst_Len_j26 at h
 refine Sq <| Sq <| Ro <| Rc 3 [⟨.ptr [1] 0 2, []⟩, ⟨.d (.int .i64 i1.Seg), []⟩, ⟨.d (.bool (decide (i1.Seg > 0))), []⟩] <| Rd <| kS_nrm ?_
 cases hb_4 : ((decide (i1.Seg > 0)) : Bool) with
 | true =>
  replace h := ite_t hb_4 h
  refine Ct <| Ro <| Rc 3 [⟨.d (.int .i64 n5), []⟩, ⟨.d (.int .i64 (IntKind.wrap .i64 (n5 + 1))), []⟩, ⟨.d (.int .i64 (IntKind.wrap .i64 (n5 + 1))), []⟩] <| Rd <| kS_nrm <| Sq <| Sq <| Ro <| Rc 2 [⟨.ptr [3] 0 3, []⟩, ⟨.d (.bool r3.Mod), []⟩] <| Rd <| kS_nrm ?_
  cases hb_5 : (r3.Mod : Bool) with
  | true =>
   replace h := ite_t hb_5 h
   refine Ct <| Ro <| Rc 5 [⟨.d (.int .i64 (IntKind.wrap .i64 (n5 + 1))), []⟩, ⟨.ptr [1] 0 4, []⟩, ⟨.d (.int .i64 i1.Mod), []⟩, ⟨.ptr [1] 0 6, []⟩, ⟨.d (.int .i64 i1.RM), []⟩] ?_
   obtain ⟨r_4, hr_4, h⟩ := bind_s h
   have hc_4 := inst_Disps_L i1.Mod i1.RM r_4 hr_4
   refine Rt (some 38) (.callf 59) [] none [.d (.int .i64 i1.Mod), .d (.int .i64 i1.RM)] (.d (.int .i64 r_4)) [] (cut_call (call_of (ws := []) (us := []) (by kernel_rfl) (by kernel_rfl) hc_4 (by kernel_rfl) (by kernel_rfl))) <| Rc 3 [⟨.d (.int .i64 (IntKind.wrap .i64 (1 + r_4))), []⟩, ⟨.d (.int .i64 (IntKind.wrap .i64 ((IntKind.wrap .i64 (n5 + 1)) + (IntKind.wrap .i64 (1 + r_4))))), []⟩, ⟨.d (.int .i64 (IntKind.wrap .i64 ((IntKind.wrap .i64 (n5 + 1)) + (IntKind.wrap .i64 (1 + r_4))))), []⟩] <| Rd <| kS_nrm <| Sq <| Ro <| Rc 2 [⟨.d (.int .i64 (IntKind.wrap .i64 ((IntKind.wrap .i64 (n5 + 1)) + (IntKind.wrap .i64 (1 + r_4))))), []⟩, ⟨.d (.int .i64 (IntKind.wrap .i64 ((IntKind.wrap .i64 (n5 + 1)) + (IntKind.wrap .i64 (1 + r_4))))), []⟩] <| Rd <| kS_nrm <| Runs.ret ?_
   obtain rfl := Option.some.inj h
   exact ⟨Out.ret_ne, (by kernel_rfl)⟩
  | false =>
   replace h := ite_f hb_5 h
   refine Cf <| Runs.skip <| kS_nrm <| Sq <| Ro <| Rc 2 [⟨.d (.int .i64 (IntKind.wrap .i64 (n5 + 1))), []⟩, ⟨.d (.int .i64 (IntKind.wrap .i64 (n5 + 1))), []⟩] <| Rd <| kS_nrm <| Runs.ret ?_
   obtain rfl := Option.some.inj h
   exact ⟨Out.ret_ne, (by kernel_rfl)⟩
 | false =>
  replace h := ite_f hb_4 h
  refine Cf <| Runs.skip <| kS_nrm <| Sq <| Sq <| Ro <| Rc 2 [⟨.ptr [3] 0 3, []⟩, ⟨.d (.bool r3.Mod), []⟩] <| Rd <| kS_nrm ?_
  cases hb_6 : (r3.Mod : Bool) with
  | true =>
   replace h := ite_t hb_6 h
   refine Ct <| Ro <| Rc 5 [⟨.d (.int .i64 n5), []⟩, ⟨.ptr [1] 0 4, []⟩, ⟨.d (.int .i64 i1.Mod), []⟩, ⟨.ptr [1] 0 6, []⟩, ⟨.d (.int .i64 i1.RM), []⟩] ?_
   obtain ⟨r_5, hr_5, h⟩ := bind_s h
   have hc_5 := inst_Disps_L i1.Mod i1.RM r_5 hr_5
   refine Rt (some 38) (.callf 59) [] none [.d (.int .i64 i1.Mod), .d (.int .i64 i1.RM)] (.d (.int .i64 r_5)) [] (cut_call (call_of (ws := []) (us := []) (by kernel_rfl) (by kernel_rfl) hc_5 (by kernel_rfl) (by kernel_rfl))) <| Rc 3 [⟨.d (.int .i64 (IntKind.wrap .i64 (1 + r_5))), []⟩, ⟨.d (.int .i64 (IntKind.wrap .i64 (n5 + (IntKind.wrap .i64 (1 + r_5))))), []⟩, ⟨.d (.int .i64 (IntKind.wrap .i64 (n5 + (IntKind.wrap .i64 (1 + r_5))))), []⟩] <| Rd <| kS_nrm <| Sq <| Ro <| Rc 2 [⟨.d (.int .i64 (IntKind.wrap .i64 (n5 + (IntKind.wrap .i64 (1 + r_5))))), []⟩, ⟨.d (.int .i64 (IntKind.wrap .i64 (n5 + (IntKind.wrap .i64 (1 + r_5))))), []⟩] <| Rd <| kS_nrm <| Runs.ret ?_
   obtain rfl := Option.some.inj h
   exact ⟨Out.ret_ne, (by kernel_rfl)⟩
  | false =>
   replace h := ite_f hb_6 h
   refine Cf <| Runs.skip <| kS_nrm <| Sq <| Ro <| Rc 2 [⟨.d (.int .i64 n5), []⟩, ⟨.d (.int .i64 n5), []⟩] <| Rd <| kS_nrm <| Runs.ret ?_
   obtain rfl := Option.some.inj h
   exact ⟨Out.ret_ne, (by kernel_rfl)⟩
theorem inst_Len_j20_ok (i_ : Inst) (i1 : Inst) (r3 : Row) (n5 : Int) (r : Int) (h : inst_Len_j20 i1 r3 n5 = some r) : Runs L F31b20 (inst_Len_h20 i1 r3 n5) (inst_Len_Q i_ r) := by
 unfold inst_Len_j20 at h
 refine Sq <| Sq <| Ro <| Rc 3 [⟨.ptr [1] 0 1, []⟩, ⟨.d (.int .i64 i1.Rep), []⟩, ⟨.d (.bool (decide (i1.Rep > 0))), []⟩] <| Rd <| kS_nrm ?_
 cases hb_3 : ((decide (i1.Rep > 0)) : Bool) with
 | true =>
  replace h := ite_t hb_3 h
  refine Ct <| Ro <| Rc 3 [⟨.d (.int .i64 n5), []⟩, ⟨.d (.int .i64 (IntKind.wrap .i64 (n5 + 1))), []⟩, ⟨.d (.int .i64 (IntKind.wrap .i64 (n5 + 1))), []⟩] <| Rd <| kS_nrm <| Runs.canon (inst_Len_h26 i1 r3 (IntKind.wrap .i64 (n5 + 1))) (Canon.nil (by kernel_rfl)) ?_
  exact inst_Len_j26_ok i_ i1 r3 (IntKind.wrap .i64 (n5 + 1)) r h
 | false =>
  replace h := ite_f hb_3 h
  refine Cf <| Runs.skip <| kS_nrm <| Runs.canon (inst_Len_h26 i1 r3 n5) (Canon.nil (by kernel_rfl)) ?_
  exact inst_Len_j26_ok i_ i1 r3 n5 r h
theorem inst_Len_ok (i_ : Inst) (r : Int) (h : inst_Len i_ = some r) : Runs L F31.body ⟨tmOf [.d (Inst.d i_)] 0, updW (fun _ => none) []⟩ (inst_Len_Q i_ r) := by
 unfold inst_Len at h
 refine Sq <| Ro <| Rc 2 [⟨.ptr [1] 0 0, [([1], some (.cells [.d (.bool i_.Lock), .d (.int .i64 i_.Rep), .d (.int .i64 i_.Seg), .d (.int .u8 i_.Op), .d (.int .i64 i_.Mod), .d (.int .i64 i_.Reg), .d (.int .i64 i_.RM), .d (.int .u16 i_.Disp), .d (.int .u16 i_.Imm), .d (.int .u16 i_.Sel)] 0))]⟩, ⟨.d (.int .i64 0), []⟩] <| Rd <| kS_nrm <| Sq <| Sq <| Ro <| Rc 1 [⟨.d (Inst.d i_), []⟩] ?_
 obtain ⟨r_1, hr_1, h⟩ := bind_s h
 have hc_1 := inst_May_L i_ r_1 hr_1
 refine Rt (some 7) (.callf 30) [] none [.d (Inst.d i_)] (.d (.bool r_1)) [] (cut_call (call_of (ws := []) (us := []) (by kernel_rfl) (by kernel_rfl) hc_1 (by kernel_rfl) (by kernel_rfl))) <| Rc 1 [⟨.d (.bool (!r_1)), []⟩] <| Rd <| kS_nrm ?_
 cases hb_1 : ((!r_1) : Bool) with
 | true =>
  replace h := ite_t hb_1 h
  refine Ct <| Sq <| Ro <| Rc 1 [⟨.d (.int .i64 0), []⟩] <| Rd <| kS_nrm <| Runs.ret <| kS_ret ?_
  obtain rfl := Option.some.inj h
  exact ⟨Out.ret_ne, (by kernel_rfl)⟩
 | false =>
  replace h := ite_f hb_1 h
  refine Cf <| Runs.skip <| kS_nrm <| Sq <| Ro <| Rc 1 [⟨.d (Inst.d i_), []⟩] ?_
  obtain ⟨r_2, hr_2, h⟩ := bind_s h
  have hc_2 := inst_Row_L i_ r_2 hr_2
  refine Rt (some 11) (.callf 60) [] none [.d (Inst.d i_)] (.tup [.d (Row.d r_2.1), .d (.bool r_2.2)]) [] (cut_call (call_of (ws := []) (us := []) (by kernel_rfl) (by kernel_rfl) hc_2 (by kernel_rfl) (by kernel_rfl))) <| Rc 6 [⟨.tup [.d (Row.d r_2.1), .d (.bool r_2.2)], []⟩, ⟨.d (Row.d r_2.1), []⟩, ⟨.d (.bool r_2.2), []⟩, ⟨.ptr [3] 0 0, [([3], some (.cells [.d (.int .i64 0), .d (.int .i64 0), .d (.int .i64 0), .d (.bool false)] 0))]⟩, ⟨.tup [], [([3], some (.cells [.d (.int .i64 r_2.1.Name), .d (.int .i64 r_2.1.A), .d (.int .i64 r_2.1.B), .d (.bool r_2.1.Mod)] 0))]⟩, ⟨.d (.bool r_2.2), []⟩] <| Rd <| kS_nrm <| Sq <| Ro <| Rc 1 [⟨.d (Row.d r_2.1), []⟩] ?_
  obtain ⟨r_3, hr_3, h⟩ := bind_s h
  have hc_3 := inst_Imms_L r_2.1 r_3 hr_3
  refine Rt (some 15) (.callf 64) [] none [.d (Row.d r_2.1)] (.d (.int .i64 r_3)) [] (cut_call (call_of (ws := []) (us := []) (by kernel_rfl) (by kernel_rfl) hc_3 (by kernel_rfl) (by kernel_rfl))) <| Rc 2 [⟨.d (.int .i64 (IntKind.wrap .i64 (1 + r_3))), []⟩, ⟨.d (.int .i64 (IntKind.wrap .i64 (1 + r_3))), []⟩] <| Rd <| kS_nrm <| Sq <| Sq <| Ro <| Rc 2 [⟨.ptr [1] 0 0, []⟩, ⟨.d (.bool i_.Lock), []⟩] <| Rd <| kS_nrm ?_
  cases hb_2 : (i_.Lock : Bool) with
  | true =>
   replace h := ite_t hb_2 h
   refine Ct <| Ro <| Rc 3 [⟨.d (.int .i64 (IntKind.wrap .i64 (1 + r_3))), []⟩, ⟨.d (.int .i64 (IntKind.wrap .i64 ((IntKind.wrap .i64 (1 + r_3)) + 1))), []⟩, ⟨.d (.int .i64 (IntKind.wrap .i64 ((IntKind.wrap .i64 (1 + r_3)) + 1))), []⟩] <| Rd <| kS_nrm <| Runs.canon (inst_Len_h20 ({ Lock := true, Rep := i_.Rep, Seg := i_.Seg, Op := i_.Op, Mod := i_.Mod, Reg := i_.Reg, RM := i_.RM, Disp := i_.Disp, Imm := i_.Imm, Sel := i_.Sel } : Inst) r_2.1 (IntKind.wrap .i64 ((IntKind.wrap .i64 (1 + r_3)) + 1))) (Canon.nil (by kernel_rfl)) ?_
   exact inst_Len_j20_ok i_ ({ Lock := true, Rep := i_.Rep, Seg := i_.Seg, Op := i_.Op, Mod := i_.Mod, Reg := i_.Reg, RM := i_.RM, Disp := i_.Disp, Imm := i_.Imm, Sel := i_.Sel } : Inst) r_2.1 (IntKind.wrap .i64 ((IntKind.wrap .i64 (1 + r_3)) + 1)) r h
  | false =>
   replace h := ite_f hb_2 h
   refine Cf <| Runs.skip <| kS_nrm <| Runs.canon (inst_Len_h20 ({ Lock := false, Rep := i_.Rep, Seg := i_.Seg, Op := i_.Op, Mod := i_.Mod, Reg := i_.Reg, RM := i_.RM, Disp := i_.Disp, Imm := i_.Imm, Sel := i_.Sel } : Inst) r_2.1 (IntKind.wrap .i64 (1 + r_3))) (Canon.nil (by kernel_rfl)) ?_
   exact inst_Len_j20_ok i_ ({ Lock := false, Rep := i_.Rep, Seg := i_.Seg, Op := i_.Op, Mod := i_.Mod, Reg := i_.Reg, RM := i_.RM, Disp := i_.Disp, Imm := i_.Imm, Sel := i_.Sel } : Inst) r_2.1 (IntKind.wrap .i64 (1 + r_3)) r h
theorem inst_Len_L (i_ : Inst) (r : Int) (h : inst_Len i_ = some r) : L 31 [.d (Inst.d i_)] = some (.d (.int .i64 r), [.d (Inst.d i_)]) := by
 obtain ⟨p, ⟨hne, hf⟩, hr⟩ := inst_Len_ok i_ r h
 obtain ⟨k, hk⟩ := run_of (F := F31) (args := [.d (Inst.d i_)]) (ap := [.d (Inst.d i_)]) (bx0 := updW (fun _ => none) []) rfl rfl (by kernel_rfl) ⟨p, ⟨hne, hf⟩, hr⟩
 exact lim_run (k := k) rfl hk
def inst_Tail_Q (i_ : Inst) (r : Int) (p : Out × St) : Prop := (∀ i, p.1 ≠ .exit i) ∧ finF F32 [.d (Inst.d i_)] p.2 = some (.d (.int .i64 r), [.d (Inst.d i_)])
theorem inst_Tail_ok (i_ : Inst) (r : Int) (h : inst_Tail i_ = some r) : Runs L F32.body ⟨tmOf [.d (Inst.d i_)] 0, updW (fun _ => none) []⟩ (inst_Tail_Q i_ r) := by
 unfold inst_Tail at h
 refine Sq <| Ro <| Rc 2 [⟨.ptr [1] 0 0, [([1], some (.cells [.d (.bool i_.Lock), .d (.int .i64 i_.Rep), .d (.int .i64 i_.Seg), .d (.int .u8 i_.Op), .d (.int .i64 i_.Mod), .d (.int .i64 i_.Reg), .d (.int .i64 i_.RM), .d (.int .u16 i_.Disp), .d (.int .u16 i_.Imm), .d (.int .u16 i_.Sel)] 0))]⟩, ⟨.d (.int .i64 0), []⟩] <| Rd <| kS_nrm <| Sq <| Ro <| Rc 1 [⟨.d (Inst.d i_), []⟩] ?_
 obtain ⟨r_1, hr_1, h⟩ := bind_s h
 have hc_1 := inst_Row_L i_ r_1 hr_1
 refine Rt (some 7) (.callf 60) [] none [.d (Inst.d i_)] (.tup [.d (Row.d r_1.1), .d (.bool r_1.2)]) [] (cut_call (call_of (ws := []) (us := []) (by kernel_rfl) (by kernel_rfl) hc_1 (by kernel_rfl) (by kernel_rfl))) <| Rc 6 [⟨.tup [.d (Row.d r_1.1), .d (.bool r_1.2)], []⟩, ⟨.d (Row.d r_1.1), []⟩, ⟨.d (.bool r_1.2), []⟩, ⟨.ptr [3] 0 0, [([3], some (.cells [.d (.int .i64 0), .d (.int .i64 0), .d (.int .i64 0), .d (.bool false)] 0))]⟩, ⟨.tup [], [([3], some (.cells [.d (.int .i64 r_1.1.Name), .d (.int .i64 r_1.1.A), .d (.int .i64 r_1.1.B), .d (.bool r_1.1.Mod)] 0))]⟩, ⟨.d (.bool r_1.2), []⟩] <| Rd <| kS_nrm <| Sq <| Sq <| Ro <| Rc 3 [⟨.d (.bool r_1.2), []⟩, ⟨.d (.bool (!r_1.2)), []⟩, ⟨.d (.bool (!r_1.2)), []⟩] ?_
 cases hb_1 : ((!r_1.2) : Bool) with
 | true =>
  replace h := ite_t hb_1 h
  refine Rc 4 [⟨.tup [], []⟩, ⟨.tup [], []⟩, ⟨.tup [], []⟩, ⟨.d (.bool true), []⟩] <| Rd <| kS_nrm <| Ct <| Sq <| Ro <| Rc 1 [⟨.d (.int .i64 0), []⟩] <| Rd <| kS_nrm <| Runs.ret <| kS_ret ?_
  obtain rfl := Option.some.inj h
  exact ⟨Out.ret_ne, (by kernel_rfl)⟩
 | false =>
  replace h := ite_f hb_1 h
  refine Rc 1 [⟨.d (Inst.d i_), []⟩] ?_
  obtain ⟨r_2, hr_2, h⟩ := bind_s h
  have hc_2 := inst_May_L i_ r_2 hr_2
  refine Rt (some 14) (.callf 30) [] none [.d (Inst.d i_)] (.d (.bool r_2)) [] (cut_call (call_of (ws := []) (us := []) (by kernel_rfl) (by kernel_rfl) hc_2 (by kernel_rfl) (by kernel_rfl))) <| Rc 2 [⟨.d (.bool (!r_2)), []⟩, ⟨.d (.bool (!r_2)), []⟩] <| Rd <| kS_nrm ?_
  cases hb_2 : ((!r_2) : Bool) with
  | true =>
   replace h := ite_t hb_2 h
   refine Ct <| Sq <| Ro <| Rc 1 [⟨.d (.int .i64 0), []⟩] <| Rd <| kS_nrm <| Runs.ret <| kS_ret ?_
   obtain rfl := Option.some.inj h
   exact ⟨Out.ret_ne, (by kernel_rfl)⟩
  | false =>
   replace h := ite_f hb_2 h
   refine Cf <| Runs.skip <| kS_nrm <| Sq <| Ro <| Rc 1 [⟨.d (Inst.d i_), []⟩] ?_
   obtain ⟨r_3, hr_3, h⟩ := bind_s h
   have hc_3 := inst_Len_L i_ r_3 hr_3
   refine Rt (some 18) (.callf 31) [] (some []) [.d (Inst.d i_)] (.d (.int .i64 r_3)) [] (cut_call (call_of (ws := []) (us := []) (by kernel_rfl) (by kernel_rfl) hc_3 (by kernel_rfl) (by kernel_rfl))) <| Rc 1 [⟨.d (Row.d r_1.1), []⟩] ?_
   obtain ⟨r_4, hr_4, h⟩ := bind_s h
   have hc_4 := inst_Imms_L r_1.1 r_4 hr_4
   refine Rt (some 20) (.callf 64) [] none [.d (Row.d r_1.1)] (.d (.int .i64 r_4)) [] (cut_call (call_of (ws := []) (us := []) (by kernel_rfl) (by kernel_rfl) hc_4 (by kernel_rfl) (by kernel_rfl))) <| Rc 2 [⟨.d (.int .i64 (IntKind.wrap .i64 (r_3 - r_4))), []⟩, ⟨.d (.int .i64 (IntKind.wrap .i64 (r_3 - r_4))), []⟩] <| Rd <| kS_nrm <| Runs.ret ?_
   obtain rfl := Option.some.inj h
   exact ⟨Out.ret_ne, (by kernel_rfl)⟩
theorem inst_Tail_L (i_ : Inst) (r : Int) (h : inst_Tail i_ = some r) : L 32 [.d (Inst.d i_)] = some (.d (.int .i64 r), [.d (Inst.d i_)]) := by
 obtain ⟨p, ⟨hne, hf⟩, hr⟩ := inst_Tail_ok i_ r h
 obtain ⟨k, hk⟩ := run_of (F := F32) (args := [.d (Inst.d i_)]) (ap := [.d (Inst.d i_)]) (bx0 := updW (fun _ => none) []) rfl rfl (by kernel_rfl) ⟨p, ⟨hne, hf⟩, hr⟩
 exact lim_run (k := k) rfl hk
def hansomlaw05_awake_Q  (r : Bool) (p : Out × St) : Prop := (∀ i, p.1 ≠ .exit i) ∧ finF F29 [] p.2 = some (.d (.bool r), [])
theorem hansomlaw05_awake_ok  (r : Bool) (h : hansomlaw05_awake = some r) : Runs L F29.body ⟨tmOf [] 0, updW (fun _ => none) []⟩ (hansomlaw05_awake_Q  r) := by
 unfold hansomlaw05_awake at h
 refine Sq <| Ro <| Rc 1 [⟨.d (.bool false), []⟩] <| Rd <| kS_nrm <| Sq <| Ro <| Rc 3 [⟨.d (.agg [.bool false, .int .i64 0, .int .i64 0, .int .u8 184, .int .i64 0, .int .i64 0, .int .i64 0, .int .u16 0, .int .u16 4660, .int .u16 0]), []⟩, ⟨.ptr [1] 0 0, [([1], some (.cells [.d (.bool false), .d (.int .i64 0), .d (.int .i64 0), .d (.int .u8 0), .d (.int .i64 0), .d (.int .i64 0), .d (.int .i64 0), .d (.int .u16 0), .d (.int .u16 0), .d (.int .u16 0)] 0))]⟩, ⟨.tup [], [([1], some (.cells [.d (.bool false), .d (.int .i64 0), .d (.int .i64 0), .d (.int .u8 184), .d (.int .i64 0), .d (.int .i64 0), .d (.int .i64 0), .d (.int .u16 0), .d (.int .u16 4660), .d (.int .u16 0)] 0))]⟩] <| Rd <| kS_nrm <| Sq <| Ro <| Rc 1 [⟨.d (.agg [.bool false, .int .i64 0, .int .i64 0, .int .u8 184, .int .i64 0, .int .i64 0, .int .i64 0, .int .u16 0, .int .u16 4660, .int .u16 0]), []⟩] ?_
 obtain ⟨r_1, hr_1, h⟩ := bind_s h
 have hc_1 := inst_May_L ({ Lock := false, Rep := 0, Seg := 0, Op := 184, Mod := 0, Reg := 0, RM := 0, Disp := 0, Imm := 4660, Sel := 0 } : Inst) r_1 hr_1
 refine Rt (some 4) (.callf 30) [] none [.d (.agg [.bool false, .int .i64 0, .int .i64 0, .int .u8 184, .int .i64 0, .int .i64 0, .int .i64 0, .int .u16 0, .int .u16 4660, .int .u16 0])] (.d (.bool r_1)) [] (cut_call (call_of (ws := []) (us := []) (by kernel_rfl) (by kernel_rfl) hc_1 (by kernel_rfl) (by kernel_rfl))) <| Rc 1 [⟨.d (.bool r_1), []⟩] ?_
 cases hb_1 : (r_1 : Bool) with
 | true =>
  replace h := ite_t hb_1 h
  refine Rc 1 [⟨.d (.agg [.bool false, .int .i64 0, .int .i64 0, .int .u8 184, .int .i64 0, .int .i64 0, .int .i64 0, .int .u16 0, .int .u16 4660, .int .u16 0]), []⟩] ?_
  obtain ⟨r_2, hr_2, h⟩ := bind_s h
  have hc_2 := inst_Len_L ({ Lock := false, Rep := 0, Seg := 0, Op := 184, Mod := 0, Reg := 0, RM := 0, Disp := 0, Imm := 4660, Sel := 0 } : Inst) r_2 hr_2
  refine Rt (some 7) (.callf 31) [] none [.d (.agg [.bool false, .int .i64 0, .int .i64 0, .int .u8 184, .int .i64 0, .int .i64 0, .int .i64 0, .int .u16 0, .int .u16 4660, .int .u16 0])] (.d (.int .i64 r_2)) [] (cut_call (call_of (ws := []) (us := []) (by kernel_rfl) (by kernel_rfl) hc_2 (by kernel_rfl) (by kernel_rfl))) <| Rc 3 [⟨.d (.bool (r_2 == 3)), []⟩, ⟨.d (.bool (r_2 == 3)), []⟩, ⟨.d (.bool (r_2 == 3)), []⟩] ?_
  cases hb_2 : ((r_2 == 3) : Bool) with
  | true =>
   replace h := ite_t hb_2 h
   refine Rc 1 [⟨.d (.agg [.bool false, .int .i64 0, .int .i64 0, .int .u8 184, .int .i64 0, .int .i64 0, .int .i64 0, .int .u16 0, .int .u16 4660, .int .u16 0]), []⟩] ?_
   obtain ⟨r_3, hr_3, h⟩ := bind_s h
   have hc_3 := inst_Tail_L ({ Lock := false, Rep := 0, Seg := 0, Op := 184, Mod := 0, Reg := 0, RM := 0, Disp := 0, Imm := 4660, Sel := 0 } : Inst) r_3 hr_3
   refine Rt (some 12) (.callf 32) [] none [.d (.agg [.bool false, .int .i64 0, .int .i64 0, .int .u8 184, .int .i64 0, .int .i64 0, .int .i64 0, .int .u16 0, .int .u16 4660, .int .u16 0])] (.d (.int .i64 r_3)) [] (cut_call (call_of (ws := []) (us := []) (by kernel_rfl) (by kernel_rfl) hc_3 (by kernel_rfl) (by kernel_rfl))) <| Rc 3 [⟨.d (.bool (r_3 == 1)), []⟩, ⟨.d (.bool (r_3 == 1)), []⟩, ⟨.d (.bool (r_3 == 1)), []⟩] ?_
   cases hb_3 : ((r_3 == 1) : Bool) with
   | true =>
    replace h := ite_t hb_3 h
    refine Rc 1 [⟨.d (.agg [.bool false, .int .i64 0, .int .i64 0, .int .u8 38, .int .i64 0, .int .i64 0, .int .i64 0, .int .u16 0, .int .u16 0, .int .u16 0]), []⟩] ?_
    obtain ⟨r_4, hr_4, h⟩ := bind_s h
    have hc_4 := inst_May_L ({ Lock := false, Rep := 0, Seg := 0, Op := 38, Mod := 0, Reg := 0, RM := 0, Disp := 0, Imm := 0, Sel := 0 } : Inst) r_4 hr_4
    refine Rt (some 17) (.callf 30) [] none [.d (.agg [.bool false, .int .i64 0, .int .i64 0, .int .u8 38, .int .i64 0, .int .i64 0, .int .i64 0, .int .u16 0, .int .u16 0, .int .u16 0])] (.d (.bool r_4)) [] (cut_call (call_of (ws := []) (us := []) (by kernel_rfl) (by kernel_rfl) hc_4 (by kernel_rfl) (by kernel_rfl))) <| Rc 3 [⟨.d (.bool (!r_4)), []⟩, ⟨.d (.bool (!r_4)), []⟩, ⟨.d (.bool (!r_4)), []⟩] ?_
    cases hb_4 : ((!r_4) : Bool) with
    | true =>
     replace h := ite_t hb_4 h
     obtain ⟨r_5, hr_5, h⟩ := bind_s h
     have hc_5 := inst_Disps_L 0 6 r_5 hr_5
     refine Rt (some 21) (.callf 59) [] none [.d (.int .i64 0), .d (.int .i64 6)] (.d (.int .i64 r_5)) [] (cut_call (call_of (ws := []) (us := []) (by kernel_rfl) (by kernel_rfl) hc_5 (by kernel_rfl) (by kernel_rfl))) <| Rc 3 [⟨.d (.bool (r_5 == 2)), []⟩, ⟨.d (.bool (r_5 == 2)), []⟩, ⟨.d (.bool (r_5 == 2)), []⟩] <| Rd <| kS_nrm <| Runs.ret ?_
     obtain rfl := Option.some.inj h
     exact ⟨Out.ret_ne, (by kernel_rfl)⟩
    | false =>
     replace h := ite_f hb_4 h
     refine Rc 4 [⟨.tup [], []⟩, ⟨.tup [], []⟩, ⟨.d (.bool false), []⟩, ⟨.d (.bool false), []⟩] <| Rd <| kS_nrm <| Runs.ret ?_
     obtain rfl := Option.some.inj h
     exact ⟨Out.ret_ne, (by kernel_rfl)⟩
   | false =>
    replace h := ite_f hb_3 h
    refine Rc 9 [⟨.tup [], []⟩, ⟨.tup [], []⟩, ⟨.tup [], []⟩, ⟨.d (.bool false), []⟩, ⟨.d (.bool false), []⟩, ⟨.tup [], []⟩, ⟨.tup [], []⟩, ⟨.d (.bool false), []⟩, ⟨.d (.bool false), []⟩] <| Rd <| kS_nrm <| Runs.ret ?_
    obtain rfl := Option.some.inj h
    exact ⟨Out.ret_ne, (by kernel_rfl)⟩
  | false =>
   replace h := ite_f hb_2 h
   refine Rc 14 [⟨.tup [], []⟩, ⟨.tup [], []⟩, ⟨.tup [], []⟩, ⟨.d (.bool false), []⟩, ⟨.d (.bool false), []⟩, ⟨.tup [], []⟩, ⟨.tup [], []⟩, ⟨.tup [], []⟩, ⟨.d (.bool false), []⟩, ⟨.d (.bool false), []⟩, ⟨.tup [], []⟩, ⟨.tup [], []⟩, ⟨.d (.bool false), []⟩, ⟨.d (.bool false), []⟩] <| Rd <| kS_nrm <| Runs.ret ?_
   obtain rfl := Option.some.inj h
   exact ⟨Out.ret_ne, (by kernel_rfl)⟩
 | false =>
  replace h := ite_f hb_1 h
  refine Rc 19 [⟨.tup [], []⟩, ⟨.tup [], []⟩, ⟨.tup [], []⟩, ⟨.d (.bool false), []⟩, ⟨.d (.bool false), []⟩, ⟨.tup [], []⟩, ⟨.tup [], []⟩, ⟨.tup [], []⟩, ⟨.d (.bool false), []⟩, ⟨.d (.bool false), []⟩, ⟨.tup [], []⟩, ⟨.tup [], []⟩, ⟨.tup [], []⟩, ⟨.d (.bool false), []⟩, ⟨.d (.bool false), []⟩, ⟨.tup [], []⟩, ⟨.tup [], []⟩, ⟨.d (.bool false), []⟩, ⟨.d (.bool false), []⟩] <| Rd <| kS_nrm <| Runs.ret ?_
  obtain rfl := Option.some.inj h
  exact ⟨Out.ret_ne, (by kernel_rfl)⟩
theorem hansomlaw05_awake_L  (r : Bool) (h : hansomlaw05_awake = some r) : L 29 [] = some (.d (.bool r), []) := by
 obtain ⟨p, ⟨hne, hf⟩, hr⟩ := hansomlaw05_awake_ok  r h
 obtain ⟨k, hk⟩ := run_of (F := F29) (args := []) (ap := []) (bx0 := updW (fun _ => none) []) rfl rfl (by kernel_rfl) ⟨p, ⟨hne, hf⟩, hr⟩
 exact lim_run (k := k) rfl hk
def inst_Ahead_h10 (i1 : Inst) (n3 : Int) : St := ⟨tab [(1, .ptr [1] 0 0), (3, .d (.int .i64 n3))], tabB [([1], some (.cells [.d (.bool i1.Lock), .d (.int .i64 i1.Rep), .d (.int .i64 i1.Seg), .d (.int .u8 i1.Op), .d (.int .i64 i1.Mod), .d (.int .i64 i1.Reg), .d (.int .i64 i1.RM), .d (.int .u16 i1.Disp), .d (.int .u16 i1.Imm), .d (.int .u16 i1.Sel)] 0))]⟩
def inst_Ahead_Q (i_ : Inst) (r : Int) (p : Out × St) : Prop := (∀ i, p.1 ≠ .exit i) ∧ finF F33 [.d (Inst.d i_)] p.2 = some (.d (.int .i64 r), [.d (Inst.d i_)])
theorem inst_Ahead_j10_ok (i_ : Inst) (i1 : Inst) (n3 : Int) (r : Int) (h : inst_Ahead_j10 i1 n3 = some r) : Runs L F33b10 (inst_Ahead_h10 i1 n3) (inst_Ahead_Q i_ r) := by
 unfold inst_Ahead_j10 at h
 refine Sq <| Sq <| Ro <| Rc 3 [⟨.ptr [1] 0 1, []⟩, ⟨.d (.int .i64 i1.Rep), []⟩, ⟨.d (.bool (decide (i1.Rep > 0))), []⟩] <| Rd <| kS_nrm ?_
 cases hb_2 : ((decide (i1.Rep > 0)) : Bool) with
 | true =>
  replace h := ite_t hb_2 h
  refine Ct <| Ro <| Rc 3 [⟨.d (.int .i64 n3), []⟩, ⟨.d (.int .i64 (IntKind.wrap .i64 (n3 + 1))), []⟩, ⟨.d (.int .i64 (IntKind.wrap .i64 (n3 + 1))), []⟩] <| Rd <| kS_nrm <| Sq <| Sq <| Ro <| Rc 3 [⟨.ptr [1] 0 2, []⟩, ⟨.d (.int .i64 i1.Seg), []⟩, ⟨.d (.bool (decide (i1.Seg > 0))), []⟩] <| Rd <| kS_nrm ?_
  cases hb_3 : ((decide (i1.Seg > 0)) : Bool) with
  | true =>
   replace h := ite_t hb_3 h
   refine Ct <| Ro <| Rc 3 [⟨.d (.int .i64 (IntKind.wrap .i64 (n3 + 1))), []⟩, ⟨.d (.int .i64 (IntKind.wrap .i64 ((IntKind.wrap .i64 (n3 + 1)) + 1))), []⟩, ⟨.d (.int .i64 (IntKind.wrap .i64 ((IntKind.wrap .i64 (n3 + 1)) + 1))), []⟩] <| Rd <| kS_nrm <| Sq <| Ro <| Rc 2 [⟨.d (.int .i64 (IntKind.wrap .i64 ((IntKind.wrap .i64 (n3 + 1)) + 1))), []⟩, ⟨.d (.int .i64 (IntKind.wrap .i64 ((IntKind.wrap .i64 (n3 + 1)) + 1))), []⟩] <| Rd <| kS_nrm <| Runs.ret ?_
   obtain rfl := Option.some.inj h
   exact ⟨Out.ret_ne, (by kernel_rfl)⟩
  | false =>
   replace h := ite_f hb_3 h
   refine Cf <| Runs.skip <| kS_nrm <| Sq <| Ro <| Rc 2 [⟨.d (.int .i64 (IntKind.wrap .i64 (n3 + 1))), []⟩, ⟨.d (.int .i64 (IntKind.wrap .i64 (n3 + 1))), []⟩] <| Rd <| kS_nrm <| Runs.ret ?_
   obtain rfl := Option.some.inj h
   exact ⟨Out.ret_ne, (by kernel_rfl)⟩
 | false =>
  replace h := ite_f hb_2 h
  refine Cf <| Runs.skip <| kS_nrm <| Sq <| Sq <| Ro <| Rc 3 [⟨.ptr [1] 0 2, []⟩, ⟨.d (.int .i64 i1.Seg), []⟩, ⟨.d (.bool (decide (i1.Seg > 0))), []⟩] <| Rd <| kS_nrm ?_
  cases hb_4 : ((decide (i1.Seg > 0)) : Bool) with
  | true =>
   replace h := ite_t hb_4 h
   refine Ct <| Ro <| Rc 3 [⟨.d (.int .i64 n3), []⟩, ⟨.d (.int .i64 (IntKind.wrap .i64 (n3 + 1))), []⟩, ⟨.d (.int .i64 (IntKind.wrap .i64 (n3 + 1))), []⟩] <| Rd <| kS_nrm <| Sq <| Ro <| Rc 2 [⟨.d (.int .i64 (IntKind.wrap .i64 (n3 + 1))), []⟩, ⟨.d (.int .i64 (IntKind.wrap .i64 (n3 + 1))), []⟩] <| Rd <| kS_nrm <| Runs.ret ?_
   obtain rfl := Option.some.inj h
   exact ⟨Out.ret_ne, (by kernel_rfl)⟩
  | false =>
   replace h := ite_f hb_4 h
   refine Cf <| Runs.skip <| kS_nrm <| Sq <| Ro <| Rc 2 [⟨.d (.int .i64 n3), []⟩, ⟨.d (.int .i64 n3), []⟩] <| Rd <| kS_nrm <| Runs.ret ?_
   obtain rfl := Option.some.inj h
   exact ⟨Out.ret_ne, (by kernel_rfl)⟩
theorem inst_Ahead_ok (i_ : Inst) (r : Int) (h : inst_Ahead i_ = some r) : Runs L F33.body ⟨tmOf [.d (Inst.d i_)] 0, updW (fun _ => none) []⟩ (inst_Ahead_Q i_ r) := by
 unfold inst_Ahead at h
 refine Sq <| Ro <| Rc 2 [⟨.ptr [1] 0 0, [([1], some (.cells [.d (.bool i_.Lock), .d (.int .i64 i_.Rep), .d (.int .i64 i_.Seg), .d (.int .u8 i_.Op), .d (.int .i64 i_.Mod), .d (.int .i64 i_.Reg), .d (.int .i64 i_.RM), .d (.int .u16 i_.Disp), .d (.int .u16 i_.Imm), .d (.int .u16 i_.Sel)] 0))]⟩, ⟨.d (.int .i64 0), []⟩] <| Rd <| kS_nrm <| Sq <| Ro <| Rc 1 [⟨.d (.int .i64 0), []⟩] <| Rd <| kS_nrm <| Sq <| Sq <| Ro <| Rc 2 [⟨.ptr [1] 0 0, []⟩, ⟨.d (.bool i_.Lock), []⟩] <| Rd <| kS_nrm ?_
 cases hb_1 : (i_.Lock : Bool) with
 | true =>
  replace h := ite_t hb_1 h
  refine Ct <| Ro <| Rc 3 [⟨.d (.int .i64 0), []⟩, ⟨.d (.int .i64 (IntKind.wrap .i64 (0 + 1))), []⟩, ⟨.d (.int .i64 (IntKind.wrap .i64 (0 + 1))), []⟩] <| Rd <| kS_nrm <| Runs.canon (inst_Ahead_h10 ({ Lock := true, Rep := i_.Rep, Seg := i_.Seg, Op := i_.Op, Mod := i_.Mod, Reg := i_.Reg, RM := i_.RM, Disp := i_.Disp, Imm := i_.Imm, Sel := i_.Sel } : Inst) (IntKind.wrap .i64 (0 + 1))) (Canon.nil (by kernel_rfl)) ?_
  exact inst_Ahead_j10_ok i_ ({ Lock := true, Rep := i_.Rep, Seg := i_.Seg, Op := i_.Op, Mod := i_.Mod, Reg := i_.Reg, RM := i_.RM, Disp := i_.Disp, Imm := i_.Imm, Sel := i_.Sel } : Inst) (IntKind.wrap .i64 (0 + 1)) r h
 | false =>
  replace h := ite_f hb_1 h
  refine Cf <| Runs.skip <| kS_nrm <| Runs.canon (inst_Ahead_h10 ({ Lock := false, Rep := i_.Rep, Seg := i_.Seg, Op := i_.Op, Mod := i_.Mod, Reg := i_.Reg, RM := i_.RM, Disp := i_.Disp, Imm := i_.Imm, Sel := i_.Sel } : Inst) 0) (Canon.nil (by kernel_rfl)) ?_
  exact inst_Ahead_j10_ok i_ ({ Lock := false, Rep := i_.Rep, Seg := i_.Seg, Op := i_.Op, Mod := i_.Mod, Reg := i_.Reg, RM := i_.RM, Disp := i_.Disp, Imm := i_.Imm, Sel := i_.Sel } : Inst) 0 r h
theorem inst_Ahead_L (i_ : Inst) (r : Int) (h : inst_Ahead i_ = some r) : L 33 [.d (Inst.d i_)] = some (.d (.int .i64 r), [.d (Inst.d i_)]) := by
 obtain ⟨p, ⟨hne, hf⟩, hr⟩ := inst_Ahead_ok i_ r h
 obtain ⟨k, hk⟩ := run_of (F := F33) (args := [.d (Inst.d i_)]) (ap := [.d (Inst.d i_)]) (bx0 := updW (fun _ => none) []) rfl rfl (by kernel_rfl) ⟨p, ⟨hne, hf⟩, hr⟩
 exact lim_run (k := k) rfl hk
def hansomlaw05_InstNear_Q (x_ : Inst) (r : Bool) (p : Out × St) : Prop := (∀ i, p.1 ≠ .exit i) ∧ finF F7 [.d (Inst.d x_)] p.2 = some (.d (.bool r), [.d (Inst.d x_)])
theorem hansomlaw05_InstNear_ok (x_ : Inst) (r : Bool) (h : hansomlaw05_InstNear x_ = some r) : Runs L F7.body ⟨tmOf [.d (Inst.d x_)] 0, updW (fun _ => none) []⟩ (hansomlaw05_InstNear_Q x_ r) := by
 unfold hansomlaw05_InstNear at h
 refine Sq <| Ro <| Rc 2 [⟨.ptr [1] 0 0, [([1], some (.cells [.d (.bool x_.Lock), .d (.int .i64 x_.Rep), .d (.int .i64 x_.Seg), .d (.int .u8 x_.Op), .d (.int .i64 x_.Mod), .d (.int .i64 x_.Reg), .d (.int .i64 x_.RM), .d (.int .u16 x_.Disp), .d (.int .u16 x_.Imm), .d (.int .u16 x_.Sel)] 0))]⟩, ⟨.d (.bool false), []⟩] <| Rd <| kS_nrm <| Sq <| Ro <| Rc 1 [⟨.d (Inst.d x_), []⟩] ?_
 obtain ⟨r_1, hr_1, h⟩ := bind_s h
 have hc_1 := hansomref05_Near_L x_ r_1 hr_1
 refine Rt (some 6) (.callf 24) [] none [.d (Inst.d x_)] (.d (Inst.d r_1)) [] (cut_call (call_of (ws := []) (us := []) (by kernel_rfl) (by kernel_rfl) hc_1 (by kernel_rfl) (by kernel_rfl))) <| Rc 2 [⟨.ptr [3] 0 0, [([3], some (.cells [.d (.bool false), .d (.int .i64 0), .d (.int .i64 0), .d (.int .u8 0), .d (.int .i64 0), .d (.int .i64 0), .d (.int .i64 0), .d (.int .u16 0), .d (.int .u16 0), .d (.int .u16 0)] 0))]⟩, ⟨.tup [], [([3], some (.cells [.d (.bool r_1.Lock), .d (.int .i64 r_1.Rep), .d (.int .i64 r_1.Seg), .d (.int .u8 r_1.Op), .d (.int .i64 r_1.Mod), .d (.int .i64 r_1.Reg), .d (.int .i64 r_1.RM), .d (.int .u16 r_1.Disp), .d (.int .u16 r_1.Imm), .d (.int .u16 r_1.Sel)] 0))]⟩] <| Rd <| kS_nrm <| Sq <| Ro <| Rc 1 [⟨.d (Inst.d r_1), []⟩] ?_
 obtain ⟨r_2, hr_2, h⟩ := bind_s h
 have hc_2 := inst_Len_L r_1 r_2 hr_2
 refine Rt (some 8) (.callf 31) [] none [.d (Inst.d r_1)] (.d (.int .i64 r_2)) [] (cut_call (call_of (ws := []) (us := []) (by kernel_rfl) (by kernel_rfl) hc_2 (by kernel_rfl) (by kernel_rfl))) <| Rc 1 [⟨.d (.int .i64 r_2), []⟩] <| Rd <| kS_nrm <| Sq <| Ro ?_
 obtain ⟨r_3, hr_3, h⟩ := bind_s h
 have hc_3 := hansomlaw05_awake_L r_3 hr_3
 refine Rt (some 9) (.callf 29) [] none [] (.d (.bool r_3)) [] (cut_call (call_of (ws := []) (us := []) (by kernel_rfl) (by kernel_rfl) hc_3 (by kernel_rfl) (by kernel_rfl))) <| Rc 1 [⟨.d (.bool r_3), []⟩] ?_
 cases hb_1 : (r_3 : Bool) with
 | true =>
  replace h := ite_t hb_1 h
  refine Rc 1 [⟨.d (Inst.d r_1), []⟩] ?_
  obtain ⟨r_4, hr_4, h⟩ := bind_s h
  have hc_4 := inst_May_L r_1 r_4 hr_4
  refine Rt (some 12) (.callf 30) [] none [.d (Inst.d r_1)] (.d (.bool r_4)) [] (cut_call (call_of (ws := []) (us := []) (by kernel_rfl) (by kernel_rfl) hc_4 (by kernel_rfl) (by kernel_rfl))) <| Rc 2 [⟨.d (.bool r_4), []⟩, ⟨.d (.bool r_4), []⟩] ?_
  cases hb_2 : (r_4 : Bool) with
  | true =>
   replace h := ite_t hb_2 h
   refine Rc 4 [⟨.d (.int .i64 r_2), []⟩, ⟨.d (.bool (decide (r_2 ≥ 1))), []⟩, ⟨.d (.bool (decide (r_2 ≥ 1))), []⟩, ⟨.d (.bool (decide (r_2 ≥ 1))), []⟩] ?_
   cases hb_3 : ((decide (r_2 ≥ 1)) : Bool) with
   | true =>
    replace h := ite_t hb_3 h
    refine Rc 4 [⟨.d (.int .i64 r_2), []⟩, ⟨.d (.bool (decide (r_2 ≤ 9))), []⟩, ⟨.d (.bool (decide (r_2 ≤ 9))), []⟩, ⟨.d (.bool (decide (r_2 ≤ 9))), []⟩] ?_
    cases hb_4 : ((decide (r_2 ≤ 9)) : Bool) with
    | true =>
     replace h := ite_t hb_4 h
     refine Rc 1 [⟨.d (Inst.d r_1), []⟩] ?_
     obtain ⟨r_5, hr_5, h⟩ := bind_s h
     have hc_5 := inst_Tail_L r_1 r_5 hr_5
     refine Rt (some 24) (.callf 32) [] none [.d (Inst.d r_1)] (.d (.int .i64 r_5)) [] (cut_call (call_of (ws := []) (us := []) (by kernel_rfl) (by kernel_rfl) hc_5 (by kernel_rfl) (by kernel_rfl))) <| Rc 4 [⟨.d (.int .i64 r_2), []⟩, ⟨.d (.bool (decide (r_5 ≤ r_2))), []⟩, ⟨.d (.bool (decide (r_5 ≤ r_2))), []⟩, ⟨.d (.bool (decide (r_5 ≤ r_2))), []⟩] ?_
     cases hb_5 : ((decide (r_5 ≤ r_2)) : Bool) with
     | true =>
      replace h := ite_t hb_5 h
      refine Rc 1 [⟨.d (Inst.d r_1), []⟩] ?_
      obtain ⟨r_6, hr_6, h⟩ := bind_s h
      have hc_6 := inst_Ahead_L r_1 r_6 hr_6
      refine Rt (some 30) (.callf 33) [] (some []) [.d (Inst.d r_1)] (.d (.int .i64 r_6)) [] (cut_call (call_of (ws := []) (us := []) (by kernel_rfl) (by kernel_rfl) hc_6 (by kernel_rfl) (by kernel_rfl))) <| Rc 1 [⟨.d (Inst.d r_1), []⟩] ?_
      obtain ⟨r_7, hr_7, h⟩ := bind_s h
      have hc_7 := inst_Tail_L r_1 r_7 hr_7
      refine Rt (some 32) (.callf 32) [] none [.d (Inst.d r_1)] (.d (.int .i64 r_7)) [] (cut_call (call_of (ws := []) (us := []) (by kernel_rfl) (by kernel_rfl) hc_7 (by kernel_rfl) (by kernel_rfl))) <| Rc 4 [⟨.d (.int .i64 (IntKind.wrap .i64 (r_7 + 1))), []⟩, ⟨.d (.bool (decide (r_6 < (IntKind.wrap .i64 (r_7 + 1))))), []⟩, ⟨.d (.bool (decide (r_6 < (IntKind.wrap .i64 (r_7 + 1))))), []⟩, ⟨.d (.bool (decide (r_6 < (IntKind.wrap .i64 (r_7 + 1))))), []⟩] <| Rd <| kS_nrm <| Runs.ret ?_
      obtain rfl := Option.some.inj h
      exact ⟨Out.ret_ne, (by kernel_rfl)⟩
     | false =>
      replace h := ite_f hb_5 h
      refine Rc 8 [⟨.tup [], []⟩, ⟨.tup [], []⟩, ⟨.tup [], []⟩, ⟨.tup [], []⟩, ⟨.tup [], []⟩, ⟨.tup [], []⟩, ⟨.d (.bool false), []⟩, ⟨.d (.bool false), []⟩] <| Rd <| kS_nrm <| Runs.ret ?_
      obtain rfl := Option.some.inj h
      exact ⟨Out.ret_ne, (by kernel_rfl)⟩
    | false =>
     replace h := ite_f hb_4 h
     refine Rc 14 [⟨.tup [], []⟩, ⟨.tup [], []⟩, ⟨.tup [], []⟩, ⟨.tup [], []⟩, ⟨.d (.bool false), []⟩, ⟨.d (.bool false), []⟩, ⟨.tup [], []⟩, ⟨.tup [], []⟩, ⟨.tup [], []⟩, ⟨.tup [], []⟩, ⟨.tup [], []⟩, ⟨.tup [], []⟩, ⟨.d (.bool false), []⟩, ⟨.d (.bool false), []⟩] <| Rd <| kS_nrm <| Runs.ret ?_
     obtain rfl := Option.some.inj h
     exact ⟨Out.ret_ne, (by kernel_rfl)⟩
   | false =>
    replace h := ite_f hb_3 h
    refine Rc 18 [⟨.tup [], []⟩, ⟨.tup [], []⟩, ⟨.d (.bool false), []⟩, ⟨.d (.bool false), []⟩, ⟨.tup [], []⟩, ⟨.tup [], []⟩, ⟨.tup [], []⟩, ⟨.tup [], []⟩, ⟨.d (.bool false), []⟩, ⟨.d (.bool false), []⟩, ⟨.tup [], []⟩, ⟨.tup [], []⟩, ⟨.tup [], []⟩, ⟨.tup [], []⟩, ⟨.tup [], []⟩, ⟨.tup [], []⟩, ⟨.d (.bool false), []⟩, ⟨.d (.bool false), []⟩] <| Rd <| kS_nrm <| Runs.ret ?_
    obtain rfl := Option.some.inj h
    exact ⟨Out.ret_ne, (by kernel_rfl)⟩
  | false =>
   replace h := ite_f hb_2 h
   refine Rc 22 [⟨.tup [], []⟩, ⟨.tup [], []⟩, ⟨.d (.bool false), []⟩, ⟨.d (.bool false), []⟩, ⟨.tup [], []⟩, ⟨.tup [], []⟩, ⟨.d (.bool false), []⟩, ⟨.d (.bool false), []⟩, ⟨.tup [], []⟩, ⟨.tup [], []⟩, ⟨.tup [], []⟩, ⟨.tup [], []⟩, ⟨.d (.bool false), []⟩, ⟨.d (.bool false), []⟩, ⟨.tup [], []⟩, ⟨.tup [], []⟩, ⟨.tup [], []⟩, ⟨.tup [], []⟩, ⟨.tup [], []⟩, ⟨.tup [], []⟩, ⟨.d (.bool false), []⟩, ⟨.d (.bool false), []⟩] <| Rd <| kS_nrm <| Runs.ret ?_
   obtain rfl := Option.some.inj h
   exact ⟨Out.ret_ne, (by kernel_rfl)⟩
 | false =>
  replace h := ite_f hb_1 h
  refine Rc 26 [⟨.tup [], []⟩, ⟨.tup [], []⟩, ⟨.d (.bool false), []⟩, ⟨.d (.bool false), []⟩, ⟨.tup [], []⟩, ⟨.tup [], []⟩, ⟨.d (.bool false), []⟩, ⟨.d (.bool false), []⟩, ⟨.tup [], []⟩, ⟨.tup [], []⟩, ⟨.d (.bool false), []⟩, ⟨.d (.bool false), []⟩, ⟨.tup [], []⟩, ⟨.tup [], []⟩, ⟨.tup [], []⟩, ⟨.tup [], []⟩, ⟨.d (.bool false), []⟩, ⟨.d (.bool false), []⟩, ⟨.tup [], []⟩, ⟨.tup [], []⟩, ⟨.tup [], []⟩, ⟨.tup [], []⟩, ⟨.tup [], []⟩, ⟨.tup [], []⟩, ⟨.d (.bool false), []⟩, ⟨.d (.bool false), []⟩] <| Rd <| kS_nrm <| Runs.ret ?_
  obtain rfl := Option.some.inj h
  exact ⟨Out.ret_ne, (by kernel_rfl)⟩
theorem hansomlaw05_InstNear_L (x_ : Inst) (r : Bool) (h : hansomlaw05_InstNear x_ = some r) : L 7 [.d (Inst.d x_)] = some (.d (.bool r), [.d (Inst.d x_)]) := by
 obtain ⟨p, ⟨hne, hf⟩, hr⟩ := hansomlaw05_InstNear_ok x_ r h
 obtain ⟨k, hk⟩ := run_of (F := F7) (args := [.d (Inst.d x_)]) (ap := [.d (Inst.d x_)]) (bx0 := updW (fun _ => none) []) rfl rfl (by kernel_rfl) ⟨p, ⟨hne, hf⟩, hr⟩
 exact lim_run (k := k) rfl hk
def hansomref05_two_Q (w_ : Int) (r : (List Int)) (p : Out × St) : Prop := (∀ i, p.1 ≠ .exit i) ∧ finF F58 [.d (.int .u16 w_)] p.2 = some (.d (.sl (List.map (D.int .u8) r)), [.d (.int .u16 w_)])
theorem hansomref05_two_ok (w_ : Int) (r : (List Int)) (h : hansomref05_two w_ = some r) : Runs L F58.body ⟨tmOf [.d (.int .u16 w_)] 0, updW (fun _ => none) []⟩ (hansomref05_two_Q w_ r) := by
 unfold hansomref05_two at h
 refine Sq <| Ro <| Rc 1 [⟨.nils, []⟩] <| Rd <| kS_nrm <| Sq <| Ro <| Rc 8 [⟨.d (.int .u16 w_), []⟩, ⟨.d (.int .u16 (Int.tmod w_ 256)), []⟩, ⟨.d (.int .u8 (IntKind.wrap .u8 (Int.tmod w_ 256))), []⟩, ⟨.d (.int .u16 w_), []⟩, ⟨.d (.int .u16 (IntKind.wrap .u16 (Int.tdiv w_ 256))), []⟩, ⟨.d (.int .u8 (IntKind.wrap .u8 (IntKind.wrap .u16 (Int.tdiv w_ 256)))), []⟩, ⟨.ref [9] 0 0 (List.map (D.int .u8) ([(IntKind.wrap .u8 (Int.tmod w_ 256)), (IntKind.wrap .u8 (IntKind.wrap .u16 (Int.tdiv w_ 256)))] : List Int)).length 1, [([9], some (.arr (List.map (D.int .u8) ([(IntKind.wrap .u8 (Int.tmod w_ 256)), (IntKind.wrap .u8 (IntKind.wrap .u16 (Int.tdiv w_ 256)))] : List Int)) 0 false))]⟩, ⟨.ref [9] 0 0 (List.map (D.int .u8) ([(IntKind.wrap .u8 (Int.tmod w_ 256)), (IntKind.wrap .u8 (IntKind.wrap .u16 (Int.tdiv w_ 256)))] : List Int)).length 1, []⟩] <| Rd <| kS_nrm <| Sq <| Runs.gcons (frz_ref (e := (D.int .u8)) (l := ([(IntKind.wrap .u8 (Int.tmod w_ 256)), (IntKind.wrap .u8 (IntKind.wrap .u16 (Int.tdiv w_ 256)))] : List Int)) (id := [9]) (v := 0) (n := 1) (fz := false) (by kernel_rfl) (by kernel_rfl) rfl) <| Runs.gnil <| kS_nrm <| Runs.ret ?_
 obtain rfl := Option.some.inj h
 exact ⟨Out.ret_ne, (by kernel_rfl)⟩
theorem hansomref05_two_L (w_ : Int) (r : (List Int)) (h : hansomref05_two w_ = some r) : L 58 [.d (.int .u16 w_)] = some (.d (.sl (List.map (D.int .u8) r)), [.d (.int .u16 w_)]) := by
 obtain ⟨p, ⟨hne, hf⟩, hr⟩ := hansomref05_two_ok w_ r h
 obtain ⟨k, hk⟩ := run_of (F := F58) (args := [.d (.int .u16 w_)]) (ap := [.d (.int .u16 w_)]) (bx0 := updW (fun _ => none) []) rfl rfl (by kernel_rfl) ⟨p, ⟨hne, hf⟩, hr⟩
 exact lim_run (k := k) rfl hk
def hansomref05_Imms_Q (r_ : Row) (r : Int) (p : Out × St) : Prop := (∀ i, p.1 ≠ .exit i) ∧ finF F28 [.d (Row.d r_)] p.2 = some (.d (.int .i64 r), [.d (Row.d r_)])
theorem hansomref05_Imms_ok (r_ : Row) (r : Int) (h : hansomref05_Imms r_ = some r) : Runs L F28.body ⟨tmOf [.d (Row.d r_)] 0, updW (fun _ => none) []⟩ (hansomref05_Imms_Q r_ r) := by
 unfold hansomref05_Imms at h
 refine Sq <| Ro <| Rc 2 [⟨.ptr [1] 0 0, [([1], some (.cells [.d (.int .i64 r_.Name), .d (.int .i64 r_.A), .d (.int .i64 r_.B), .d (.bool r_.Mod)] 0))]⟩, ⟨.d (.int .i64 0), []⟩] <| Rd <| kS_nrm <| Sq <| Ro <| Rc 2 [⟨.ptr [1] 0 1, []⟩, ⟨.d (.int .i64 r_.A), []⟩] ?_
 obtain ⟨r_1, hr_1, h⟩ := bind_s h
 have hc_1 := hansomref04_Bytes_L r_.A r_1 hr_1
 refine Rt (some 5) (.callf 18) [] (some []) [.d (.int .i64 r_.A)] (.d (.int .i64 r_1)) [] (cut_call (call_of (ws := []) (us := []) (by kernel_rfl) (by kernel_rfl) hc_1 (by kernel_rfl) (by kernel_rfl))) <| Rc 2 [⟨.ptr [1] 0 2, []⟩, ⟨.d (.int .i64 r_.B), []⟩] ?_
 obtain ⟨r_2, hr_2, h⟩ := bind_s h
 have hc_2 := hansomref04_Bytes_L r_.B r_2 hr_2
 refine Rt (some 8) (.callf 18) [] none [.d (.int .i64 r_.B)] (.d (.int .i64 r_2)) [] (cut_call (call_of (ws := []) (us := []) (by kernel_rfl) (by kernel_rfl) hc_2 (by kernel_rfl) (by kernel_rfl))) <| Rc 2 [⟨.d (.int .i64 (IntKind.wrap .i64 (r_1 + r_2))), []⟩, ⟨.d (.int .i64 (IntKind.wrap .i64 (r_1 + r_2))), []⟩] <| Rd <| kS_nrm <| Runs.ret ?_
 obtain rfl := Option.some.inj h
 exact ⟨Out.ret_ne, (by kernel_rfl)⟩
theorem hansomref05_Imms_L (r_ : Row) (r : Int) (h : hansomref05_Imms r_ = some r) : L 28 [.d (Row.d r_)] = some (.d (.int .i64 r), [.d (Row.d r_)]) := by
 obtain ⟨p, ⟨hne, hf⟩, hr⟩ := hansomref05_Imms_ok r_ r h
 obtain ⟨k, hk⟩ := run_of (F := F28) (args := [.d (Row.d r_)]) (ap := [.d (Row.d r_)]) (bx0 := updW (fun _ => none) []) rfl rfl (by kernel_rfl) ⟨p, ⟨hne, hf⟩, hr⟩
 exact lim_run (k := k) rfl hk
def hansomref05_Put_h12 (i1 : Inst) (r3 : Row) (b_12 : (List Int)) (v_12 : Nat) : St := ⟨tab [(1, .ptr [1] 0 0), (3, .ptr [3] 0 0), (5, .ref [12] v_12 0 (List.map (D.int .u8) b_12).length 1)], tabB [([1], some (.cells [.d (.bool i1.Lock), .d (.int .i64 i1.Rep), .d (.int .i64 i1.Seg), .d (.int .u8 i1.Op), .d (.int .i64 i1.Mod), .d (.int .i64 i1.Reg), .d (.int .i64 i1.RM), .d (.int .u16 i1.Disp), .d (.int .u16 i1.Imm), .d (.int .u16 i1.Sel)] 0)), ([3], some (.cells [.d (.int .i64 r3.Name), .d (.int .i64 r3.A), .d (.int .i64 r3.B), .d (.bool r3.Mod)] 0)), ([12], some (.arr (List.map (D.int .u8) b_12) v_12 false))]⟩
def hansomref05_Put_h18 (i1 : Inst) (r3 : Row) (b_12 : (List Int)) (v_12 : Nat) : St := ⟨tab [(1, .ptr [1] 0 0), (3, .ptr [3] 0 0), (5, .ref [12] v_12 0 (List.map (D.int .u8) b_12).length 1)], tabB [([1], some (.cells [.d (.bool i1.Lock), .d (.int .i64 i1.Rep), .d (.int .i64 i1.Seg), .d (.int .u8 i1.Op), .d (.int .i64 i1.Mod), .d (.int .i64 i1.Reg), .d (.int .i64 i1.RM), .d (.int .u16 i1.Disp), .d (.int .u16 i1.Imm), .d (.int .u16 i1.Sel)] 0)), ([3], some (.cells [.d (.int .i64 r3.Name), .d (.int .i64 r3.A), .d (.int .i64 r3.B), .d (.bool r3.Mod)] 0)), ([12], some (.arr (List.map (D.int .u8) b_12) v_12 false))]⟩
def hansomref05_Put_h24 (i1 : Inst) (r3 : Row) (b_12 : (List Int)) (v_12 : Nat) : St := ⟨tab [(1, .ptr [1] 0 0), (3, .ptr [3] 0 0), (5, .ref [12] v_12 0 (List.map (D.int .u8) b_12).length 1)], tabB [([1], some (.cells [.d (.bool i1.Lock), .d (.int .i64 i1.Rep), .d (.int .i64 i1.Seg), .d (.int .u8 i1.Op), .d (.int .i64 i1.Mod), .d (.int .i64 i1.Reg), .d (.int .i64 i1.RM), .d (.int .u16 i1.Disp), .d (.int .u16 i1.Imm), .d (.int .u16 i1.Sel)] 0)), ([3], some (.cells [.d (.int .i64 r3.Name), .d (.int .i64 r3.A), .d (.int .i64 r3.B), .d (.bool r3.Mod)] 0)), ([12], some (.arr (List.map (D.int .u8) b_12) v_12 false))]⟩
def hansomref05_Put_h34 (i1 : Inst) (r3 : Row) (b_12 : (List Int)) (v_12 : Nat) : St := ⟨tab [(1, .ptr [1] 0 0), (3, .ptr [3] 0 0), (5, .ref [12] v_12 0 (List.map (D.int .u8) b_12).length 1)], tabB [([1], some (.cells [.d (.bool i1.Lock), .d (.int .i64 i1.Rep), .d (.int .i64 i1.Seg), .d (.int .u8 i1.Op), .d (.int .i64 i1.Mod), .d (.int .i64 i1.Reg), .d (.int .i64 i1.RM), .d (.int .u16 i1.Disp), .d (.int .u16 i1.Imm), .d (.int .u16 i1.Sel)] 0)), ([3], some (.cells [.d (.int .i64 r3.Name), .d (.int .i64 r3.A), .d (.int .i64 r3.B), .d (.bool r3.Mod)] 0)), ([12], some (.arr (List.map (D.int .u8) b_12) v_12 false))]⟩
def hansomref05_Put_h46 (i1 : Inst) (b_12 : (List Int)) (n6 : Int) (t73 : Int) (t74 : Bool) (v_12 : Nat) : St := ⟨tab [(1, .ptr [1] 0 0), (5, .ref [12] v_12 0 (List.map (D.int .u8) b_12).length 1), (6, .d (.int .i64 n6)), (73, .d (.int .i64 t73)), (74, .d (.bool t74))], tabB [([1], some (.cells [.d (.bool i1.Lock), .d (.int .i64 i1.Rep), .d (.int .i64 i1.Seg), .d (.int .u8 i1.Op), .d (.int .i64 i1.Mod), .d (.int .i64 i1.Reg), .d (.int .i64 i1.RM), .d (.int .u16 i1.Disp), .d (.int .u16 i1.Imm), .d (.int .u16 i1.Sel)] 0)), ([12], some (.arr (List.map (D.int .u8) b_12) v_12 false))]⟩
def hansomref05_Put_Q (i_ : Inst) (r : (List Int)) (p : Out × St) : Prop := (∀ i, p.1 ≠ .exit i) ∧ finF F27 [.d (Inst.d i_)] p.2 = some (.d (.sl (List.map (D.int .u8) r)), [.d (Inst.d i_)])
theorem hansomref05_Put_j46_ok (i_ : Inst) (i1 : Inst) (b_12 : (List Int)) (n6 : Int) (t73 : Int) (t74 : Bool) (v_12 : Nat) (r : (List Int)) (h : hansomref05_Put_j46 i1 b_12 n6 t73 t74 = some r) : Runs L F27b46 (hansomref05_Put_h46 i1 b_12 n6 t73 t74 v_12) (kB 0 (kS L F27c53 (hansomref05_Put_Q i_ r))) := by
 unfold hansomref05_Put_j46 at h
 cases hb_6 : (t74 : Bool) with
 | true =>
  replace h := ite_t hb_6 h
  refine Ct <| Ro <| Rc 3 [⟨.ref [12] v_12 0 (List.map (D.int .u8) b_12).length 1, []⟩, ⟨.ptr [1] 0 8, []⟩, ⟨.d (.int .u16 i1.Imm), []⟩] ?_
  obtain ⟨r_5, hr_5, h⟩ := bind_s h
  have hc_5 := hansomref05_two_L i1.Imm r_5 hr_5
  refine Rt (some 80) (.callf 58) [] none [.d (.int .u16 i1.Imm)] (.d (.sl (List.map (D.int .u8) r_5))) [] (cut_call (call_of (ws := []) (us := []) (by kernel_rfl) (by kernel_rfl) hc_5 (by kernel_rfl) (by kernel_rfl))) <| Rc 1 [⟨.d (.int .i64 n6), []⟩] ?_
  obtain ⟨z_8, hz_8, h⟩ := bind_s h
  refine Rt (some 82) (.subsl 1 false true false) [] none [.d (.sl (List.map (D.int .u8) r_5)), .d (.int .i64 n6)] (.d (.sl (List.map (D.int .u8) z_8))) [] (cut_slFT hz_8 (fun _ => rfl)) ?_
  obtain ⟨z_9, hz_9, h⟩ := bind_s h
  refine Rt (some 83) (.append 1 1 false) [] none [.ref [12] v_12 0 (List.map (D.int .u8) b_12).length 1, .d (.sl (List.map (D.int .u8) z_8))] (.ref [12] (v_12 + 1) 0 (List.map (D.int .u8) z_9).length 1) [([12], some (.arr (List.map (D.int .u8) z_9) (v_12 + 1) false))] (cut_appR (e := (D.int .u8)) (l := b_12) (fz := false) (ws := []) (ap_data _) (fun _ => rfl) hz_9 (by kernel_rfl) (by kernel_rfl) rfl) <| Rc 1 [⟨.ref [12] (v_12 + 1) 0 (List.map (D.int .u8) z_9).length 1, []⟩] <| Rd <| kB_nrm <| kS_nrm <| Sq <| Ro <| Rc 2 [⟨.ref [12] (v_12 + 1) 0 (List.map (D.int .u8) z_9).length 1, []⟩, ⟨.ref [12] (v_12 + 1) 0 (List.map (D.int .u8) z_9).length 1, []⟩] <| Rd <| kS_nrm <| Sq <| Runs.gcons (frz_ref (e := (D.int .u8)) (l := z_9) (id := [12]) (v := (v_12 + 1)) (n := 1) (fz := false) (by kernel_rfl) (by kernel_rfl) rfl) <| Runs.gnil <| kS_nrm <| Runs.ret ?_
  obtain rfl := Option.some.inj h
  exact ⟨Out.ret_ne, (by kernel_rfl)⟩
 | false =>
  replace h := ite_f hb_6 h
  refine Cf <| Sq <| Ro <| Rc 2 [⟨.d (.bool (t73 == 4)), []⟩, ⟨.d (.bool (t73 == 4)), []⟩] <| Rd <| kS_nrm ?_
  cases hb_7 : ((t73 == 4) : Bool) with
  | true =>
   replace h := ite_t hb_7 h
   refine Ct <| Ro <| Rc 3 [⟨.ref [12] v_12 0 (List.map (D.int .u8) b_12).length 1, []⟩, ⟨.ptr [1] 0 8, []⟩, ⟨.d (.int .u16 i1.Imm), []⟩] ?_
   obtain ⟨r_6, hr_6, h⟩ := bind_s h
   have hc_6 := hansomref05_two_L i1.Imm r_6 hr_6
   refine Rt (some 89) (.callf 58) [] (some []) [.d (.int .u16 i1.Imm)] (.d (.sl (List.map (D.int .u8) r_6))) [] (cut_call (call_of (ws := []) (us := []) (by kernel_rfl) (by kernel_rfl) hc_6 (by kernel_rfl) (by kernel_rfl))) ?_
   obtain ⟨z_10, hz_10, h⟩ := bind_s h
   refine Rt (some 90) (.append 1 1 false) [] (some [[12], [17], [27], [38], [43], [59], [70], [83], [90], [94]]) [.ref [12] v_12 0 (List.map (D.int .u8) b_12).length 1, .d (.sl (List.map (D.int .u8) r_6))] (.ref [12] (v_12 + 1) 0 (List.map (D.int .u8) z_10).length 1) [([12], some (.arr (List.map (D.int .u8) z_10) (v_12 + 1) false))] (cut_appR (e := (D.int .u8)) (l := b_12) (fz := false) (ws := []) (ap_data _) (fun _ => rfl) hz_10 (by kernel_rfl) (by kernel_rfl) rfl) <| Rc 2 [⟨.ptr [1] 0 9, []⟩, ⟨.d (.int .u16 i1.Sel), []⟩] ?_
   obtain ⟨r_7, hr_7, h⟩ := bind_s h
   have hc_7 := hansomref05_two_L i1.Sel r_7 hr_7
   refine Rt (some 93) (.callf 58) [] none [.d (.int .u16 i1.Sel)] (.d (.sl (List.map (D.int .u8) r_7))) [] (cut_call (call_of (ws := []) (us := []) (by kernel_rfl) (by kernel_rfl) hc_7 (by kernel_rfl) (by kernel_rfl))) ?_
   obtain ⟨z_11, hz_11, h⟩ := bind_s h
   refine Rt (some 94) (.append 1 1 false) [] none [.ref [12] (v_12 + 1) 0 (List.map (D.int .u8) z_10).length 1, .d (.sl (List.map (D.int .u8) r_7))] (.ref [12] ((v_12 + 1) + 1) 0 (List.map (D.int .u8) z_11).length 1) [([12], some (.arr (List.map (D.int .u8) z_11) ((v_12 + 1) + 1) false))] (cut_appR (e := (D.int .u8)) (l := z_10) (fz := false) (ws := []) (ap_data _) (fun _ => rfl) hz_11 (by kernel_rfl) (by kernel_rfl) rfl) <| Rc 1 [⟨.ref [12] ((v_12 + 1) + 1) 0 (List.map (D.int .u8) z_11).length 1, []⟩] <| Rd <| kB_nrm <| kS_nrm <| Sq <| Ro <| Rc 2 [⟨.ref [12] ((v_12 + 1) + 1) 0 (List.map (D.int .u8) z_11).length 1, []⟩, ⟨.ref [12] ((v_12 + 1) + 1) 0 (List.map (D.int .u8) z_11).length 1, []⟩] <| Rd <| kS_nrm <| Sq <| Runs.gcons (frz_ref (e := (D.int .u8)) (l := z_11) (id := [12]) (v := ((v_12 + 1) + 1)) (n := 1) (fz := false) (by kernel_rfl) (by kernel_rfl) rfl) <| Runs.gnil <| kS_nrm <| Runs.ret ?_
   obtain rfl := Option.some.inj h
   exact ⟨Out.ret_ne, (by kernel_rfl)⟩
  | false =>
   replace h := ite_f hb_7 h
   refine Cf <| Runs.skip <| kB_nrm <| kS_nrm <| Sq <| Ro <| Rc 2 [⟨.ref [12] v_12 0 (List.map (D.int .u8) b_12).length 1, []⟩, ⟨.ref [12] v_12 0 (List.map (D.int .u8) b_12).length 1, []⟩] <| Rd <| kS_nrm <| Sq <| Runs.gcons (frz_ref (e := (D.int .u8)) (l := b_12) (id := [12]) (v := v_12) (n := 1) (fz := false) (by kernel_rfl) (by kernel_rfl) rfl) <| Runs.gnil <| kS_nrm <| Runs.ret ?_
   obtain rfl := Option.some.inj h
   exact ⟨Out.ret_ne, (by kernel_rfl)⟩
theorem hansomref05_Put_j34_ok (i_ : Inst) (i1 : Inst) (r3 : Row) (b_12 : (List Int)) (v_12 : Nat) (r : (List Int)) (h : hansomref05_Put_j34 i1 r3 b_12 = some r) : Runs L F27b34 (hansomref05_Put_h34 i1 r3 b_12 v_12) (hansomref05_Put_Q i_ r) := by
 unfold hansomref05_Put_j34 at h
 refine Sq <| Sq <| Ro <| Rc 1 [⟨.d (Row.d r3), []⟩] ?_
 obtain ⟨r_4, hr_4, h⟩ := bind_s h
 have hc_4 := hansomref05_Imms_L r3 r_4 hr_4
 refine Rt (some 72) (.callf 28) [] none [.d (Row.d r3)] (.d (.int .i64 r_4)) [] (cut_call (call_of (ws := []) (us := []) (by kernel_rfl) (by kernel_rfl) hc_4 (by kernel_rfl) (by kernel_rfl))) <| Rc 1 [⟨.d (.int .i64 r_4), []⟩] <| Rd <| kS_nrm <| Sq <| Ro <| Rc 1 [⟨.d (.int .i64 r_4), []⟩] <| Rd <| kS_nrm <| Runs.block <| Sq <| Sq <| Ro <| Rc 2 [⟨.d (.bool (r_4 == 1)), []⟩, ⟨.d (.bool (r_4 == 1)), []⟩] <| Rd <| kS_nrm ?_
 cases hb_5 : ((r_4 == 1) : Bool) with
 | true =>
  replace h := ite_t hb_5 h
  refine Ct <| Runs.skip <| kS_nrm <| Runs.canon (hansomref05_Put_h46 i1 b_12 r_4 r_4 true v_12) (Canon.nil (by kernel_rfl)) ?_
  exact hansomref05_Put_j46_ok i_ i1 b_12 r_4 r_4 true v_12 r h
 | false =>
  replace h := ite_f hb_5 h
  refine Cf <| Ro <| Rc 2 [⟨.d (.bool (r_4 == 2)), []⟩, ⟨.d (.bool (r_4 == 2)), []⟩] <| Rd <| kS_nrm <| Runs.canon (hansomref05_Put_h46 i1 b_12 r_4 r_4 (r_4 == 2) v_12) (Canon.nil (by kernel_rfl)) ?_
  exact hansomref05_Put_j46_ok i_ i1 b_12 r_4 r_4 (r_4 == 2) v_12 r h
theorem hansomref05_Put_j24_ok (i_ : Inst) (i1 : Inst) (r3 : Row) (b_12 : (List Int)) (v_12 : Nat) (r : (List Int)) (h : hansomref05_Put_j24 i1 r3 b_12 = some r) : Runs L F27b24 (hansomref05_Put_h24 i1 r3 b_12 v_12) (hansomref05_Put_Q i_ r) := by
 unfold hansomref05_Put_j24 at h
 refine Sq <| Ro <| Rc 4 [⟨.ref [12] v_12 0 (List.map (D.int .u8) b_12).length 1, []⟩, ⟨.ptr [1] 0 3, []⟩, ⟨.d (.int .u8 i1.Op), []⟩, ⟨.ref [42] 0 0 (List.map (D.int .u8) ([i1.Op] : List Int)).length 1, [([42], some (.arr (List.map (D.int .u8) ([i1.Op] : List Int)) 0 false))]⟩] ?_
 obtain ⟨z_4, hz_4, h⟩ := bind_s h
 refine Rt (some 43) (.append 1 1 false) [] none [.ref [12] v_12 0 (List.map (D.int .u8) b_12).length 1, .ref [42] 0 0 (List.map (D.int .u8) ([i1.Op] : List Int)).length 1] (.ref [12] (v_12 + 1) 0 (List.map (D.int .u8) z_4).length 1) [([42], some (.arr (List.map (D.int .u8) ([i1.Op] : List Int)) 0 true)), ([12], some (.arr (List.map (D.int .u8) z_4) (v_12 + 1) false))] (cut_appR (e := (D.int .u8)) (l := b_12) (fz := false) (ws := [([42], some (.arr (List.map (D.int .u8) ([i1.Op] : List Int)) 0 true))]) (ap_ref (e := (D.int .u8)) (l := ([i1.Op] : List Int)) (fz := false) (by kernel_rfl) (by kernel_rfl) rfl) (fun _ => rfl) hz_4 (by kernel_rfl) (by kernel_rfl) rfl) <| Rc 1 [⟨.ref [12] (v_12 + 1) 0 (List.map (D.int .u8) z_4).length 1, []⟩] <| Rd <| kS_nrm <| Sq <| Sq <| Ro <| Rc 2 [⟨.ptr [3] 0 3, []⟩, ⟨.d (.bool r3.Mod), []⟩] <| Rd <| kS_nrm ?_
 cases hb_4 : (r3.Mod : Bool) with
 | true =>
  replace h := ite_t hb_4 h
  refine Ct <| Sq <| Ro <| Rc 13 [⟨.ref [12] (v_12 + 1) 0 (List.map (D.int .u8) z_4).length 1, []⟩, ⟨.ptr [1] 0 4, []⟩, ⟨.d (.int .i64 i1.Mod), []⟩, ⟨.d (.int .i64 (IntKind.wrap .i64 (64 * i1.Mod))), []⟩, ⟨.ptr [1] 0 5, []⟩, ⟨.d (.int .i64 i1.Reg), []⟩, ⟨.d (.int .i64 (IntKind.wrap .i64 (8 * i1.Reg))), []⟩, ⟨.d (.int .i64 (IntKind.wrap .i64 ((IntKind.wrap .i64 (64 * i1.Mod)) + (IntKind.wrap .i64 (8 * i1.Reg))))), []⟩, ⟨.ptr [1] 0 6, []⟩, ⟨.d (.int .i64 i1.RM), []⟩, ⟨.d (.int .i64 (IntKind.wrap .i64 ((IntKind.wrap .i64 ((IntKind.wrap .i64 (64 * i1.Mod)) + (IntKind.wrap .i64 (8 * i1.Reg)))) + i1.RM))), []⟩, ⟨.d (.int .u8 (IntKind.wrap .u8 (IntKind.wrap .i64 ((IntKind.wrap .i64 ((IntKind.wrap .i64 (64 * i1.Mod)) + (IntKind.wrap .i64 (8 * i1.Reg)))) + i1.RM)))), []⟩, ⟨.ref [58] 0 0 (List.map (D.int .u8) ([(IntKind.wrap .u8 (IntKind.wrap .i64 ((IntKind.wrap .i64 ((IntKind.wrap .i64 (64 * i1.Mod)) + (IntKind.wrap .i64 (8 * i1.Reg)))) + i1.RM)))] : List Int)).length 1, [([58], some (.arr (List.map (D.int .u8) ([(IntKind.wrap .u8 (IntKind.wrap .i64 ((IntKind.wrap .i64 ((IntKind.wrap .i64 (64 * i1.Mod)) + (IntKind.wrap .i64 (8 * i1.Reg)))) + i1.RM)))] : List Int)) 0 false))]⟩] ?_
  obtain ⟨z_5, hz_5, h⟩ := bind_s h
  refine Rt (some 59) (.append 1 1 false) [] none [.ref [12] (v_12 + 1) 0 (List.map (D.int .u8) z_4).length 1, .ref [58] 0 0 (List.map (D.int .u8) ([(IntKind.wrap .u8 (IntKind.wrap .i64 ((IntKind.wrap .i64 ((IntKind.wrap .i64 (64 * i1.Mod)) + (IntKind.wrap .i64 (8 * i1.Reg)))) + i1.RM)))] : List Int)).length 1] (.ref [12] ((v_12 + 1) + 1) 0 (List.map (D.int .u8) z_5).length 1) [([58], some (.arr (List.map (D.int .u8) ([(IntKind.wrap .u8 (IntKind.wrap .i64 ((IntKind.wrap .i64 ((IntKind.wrap .i64 (64 * i1.Mod)) + (IntKind.wrap .i64 (8 * i1.Reg)))) + i1.RM)))] : List Int)) 0 true)), ([12], some (.arr (List.map (D.int .u8) z_5) ((v_12 + 1) + 1) false))] (cut_appR (e := (D.int .u8)) (l := z_4) (fz := false) (ws := [([58], some (.arr (List.map (D.int .u8) ([(IntKind.wrap .u8 (IntKind.wrap .i64 ((IntKind.wrap .i64 ((IntKind.wrap .i64 (64 * i1.Mod)) + (IntKind.wrap .i64 (8 * i1.Reg)))) + i1.RM)))] : List Int)) 0 true))]) (ap_ref (e := (D.int .u8)) (l := ([(IntKind.wrap .u8 (IntKind.wrap .i64 ((IntKind.wrap .i64 ((IntKind.wrap .i64 (64 * i1.Mod)) + (IntKind.wrap .i64 (8 * i1.Reg)))) + i1.RM)))] : List Int)) (fz := false) (by kernel_rfl) (by kernel_rfl) rfl) (fun _ => rfl) hz_5 (by kernel_rfl) (by kernel_rfl) rfl) <| Rc 1 [⟨.ref [12] ((v_12 + 1) + 1) 0 (List.map (D.int .u8) z_5).length 1, []⟩] <| Rd <| kS_nrm <| Ro <| Rc 3 [⟨.ref [12] ((v_12 + 1) + 1) 0 (List.map (D.int .u8) z_5).length 1, []⟩, ⟨.ptr [1] 0 7, []⟩, ⟨.d (.int .u16 i1.Disp), []⟩] ?_
  obtain ⟨r_2, hr_2, h⟩ := bind_s h
  have hc_2 := hansomref05_two_L i1.Disp r_2 hr_2
  refine Rt (some 63) (.callf 58) [] (some []) [.d (.int .u16 i1.Disp)] (.d (.sl (List.map (D.int .u8) r_2))) [] (cut_call (call_of (ws := []) (us := []) (by kernel_rfl) (by kernel_rfl) hc_2 (by kernel_rfl) (by kernel_rfl))) <| Rc 4 [⟨.ptr [1] 0 4, []⟩, ⟨.d (.int .i64 i1.Mod), []⟩, ⟨.ptr [1] 0 6, []⟩, ⟨.d (.int .i64 i1.RM), []⟩] ?_
  obtain ⟨r_3, hr_3, h⟩ := bind_s h
  have hc_3 := hansomref05_Disps_L i1.Mod i1.RM r_3 hr_3
  refine Rt (some 68) (.callf 54) [] none [.d (.int .i64 i1.Mod), .d (.int .i64 i1.RM)] (.d (.int .i64 r_3)) [] (cut_call (call_of (ws := []) (us := []) (by kernel_rfl) (by kernel_rfl) hc_3 (by kernel_rfl) (by kernel_rfl))) ?_
  obtain ⟨z_6, hz_6, h⟩ := bind_s h
  refine Rt (some 69) (.subsl 1 false true false) [] none [.d (.sl (List.map (D.int .u8) r_2)), .d (.int .i64 r_3)] (.d (.sl (List.map (D.int .u8) z_6))) [] (cut_slFT hz_6 (fun _ => rfl)) ?_
  obtain ⟨z_7, hz_7, h⟩ := bind_s h
  refine Rt (some 70) (.append 1 1 false) [] none [.ref [12] ((v_12 + 1) + 1) 0 (List.map (D.int .u8) z_5).length 1, .d (.sl (List.map (D.int .u8) z_6))] (.ref [12] (((v_12 + 1) + 1) + 1) 0 (List.map (D.int .u8) z_7).length 1) [([12], some (.arr (List.map (D.int .u8) z_7) (((v_12 + 1) + 1) + 1) false))] (cut_appR (e := (D.int .u8)) (l := z_5) (fz := false) (ws := []) (ap_data _) (fun _ => rfl) hz_7 (by kernel_rfl) (by kernel_rfl) rfl) <| Rc 1 [⟨.ref [12] (((v_12 + 1) + 1) + 1) 0 (List.map (D.int .u8) z_7).length 1, []⟩] <| Rd <| kS_nrm <| Runs.canon (hansomref05_Put_h34 i1 r3 z_7 (((v_12 + 1) + 1) + 1)) (Canon.nil (by kernel_rfl)) ?_
  exact hansomref05_Put_j34_ok i_ i1 r3 z_7 (((v_12 + 1) + 1) + 1) r h
 | false =>
  replace h := ite_f hb_4 h
  refine Cf <| Runs.skip <| kS_nrm <| Runs.canon (hansomref05_Put_h34 i1 r3 z_4 (v_12 + 1)) (Canon.nil (by kernel_rfl)) ?_
  exact hansomref05_Put_j34_ok i_ i1 r3 z_4 (v_12 + 1) r h
theorem hansomref05_Put_j18_ok (i_ : Inst) (i1 : Inst) (r3 : Row) (b_12 : (List Int)) (v_12 : Nat) (r : (List Int)) (h : hansomref05_Put_j18 i1 r3 b_12 = some r) : Runs L F27b18 (hansomref05_Put_h18 i1 r3 b_12 v_12) (hansomref05_Put_Q i_ r) := by
 unfold hansomref05_Put_j18 at h
 refine Sq <| Sq <| Ro <| Rc 3 [⟨.ptr [1] 0 2, []⟩, ⟨.d (.int .i64 i1.Seg), []⟩, ⟨.d (.bool (decide (i1.Seg > 0))), []⟩] <| Rd <| kS_nrm ?_
 cases hb_3 : ((decide (i1.Seg > 0)) : Bool) with
 | true =>
  replace h := ite_t hb_3 h
  refine Ct <| Ro <| Rc 7 [⟨.ref [12] v_12 0 (List.map (D.int .u8) b_12).length 1, []⟩, ⟨.ptr [1] 0 2, []⟩, ⟨.d (.int .i64 i1.Seg), []⟩, ⟨.d (.int .i64 (IntKind.wrap .i64 (8 * i1.Seg))), []⟩, ⟨.d (.int .i64 (IntKind.wrap .i64 (30 + (IntKind.wrap .i64 (8 * i1.Seg))))), []⟩, ⟨.d (.int .u8 (IntKind.wrap .u8 (IntKind.wrap .i64 (30 + (IntKind.wrap .i64 (8 * i1.Seg)))))), []⟩, ⟨.ref [37] 0 0 (List.map (D.int .u8) ([(IntKind.wrap .u8 (IntKind.wrap .i64 (30 + (IntKind.wrap .i64 (8 * i1.Seg)))))] : List Int)).length 1, [([37], some (.arr (List.map (D.int .u8) ([(IntKind.wrap .u8 (IntKind.wrap .i64 (30 + (IntKind.wrap .i64 (8 * i1.Seg)))))] : List Int)) 0 false))]⟩] ?_
  obtain ⟨z_3, hz_3, h⟩ := bind_s h
  refine Rt (some 38) (.append 1 1 false) [] none [.ref [12] v_12 0 (List.map (D.int .u8) b_12).length 1, .ref [37] 0 0 (List.map (D.int .u8) ([(IntKind.wrap .u8 (IntKind.wrap .i64 (30 + (IntKind.wrap .i64 (8 * i1.Seg)))))] : List Int)).length 1] (.ref [12] (v_12 + 1) 0 (List.map (D.int .u8) z_3).length 1) [([37], some (.arr (List.map (D.int .u8) ([(IntKind.wrap .u8 (IntKind.wrap .i64 (30 + (IntKind.wrap .i64 (8 * i1.Seg)))))] : List Int)) 0 true)), ([12], some (.arr (List.map (D.int .u8) z_3) (v_12 + 1) false))] (cut_appR (e := (D.int .u8)) (l := b_12) (fz := false) (ws := [([37], some (.arr (List.map (D.int .u8) ([(IntKind.wrap .u8 (IntKind.wrap .i64 (30 + (IntKind.wrap .i64 (8 * i1.Seg)))))] : List Int)) 0 true))]) (ap_ref (e := (D.int .u8)) (l := ([(IntKind.wrap .u8 (IntKind.wrap .i64 (30 + (IntKind.wrap .i64 (8 * i1.Seg)))))] : List Int)) (fz := false) (by kernel_rfl) (by kernel_rfl) rfl) (fun _ => rfl) hz_3 (by kernel_rfl) (by kernel_rfl) rfl) <| Rc 1 [⟨.ref [12] (v_12 + 1) 0 (List.map (D.int .u8) z_3).length 1, []⟩] <| Rd <| kS_nrm <| Runs.canon (hansomref05_Put_h24 i1 r3 z_3 (v_12 + 1)) (Canon.nil (by kernel_rfl)) ?_
  exact hansomref05_Put_j24_ok i_ i1 r3 z_3 (v_12 + 1) r h
 | false =>
  replace h := ite_f hb_3 h
  refine Cf <| Runs.skip <| kS_nrm <| Runs.canon (hansomref05_Put_h24 i1 r3 b_12 v_12) (Canon.nil (by kernel_rfl)) ?_
  exact hansomref05_Put_j24_ok i_ i1 r3 b_12 v_12 r h
theorem hansomref05_Put_j12_ok (i_ : Inst) (i1 : Inst) (r3 : Row) (b_12 : (List Int)) (v_12 : Nat) (r : (List Int)) (h : hansomref05_Put_j12 i1 r3 b_12 = some r) : Runs L F27b12 (hansomref05_Put_h12 i1 r3 b_12 v_12) (hansomref05_Put_Q i_ r) := by
 unfold hansomref05_Put_j12 at h
 refine Sq <| Sq <| Ro <| Rc 3 [⟨.ptr [1] 0 1, []⟩, ⟨.d (.int .i64 i1.Rep), []⟩, ⟨.d (.bool (decide (i1.Rep > 0))), []⟩] <| Rd <| kS_nrm ?_
 cases hb_2 : ((decide (i1.Rep > 0)) : Bool) with
 | true =>
  replace h := ite_t hb_2 h
  refine Ct <| Ro <| Rc 6 [⟨.ref [12] v_12 0 (List.map (D.int .u8) b_12).length 1, []⟩, ⟨.ptr [1] 0 1, []⟩, ⟨.d (.int .i64 i1.Rep), []⟩, ⟨.d (.int .i64 (IntKind.wrap .i64 (241 + i1.Rep))), []⟩, ⟨.d (.int .u8 (IntKind.wrap .u8 (IntKind.wrap .i64 (241 + i1.Rep)))), []⟩, ⟨.ref [26] 0 0 (List.map (D.int .u8) ([(IntKind.wrap .u8 (IntKind.wrap .i64 (241 + i1.Rep)))] : List Int)).length 1, [([26], some (.arr (List.map (D.int .u8) ([(IntKind.wrap .u8 (IntKind.wrap .i64 (241 + i1.Rep)))] : List Int)) 0 false))]⟩] ?_
  obtain ⟨z_2, hz_2, h⟩ := bind_s h
  refine Rt (some 27) (.append 1 1 false) [] none [.ref [12] v_12 0 (List.map (D.int .u8) b_12).length 1, .ref [26] 0 0 (List.map (D.int .u8) ([(IntKind.wrap .u8 (IntKind.wrap .i64 (241 + i1.Rep)))] : List Int)).length 1] (.ref [12] (v_12 + 1) 0 (List.map (D.int .u8) z_2).length 1) [([26], some (.arr (List.map (D.int .u8) ([(IntKind.wrap .u8 (IntKind.wrap .i64 (241 + i1.Rep)))] : List Int)) 0 true)), ([12], some (.arr (List.map (D.int .u8) z_2) (v_12 + 1) false))] (cut_appR (e := (D.int .u8)) (l := b_12) (fz := false) (ws := [([26], some (.arr (List.map (D.int .u8) ([(IntKind.wrap .u8 (IntKind.wrap .i64 (241 + i1.Rep)))] : List Int)) 0 true))]) (ap_ref (e := (D.int .u8)) (l := ([(IntKind.wrap .u8 (IntKind.wrap .i64 (241 + i1.Rep)))] : List Int)) (fz := false) (by kernel_rfl) (by kernel_rfl) rfl) (fun _ => rfl) hz_2 (by kernel_rfl) (by kernel_rfl) rfl) <| Rc 1 [⟨.ref [12] (v_12 + 1) 0 (List.map (D.int .u8) z_2).length 1, []⟩] <| Rd <| kS_nrm <| Runs.canon (hansomref05_Put_h18 i1 r3 z_2 (v_12 + 1)) (Canon.nil (by kernel_rfl)) ?_
  exact hansomref05_Put_j18_ok i_ i1 r3 z_2 (v_12 + 1) r h
 | false =>
  replace h := ite_f hb_2 h
  refine Cf <| Runs.skip <| kS_nrm <| Runs.canon (hansomref05_Put_h18 i1 r3 b_12 v_12) (Canon.nil (by kernel_rfl)) ?_
  exact hansomref05_Put_j18_ok i_ i1 r3 b_12 v_12 r h
theorem hansomref05_Put_ok (i_ : Inst) (r : (List Int)) (h : hansomref05_Put i_ = some r) : Runs L F27.body ⟨tmOf [.d (Inst.d i_)] 0, updW (fun _ => none) []⟩ (hansomref05_Put_Q i_ r) := by
 unfold hansomref05_Put at h
 refine Sq <| Ro <| Rc 2 [⟨.ptr [1] 0 0, [([1], some (.cells [.d (.bool i_.Lock), .d (.int .i64 i_.Rep), .d (.int .i64 i_.Seg), .d (.int .u8 i_.Op), .d (.int .i64 i_.Mod), .d (.int .i64 i_.Reg), .d (.int .i64 i_.RM), .d (.int .u16 i_.Disp), .d (.int .u16 i_.Imm), .d (.int .u16 i_.Sel)] 0))]⟩, ⟨.nils, []⟩] <| Rd <| kS_nrm <| Sq <| Ro <| Rc 1 [⟨.d (Inst.d i_), []⟩] ?_
 obtain ⟨r_1, hr_1, h⟩ := bind_s h
 have hc_1 := hansomref05_Row_L i_ r_1 hr_1
 refine Rt (some 9) (.callf 26) [] none [.d (Inst.d i_)] (.tup [.d (Row.d r_1.1), .d (.bool r_1.2)]) [] (cut_call (call_of (ws := []) (us := []) (by kernel_rfl) (by kernel_rfl) hc_1 (by kernel_rfl) (by kernel_rfl))) <| Rc 6 [⟨.tup [.d (Row.d r_1.1), .d (.bool r_1.2)], []⟩, ⟨.d (Row.d r_1.1), []⟩, ⟨.d (.bool r_1.2), []⟩, ⟨.ptr [3] 0 0, [([3], some (.cells [.d (.int .i64 0), .d (.int .i64 0), .d (.int .i64 0), .d (.bool false)] 0))]⟩, ⟨.tup [], [([3], some (.cells [.d (.int .i64 r_1.1.Name), .d (.int .i64 r_1.1.A), .d (.int .i64 r_1.1.B), .d (.bool r_1.1.Mod)] 0))]⟩, ⟨.d (.bool r_1.2), []⟩] <| Rd <| kS_nrm <| Sq <| Ro <| Rc 2 [⟨.ref [12] 0 0 (List.map (D.int .u8) ([] : List Int)).length 1, [([12], some (.arr (List.map (D.int .u8) ([] : List Int)) 0 false))]⟩, ⟨.ref [12] 0 0 (List.map (D.int .u8) ([] : List Int)).length 1, []⟩] <| Rd <| kS_nrm <| Sq <| Sq <| Ro <| Rc 2 [⟨.ptr [1] 0 0, []⟩, ⟨.d (.bool i_.Lock), []⟩] <| Rd <| kS_nrm ?_
 cases hb_1 : (i_.Lock : Bool) with
 | true =>
  replace h := ite_t hb_1 h
  refine Ct <| Ro <| Rc 2 [⟨.ref [12] 0 0 (List.map (D.int .u8) ([] : List Int)).length 1, []⟩, ⟨.ref [16] 0 0 (List.map (D.int .u8) ([240] : List Int)).length 1, [([16], some (.arr (List.map (D.int .u8) ([240] : List Int)) 0 false))]⟩] ?_
  obtain ⟨z_1, hz_1, h⟩ := bind_s h
  refine Rt (some 17) (.append 1 1 false) [] none [.ref [12] 0 0 (List.map (D.int .u8) ([] : List Int)).length 1, .ref [16] 0 0 (List.map (D.int .u8) ([240] : List Int)).length 1] (.ref [12] 1 0 (List.map (D.int .u8) z_1).length 1) [([16], some (.arr (List.map (D.int .u8) ([240] : List Int)) 0 true)), ([12], some (.arr (List.map (D.int .u8) z_1) 1 false))] (cut_appR (e := (D.int .u8)) (l := ([] : List Int)) (fz := false) (ws := [([16], some (.arr (List.map (D.int .u8) ([240] : List Int)) 0 true))]) (ap_ref (e := (D.int .u8)) (l := ([240] : List Int)) (fz := false) (by kernel_rfl) (by kernel_rfl) rfl) (fun _ => rfl) hz_1 (by kernel_rfl) (by kernel_rfl) rfl) <| Rc 1 [⟨.ref [12] 1 0 (List.map (D.int .u8) z_1).length 1, []⟩] <| Rd <| kS_nrm <| Runs.canon (hansomref05_Put_h12 ({ Lock := true, Rep := i_.Rep, Seg := i_.Seg, Op := i_.Op, Mod := i_.Mod, Reg := i_.Reg, RM := i_.RM, Disp := i_.Disp, Imm := i_.Imm, Sel := i_.Sel } : Inst) r_1.1 z_1 1) (Canon.nil (by kernel_rfl)) ?_
  exact hansomref05_Put_j12_ok i_ ({ Lock := true, Rep := i_.Rep, Seg := i_.Seg, Op := i_.Op, Mod := i_.Mod, Reg := i_.Reg, RM := i_.RM, Disp := i_.Disp, Imm := i_.Imm, Sel := i_.Sel } : Inst) r_1.1 z_1 1 r h
 | false =>
  replace h := ite_f hb_1 h
  refine Cf <| Runs.skip <| kS_nrm <| Runs.canon (hansomref05_Put_h12 ({ Lock := false, Rep := i_.Rep, Seg := i_.Seg, Op := i_.Op, Mod := i_.Mod, Reg := i_.Reg, RM := i_.RM, Disp := i_.Disp, Imm := i_.Imm, Sel := i_.Sel } : Inst) r_1.1 ([] : List Int) 0) (Canon.nil (by kernel_rfl)) ?_
  exact hansomref05_Put_j12_ok i_ ({ Lock := false, Rep := i_.Rep, Seg := i_.Seg, Op := i_.Op, Mod := i_.Mod, Reg := i_.Reg, RM := i_.RM, Disp := i_.Disp, Imm := i_.Imm, Sel := i_.Sel } : Inst) r_1.1 ([] : List Int) 0 r h
theorem hansomref05_Put_L (i_ : Inst) (r : (List Int)) (h : hansomref05_Put i_ = some r) : L 27 [.d (Inst.d i_)] = some (.d (.sl (List.map (D.int .u8) r)), [.d (Inst.d i_)]) := by
 obtain ⟨p, ⟨hne, hf⟩, hr⟩ := hansomref05_Put_ok i_ r h
 obtain ⟨k, hk⟩ := run_of (F := F27) (args := [.d (Inst.d i_)]) (ap := [.d (Inst.d i_)]) (bx0 := updW (fun _ => none) []) rfl rfl (by kernel_rfl) ⟨p, ⟨hne, hf⟩, hr⟩
 exact lim_run (k := k) rfl hk
def hansomlaw05_InstMay_h37 (i5 : Inst) : St := ⟨tab [(5, .ptr [5] 0 0)], tabB [([5], some (.cells [.d (.bool i5.Lock), .d (.int .i64 i5.Rep), .d (.int .i64 i5.Seg), .d (.int .u8 i5.Op), .d (.int .i64 i5.Mod), .d (.int .i64 i5.Reg), .d (.int .i64 i5.RM), .d (.int .u16 i5.Disp), .d (.int .u16 i5.Imm), .d (.int .u16 i5.Sel)] 0))]⟩
def hansomlaw05_InstMay_h51 (i5 : Inst) (may6 : Bool) (n7 : Int) (t8 : Int) : St := ⟨tab [(5, .ptr [5] 0 0), (6, .d (.bool may6)), (7, .d (.int .i64 n7)), (8, .d (.int .i64 t8))], tabB [([5], some (.cells [.d (.bool i5.Lock), .d (.int .i64 i5.Rep), .d (.int .i64 i5.Seg), .d (.int .u8 i5.Op), .d (.int .i64 i5.Mod), .d (.int .i64 i5.Reg), .d (.int .i64 i5.RM), .d (.int .u16 i5.Disp), .d (.int .u16 i5.Imm), .d (.int .u16 i5.Sel)] 0))]⟩
def hansomlaw05_InstMay_Q (x_ : Inst) (odd_ : Int) (r : Bool) (p : Out × St) : Prop := (∀ i, p.1 ≠ .exit i) ∧ finF F6 [.d (Inst.d x_), .d (.int .i64 odd_)] p.2 = some (.d (.bool r), [.d (Inst.d x_), .d (.int .i64 odd_)])
theorem hansomlaw05_InstMay_j51_ok (x_ : Inst) (odd_ : Int) (i5 : Inst) (may6 : Bool) (n7 : Int) (t8 : Int) (r : Bool) (h : hansomlaw05_InstMay_j51 i5 may6 n7 t8 = some r) : Runs L F6b51 (hansomlaw05_InstMay_h51 i5 may6 n7 t8) (hansomlaw05_InstMay_Q x_ odd_ r) := by
 unfold hansomlaw05_InstMay_j51 at h
 refine Sq <| Ro ?_
 obtain ⟨r_6, hr_6, h⟩ := bind_s h
 have hc_6 := hansomlaw05_awake_L r_6 hr_6
 refine Rt (some 69) (.callf 29) [] none [] (.d (.bool r_6)) [] (cut_call (call_of (ws := []) (us := []) (by kernel_rfl) (by kernel_rfl) hc_6 (by kernel_rfl) (by kernel_rfl))) <| Rc 1 [⟨.d (.bool r_6), []⟩] ?_
 cases hb_3 : (r_6 : Bool) with
 | true =>
  replace h := ite_t hb_3 h
  refine Rc 1 [⟨.d (Inst.d i5), []⟩] ?_
  obtain ⟨r_7, hr_7, h⟩ := bind_s h
  have hc_7 := inst_May_L i5 r_7 hr_7
  refine Rt (some 72) (.callf 30) [] none [.d (Inst.d i5)] (.d (.bool r_7)) [] (cut_call (call_of (ws := []) (us := []) (by kernel_rfl) (by kernel_rfl) hc_7 (by kernel_rfl) (by kernel_rfl))) <| Rc 4 [⟨.d (.bool may6), []⟩, ⟨.d (.bool (r_7 == may6)), []⟩, ⟨.d (.bool (r_7 == may6)), []⟩, ⟨.d (.bool (r_7 == may6)), []⟩] ?_
  cases hb_4 : ((r_7 == may6) : Bool) with
  | true =>
   replace h := ite_t hb_4 h
   refine Rc 1 [⟨.d (Inst.d i5), []⟩] ?_
   obtain ⟨r_8, hr_8, h⟩ := bind_s h
   have hc_8 := inst_Len_L i5 r_8 hr_8
   refine Rt (some 78) (.callf 31) [] none [.d (Inst.d i5)] (.d (.int .i64 r_8)) [] (cut_call (call_of (ws := []) (us := []) (by kernel_rfl) (by kernel_rfl) hc_8 (by kernel_rfl) (by kernel_rfl))) <| Rc 4 [⟨.d (.int .i64 n7), []⟩, ⟨.d (.bool (r_8 == n7)), []⟩, ⟨.d (.bool (r_8 == n7)), []⟩, ⟨.d (.bool (r_8 == n7)), []⟩] ?_
   cases hb_5 : ((r_8 == n7) : Bool) with
   | true =>
    replace h := ite_t hb_5 h
    refine Rc 1 [⟨.d (Inst.d i5), []⟩] ?_
    obtain ⟨r_9, hr_9, h⟩ := bind_s h
    have hc_9 := inst_Tail_L i5 r_9 hr_9
    refine Rt (some 84) (.callf 32) [] none [.d (Inst.d i5)] (.d (.int .i64 r_9)) [] (cut_call (call_of (ws := []) (us := []) (by kernel_rfl) (by kernel_rfl) hc_9 (by kernel_rfl) (by kernel_rfl))) <| Rc 4 [⟨.d (.int .i64 t8), []⟩, ⟨.d (.bool (r_9 == t8)), []⟩, ⟨.d (.bool (r_9 == t8)), []⟩, ⟨.d (.bool (r_9 == t8)), []⟩] <| Rd <| kS_nrm <| Runs.ret ?_
    obtain rfl := Option.some.inj h
    exact ⟨Out.ret_ne, (by kernel_rfl)⟩
   | false =>
    replace h := ite_f hb_5 h
    refine Rc 6 [⟨.tup [], []⟩, ⟨.tup [], []⟩, ⟨.tup [], []⟩, ⟨.tup [], []⟩, ⟨.d (.bool false), []⟩, ⟨.d (.bool false), []⟩] <| Rd <| kS_nrm <| Runs.ret ?_
    obtain rfl := Option.some.inj h
    exact ⟨Out.ret_ne, (by kernel_rfl)⟩
  | false =>
   replace h := ite_f hb_4 h
   refine Rc 12 [⟨.tup [], []⟩, ⟨.tup [], []⟩, ⟨.tup [], []⟩, ⟨.tup [], []⟩, ⟨.d (.bool false), []⟩, ⟨.d (.bool false), []⟩, ⟨.tup [], []⟩, ⟨.tup [], []⟩, ⟨.tup [], []⟩, ⟨.tup [], []⟩, ⟨.d (.bool false), []⟩, ⟨.d (.bool false), []⟩] <| Rd <| kS_nrm <| Runs.ret ?_
   obtain rfl := Option.some.inj h
   exact ⟨Out.ret_ne, (by kernel_rfl)⟩
 | false =>
  replace h := ite_f hb_3 h
  refine Rc 18 [⟨.tup [], []⟩, ⟨.tup [], []⟩, ⟨.tup [], []⟩, ⟨.tup [], []⟩, ⟨.d (.bool false), []⟩, ⟨.d (.bool false), []⟩, ⟨.tup [], []⟩, ⟨.tup [], []⟩, ⟨.tup [], []⟩, ⟨.tup [], []⟩, ⟨.d (.bool false), []⟩, ⟨.d (.bool false), []⟩, ⟨.tup [], []⟩, ⟨.tup [], []⟩, ⟨.tup [], []⟩, ⟨.tup [], []⟩, ⟨.d (.bool false), []⟩, ⟨.d (.bool false), []⟩] <| Rd <| kS_nrm <| Runs.ret ?_
  obtain rfl := Option.some.inj h
  exact ⟨Out.ret_ne, (by kernel_rfl)⟩
theorem hansomlaw05_InstMay_j37_ok (x_ : Inst) (odd_ : Int) (i5 : Inst) (r : Bool) (h : hansomlaw05_InstMay_j37 i5 = some r) : Runs L F6b37 (hansomlaw05_InstMay_h37 i5) (hansomlaw05_InstMay_Q x_ odd_ r) := by
 unfold hansomlaw05_InstMay_j37 at h
 refine Sq <| Ro <| Rc 1 [⟨.d (Inst.d i5), []⟩] ?_
 obtain ⟨r_2, hr_2, h⟩ := bind_s h
 have hc_2 := hansomref05_May_L i5 r_2 hr_2
 refine Rt (some 55) (.callf 25) [] none [.d (Inst.d i5)] (.d (.bool r_2)) [] (cut_call (call_of (ws := []) (us := []) (by kernel_rfl) (by kernel_rfl) hc_2 (by kernel_rfl) (by kernel_rfl))) <| Rc 1 [⟨.d (.bool r_2), []⟩] <| Rd <| kS_nrm <| Sq <| Ro <| Rc 2 [⟨.d (.int .i64 0), []⟩, ⟨.d (.int .i64 0), []⟩] <| Rd <| kS_nrm <| Sq <| Sq <| Ro <| Rc 1 [⟨.d (.bool r_2), []⟩] <| Rd <| kS_nrm ?_
 cases hb_2 : (r_2 : Bool) with
 | true =>
  replace h := ite_t hb_2 h
  refine Ct <| Sq <| Ro <| Rc 1 [⟨.d (Inst.d i5), []⟩] ?_
  obtain ⟨r_3, hr_3, h⟩ := bind_s h
  have hc_3 := hansomref05_Row_L i5 r_3 hr_3
  refine Rt (some 59) (.callf 26) [] none [.d (Inst.d i5)] (.tup [.d (Row.d r_3.1), .d (.bool r_3.2)]) [] (cut_call (call_of (ws := []) (us := []) (by kernel_rfl) (by kernel_rfl) hc_3 (by kernel_rfl) (by kernel_rfl))) <| Rc 6 [⟨.tup [.d (Row.d r_3.1), .d (.bool r_3.2)], []⟩, ⟨.d (Row.d r_3.1), []⟩, ⟨.d (.bool r_3.2), []⟩, ⟨.ptr [9] 0 0, [([9], some (.cells [.d (.int .i64 0), .d (.int .i64 0), .d (.int .i64 0), .d (.bool false)] 0))]⟩, ⟨.tup [], [([9], some (.cells [.d (.int .i64 r_3.1.Name), .d (.int .i64 r_3.1.A), .d (.int .i64 r_3.1.B), .d (.bool r_3.1.Mod)] 0))]⟩, ⟨.d (.bool r_3.2), []⟩] <| Rd <| kS_nrm <| Sq <| Ro <| Rc 1 [⟨.d (Inst.d i5), []⟩] ?_
  obtain ⟨r_4, hr_4, h⟩ := bind_s h
  have hc_4 := hansomref05_Put_L i5 r_4 hr_4
  refine Rt (some 63) (.callf 27) [] none [.d (Inst.d i5)] (.d (.sl (List.map (D.int .u8) r_4))) [] (cut_call (call_of (ws := []) (us := []) (by kernel_rfl) (by kernel_rfl) hc_4 (by kernel_rfl) (by kernel_rfl))) <| Rt (some 64) .lenL [] none [.d (.sl (List.map (D.int .u8) r_4))] (.d (.int .i64 (r_4.length : Int))) [] (cut_len _) <| Rc 1 [⟨.d (.int .i64 (r_4.length : Int)), []⟩] <| Rd <| kS_nrm <| Ro <| Rc 2 [⟨.d (.int .i64 (r_4.length : Int)), []⟩, ⟨.d (Row.d r_3.1), []⟩] ?_
  obtain ⟨r_5, hr_5, h⟩ := bind_s h
  have hc_5 := hansomref05_Imms_L r_3.1 r_5 hr_5
  refine Rt (some 67) (.callf 28) [] none [.d (Row.d r_3.1)] (.d (.int .i64 r_5)) [] (cut_call (call_of (ws := []) (us := []) (by kernel_rfl) (by kernel_rfl) hc_5 (by kernel_rfl) (by kernel_rfl))) <| Rc 2 [⟨.d (.int .i64 (IntKind.wrap .i64 ((r_4.length : Int) - r_5))), []⟩, ⟨.d (.int .i64 (IntKind.wrap .i64 ((r_4.length : Int) - r_5))), []⟩] <| Rd <| kS_nrm <| Runs.canon (hansomlaw05_InstMay_h51 i5 true (r_4.length : Int) (IntKind.wrap .i64 ((r_4.length : Int) - r_5))) (Canon.nil (by kernel_rfl)) ?_
  exact hansomlaw05_InstMay_j51_ok x_ odd_ i5 true (r_4.length : Int) (IntKind.wrap .i64 ((r_4.length : Int) - r_5)) r h
 | false =>
  replace h := ite_f hb_2 h
  refine Cf <| Runs.skip <| kS_nrm <| Runs.canon (hansomlaw05_InstMay_h51 i5 false 0 0) (Canon.nil (by kernel_rfl)) ?_
  exact hansomlaw05_InstMay_j51_ok x_ odd_ i5 false 0 0 r h
theorem hansomlaw05_InstMay_ok (x_ : Inst) (odd_ : Int) (r : Bool) (h : hansomlaw05_InstMay x_ odd_ = some r) : Runs L F6.body ⟨tmOf [.d (Inst.d x_), .d (.int .i64 odd_)] 0, updW (fun _ => none) []⟩ (hansomlaw05_InstMay_Q x_ odd_ r) := by
 unfold hansomlaw05_InstMay at h
 refine Sq <| Ro <| Rc 2 [⟨.ptr [2] 0 0, [([2], some (.cells [.d (.bool x_.Lock), .d (.int .i64 x_.Rep), .d (.int .i64 x_.Seg), .d (.int .u8 x_.Op), .d (.int .i64 x_.Mod), .d (.int .i64 x_.Reg), .d (.int .i64 x_.RM), .d (.int .u16 x_.Disp), .d (.int .u16 x_.Imm), .d (.int .u16 x_.Sel)] 0))]⟩, ⟨.d (.bool false), []⟩] <| Rd <| kS_nrm <| Sq <| Ro <| Rc 1 [⟨.d (Inst.d x_), []⟩] ?_
 obtain ⟨r_1, hr_1, h⟩ := bind_s h
 have hc_1 := hansomref05_Near_L x_ r_1 hr_1
 refine Rt (some 12) (.callf 24) [] none [.d (Inst.d x_)] (.d (Inst.d r_1)) [] (cut_call (call_of (ws := []) (us := []) (by kernel_rfl) (by kernel_rfl) hc_1 (by kernel_rfl) (by kernel_rfl))) <| Rc 2 [⟨.ptr [5] 0 0, [([5], some (.cells [.d (.bool false), .d (.int .i64 0), .d (.int .i64 0), .d (.int .u8 0), .d (.int .i64 0), .d (.int .i64 0), .d (.int .i64 0), .d (.int .u16 0), .d (.int .u16 0), .d (.int .u16 0)] 0))]⟩, ⟨.tup [], [([5], some (.cells [.d (.bool r_1.Lock), .d (.int .i64 r_1.Rep), .d (.int .i64 r_1.Seg), .d (.int .u8 r_1.Op), .d (.int .i64 r_1.Mod), .d (.int .i64 r_1.Reg), .d (.int .i64 r_1.RM), .d (.int .u16 r_1.Disp), .d (.int .u16 r_1.Imm), .d (.int .u16 r_1.Sel)] 0))]⟩] <| Rd <| kS_nrm <| Sq <| Sq <| Ro <| Rc 2 [⟨.d (.int .i64 odd_), []⟩, ⟨.d (.int .i64 (bitsOp .and .i64 odd_ 15)), []⟩] <| Rd <| kS_nrm <| Runs.block <| Sq <| Ro <| Rc 2 [⟨.d (.bool ((bitsOp .and .i64 odd_ 15) == 0)), []⟩, ⟨.d (.bool ((bitsOp .and .i64 odd_ 15) == 0)), []⟩] <| Rd <| kS_nrm ?_
 cases hb_1 : (((bitsOp .and .i64 odd_ 15) == 0) : Bool) with
 | true =>
  replace h := ite_t hb_1 h
  refine Ct <| Ro <| Rc 2 [⟨.d (Inst.d x_), []⟩, ⟨.tup [], [([5], some (.cells [.d (.bool x_.Lock), .d (.int .i64 x_.Rep), .d (.int .i64 x_.Seg), .d (.int .u8 x_.Op), .d (.int .i64 x_.Mod), .d (.int .i64 x_.Reg), .d (.int .i64 x_.RM), .d (.int .u16 x_.Disp), .d (.int .u16 x_.Imm), .d (.int .u16 x_.Sel)] 0))]⟩] <| Rd <| kB_nrm <| kS_nrm <| Runs.canon (hansomlaw05_InstMay_h37 x_) (Canon.nil (by kernel_rfl)) ?_
  exact hansomlaw05_InstMay_j37_ok x_ odd_ x_ r h
 | false =>
  replace h := ite_f hb_1 h
  refine Cf <| Sq <| Ro <| Rc 2 [⟨.d (.bool ((bitsOp .and .i64 odd_ 15) == 1)), []⟩, ⟨.d (.bool ((bitsOp .and .i64 odd_ 15) == 1)), []⟩] <| Rd <| kS_nrm ?_
  cases hb_6 : (((bitsOp .and .i64 odd_ 15) == 1) : Bool) with
  | true =>
   replace h := ite_t hb_6 h
   refine Ct <| Ro <| Rc 8 [⟨.ptr [2] 0 4, []⟩, ⟨.d (.int .i64 x_.Mod), []⟩, ⟨.ptr [2] 0 6, []⟩, ⟨.d (.int .i64 x_.RM), []⟩, ⟨.ptr [5] 0 4, []⟩, ⟨.tup [], [([5], some (.cells [.d (.bool r_1.Lock), .d (.int .i64 r_1.Rep), .d (.int .i64 r_1.Seg), .d (.int .u8 r_1.Op), .d (.int .i64 x_.Mod), .d (.int .i64 r_1.Reg), .d (.int .i64 r_1.RM), .d (.int .u16 r_1.Disp), .d (.int .u16 r_1.Imm), .d (.int .u16 r_1.Sel)] 0))]⟩, ⟨.ptr [5] 0 6, []⟩, ⟨.tup [], [([5], some (.cells [.d (.bool r_1.Lock), .d (.int .i64 r_1.Rep), .d (.int .i64 r_1.Seg), .d (.int .u8 r_1.Op), .d (.int .i64 x_.Mod), .d (.int .i64 r_1.Reg), .d (.int .i64 x_.RM), .d (.int .u16 r_1.Disp), .d (.int .u16 r_1.Imm), .d (.int .u16 r_1.Sel)] 0))]⟩] <| Rd <| kB_nrm <| kS_nrm <| Runs.canon (hansomlaw05_InstMay_h37 ({ Lock := r_1.Lock, Rep := r_1.Rep, Seg := r_1.Seg, Op := r_1.Op, Mod := x_.Mod, Reg := r_1.Reg, RM := x_.RM, Disp := r_1.Disp, Imm := r_1.Imm, Sel := r_1.Sel } : Inst)) (Canon.nil (by kernel_rfl)) ?_
   exact hansomlaw05_InstMay_j37_ok x_ odd_ ({ Lock := r_1.Lock, Rep := r_1.Rep, Seg := r_1.Seg, Op := r_1.Op, Mod := x_.Mod, Reg := r_1.Reg, RM := x_.RM, Disp := r_1.Disp, Imm := r_1.Imm, Sel := r_1.Sel } : Inst) r h
  | false =>
   replace h := ite_f hb_6 h
   refine Cf <| Sq <| Ro <| Rc 2 [⟨.d (.bool ((bitsOp .and .i64 odd_ 15) == 2)), []⟩, ⟨.d (.bool ((bitsOp .and .i64 odd_ 15) == 2)), []⟩] <| Rd <| kS_nrm ?_
   cases hb_7 : (((bitsOp .and .i64 odd_ 15) == 2) : Bool) with
   | true =>
    replace h := ite_t hb_7 h
    refine Ct <| Ro <| Rc 4 [⟨.ptr [2] 0 7, []⟩, ⟨.d (.int .u16 x_.Disp), []⟩, ⟨.ptr [5] 0 7, []⟩, ⟨.tup [], [([5], some (.cells [.d (.bool r_1.Lock), .d (.int .i64 r_1.Rep), .d (.int .i64 r_1.Seg), .d (.int .u8 r_1.Op), .d (.int .i64 r_1.Mod), .d (.int .i64 r_1.Reg), .d (.int .i64 r_1.RM), .d (.int .u16 x_.Disp), .d (.int .u16 r_1.Imm), .d (.int .u16 r_1.Sel)] 0))]⟩] <| Rd <| kB_nrm <| kS_nrm <| Runs.canon (hansomlaw05_InstMay_h37 ({ Lock := r_1.Lock, Rep := r_1.Rep, Seg := r_1.Seg, Op := r_1.Op, Mod := r_1.Mod, Reg := r_1.Reg, RM := r_1.RM, Disp := x_.Disp, Imm := r_1.Imm, Sel := r_1.Sel } : Inst)) (Canon.nil (by kernel_rfl)) ?_
    exact hansomlaw05_InstMay_j37_ok x_ odd_ ({ Lock := r_1.Lock, Rep := r_1.Rep, Seg := r_1.Seg, Op := r_1.Op, Mod := r_1.Mod, Reg := r_1.Reg, RM := r_1.RM, Disp := x_.Disp, Imm := r_1.Imm, Sel := r_1.Sel } : Inst) r h
   | false =>
    replace h := ite_f hb_7 h
    refine Cf <| Sq <| Ro <| Rc 2 [⟨.d (.bool ((bitsOp .and .i64 odd_ 15) == 3)), []⟩, ⟨.d (.bool ((bitsOp .and .i64 odd_ 15) == 3)), []⟩] <| Rd <| kS_nrm ?_
    cases hb_8 : (((bitsOp .and .i64 odd_ 15) == 3) : Bool) with
    | true =>
     replace h := ite_t hb_8 h
     refine Ct <| Ro <| Rc 4 [⟨.ptr [2] 0 8, []⟩, ⟨.d (.int .u16 x_.Imm), []⟩, ⟨.ptr [5] 0 8, []⟩, ⟨.tup [], [([5], some (.cells [.d (.bool r_1.Lock), .d (.int .i64 r_1.Rep), .d (.int .i64 r_1.Seg), .d (.int .u8 r_1.Op), .d (.int .i64 r_1.Mod), .d (.int .i64 r_1.Reg), .d (.int .i64 r_1.RM), .d (.int .u16 r_1.Disp), .d (.int .u16 x_.Imm), .d (.int .u16 r_1.Sel)] 0))]⟩] <| Rd <| kB_nrm <| kS_nrm <| Runs.canon (hansomlaw05_InstMay_h37 ({ Lock := r_1.Lock, Rep := r_1.Rep, Seg := r_1.Seg, Op := r_1.Op, Mod := r_1.Mod, Reg := r_1.Reg, RM := r_1.RM, Disp := r_1.Disp, Imm := x_.Imm, Sel := r_1.Sel } : Inst)) (Canon.nil (by kernel_rfl)) ?_
     exact hansomlaw05_InstMay_j37_ok x_ odd_ ({ Lock := r_1.Lock, Rep := r_1.Rep, Seg := r_1.Seg, Op := r_1.Op, Mod := r_1.Mod, Reg := r_1.Reg, RM := r_1.RM, Disp := r_1.Disp, Imm := x_.Imm, Sel := r_1.Sel } : Inst) r h
    | false =>
     replace h := ite_f hb_8 h
     refine Cf <| Sq <| Ro <| Rc 2 [⟨.d (.bool ((bitsOp .and .i64 odd_ 15) == 4)), []⟩, ⟨.d (.bool ((bitsOp .and .i64 odd_ 15) == 4)), []⟩] <| Rd <| kS_nrm ?_
     cases hb_9 : (((bitsOp .and .i64 odd_ 15) == 4) : Bool) with
     | true =>
      replace h := ite_t hb_9 h
      refine Ct <| Ro <| Rc 8 [⟨.ptr [2] 0 1, []⟩, ⟨.d (.int .i64 x_.Rep), []⟩, ⟨.ptr [2] 0 2, []⟩, ⟨.d (.int .i64 x_.Seg), []⟩, ⟨.ptr [5] 0 1, []⟩, ⟨.tup [], [([5], some (.cells [.d (.bool r_1.Lock), .d (.int .i64 x_.Rep), .d (.int .i64 r_1.Seg), .d (.int .u8 r_1.Op), .d (.int .i64 r_1.Mod), .d (.int .i64 r_1.Reg), .d (.int .i64 r_1.RM), .d (.int .u16 r_1.Disp), .d (.int .u16 r_1.Imm), .d (.int .u16 r_1.Sel)] 0))]⟩, ⟨.ptr [5] 0 2, []⟩, ⟨.tup [], [([5], some (.cells [.d (.bool r_1.Lock), .d (.int .i64 x_.Rep), .d (.int .i64 x_.Seg), .d (.int .u8 r_1.Op), .d (.int .i64 r_1.Mod), .d (.int .i64 r_1.Reg), .d (.int .i64 r_1.RM), .d (.int .u16 r_1.Disp), .d (.int .u16 r_1.Imm), .d (.int .u16 r_1.Sel)] 0))]⟩] <| Rd <| kB_nrm <| kS_nrm <| Runs.canon (hansomlaw05_InstMay_h37 ({ Lock := r_1.Lock, Rep := x_.Rep, Seg := x_.Seg, Op := r_1.Op, Mod := r_1.Mod, Reg := r_1.Reg, RM := r_1.RM, Disp := r_1.Disp, Imm := r_1.Imm, Sel := r_1.Sel } : Inst)) (Canon.nil (by kernel_rfl)) ?_
      exact hansomlaw05_InstMay_j37_ok x_ odd_ ({ Lock := r_1.Lock, Rep := x_.Rep, Seg := x_.Seg, Op := r_1.Op, Mod := r_1.Mod, Reg := r_1.Reg, RM := r_1.RM, Disp := r_1.Disp, Imm := r_1.Imm, Sel := r_1.Sel } : Inst) r h
     | false =>
      replace h := ite_f hb_9 h
      refine Cf <| Sq <| Ro <| Rc 2 [⟨.d (.bool ((bitsOp .and .i64 odd_ 15) == 5)), []⟩, ⟨.d (.bool ((bitsOp .and .i64 odd_ 15) == 5)), []⟩] <| Rd <| kS_nrm ?_
      cases hb_10 : (((bitsOp .and .i64 odd_ 15) == 5) : Bool) with
      | true =>
       replace h := ite_t hb_10 h
       refine Ct <| Ro <| Rc 4 [⟨.ptr [2] 0 9, []⟩, ⟨.d (.int .u16 x_.Sel), []⟩, ⟨.ptr [5] 0 9, []⟩, ⟨.tup [], [([5], some (.cells [.d (.bool r_1.Lock), .d (.int .i64 r_1.Rep), .d (.int .i64 r_1.Seg), .d (.int .u8 r_1.Op), .d (.int .i64 r_1.Mod), .d (.int .i64 r_1.Reg), .d (.int .i64 r_1.RM), .d (.int .u16 r_1.Disp), .d (.int .u16 r_1.Imm), .d (.int .u16 x_.Sel)] 0))]⟩] <| Rd <| kB_nrm <| kS_nrm <| Runs.canon (hansomlaw05_InstMay_h37 ({ Lock := r_1.Lock, Rep := r_1.Rep, Seg := r_1.Seg, Op := r_1.Op, Mod := r_1.Mod, Reg := r_1.Reg, RM := r_1.RM, Disp := r_1.Disp, Imm := r_1.Imm, Sel := x_.Sel } : Inst)) (Canon.nil (by kernel_rfl)) ?_
       exact hansomlaw05_InstMay_j37_ok x_ odd_ ({ Lock := r_1.Lock, Rep := r_1.Rep, Seg := r_1.Seg, Op := r_1.Op, Mod := r_1.Mod, Reg := r_1.Reg, RM := r_1.RM, Disp := r_1.Disp, Imm := r_1.Imm, Sel := x_.Sel } : Inst) r h
      | false =>
       replace h := ite_f hb_10 h
       refine Cf <| Sq <| Ro <| Rc 2 [⟨.d (.bool ((bitsOp .and .i64 odd_ 15) == 6)), []⟩, ⟨.d (.bool ((bitsOp .and .i64 odd_ 15) == 6)), []⟩] <| Rd <| kS_nrm ?_
       cases hb_11 : (((bitsOp .and .i64 odd_ 15) == 6) : Bool) with
       | true =>
        replace h := ite_t hb_11 h
        refine Ct <| Ro <| Rc 4 [⟨.ptr [2] 0 5, []⟩, ⟨.d (.int .i64 x_.Reg), []⟩, ⟨.ptr [5] 0 5, []⟩, ⟨.tup [], [([5], some (.cells [.d (.bool r_1.Lock), .d (.int .i64 r_1.Rep), .d (.int .i64 r_1.Seg), .d (.int .u8 r_1.Op), .d (.int .i64 r_1.Mod), .d (.int .i64 x_.Reg), .d (.int .i64 r_1.RM), .d (.int .u16 r_1.Disp), .d (.int .u16 r_1.Imm), .d (.int .u16 r_1.Sel)] 0))]⟩] <| Rd <| kB_nrm <| kS_nrm <| Runs.canon (hansomlaw05_InstMay_h37 ({ Lock := r_1.Lock, Rep := r_1.Rep, Seg := r_1.Seg, Op := r_1.Op, Mod := r_1.Mod, Reg := x_.Reg, RM := r_1.RM, Disp := r_1.Disp, Imm := r_1.Imm, Sel := r_1.Sel } : Inst)) (Canon.nil (by kernel_rfl)) ?_
        exact hansomlaw05_InstMay_j37_ok x_ odd_ ({ Lock := r_1.Lock, Rep := r_1.Rep, Seg := r_1.Seg, Op := r_1.Op, Mod := r_1.Mod, Reg := x_.Reg, RM := r_1.RM, Disp := r_1.Disp, Imm := r_1.Imm, Sel := r_1.Sel } : Inst) r h
       | false =>
        replace h := ite_f hb_11 h
        refine Cf <| Runs.skip <| kB_nrm <| kS_nrm <| Runs.canon (hansomlaw05_InstMay_h37 r_1) (Canon.nil (by kernel_rfl)) ?_
        exact hansomlaw05_InstMay_j37_ok x_ odd_ r_1 r h
theorem hansomlaw05_InstMay_L (x_ : Inst) (odd_ : Int) (r : Bool) (h : hansomlaw05_InstMay x_ odd_ = some r) : L 6 [.d (Inst.d x_), .d (.int .i64 odd_)] = some (.d (.bool r), [.d (Inst.d x_), .d (.int .i64 odd_)]) := by
 obtain ⟨p, ⟨hne, hf⟩, hr⟩ := hansomlaw05_InstMay_ok x_ odd_ r h
 obtain ⟨k, hk⟩ := run_of (F := F6) (args := [.d (Inst.d x_), .d (.int .i64 odd_)]) (ap := [.d (Inst.d x_), .d (.int .i64 odd_)]) (bx0 := updW (fun _ => none) []) rfl rfl (by kernel_rfl) ⟨p, ⟨hne, hf⟩, hr⟩
 exact lim_run (k := k) rfl hk
end Go.Es.Ins
