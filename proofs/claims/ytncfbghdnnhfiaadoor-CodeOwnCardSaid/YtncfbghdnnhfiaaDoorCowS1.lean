/- The interpreter answers as plain Lean does: part 2. No condition. -/
import Derived.Test.YtncfbghdnnhfiaaDoorCowF
import Derived.Test.YtncfbghdnnhfiaaDoorCowP
import Derived.KernelRfl
import Derived.Test.YtncfbghdnnhfiaaDoorCowS0
set_option linter.unusedVariables false
set_option linter.unusedSimpArgs false
set_option maxRecDepth 100000
set_option maxHeartbeats 4000000
namespace Go.Es.Cow
def isa_goes_Q (op_ : Int) (r : (Row × Bool)) (p : Out × St) : Prop := (∀ i, p.1 ≠ .exit i) ∧ finF F62 [.d (.int .u8 op_)] p.2 = some (.tup [.d (Row.d r.1), .d (.bool r.2)], [.d (.int .u8 op_)])
theorem isa_goes_j20_ok (op_ : Int) (b_2 : Row) (op0 : Int) (t4 : Int) (t5 : Bool) (r : (Row × Bool)) (h : isa_goes_j20 b_2 op0 t4 t5 = some r) : Runs L F62b20 (isa_goes_h20 b_2 op0 t4 t5) (kB 0 (kS L F62c91 (isa_goes_Q op_ r))) := by
 unfold isa_goes_j20 at h
 cases hb_2 : (t5 : Bool) with
 | true =>
  replace h := ite_t hb_2 h
  refine Ct <| Sq <| Ro <| Rc 4 [⟨.d (.int .u8 op0), []⟩, ⟨.d (.int .u8 (IntKind.wrap .u8 (op0 - 224))), []⟩, ⟨.d (.int .i64 (IntKind.wrap .i64 (IntKind.wrap .u8 (op0 - 224)))), []⟩, ⟨.d (.int .i64 (IntKind.wrap .i64 (74 + (IntKind.wrap .i64 (IntKind.wrap .u8 (op0 - 224)))))), []⟩] ?_
  obtain ⟨r_1, hr_1, h⟩ := bind_s h
  have hc_1 := isa_row_L (IntKind.wrap .i64 (74 + (IntKind.wrap .i64 (IntKind.wrap .u8 (op0 - 224))))) 9 0 r_1 hr_1
  refine Rt (some 14) (.callf 55) [] none [.d (.int .i64 (IntKind.wrap .i64 (74 + (IntKind.wrap .i64 (IntKind.wrap .u8 (op0 - 224)))))), .d (.int .i64 9), .d (.int .i64 0)] (.tup [.d (Row.d r_1.1), .d (.bool r_1.2)]) [] (cut_call (call_of (ws := []) (us := []) (by kernel_rfl) (by kernel_rfl) hc_1 (by kernel_rfl) (by kernel_rfl))) <| Rc 4 [⟨.d (Row.d r_1.1), []⟩, ⟨.d (.bool r_1.2), []⟩, ⟨.tup [], [([2], some (.cells [.d (.int .i64 r_1.1.Name), .d (.int .i64 r_1.1.A), .d (.int .i64 r_1.1.B), .d (.bool r_1.1.Mod)] 0))]⟩, ⟨.d (.bool r_1.2), []⟩] <| Rd <| kS_nrm <| Runs.ret <| kB_ret <| kS_ret ?_
  obtain rfl := Option.some.inj h
  exact ⟨Out.ret_ne, (by kernel_rfl)⟩
 | false =>
  replace h := ite_f hb_2 h
  refine Cf <| Sq <| Ro <| Rc 2 [⟨.d (.bool (t4 == 228)), []⟩, ⟨.d (.bool (t4 == 228)), []⟩] <| Rd <| kS_nrm ?_
  cases hb_3 : ((t4 == 228) : Bool) with
  | true =>
   replace h := ite_t hb_3 h
   refine Ct <| Sq <| Ro ?_
   obtain ⟨r_2, hr_2, h⟩ := bind_s h
   have hc_2 := isa_row_L 78 14 6 r_2 hr_2
   refine Rt (some 19) (.callf 55) [] none [.d (.int .i64 78), .d (.int .i64 14), .d (.int .i64 6)] (.tup [.d (Row.d r_2.1), .d (.bool r_2.2)]) [] (cut_call (call_of (ws := []) (us := []) (by kernel_rfl) (by kernel_rfl) hc_2 (by kernel_rfl) (by kernel_rfl))) <| Rc 4 [⟨.d (Row.d r_2.1), []⟩, ⟨.d (.bool r_2.2), []⟩, ⟨.tup [], [([2], some (.cells [.d (.int .i64 r_2.1.Name), .d (.int .i64 r_2.1.A), .d (.int .i64 r_2.1.B), .d (.bool r_2.1.Mod)] 0))]⟩, ⟨.d (.bool r_2.2), []⟩] <| Rd <| kS_nrm <| Runs.ret <| kB_ret <| kS_ret ?_
   obtain rfl := Option.some.inj h
   exact ⟨Out.ret_ne, (by kernel_rfl)⟩
  | false =>
   replace h := ite_f hb_3 h
   refine Cf <| Sq <| Ro <| Rc 2 [⟨.d (.bool (t4 == 229)), []⟩, ⟨.d (.bool (t4 == 229)), []⟩] <| Rd <| kS_nrm ?_
   cases hb_4 : ((t4 == 229) : Bool) with
   | true =>
    replace h := ite_t hb_4 h
    refine Ct <| Sq <| Ro ?_
    obtain ⟨r_3, hr_3, h⟩ := bind_s h
    have hc_3 := isa_row_L 78 16 6 r_3 hr_3
    refine Rt (some 24) (.callf 55) [] none [.d (.int .i64 78), .d (.int .i64 16), .d (.int .i64 6)] (.tup [.d (Row.d r_3.1), .d (.bool r_3.2)]) [] (cut_call (call_of (ws := []) (us := []) (by kernel_rfl) (by kernel_rfl) hc_3 (by kernel_rfl) (by kernel_rfl))) <| Rc 4 [⟨.d (Row.d r_3.1), []⟩, ⟨.d (.bool r_3.2), []⟩, ⟨.tup [], [([2], some (.cells [.d (.int .i64 r_3.1.Name), .d (.int .i64 r_3.1.A), .d (.int .i64 r_3.1.B), .d (.bool r_3.1.Mod)] 0))]⟩, ⟨.d (.bool r_3.2), []⟩] <| Rd <| kS_nrm <| Runs.ret <| kB_ret <| kS_ret ?_
    obtain rfl := Option.some.inj h
    exact ⟨Out.ret_ne, (by kernel_rfl)⟩
   | false =>
    replace h := ite_f hb_4 h
    refine Cf <| Sq <| Ro <| Rc 2 [⟨.d (.bool (t4 == 230)), []⟩, ⟨.d (.bool (t4 == 230)), []⟩] <| Rd <| kS_nrm ?_
    cases hb_5 : ((t4 == 230) : Bool) with
    | true =>
     replace h := ite_t hb_5 h
     refine Ct <| Sq <| Ro ?_
     obtain ⟨r_4, hr_4, h⟩ := bind_s h
     have hc_4 := isa_row_L 79 6 14 r_4 hr_4
     refine Rt (some 29) (.callf 55) [] none [.d (.int .i64 79), .d (.int .i64 6), .d (.int .i64 14)] (.tup [.d (Row.d r_4.1), .d (.bool r_4.2)]) [] (cut_call (call_of (ws := []) (us := []) (by kernel_rfl) (by kernel_rfl) hc_4 (by kernel_rfl) (by kernel_rfl))) <| Rc 4 [⟨.d (Row.d r_4.1), []⟩, ⟨.d (.bool r_4.2), []⟩, ⟨.tup [], [([2], some (.cells [.d (.int .i64 r_4.1.Name), .d (.int .i64 r_4.1.A), .d (.int .i64 r_4.1.B), .d (.bool r_4.1.Mod)] 0))]⟩, ⟨.d (.bool r_4.2), []⟩] <| Rd <| kS_nrm <| Runs.ret <| kB_ret <| kS_ret ?_
     obtain rfl := Option.some.inj h
     exact ⟨Out.ret_ne, (by kernel_rfl)⟩
    | false =>
     replace h := ite_f hb_5 h
     refine Cf <| Sq <| Ro <| Rc 2 [⟨.d (.bool (t4 == 231)), []⟩, ⟨.d (.bool (t4 == 231)), []⟩] <| Rd <| kS_nrm ?_
     cases hb_6 : ((t4 == 231) : Bool) with
     | true =>
      replace h := ite_t hb_6 h
      refine Ct <| Sq <| Ro ?_
      obtain ⟨r_5, hr_5, h⟩ := bind_s h
      have hc_5 := isa_row_L 79 6 16 r_5 hr_5
      refine Rt (some 34) (.callf 55) [] none [.d (.int .i64 79), .d (.int .i64 6), .d (.int .i64 16)] (.tup [.d (Row.d r_5.1), .d (.bool r_5.2)]) [] (cut_call (call_of (ws := []) (us := []) (by kernel_rfl) (by kernel_rfl) hc_5 (by kernel_rfl) (by kernel_rfl))) <| Rc 4 [⟨.d (Row.d r_5.1), []⟩, ⟨.d (.bool r_5.2), []⟩, ⟨.tup [], [([2], some (.cells [.d (.int .i64 r_5.1.Name), .d (.int .i64 r_5.1.A), .d (.int .i64 r_5.1.B), .d (.bool r_5.1.Mod)] 0))]⟩, ⟨.d (.bool r_5.2), []⟩] <| Rd <| kS_nrm <| Runs.ret <| kB_ret <| kS_ret ?_
      obtain rfl := Option.some.inj h
      exact ⟨Out.ret_ne, (by kernel_rfl)⟩
     | false =>
      replace h := ite_f hb_6 h
      refine Cf <| Sq <| Ro <| Rc 2 [⟨.d (.bool (t4 == 232)), []⟩, ⟨.d (.bool (t4 == 232)), []⟩] <| Rd <| kS_nrm ?_
      cases hb_7 : ((t4 == 232) : Bool) with
      | true =>
       replace h := ite_t hb_7 h
       refine Ct <| Sq <| Ro ?_
       obtain ⟨r_6, hr_6, h⟩ := bind_s h
       have hc_6 := isa_row_L 39 10 0 r_6 hr_6
       refine Rt (some 39) (.callf 55) [] none [.d (.int .i64 39), .d (.int .i64 10), .d (.int .i64 0)] (.tup [.d (Row.d r_6.1), .d (.bool r_6.2)]) [] (cut_call (call_of (ws := []) (us := []) (by kernel_rfl) (by kernel_rfl) hc_6 (by kernel_rfl) (by kernel_rfl))) <| Rc 4 [⟨.d (Row.d r_6.1), []⟩, ⟨.d (.bool r_6.2), []⟩, ⟨.tup [], [([2], some (.cells [.d (.int .i64 r_6.1.Name), .d (.int .i64 r_6.1.A), .d (.int .i64 r_6.1.B), .d (.bool r_6.1.Mod)] 0))]⟩, ⟨.d (.bool r_6.2), []⟩] <| Rd <| kS_nrm <| Runs.ret <| kB_ret <| kS_ret ?_
       obtain rfl := Option.some.inj h
       exact ⟨Out.ret_ne, (by kernel_rfl)⟩
      | false =>
       replace h := ite_f hb_7 h
       refine Cf <| Sq <| Ro <| Rc 2 [⟨.d (.bool (t4 == 233)), []⟩, ⟨.d (.bool (t4 == 233)), []⟩] <| Rd <| kS_nrm ?_
       cases hb_8 : ((t4 == 233) : Bool) with
       | true =>
        replace h := ite_t hb_8 h
        refine Ct <| Sq <| Ro ?_
        obtain ⟨r_7, hr_7, h⟩ := bind_s h
        have hc_7 := isa_row_L 80 10 0 r_7 hr_7
        refine Rt (some 44) (.callf 55) [] none [.d (.int .i64 80), .d (.int .i64 10), .d (.int .i64 0)] (.tup [.d (Row.d r_7.1), .d (.bool r_7.2)]) [] (cut_call (call_of (ws := []) (us := []) (by kernel_rfl) (by kernel_rfl) hc_7 (by kernel_rfl) (by kernel_rfl))) <| Rc 4 [⟨.d (Row.d r_7.1), []⟩, ⟨.d (.bool r_7.2), []⟩, ⟨.tup [], [([2], some (.cells [.d (.int .i64 r_7.1.Name), .d (.int .i64 r_7.1.A), .d (.int .i64 r_7.1.B), .d (.bool r_7.1.Mod)] 0))]⟩, ⟨.d (.bool r_7.2), []⟩] <| Rd <| kS_nrm <| Runs.ret <| kB_ret <| kS_ret ?_
        obtain rfl := Option.some.inj h
        exact ⟨Out.ret_ne, (by kernel_rfl)⟩
       | false =>
        replace h := ite_f hb_8 h
        refine Cf <| Sq <| Ro <| Rc 2 [⟨.d (.bool (t4 == 234)), []⟩, ⟨.d (.bool (t4 == 234)), []⟩] <| Rd <| kS_nrm ?_
        cases hb_9 : ((t4 == 234) : Bool) with
        | true =>
         replace h := ite_t hb_9 h
         refine Ct <| Sq <| Ro ?_
         obtain ⟨r_8, hr_8, h⟩ := bind_s h
         have hc_8 := isa_row_L 81 11 0 r_8 hr_8
         refine Rt (some 49) (.callf 55) [] none [.d (.int .i64 81), .d (.int .i64 11), .d (.int .i64 0)] (.tup [.d (Row.d r_8.1), .d (.bool r_8.2)]) [] (cut_call (call_of (ws := []) (us := []) (by kernel_rfl) (by kernel_rfl) hc_8 (by kernel_rfl) (by kernel_rfl))) <| Rc 4 [⟨.d (Row.d r_8.1), []⟩, ⟨.d (.bool r_8.2), []⟩, ⟨.tup [], [([2], some (.cells [.d (.int .i64 r_8.1.Name), .d (.int .i64 r_8.1.A), .d (.int .i64 r_8.1.B), .d (.bool r_8.1.Mod)] 0))]⟩, ⟨.d (.bool r_8.2), []⟩] <| Rd <| kS_nrm <| Runs.ret <| kB_ret <| kS_ret ?_
         obtain rfl := Option.some.inj h
         exact ⟨Out.ret_ne, (by kernel_rfl)⟩
        | false =>
         replace h := ite_f hb_9 h
         refine Cf <| Sq <| Ro <| Rc 2 [⟨.d (.bool (t4 == 235)), []⟩, ⟨.d (.bool (t4 == 235)), []⟩] <| Rd <| kS_nrm ?_
         cases hb_10 : ((t4 == 235) : Bool) with
         | true =>
          replace h := ite_t hb_10 h
          refine Ct <| Sq <| Ro ?_
          obtain ⟨r_9, hr_9, h⟩ := bind_s h
          have hc_9 := isa_row_L 80 9 0 r_9 hr_9
          refine Rt (some 54) (.callf 55) [] none [.d (.int .i64 80), .d (.int .i64 9), .d (.int .i64 0)] (.tup [.d (Row.d r_9.1), .d (.bool r_9.2)]) [] (cut_call (call_of (ws := []) (us := []) (by kernel_rfl) (by kernel_rfl) hc_9 (by kernel_rfl) (by kernel_rfl))) <| Rc 4 [⟨.d (Row.d r_9.1), []⟩, ⟨.d (.bool r_9.2), []⟩, ⟨.tup [], [([2], some (.cells [.d (.int .i64 r_9.1.Name), .d (.int .i64 r_9.1.A), .d (.int .i64 r_9.1.B), .d (.bool r_9.1.Mod)] 0))]⟩, ⟨.d (.bool r_9.2), []⟩] <| Rd <| kS_nrm <| Runs.ret <| kB_ret <| kS_ret ?_
          obtain rfl := Option.some.inj h
          exact ⟨Out.ret_ne, (by kernel_rfl)⟩
         | false =>
          replace h := ite_f hb_10 h
          refine Cf <| Sq <| Ro <| Rc 2 [⟨.d (.bool (t4 == 236)), []⟩, ⟨.d (.bool (t4 == 236)), []⟩] <| Rd <| kS_nrm ?_
          cases hb_11 : ((t4 == 236) : Bool) with
          | true =>
           replace h := ite_t hb_11 h
           refine Ct <| Sq <| Ro ?_
           obtain ⟨r_10, hr_10, h⟩ := bind_s h
           have hc_10 := isa_row_L 78 14 17 r_10 hr_10
           refine Rt (some 59) (.callf 55) [] none [.d (.int .i64 78), .d (.int .i64 14), .d (.int .i64 17)] (.tup [.d (Row.d r_10.1), .d (.bool r_10.2)]) [] (cut_call (call_of (ws := []) (us := []) (by kernel_rfl) (by kernel_rfl) hc_10 (by kernel_rfl) (by kernel_rfl))) <| Rc 4 [⟨.d (Row.d r_10.1), []⟩, ⟨.d (.bool r_10.2), []⟩, ⟨.tup [], [([2], some (.cells [.d (.int .i64 r_10.1.Name), .d (.int .i64 r_10.1.A), .d (.int .i64 r_10.1.B), .d (.bool r_10.1.Mod)] 0))]⟩, ⟨.d (.bool r_10.2), []⟩] <| Rd <| kS_nrm <| Runs.ret <| kB_ret <| kS_ret ?_
           obtain rfl := Option.some.inj h
           exact ⟨Out.ret_ne, (by kernel_rfl)⟩
          | false =>
           replace h := ite_f hb_11 h
           refine Cf <| Sq <| Ro <| Rc 2 [⟨.d (.bool (t4 == 237)), []⟩, ⟨.d (.bool (t4 == 237)), []⟩] <| Rd <| kS_nrm ?_
           cases hb_12 : ((t4 == 237) : Bool) with
           | true =>
            replace h := ite_t hb_12 h
            refine Ct <| Sq <| Ro ?_
            obtain ⟨r_11, hr_11, h⟩ := bind_s h
            have hc_11 := isa_row_L 78 16 17 r_11 hr_11
            refine Rt (some 64) (.callf 55) [] none [.d (.int .i64 78), .d (.int .i64 16), .d (.int .i64 17)] (.tup [.d (Row.d r_11.1), .d (.bool r_11.2)]) [] (cut_call (call_of (ws := []) (us := []) (by kernel_rfl) (by kernel_rfl) hc_11 (by kernel_rfl) (by kernel_rfl))) <| Rc 4 [⟨.d (Row.d r_11.1), []⟩, ⟨.d (.bool r_11.2), []⟩, ⟨.tup [], [([2], some (.cells [.d (.int .i64 r_11.1.Name), .d (.int .i64 r_11.1.A), .d (.int .i64 r_11.1.B), .d (.bool r_11.1.Mod)] 0))]⟩, ⟨.d (.bool r_11.2), []⟩] <| Rd <| kS_nrm <| Runs.ret <| kB_ret <| kS_ret ?_
            obtain rfl := Option.some.inj h
            exact ⟨Out.ret_ne, (by kernel_rfl)⟩
           | false =>
            replace h := ite_f hb_12 h
            refine Cf <| Sq <| Ro <| Rc 2 [⟨.d (.bool (t4 == 238)), []⟩, ⟨.d (.bool (t4 == 238)), []⟩] <| Rd <| kS_nrm ?_
            cases hb_13 : ((t4 == 238) : Bool) with
            | true =>
             replace h := ite_t hb_13 h
             refine Ct <| Sq <| Ro ?_
             obtain ⟨r_12, hr_12, h⟩ := bind_s h
             have hc_12 := isa_row_L 79 17 14 r_12 hr_12
             refine Rt (some 69) (.callf 55) [] none [.d (.int .i64 79), .d (.int .i64 17), .d (.int .i64 14)] (.tup [.d (Row.d r_12.1), .d (.bool r_12.2)]) [] (cut_call (call_of (ws := []) (us := []) (by kernel_rfl) (by kernel_rfl) hc_12 (by kernel_rfl) (by kernel_rfl))) <| Rc 4 [⟨.d (Row.d r_12.1), []⟩, ⟨.d (.bool r_12.2), []⟩, ⟨.tup [], [([2], some (.cells [.d (.int .i64 r_12.1.Name), .d (.int .i64 r_12.1.A), .d (.int .i64 r_12.1.B), .d (.bool r_12.1.Mod)] 0))]⟩, ⟨.d (.bool r_12.2), []⟩] <| Rd <| kS_nrm <| Runs.ret <| kB_ret <| kS_ret ?_
             obtain rfl := Option.some.inj h
             exact ⟨Out.ret_ne, (by kernel_rfl)⟩
            | false =>
             replace h := ite_f hb_13 h
             refine Cf <| Runs.skip <| kB_nrm <| kS_nrm <| Sq <| Ro ?_
             obtain ⟨r_13, hr_13, h⟩ := bind_s h
             have hc_13 := isa_row_L 79 17 16 r_13 hr_13
             refine Rt (some 72) (.callf 55) [] none [.d (.int .i64 79), .d (.int .i64 17), .d (.int .i64 16)] (.tup [.d (Row.d r_13.1), .d (.bool r_13.2)]) [] (cut_call (call_of (ws := []) (us := []) (by kernel_rfl) (by kernel_rfl) hc_13 (by kernel_rfl) (by kernel_rfl))) <| Rc 4 [⟨.d (Row.d r_13.1), []⟩, ⟨.d (.bool r_13.2), []⟩, ⟨.tup [], [([2], some (.cells [.d (.int .i64 r_13.1.Name), .d (.int .i64 r_13.1.A), .d (.int .i64 r_13.1.B), .d (.bool r_13.1.Mod)] 0))]⟩, ⟨.d (.bool r_13.2), []⟩] <| Rd <| kS_nrm <| Runs.ret ?_
             obtain rfl := Option.some.inj h
             exact ⟨Out.ret_ne, (by kernel_rfl)⟩
theorem isa_goes_ok (op_ : Int) (r : (Row × Bool)) (h : isa_goes op_ = some r) : Runs L F62.body ⟨tmOf [.d (.int .u8 op_)] 0, updW (fun _ => none) []⟩ (isa_goes_Q op_ r) := by
 unfold isa_goes at h
 refine Sq <| Ro <| Rc 2 [⟨.ptr [2] 0 0, [([2], some (.cells [.d (.int .i64 0), .d (.int .i64 0), .d (.int .i64 0), .d (.bool false)] 0))]⟩, ⟨.d (.bool false), []⟩] <| Rd <| kS_nrm <| Sq <| Sq <| Ro <| Rc 1 [⟨.d (.int .u8 op_), []⟩] <| Rd <| kS_nrm <| Runs.block <| Sq <| Sq <| Ro <| Rc 2 [⟨.d (.bool (op_ == 224)), []⟩, ⟨.d (.bool (op_ == 224)), []⟩] <| Rd <| kS_nrm ?_
 cases hb_1 : ((op_ == 224) : Bool) with
 | true =>
  replace h := ite_t hb_1 h
  refine Ct <| Runs.skip <| kS_nrm <| Runs.canon (isa_goes_h20 ({ Name := 0, A := 0, B := 0, Mod := false } : Row) op_ op_ true) (Canon.nil (by kernel_rfl)) ?_
  exact isa_goes_j20_ok op_ ({ Name := 0, A := 0, B := 0, Mod := false } : Row) op_ op_ true r h
 | false =>
  replace h := ite_f hb_1 h
  refine Cf <| Sq <| Ro <| Rc 2 [⟨.d (.bool (op_ == 225)), []⟩, ⟨.d (.bool (op_ == 225)), []⟩] <| Rd <| kS_nrm ?_
  cases hb_14 : ((op_ == 225) : Bool) with
  | true =>
   replace h := ite_t hb_14 h
   refine Ct <| Runs.skip <| kS_nrm <| Runs.canon (isa_goes_h20 ({ Name := 0, A := 0, B := 0, Mod := false } : Row) op_ op_ true) (Canon.nil (by kernel_rfl)) ?_
   exact isa_goes_j20_ok op_ ({ Name := 0, A := 0, B := 0, Mod := false } : Row) op_ op_ true r h
  | false =>
   replace h := ite_f hb_14 h
   refine Cf <| Sq <| Ro <| Rc 2 [⟨.d (.bool (op_ == 226)), []⟩, ⟨.d (.bool (op_ == 226)), []⟩] <| Rd <| kS_nrm ?_
   cases hb_15 : ((op_ == 226) : Bool) with
   | true =>
    replace h := ite_t hb_15 h
    refine Ct <| Runs.skip <| kS_nrm <| Runs.canon (isa_goes_h20 ({ Name := 0, A := 0, B := 0, Mod := false } : Row) op_ op_ true) (Canon.nil (by kernel_rfl)) ?_
    exact isa_goes_j20_ok op_ ({ Name := 0, A := 0, B := 0, Mod := false } : Row) op_ op_ true r h
   | false =>
    replace h := ite_f hb_15 h
    refine Cf <| Ro <| Rc 2 [⟨.d (.bool (op_ == 227)), []⟩, ⟨.d (.bool (op_ == 227)), []⟩] <| Rd <| kS_nrm <| Runs.canon (isa_goes_h20 ({ Name := 0, A := 0, B := 0, Mod := false } : Row) op_ op_ (op_ == 227)) (Canon.nil (by kernel_rfl)) ?_
    exact isa_goes_j20_ok op_ ({ Name := 0, A := 0, B := 0, Mod := false } : Row) op_ op_ (op_ == 227) r h
theorem isa_goes_L (op_ : Int) (r : (Row × Bool)) (h : isa_goes op_ = some r) : L 62 [.d (.int .u8 op_)] = some (.tup [.d (Row.d r.1), .d (.bool r.2)], [.d (.int .u8 op_)]) := by
 obtain ⟨p, ⟨hne, hf⟩, hr⟩ := isa_goes_ok op_ r h
 obtain ⟨k, hk⟩ := run_of (F := F62) (args := [.d (.int .u8 op_)]) (ap := [.d (.int .u8 op_)]) (bx0 := updW (fun _ => none) []) rfl rfl (by kernel_rfl) ⟨p, ⟨hne, hf⟩, hr⟩
 exact lim_run (k := k) rfl hk
def isa_rest_h18 (b_4 : Row) (op0 : Int) (reg1 : Int) (t21 : Bool) : St := ⟨tab [(0, .d (.int .u8 op0)), (1, .d (.int .i64 reg1)), (4, .ptr [4] 0 0), (21, .d (.bool t21))], tabB [([4], some (.cells [.d (.int .i64 b_4.Name), .d (.int .i64 b_4.A), .d (.int .i64 b_4.B), .d (.bool b_4.Mod)] 0))]⟩
def isa_rest_h37 (b_4 : Row) (op0 : Int) (reg1 : Int) (e6 : Int) (i7 : Int) : St := ⟨tab [(0, .d (.int .u8 op0)), (1, .d (.int .i64 reg1)), (4, .ptr [4] 0 0), (6, .d (.int .i64 e6)), (7, .d (.int .i64 i7))], tabB [([4], some (.cells [.d (.int .i64 b_4.Name), .d (.int .i64 b_4.A), .d (.int .i64 b_4.B), .d (.bool b_4.Mod)] 0))]⟩
def isa_rest_Q (op_ : Int) (reg_ : Int) (r : (Row × Bool)) (p : Out × St) : Prop := (∀ i, p.1 ≠ .exit i) ∧ finF F63 [.d (.int .u8 op_), .d (.int .i64 reg_)] p.2 = some (.tup [.d (Row.d r.1), .d (.bool r.2)], [.d (.int .u8 op_), .d (.int .i64 reg_)])
theorem isa_rest_j37_ok (op_ : Int) (reg_ : Int) (b_4 : Row) (op0 : Int) (reg1 : Int) (e6 : Int) (i7 : Int) (r : (Row × Bool)) (h : isa_rest_j37 b_4 op0 reg1 e6 i7 = some r) : Runs L F63b37 (isa_rest_h37 b_4 op0 reg1 e6 i7) (isa_rest_Q op_ reg_ r) := by
 unfold isa_rest_j37 at h
 refine Sq <| Sq <| Ro <| Rc 2 [⟨.d (.int .u8 op0), []⟩, ⟨.d (.bool (decide (op0 < 248))), []⟩] <| Rd <| kS_nrm ?_
 cases hb_7 : ((decide (op0 < 248)) : Bool) with
 | true =>
  replace h := ite_t hb_7 h
  refine Ct <| Sq <| Sq <| Ro <| Rc 1 [⟨.d (.int .i64 reg1), []⟩] <| Rd <| kS_nrm <| Runs.block <| Sq <| Ro <| Rc 2 [⟨.d (.bool (reg1 == 0)), []⟩, ⟨.d (.bool (reg1 == 0)), []⟩] <| Rd <| kS_nrm ?_
  cases hb_8 : ((reg1 == 0) : Bool) with
  | true =>
   replace h := ite_t hb_8 h
   refine Ct <| Sq <| Ro <| Rc 2 [⟨.d (.int .i64 e6), []⟩, ⟨.d (.int .i64 i7), []⟩] ?_
   obtain ⟨r_5, hr_5, h⟩ := bind_s h
   have hc_5 := isa_mod_L 33 e6 i7 r_5 hr_5
   refine Rt (some 51) (.callf 65) [] none [.d (.int .i64 33), .d (.int .i64 e6), .d (.int .i64 i7)] (.tup [.d (Row.d r_5.1), .d (.bool r_5.2)]) [] (cut_call (call_of (ws := []) (us := []) (by kernel_rfl) (by kernel_rfl) hc_5 (by kernel_rfl) (by kernel_rfl))) <| Rc 4 [⟨.d (Row.d r_5.1), []⟩, ⟨.d (.bool r_5.2), []⟩, ⟨.tup [], [([4], some (.cells [.d (.int .i64 r_5.1.Name), .d (.int .i64 r_5.1.A), .d (.int .i64 r_5.1.B), .d (.bool r_5.1.Mod)] 0))]⟩, ⟨.d (.bool r_5.2), []⟩] <| Rd <| kS_nrm <| Runs.ret <| kB_ret <| kS_ret <| kS_ret ?_
   obtain rfl := Option.some.inj h
   exact ⟨Out.ret_ne, (by kernel_rfl)⟩
  | false =>
   replace h := ite_f hb_8 h
   refine Cf <| Sq <| Ro <| Rc 2 [⟨.d (.bool (reg1 == 1)), []⟩, ⟨.d (.bool (reg1 == 1)), []⟩] <| Rd <| kS_nrm ?_
   cases hb_9 : ((reg1 == 1) : Bool) with
   | true =>
    replace h := ite_t hb_9 h
    refine Ct <| Sq <| Ro ?_
    obtain ⟨r_6, hr_6, h⟩ := bind_s h
    have hc_6 := isa_bad_L r_6 hr_6
    refine Rt (some 56) (.callf 56) [] none [] (.tup [.d (Row.d r_6.1), .d (.bool r_6.2)]) [] (cut_call (call_of (ws := []) (us := []) (by kernel_rfl) (by kernel_rfl) hc_6 (by kernel_rfl) (by kernel_rfl))) <| Rc 4 [⟨.d (Row.d r_6.1), []⟩, ⟨.d (.bool r_6.2), []⟩, ⟨.tup [], [([4], some (.cells [.d (.int .i64 r_6.1.Name), .d (.int .i64 r_6.1.A), .d (.int .i64 r_6.1.B), .d (.bool r_6.1.Mod)] 0))]⟩, ⟨.d (.bool r_6.2), []⟩] <| Rd <| kS_nrm <| Runs.ret <| kB_ret <| kS_ret <| kS_ret ?_
    obtain rfl := Option.some.inj h
    exact ⟨Out.ret_ne, (by kernel_rfl)⟩
   | false =>
    replace h := ite_f hb_9 h
    refine Cf <| Runs.skip <| kB_nrm <| kS_nrm <| Sq <| Ro <| Rc 4 [⟨.d (.int .i64 reg1), []⟩, ⟨.d (.int .i64 (IntKind.wrap .i64 (84 + reg1))), []⟩, ⟨.d (.int .i64 (IntKind.wrap .i64 ((IntKind.wrap .i64 (84 + reg1)) - 2))), []⟩, ⟨.d (.int .i64 e6), []⟩] ?_
    obtain ⟨r_7, hr_7, h⟩ := bind_s h
    have hc_7 := isa_mod_L (IntKind.wrap .i64 ((IntKind.wrap .i64 (84 + reg1)) - 2)) e6 0 r_7 hr_7
    refine Rt (some 63) (.callf 65) [] none [.d (.int .i64 (IntKind.wrap .i64 ((IntKind.wrap .i64 (84 + reg1)) - 2))), .d (.int .i64 e6), .d (.int .i64 0)] (.tup [.d (Row.d r_7.1), .d (.bool r_7.2)]) [] (cut_call (call_of (ws := []) (us := []) (by kernel_rfl) (by kernel_rfl) hc_7 (by kernel_rfl) (by kernel_rfl))) <| Rc 4 [⟨.d (Row.d r_7.1), []⟩, ⟨.d (.bool r_7.2), []⟩, ⟨.tup [], [([4], some (.cells [.d (.int .i64 r_7.1.Name), .d (.int .i64 r_7.1.A), .d (.int .i64 r_7.1.B), .d (.bool r_7.1.Mod)] 0))]⟩, ⟨.d (.bool r_7.2), []⟩] <| Rd <| kS_nrm <| Runs.ret <| kS_ret ?_
    obtain rfl := Option.some.inj h
    exact ⟨Out.ret_ne, (by kernel_rfl)⟩
 | false =>
  replace h := ite_f hb_7 h
  refine Cf <| Runs.skip <| kS_nrm <| Sq <| Runs.block <| Sq <| Ro <| Rc 3 [⟨.d (.int .i64 reg1), []⟩, ⟨.d (.bool (decide (reg1 < 2))), []⟩, ⟨.d (.bool (decide (reg1 < 2))), []⟩] <| Rd <| kS_nrm ?_
  cases hb_10 : ((decide (reg1 < 2)) : Bool) with
  | true =>
   replace h := ite_t hb_10 h
   refine Ct <| Sq <| Ro <| Rc 3 [⟨.d (.int .i64 reg1), []⟩, ⟨.d (.int .i64 (IntKind.wrap .i64 (15 + reg1))), []⟩, ⟨.d (.int .i64 e6), []⟩] ?_
   obtain ⟨r_8, hr_8, h⟩ := bind_s h
   have hc_8 := isa_mod_L (IntKind.wrap .i64 (15 + reg1)) e6 0 r_8 hr_8
   refine Rt (some 72) (.callf 65) [] none [.d (.int .i64 (IntKind.wrap .i64 (15 + reg1))), .d (.int .i64 e6), .d (.int .i64 0)] (.tup [.d (Row.d r_8.1), .d (.bool r_8.2)]) [] (cut_call (call_of (ws := []) (us := []) (by kernel_rfl) (by kernel_rfl) hc_8 (by kernel_rfl) (by kernel_rfl))) <| Rc 4 [⟨.d (Row.d r_8.1), []⟩, ⟨.d (.bool r_8.2), []⟩, ⟨.tup [], [([4], some (.cells [.d (.int .i64 r_8.1.Name), .d (.int .i64 r_8.1.A), .d (.int .i64 r_8.1.B), .d (.bool r_8.1.Mod)] 0))]⟩, ⟨.d (.bool r_8.2), []⟩] <| Rd <| kS_nrm <| Runs.ret <| kB_ret <| kS_ret ?_
   obtain rfl := Option.some.inj h
   exact ⟨Out.ret_ne, (by kernel_rfl)⟩
  | false =>
   replace h := ite_f hb_10 h
   refine Cf <| Sq <| Ro <| Rc 3 [⟨.d (.int .u8 op0), []⟩, ⟨.d (.bool (op0 == 254)), []⟩, ⟨.d (.bool (op0 == 254)), []⟩] ?_
   cases hb_11 : ((op0 == 254) : Bool) with
   | true =>
    replace h := ite_t hb_11 h
    refine Rc 4 [⟨.tup [], []⟩, ⟨.tup [], []⟩, ⟨.d (.bool true), []⟩, ⟨.d (.bool true), []⟩] <| Rd <| kS_nrm <| Ct <| Sq <| Ro ?_
    obtain ⟨r_9, hr_9, h⟩ := bind_s h
    have hc_9 := isa_bad_L r_9 hr_9
    refine Rt (some 82) (.callf 56) [] none [] (.tup [.d (Row.d r_9.1), .d (.bool r_9.2)]) [] (cut_call (call_of (ws := []) (us := []) (by kernel_rfl) (by kernel_rfl) hc_9 (by kernel_rfl) (by kernel_rfl))) <| Rc 4 [⟨.d (Row.d r_9.1), []⟩, ⟨.d (.bool r_9.2), []⟩, ⟨.tup [], [([4], some (.cells [.d (.int .i64 r_9.1.Name), .d (.int .i64 r_9.1.A), .d (.int .i64 r_9.1.B), .d (.bool r_9.1.Mod)] 0))]⟩, ⟨.d (.bool r_9.2), []⟩] <| Rd <| kS_nrm <| Runs.ret <| kB_ret <| kS_ret ?_
    obtain rfl := Option.some.inj h
    exact ⟨Out.ret_ne, (by kernel_rfl)⟩
   | false =>
    replace h := ite_f hb_11 h
    refine Rc 4 [⟨.d (.int .i64 reg1), []⟩, ⟨.d (.bool (reg1 == 7)), []⟩, ⟨.d (.bool (reg1 == 7)), []⟩, ⟨.d (.bool (reg1 == 7)), []⟩] <| Rd <| kS_nrm ?_
    cases hb_12 : ((reg1 == 7) : Bool) with
    | true =>
     replace h := ite_t hb_12 h
     refine Ct <| Sq <| Ro ?_
     obtain ⟨r_10, hr_10, h⟩ := bind_s h
     have hc_10 := isa_bad_L r_10 hr_10
     refine Rt (some 82) (.callf 56) [] none [] (.tup [.d (Row.d r_10.1), .d (.bool r_10.2)]) [] (cut_call (call_of (ws := []) (us := []) (by kernel_rfl) (by kernel_rfl) hc_10 (by kernel_rfl) (by kernel_rfl))) <| Rc 4 [⟨.d (Row.d r_10.1), []⟩, ⟨.d (.bool r_10.2), []⟩, ⟨.tup [], [([4], some (.cells [.d (.int .i64 r_10.1.Name), .d (.int .i64 r_10.1.A), .d (.int .i64 r_10.1.B), .d (.bool r_10.1.Mod)] 0))]⟩, ⟨.d (.bool r_10.2), []⟩] <| Rd <| kS_nrm <| Runs.ret <| kB_ret <| kS_ret ?_
     obtain rfl := Option.some.inj h
     exact ⟨Out.ret_ne, (by kernel_rfl)⟩
    | false =>
     replace h := ite_f hb_12 h
     refine Cf <| Runs.skip <| kB_nrm <| kS_nrm <| Sq <| Ro <| Rc 3 [⟨.ref [85] 0 0 (List.map (D.int .i64) ([39, 40, 80, 81, 9] : List Int)).length 1, [([85], some (.arr (List.map (D.int .i64) ([39, 40, 80, 81, 9] : List Int)) 0 false))]⟩, ⟨.d (.int .i64 reg1), []⟩, ⟨.d (.int .i64 (IntKind.wrap .i64 (reg1 - 2))), []⟩] ?_
     obtain ⟨z_1, hz_1, h⟩ := bind_s h
     refine Rt (some 88) (.iaddrS 1) [] none [.ref [85] 0 0 (List.map (D.int .i64) ([39, 40, 80, 81, 9] : List Int)).length 1, .d (.int .i64 (IntKind.wrap .i64 (reg1 - 2)))] (.eref [85] 0 (0 + ((IntKind.wrap .i64 (reg1 - 2))).toNat) 0) [] (cut_atR (e := (D.int .i64)) (l := ([39, 40, 80, 81, 9] : List Int)) hz_1 rfl) <| Rt (some 89) (.load none) [] none [.eref [85] 0 (0 + ((IntKind.wrap .i64 (reg1 - 2))).toNat) 0] (.d (.int .i64 z_1)) [] (cut_loadR (e := (D.int .i64)) (l := ([39, 40, 80, 81, 9] : List Int)) (fz := false) (y := z_1) (by kernel_rfl) hz_1 (by kernel_rfl) (by kernel_rfl)) <| Rc 1 [⟨.d (.int .i64 z_1), []⟩] <| Rd <| kS_nrm <| Sq <| Sq <| Ro <| Rc 3 [⟨.d (.int .i64 reg1), []⟩, ⟨.d (.bool (reg1 == 3)), []⟩, ⟨.d (.bool (reg1 == 3)), []⟩] ?_
     cases hb_13 : ((reg1 == 3) : Bool) with
     | true =>
      replace h := ite_t hb_13 h
      refine Rc 3 [⟨.tup [], []⟩, ⟨.tup [], []⟩, ⟨.d (.bool true), []⟩] <| Rd <| kS_nrm <| Ct <| Ro <| Rc 1 [⟨.d (.int .i64 19), []⟩] <| Rd <| kS_nrm <| Sq <| Ro <| Rc 2 [⟨.d (.int .i64 z_1), []⟩, ⟨.d (.int .i64 19), []⟩] ?_
      obtain ⟨r_11, hr_11, h⟩ := bind_s h
      have hc_11 := isa_mod_L z_1 19 0 r_11 hr_11
      refine Rt (some 98) (.callf 65) [] none [.d (.int .i64 z_1), .d (.int .i64 19), .d (.int .i64 0)] (.tup [.d (Row.d r_11.1), .d (.bool r_11.2)]) [] (cut_call (call_of (ws := []) (us := []) (by kernel_rfl) (by kernel_rfl) hc_11 (by kernel_rfl) (by kernel_rfl))) <| Rc 4 [⟨.d (Row.d r_11.1), []⟩, ⟨.d (.bool r_11.2), []⟩, ⟨.tup [], [([4], some (.cells [.d (.int .i64 r_11.1.Name), .d (.int .i64 r_11.1.A), .d (.int .i64 r_11.1.B), .d (.bool r_11.1.Mod)] 0))]⟩, ⟨.d (.bool r_11.2), []⟩] <| Rd <| kS_nrm <| Runs.ret ?_
      obtain rfl := Option.some.inj h
      exact ⟨Out.ret_ne, (by kernel_rfl)⟩
     | false =>
      replace h := ite_f hb_13 h
      refine Rc 3 [⟨.d (.int .i64 reg1), []⟩, ⟨.d (.bool (reg1 == 5)), []⟩, ⟨.d (.bool (reg1 == 5)), []⟩] <| Rd <| kS_nrm ?_
      cases hb_14 : ((reg1 == 5) : Bool) with
      | true =>
       replace h := ite_t hb_14 h
       refine Ct <| Ro <| Rc 1 [⟨.d (.int .i64 19), []⟩] <| Rd <| kS_nrm <| Sq <| Ro <| Rc 2 [⟨.d (.int .i64 z_1), []⟩, ⟨.d (.int .i64 19), []⟩] ?_
       obtain ⟨r_12, hr_12, h⟩ := bind_s h
       have hc_12 := isa_mod_L z_1 19 0 r_12 hr_12
       refine Rt (some 98) (.callf 65) [] none [.d (.int .i64 z_1), .d (.int .i64 19), .d (.int .i64 0)] (.tup [.d (Row.d r_12.1), .d (.bool r_12.2)]) [] (cut_call (call_of (ws := []) (us := []) (by kernel_rfl) (by kernel_rfl) hc_12 (by kernel_rfl) (by kernel_rfl))) <| Rc 4 [⟨.d (Row.d r_12.1), []⟩, ⟨.d (.bool r_12.2), []⟩, ⟨.tup [], [([4], some (.cells [.d (.int .i64 r_12.1.Name), .d (.int .i64 r_12.1.A), .d (.int .i64 r_12.1.B), .d (.bool r_12.1.Mod)] 0))]⟩, ⟨.d (.bool r_12.2), []⟩] <| Rd <| kS_nrm <| Runs.ret ?_
       obtain rfl := Option.some.inj h
       exact ⟨Out.ret_ne, (by kernel_rfl)⟩
      | false =>
       replace h := ite_f hb_14 h
       refine Cf <| Runs.skip <| kS_nrm <| Sq <| Ro <| Rc 2 [⟨.d (.int .i64 z_1), []⟩, ⟨.d (.int .i64 e6), []⟩] ?_
       obtain ⟨r_13, hr_13, h⟩ := bind_s h
       have hc_13 := isa_mod_L z_1 e6 0 r_13 hr_13
       refine Rt (some 98) (.callf 65) [] none [.d (.int .i64 z_1), .d (.int .i64 e6), .d (.int .i64 0)] (.tup [.d (Row.d r_13.1), .d (.bool r_13.2)]) [] (cut_call (call_of (ws := []) (us := []) (by kernel_rfl) (by kernel_rfl) hc_13 (by kernel_rfl) (by kernel_rfl))) <| Rc 4 [⟨.d (Row.d r_13.1), []⟩, ⟨.d (.bool r_13.2), []⟩, ⟨.tup [], [([4], some (.cells [.d (.int .i64 r_13.1.Name), .d (.int .i64 r_13.1.A), .d (.int .i64 r_13.1.B), .d (.bool r_13.1.Mod)] 0))]⟩, ⟨.d (.bool r_13.2), []⟩] <| Rd <| kS_nrm <| Runs.ret ?_
       obtain rfl := Option.some.inj h
       exact ⟨Out.ret_ne, (by kernel_rfl)⟩
theorem isa_rest_j18_ok (op_ : Int) (reg_ : Int) (b_4 : Row) (op0 : Int) (reg1 : Int) (t21 : Bool) (r : (Row × Bool)) (h : isa_rest_j18 b_4 op0 reg1 t21 = some r) : Runs L F63b18 (isa_rest_h18 b_4 op0 reg1 t21) (kB 0 (kS L F63c29 (isa_rest_Q op_ reg_ r))) := by
 unfold isa_rest_j18 at h
 cases hb_4 : (t21 : Bool) with
 | true =>
  replace h := ite_t hb_4 h
  refine Ct <| Sq <| Ro <| Rc 4 [⟨.d (.int .u8 op0), []⟩, ⟨.d (.int .u8 (IntKind.wrap .u8 (op0 - 248))), []⟩, ⟨.d (.int .i64 (IntKind.wrap .i64 (IntKind.wrap .u8 (op0 - 248)))), []⟩, ⟨.d (.int .i64 (IntKind.wrap .i64 (90 + (IntKind.wrap .i64 (IntKind.wrap .u8 (op0 - 248)))))), []⟩] ?_
  obtain ⟨r_3, hr_3, h⟩ := bind_s h
  have hc_3 := isa_row_L (IntKind.wrap .i64 (90 + (IntKind.wrap .i64 (IntKind.wrap .u8 (op0 - 248))))) 0 0 r_3 hr_3
  refine Rt (some 32) (.callf 55) [] none [.d (.int .i64 (IntKind.wrap .i64 (90 + (IntKind.wrap .i64 (IntKind.wrap .u8 (op0 - 248)))))), .d (.int .i64 0), .d (.int .i64 0)] (.tup [.d (Row.d r_3.1), .d (.bool r_3.2)]) [] (cut_call (call_of (ws := []) (us := []) (by kernel_rfl) (by kernel_rfl) hc_3 (by kernel_rfl) (by kernel_rfl))) <| Rc 4 [⟨.d (Row.d r_3.1), []⟩, ⟨.d (.bool r_3.2), []⟩, ⟨.tup [], [([4], some (.cells [.d (.int .i64 r_3.1.Name), .d (.int .i64 r_3.1.A), .d (.int .i64 r_3.1.B), .d (.bool r_3.1.Mod)] 0))]⟩, ⟨.d (.bool r_3.2), []⟩] <| Rd <| kS_nrm <| Runs.ret <| kB_ret <| kS_ret ?_
  obtain rfl := Option.some.inj h
  exact ⟨Out.ret_ne, (by kernel_rfl)⟩
 | false =>
  replace h := ite_f hb_4 h
  refine Cf <| Sq <| Ro <| Rc 3 [⟨.d (.int .u8 op0), []⟩, ⟨.d (.bool (decide (op0 < 246))), []⟩, ⟨.d (.bool (decide (op0 < 246))), []⟩] <| Rd <| kS_nrm ?_
  cases hb_5 : ((decide (op0 < 246)) : Bool) with
  | true =>
   replace h := ite_t hb_5 h
   refine Ct <| Sq <| Ro ?_
   obtain ⟨r_4, hr_4, h⟩ := bind_s h
   have hc_4 := isa_bad_L r_4 hr_4
   refine Rt (some 38) (.callf 56) [] none [] (.tup [.d (Row.d r_4.1), .d (.bool r_4.2)]) [] (cut_call (call_of (ws := []) (us := []) (by kernel_rfl) (by kernel_rfl) hc_4 (by kernel_rfl) (by kernel_rfl))) <| Rc 4 [⟨.d (Row.d r_4.1), []⟩, ⟨.d (.bool r_4.2), []⟩, ⟨.tup [], [([4], some (.cells [.d (.int .i64 r_4.1.Name), .d (.int .i64 r_4.1.A), .d (.int .i64 r_4.1.B), .d (.bool r_4.1.Mod)] 0))]⟩, ⟨.d (.bool r_4.2), []⟩] <| Rd <| kS_nrm <| Runs.ret <| kB_ret <| kS_ret ?_
   obtain rfl := Option.some.inj h
   exact ⟨Out.ret_ne, (by kernel_rfl)⟩
  | false =>
   replace h := ite_f hb_5 h
   refine Cf <| Runs.skip <| kB_nrm <| kS_nrm <| Sq <| Ro <| Rc 2 [⟨.d (.int .i64 1), []⟩, ⟨.d (.int .i64 6), []⟩] <| Rd <| kS_nrm <| Sq <| Sq <| Ro <| Rc 3 [⟨.d (.int .u8 op0), []⟩, ⟨.d (.int .u8 (bitsOp .and .u8 op0 1)), []⟩, ⟨.d (.bool ((bitsOp .and .u8 op0 1) == 1)), []⟩] <| Rd <| kS_nrm ?_
   cases hb_6 : (((bitsOp .and .u8 op0 1) == 1) : Bool) with
   | true =>
    replace h := ite_t hb_6 h
    refine Ct <| Ro <| Rc 2 [⟨.d (.int .i64 2), []⟩, ⟨.d (.int .i64 7), []⟩] <| Rd <| kS_nrm <| Runs.canon (isa_rest_h37 b_4 op0 reg1 2 7) (Canon.nil (by kernel_rfl)) ?_
    exact isa_rest_j37_ok op_ reg_ b_4 op0 reg1 2 7 r h
   | false =>
    replace h := ite_f hb_6 h
    refine Cf <| Runs.skip <| kS_nrm <| Runs.canon (isa_rest_h37 b_4 op0 reg1 1 6) (Canon.nil (by kernel_rfl)) ?_
    exact isa_rest_j37_ok op_ reg_ b_4 op0 reg1 1 6 r h
theorem isa_rest_ok (op_ : Int) (reg_ : Int) (r : (Row × Bool)) (h : isa_rest op_ reg_ = some r) : Runs L F63.body ⟨tmOf [.d (.int .u8 op_), .d (.int .i64 reg_)] 0, updW (fun _ => none) []⟩ (isa_rest_Q op_ reg_ r) := by
 unfold isa_rest at h
 refine Sq <| Ro <| Rc 2 [⟨.ptr [4] 0 0, [([4], some (.cells [.d (.int .i64 0), .d (.int .i64 0), .d (.int .i64 0), .d (.bool false)] 0))]⟩, ⟨.d (.bool false), []⟩] <| Rd <| kS_nrm <| Sq <| Runs.block <| Sq <| Ro <| Rc 3 [⟨.d (.int .u8 op_), []⟩, ⟨.d (.bool (op_ == 244)), []⟩, ⟨.d (.bool (op_ == 244)), []⟩] <| Rd <| kS_nrm ?_
 cases hb_1 : ((op_ == 244) : Bool) with
 | true =>
  replace h := ite_t hb_1 h
  refine Ct <| Sq <| Ro ?_
  obtain ⟨r_1, hr_1, h⟩ := bind_s h
  have hc_1 := isa_row_L 82 0 0 r_1 hr_1
  refine Rt (some 12) (.callf 55) [] none [.d (.int .i64 82), .d (.int .i64 0), .d (.int .i64 0)] (.tup [.d (Row.d r_1.1), .d (.bool r_1.2)]) [] (cut_call (call_of (ws := []) (us := []) (by kernel_rfl) (by kernel_rfl) hc_1 (by kernel_rfl) (by kernel_rfl))) <| Rc 4 [⟨.d (Row.d r_1.1), []⟩, ⟨.d (.bool r_1.2), []⟩, ⟨.tup [], [([4], some (.cells [.d (.int .i64 r_1.1.Name), .d (.int .i64 r_1.1.A), .d (.int .i64 r_1.1.B), .d (.bool r_1.1.Mod)] 0))]⟩, ⟨.d (.bool r_1.2), []⟩] <| Rd <| kS_nrm <| Runs.ret <| kB_ret <| kS_ret ?_
  obtain rfl := Option.some.inj h
  exact ⟨Out.ret_ne, (by kernel_rfl)⟩
 | false =>
  replace h := ite_f hb_1 h
  refine Cf <| Sq <| Ro <| Rc 3 [⟨.d (.int .u8 op_), []⟩, ⟨.d (.bool (op_ == 245)), []⟩, ⟨.d (.bool (op_ == 245)), []⟩] <| Rd <| kS_nrm ?_
  cases hb_2 : ((op_ == 245) : Bool) with
  | true =>
   replace h := ite_t hb_2 h
   refine Ct <| Sq <| Ro ?_
   obtain ⟨r_2, hr_2, h⟩ := bind_s h
   have hc_2 := isa_row_L 83 0 0 r_2 hr_2
   refine Rt (some 18) (.callf 55) [] none [.d (.int .i64 83), .d (.int .i64 0), .d (.int .i64 0)] (.tup [.d (Row.d r_2.1), .d (.bool r_2.2)]) [] (cut_call (call_of (ws := []) (us := []) (by kernel_rfl) (by kernel_rfl) hc_2 (by kernel_rfl) (by kernel_rfl))) <| Rc 4 [⟨.d (Row.d r_2.1), []⟩, ⟨.d (.bool r_2.2), []⟩, ⟨.tup [], [([4], some (.cells [.d (.int .i64 r_2.1.Name), .d (.int .i64 r_2.1.A), .d (.int .i64 r_2.1.B), .d (.bool r_2.1.Mod)] 0))]⟩, ⟨.d (.bool r_2.2), []⟩] <| Rd <| kS_nrm <| Runs.ret <| kB_ret <| kS_ret ?_
   obtain rfl := Option.some.inj h
   exact ⟨Out.ret_ne, (by kernel_rfl)⟩
  | false =>
   replace h := ite_f hb_2 h
   refine Cf <| Sq <| Ro <| Rc 3 [⟨.d (.int .u8 op_), []⟩, ⟨.d (.bool (decide (op_ ≥ 248))), []⟩, ⟨.d (.bool (decide (op_ ≥ 248))), []⟩] ?_
   cases hb_3 : ((decide (op_ ≥ 248)) : Bool) with
   | true =>
    replace h := ite_t hb_3 h
    refine Rc 4 [⟨.d (.int .u8 op_), []⟩, ⟨.d (.bool (decide (op_ < 254))), []⟩, ⟨.d (.bool (decide (op_ < 254))), []⟩, ⟨.d (.bool (decide (op_ < 254))), []⟩] <| Rd <| kS_nrm <| Runs.canon (isa_rest_h18 ({ Name := 0, A := 0, B := 0, Mod := false } : Row) op_ reg_ (decide (op_ < 254))) (Canon.nil (by kernel_rfl)) ?_
    exact isa_rest_j18_ok op_ reg_ ({ Name := 0, A := 0, B := 0, Mod := false } : Row) op_ reg_ (decide (op_ < 254)) r h
   | false =>
    replace h := ite_f hb_3 h
    refine Rc 4 [⟨.tup [], []⟩, ⟨.tup [], []⟩, ⟨.d (.bool false), []⟩, ⟨.d (.bool false), []⟩] <| Rd <| kS_nrm <| Runs.canon (isa_rest_h18 ({ Name := 0, A := 0, B := 0, Mod := false } : Row) op_ reg_ false) (Canon.nil (by kernel_rfl)) ?_
    exact isa_rest_j18_ok op_ reg_ ({ Name := 0, A := 0, B := 0, Mod := false } : Row) op_ reg_ false r h
theorem isa_rest_L (op_ : Int) (reg_ : Int) (r : (Row × Bool)) (h : isa_rest op_ reg_ = some r) : L 63 [.d (.int .u8 op_), .d (.int .i64 reg_)] = some (.tup [.d (Row.d r.1), .d (.bool r.2)], [.d (.int .u8 op_), .d (.int .i64 reg_)]) := by
 obtain ⟨p, ⟨hne, hf⟩, hr⟩ := isa_rest_ok op_ reg_ r h
 obtain ⟨k, hk⟩ := run_of (F := F63) (args := [.d (.int .u8 op_), .d (.int .i64 reg_)]) (ap := [.d (.int .u8 op_), .d (.int .i64 reg_)]) (bx0 := updW (fun _ => none) []) rfl rfl (by kernel_rfl) ⟨p, ⟨hne, hf⟩, hr⟩
 exact lim_run (k := k) rfl hk
def isa_Of_Q (op_ : Int) (reg_ : Int) (r : (Row × Bool)) (p : Out × St) : Prop := (∀ i, p.1 ≠ .exit i) ∧ finF F43 [.d (.int .u8 op_), .d (.int .i64 reg_)] p.2 = some (.tup [.d (Row.d r.1), .d (.bool r.2)], [.d (.int .u8 op_), .d (.int .i64 reg_)])
theorem isa_Of_ok (op_ : Int) (reg_ : Int) (r : (Row × Bool)) (h : isa_Of op_ reg_ = some r) : Runs L F43.body ⟨tmOf [.d (.int .u8 op_), .d (.int .i64 reg_)] 0, updW (fun _ => none) []⟩ (isa_Of_Q op_ reg_ r) := by
 unfold isa_Of at h
 refine Sq <| Ro <| Rc 2 [⟨.ptr [4] 0 0, [([4], some (.cells [.d (.int .i64 0), .d (.int .i64 0), .d (.int .i64 0), .d (.bool false)] 0))]⟩, ⟨.d (.bool false), []⟩] <| Rd <| kS_nrm <| Sq <| Ro <| Rc 3 [⟨.d (.int .i64 reg_), []⟩, ⟨.d (.int .i64 (bitsOp .and .i64 reg_ 7)), []⟩, ⟨.d (.int .i64 (bitsOp .and .i64 reg_ 7)), []⟩] <| Rd <| kS_nrm <| Sq <| Runs.block <| Sq <| Ro <| Rc 3 [⟨.d (.int .u8 op_), []⟩, ⟨.d (.bool (decide (op_ < 64))), []⟩, ⟨.d (.bool (decide (op_ < 64))), []⟩] <| Rd <| kS_nrm ?_
 cases hb_1 : ((decide (op_ < 64)) : Bool) with
 | true =>
  replace h := ite_t hb_1 h
  refine Ct <| Sq <| Ro <| Rc 1 [⟨.d (.int .u8 op_), []⟩] ?_
  obtain ⟨r_1, hr_1, h⟩ := bind_s h
  have hc_1 := isa_sums_L op_ r_1 hr_1
  refine Rt (some 13) (.callf 54) [] none [.d (.int .u8 op_)] (.tup [.d (Row.d r_1.1), .d (.bool r_1.2)]) [] (cut_call (call_of (ws := []) (us := []) (by kernel_rfl) (by kernel_rfl) hc_1 (by kernel_rfl) (by kernel_rfl))) <| Rc 4 [⟨.d (Row.d r_1.1), []⟩, ⟨.d (.bool r_1.2), []⟩, ⟨.tup [], [([4], some (.cells [.d (.int .i64 r_1.1.Name), .d (.int .i64 r_1.1.A), .d (.int .i64 r_1.1.B), .d (.bool r_1.1.Mod)] 0))]⟩, ⟨.d (.bool r_1.2), []⟩] <| Rd <| kS_nrm <| Runs.ret <| kB_ret <| kS_ret ?_
  obtain rfl := Option.some.inj h
  exact ⟨Out.ret_ne, (by kernel_rfl)⟩
 | false =>
  replace h := ite_f hb_1 h
  refine Cf <| Sq <| Ro <| Rc 3 [⟨.d (.int .u8 op_), []⟩, ⟨.d (.bool (decide (op_ < 96))), []⟩, ⟨.d (.bool (decide (op_ < 96))), []⟩] <| Rd <| kS_nrm ?_
  cases hb_2 : ((decide (op_ < 96)) : Bool) with
  | true =>
   replace h := ite_t hb_2 h
   refine Ct <| Sq <| Ro <| Rc 4 [⟨.ref [19] 0 0 (List.map (D.int .i64) ([15, 16, 9, 10] : List Int)).length 1, [([19], some (.arr (List.map (D.int .i64) ([15, 16, 9, 10] : List Int)) 0 false))]⟩, ⟨.d (.int .u8 op_), []⟩, ⟨.d (.int .u8 (IntKind.wrap .u8 (op_ - 64))), []⟩, ⟨.d (.int .u8 (shrI .u8 (IntKind.wrap .u8 (op_ - 64)) 3)), []⟩] ?_
   obtain ⟨z_1, hz_1, h⟩ := bind_s h
   refine Rt (some 23) (.iaddrS 1) [] none [.ref [19] 0 0 (List.map (D.int .i64) ([15, 16, 9, 10] : List Int)).length 1, .d (.int .u8 (shrI .u8 (IntKind.wrap .u8 (op_ - 64)) 3))] (.eref [19] 0 (0 + ((shrI .u8 (IntKind.wrap .u8 (op_ - 64)) 3)).toNat) 0) [] (cut_atR (e := (D.int .i64)) (l := ([15, 16, 9, 10] : List Int)) hz_1 rfl) <| Rt (some 24) (.load none) [] none [.eref [19] 0 (0 + ((shrI .u8 (IntKind.wrap .u8 (op_ - 64)) 3)).toNat) 0] (.d (.int .i64 z_1)) [] (cut_loadR (e := (D.int .i64)) (l := ([15, 16, 9, 10] : List Int)) (fz := false) (y := z_1) (by kernel_rfl) hz_1 (by kernel_rfl) (by kernel_rfl)) <| Rc 1 [⟨.d (.int .i64 z_1), []⟩] <| Rd <| kS_nrm <| Sq <| Ro <| Rc 1 [⟨.d (.int .i64 z_1), []⟩] ?_
   obtain ⟨r_2, hr_2, h⟩ := bind_s h
   have hc_2 := isa_row_L z_1 22 0 r_2 hr_2
   refine Rt (some 26) (.callf 55) [] none [.d (.int .i64 z_1), .d (.int .i64 22), .d (.int .i64 0)] (.tup [.d (Row.d r_2.1), .d (.bool r_2.2)]) [] (cut_call (call_of (ws := []) (us := []) (by kernel_rfl) (by kernel_rfl) hc_2 (by kernel_rfl) (by kernel_rfl))) <| Rc 4 [⟨.d (Row.d r_2.1), []⟩, ⟨.d (.bool r_2.2), []⟩, ⟨.tup [], [([4], some (.cells [.d (.int .i64 r_2.1.Name), .d (.int .i64 r_2.1.A), .d (.int .i64 r_2.1.B), .d (.bool r_2.1.Mod)] 0))]⟩, ⟨.d (.bool r_2.2), []⟩] <| Rd <| kS_nrm <| Runs.ret <| kB_ret <| kS_ret ?_
   obtain rfl := Option.some.inj h
   exact ⟨Out.ret_ne, (by kernel_rfl)⟩
  | false =>
   replace h := ite_f hb_2 h
   refine Cf <| Sq <| Ro <| Rc 3 [⟨.d (.int .u8 op_), []⟩, ⟨.d (.bool (decide (op_ < 112))), []⟩, ⟨.d (.bool (decide (op_ < 112))), []⟩] <| Rd <| kS_nrm ?_
   cases hb_3 : ((decide (op_ < 112)) : Bool) with
   | true =>
    replace h := ite_t hb_3 h
    refine Ct <| Sq <| Ro ?_
    obtain ⟨r_3, hr_3, h⟩ := bind_s h
    have hc_3 := isa_bad_L r_3 hr_3
    refine Rt (some 32) (.callf 56) [] none [] (.tup [.d (Row.d r_3.1), .d (.bool r_3.2)]) [] (cut_call (call_of (ws := []) (us := []) (by kernel_rfl) (by kernel_rfl) hc_3 (by kernel_rfl) (by kernel_rfl))) <| Rc 4 [⟨.d (Row.d r_3.1), []⟩, ⟨.d (.bool r_3.2), []⟩, ⟨.tup [], [([4], some (.cells [.d (.int .i64 r_3.1.Name), .d (.int .i64 r_3.1.A), .d (.int .i64 r_3.1.B), .d (.bool r_3.1.Mod)] 0))]⟩, ⟨.d (.bool r_3.2), []⟩] <| Rd <| kS_nrm <| Runs.ret <| kB_ret <| kS_ret ?_
    obtain rfl := Option.some.inj h
    exact ⟨Out.ret_ne, (by kernel_rfl)⟩
   | false =>
    replace h := ite_f hb_3 h
    refine Cf <| Sq <| Ro <| Rc 3 [⟨.d (.int .u8 op_), []⟩, ⟨.d (.bool (decide (op_ < 128))), []⟩, ⟨.d (.bool (decide (op_ < 128))), []⟩] <| Rd <| kS_nrm ?_
    cases hb_4 : ((decide (op_ < 128)) : Bool) with
    | true =>
     replace h := ite_t hb_4 h
     refine Ct <| Sq <| Ro <| Rc 4 [⟨.d (.int .u8 op_), []⟩, ⟨.d (.int .u8 (IntKind.wrap .u8 (op_ - 112))), []⟩, ⟨.d (.int .i64 (IntKind.wrap .i64 (IntKind.wrap .u8 (op_ - 112)))), []⟩, ⟨.d (.int .i64 (IntKind.wrap .i64 (17 + (IntKind.wrap .i64 (IntKind.wrap .u8 (op_ - 112)))))), []⟩] ?_
     obtain ⟨r_4, hr_4, h⟩ := bind_s h
     have hc_4 := isa_row_L (IntKind.wrap .i64 (17 + (IntKind.wrap .i64 (IntKind.wrap .u8 (op_ - 112))))) 9 0 r_4 hr_4
     refine Rt (some 42) (.callf 55) [] none [.d (.int .i64 (IntKind.wrap .i64 (17 + (IntKind.wrap .i64 (IntKind.wrap .u8 (op_ - 112)))))), .d (.int .i64 9), .d (.int .i64 0)] (.tup [.d (Row.d r_4.1), .d (.bool r_4.2)]) [] (cut_call (call_of (ws := []) (us := []) (by kernel_rfl) (by kernel_rfl) hc_4 (by kernel_rfl) (by kernel_rfl))) <| Rc 4 [⟨.d (Row.d r_4.1), []⟩, ⟨.d (.bool r_4.2), []⟩, ⟨.tup [], [([4], some (.cells [.d (.int .i64 r_4.1.Name), .d (.int .i64 r_4.1.A), .d (.int .i64 r_4.1.B), .d (.bool r_4.1.Mod)] 0))]⟩, ⟨.d (.bool r_4.2), []⟩] <| Rd <| kS_nrm <| Runs.ret <| kB_ret <| kS_ret ?_
     obtain rfl := Option.some.inj h
     exact ⟨Out.ret_ne, (by kernel_rfl)⟩
    | false =>
     replace h := ite_f hb_4 h
     refine Cf <| Sq <| Ro <| Rc 3 [⟨.d (.int .u8 op_), []⟩, ⟨.d (.bool (decide (op_ < 144))), []⟩, ⟨.d (.bool (decide (op_ < 144))), []⟩] <| Rd <| kS_nrm ?_
     cases hb_5 : ((decide (op_ < 144)) : Bool) with
     | true =>
      replace h := ite_t hb_5 h
      refine Ct <| Sq <| Ro <| Rc 2 [⟨.d (.int .u8 op_), []⟩, ⟨.d (.int .i64 (bitsOp .and .i64 reg_ 7)), []⟩] ?_
      obtain ⟨r_5, hr_5, h⟩ := bind_s h
      have hc_5 := isa_moves_L op_ (bitsOp .and .i64 reg_ 7) r_5 hr_5
      refine Rt (some 50) (.callf 57) [] none [.d (.int .u8 op_), .d (.int .i64 (bitsOp .and .i64 reg_ 7))] (.tup [.d (Row.d r_5.1), .d (.bool r_5.2)]) [] (cut_call (call_of (ws := []) (us := []) (by kernel_rfl) (by kernel_rfl) hc_5 (by kernel_rfl) (by kernel_rfl))) <| Rc 4 [⟨.d (Row.d r_5.1), []⟩, ⟨.d (.bool r_5.2), []⟩, ⟨.tup [], [([4], some (.cells [.d (.int .i64 r_5.1.Name), .d (.int .i64 r_5.1.A), .d (.int .i64 r_5.1.B), .d (.bool r_5.1.Mod)] 0))]⟩, ⟨.d (.bool r_5.2), []⟩] <| Rd <| kS_nrm <| Runs.ret <| kB_ret <| kS_ret ?_
      obtain rfl := Option.some.inj h
      exact ⟨Out.ret_ne, (by kernel_rfl)⟩
     | false =>
      replace h := ite_f hb_5 h
      refine Cf <| Sq <| Ro <| Rc 3 [⟨.d (.int .u8 op_), []⟩, ⟨.d (.bool (decide (op_ < 160))), []⟩, ⟨.d (.bool (decide (op_ < 160))), []⟩] <| Rd <| kS_nrm ?_
      cases hb_6 : ((decide (op_ < 160)) : Bool) with
      | true =>
       replace h := ite_t hb_6 h
       refine Ct <| Sq <| Ro <| Rc 1 [⟨.d (.int .u8 op_), []⟩] ?_
       obtain ⟨r_6, hr_6, h⟩ := bind_s h
       have hc_6 := isa_words_L op_ r_6 hr_6
       refine Rt (some 57) (.callf 58) [] none [.d (.int .u8 op_)] (.tup [.d (Row.d r_6.1), .d (.bool r_6.2)]) [] (cut_call (call_of (ws := []) (us := []) (by kernel_rfl) (by kernel_rfl) hc_6 (by kernel_rfl) (by kernel_rfl))) <| Rc 4 [⟨.d (Row.d r_6.1), []⟩, ⟨.d (.bool r_6.2), []⟩, ⟨.tup [], [([4], some (.cells [.d (.int .i64 r_6.1.Name), .d (.int .i64 r_6.1.A), .d (.int .i64 r_6.1.B), .d (.bool r_6.1.Mod)] 0))]⟩, ⟨.d (.bool r_6.2), []⟩] <| Rd <| kS_nrm <| Runs.ret <| kB_ret <| kS_ret ?_
       obtain rfl := Option.some.inj h
       exact ⟨Out.ret_ne, (by kernel_rfl)⟩
      | false =>
       replace h := ite_f hb_6 h
       refine Cf <| Sq <| Ro <| Rc 3 [⟨.d (.int .u8 op_), []⟩, ⟨.d (.bool (decide (op_ < 176))), []⟩, ⟨.d (.bool (decide (op_ < 176))), []⟩] <| Rd <| kS_nrm ?_
       cases hb_7 : ((decide (op_ < 176)) : Bool) with
       | true =>
        replace h := ite_t hb_7 h
        refine Ct <| Sq <| Ro <| Rc 1 [⟨.d (.int .u8 op_), []⟩] ?_
        obtain ⟨r_7, hr_7, h⟩ := bind_s h
        have hc_7 := isa_texts_L op_ r_7 hr_7
        refine Rt (some 64) (.callf 59) [] none [.d (.int .u8 op_)] (.tup [.d (Row.d r_7.1), .d (.bool r_7.2)]) [] (cut_call (call_of (ws := []) (us := []) (by kernel_rfl) (by kernel_rfl) hc_7 (by kernel_rfl) (by kernel_rfl))) <| Rc 4 [⟨.d (Row.d r_7.1), []⟩, ⟨.d (.bool r_7.2), []⟩, ⟨.tup [], [([4], some (.cells [.d (.int .i64 r_7.1.Name), .d (.int .i64 r_7.1.A), .d (.int .i64 r_7.1.B), .d (.bool r_7.1.Mod)] 0))]⟩, ⟨.d (.bool r_7.2), []⟩] <| Rd <| kS_nrm <| Runs.ret <| kB_ret <| kS_ret ?_
        obtain rfl := Option.some.inj h
        exact ⟨Out.ret_ne, (by kernel_rfl)⟩
       | false =>
        replace h := ite_f hb_7 h
        refine Cf <| Sq <| Ro <| Rc 3 [⟨.d (.int .u8 op_), []⟩, ⟨.d (.bool (decide (op_ < 184))), []⟩, ⟨.d (.bool (decide (op_ < 184))), []⟩] <| Rd <| kS_nrm ?_
        cases hb_8 : ((decide (op_ < 184)) : Bool) with
        | true =>
         replace h := ite_t hb_8 h
         refine Ct <| Sq <| Ro ?_
         obtain ⟨r_8, hr_8, h⟩ := bind_s h
         have hc_8 := isa_row_L 35 21 6 r_8 hr_8
         refine Rt (some 70) (.callf 55) [] none [.d (.int .i64 35), .d (.int .i64 21), .d (.int .i64 6)] (.tup [.d (Row.d r_8.1), .d (.bool r_8.2)]) [] (cut_call (call_of (ws := []) (us := []) (by kernel_rfl) (by kernel_rfl) hc_8 (by kernel_rfl) (by kernel_rfl))) <| Rc 4 [⟨.d (Row.d r_8.1), []⟩, ⟨.d (.bool r_8.2), []⟩, ⟨.tup [], [([4], some (.cells [.d (.int .i64 r_8.1.Name), .d (.int .i64 r_8.1.A), .d (.int .i64 r_8.1.B), .d (.bool r_8.1.Mod)] 0))]⟩, ⟨.d (.bool r_8.2), []⟩] <| Rd <| kS_nrm <| Runs.ret <| kB_ret <| kS_ret ?_
         obtain rfl := Option.some.inj h
         exact ⟨Out.ret_ne, (by kernel_rfl)⟩
        | false =>
         replace h := ite_f hb_8 h
         refine Cf <| Sq <| Ro <| Rc 3 [⟨.d (.int .u8 op_), []⟩, ⟨.d (.bool (decide (op_ < 192))), []⟩, ⟨.d (.bool (decide (op_ < 192))), []⟩] <| Rd <| kS_nrm ?_
         cases hb_9 : ((decide (op_ < 192)) : Bool) with
         | true =>
          replace h := ite_t hb_9 h
          refine Ct <| Sq <| Ro ?_
          obtain ⟨r_9, hr_9, h⟩ := bind_s h
          have hc_9 := isa_row_L 35 22 7 r_9 hr_9
          refine Rt (some 76) (.callf 55) [] none [.d (.int .i64 35), .d (.int .i64 22), .d (.int .i64 7)] (.tup [.d (Row.d r_9.1), .d (.bool r_9.2)]) [] (cut_call (call_of (ws := []) (us := []) (by kernel_rfl) (by kernel_rfl) hc_9 (by kernel_rfl) (by kernel_rfl))) <| Rc 4 [⟨.d (Row.d r_9.1), []⟩, ⟨.d (.bool r_9.2), []⟩, ⟨.tup [], [([4], some (.cells [.d (.int .i64 r_9.1.Name), .d (.int .i64 r_9.1.A), .d (.int .i64 r_9.1.B), .d (.bool r_9.1.Mod)] 0))]⟩, ⟨.d (.bool r_9.2), []⟩] <| Rd <| kS_nrm <| Runs.ret <| kB_ret <| kS_ret ?_
          obtain rfl := Option.some.inj h
          exact ⟨Out.ret_ne, (by kernel_rfl)⟩
         | false =>
          replace h := ite_f hb_9 h
          refine Cf <| Sq <| Ro <| Rc 3 [⟨.d (.int .u8 op_), []⟩, ⟨.d (.bool (decide (op_ < 208))), []⟩, ⟨.d (.bool (decide (op_ < 208))), []⟩] <| Rd <| kS_nrm ?_
          cases hb_10 : ((decide (op_ < 208)) : Bool) with
          | true =>
           replace h := ite_t hb_10 h
           refine Ct <| Sq <| Ro <| Rc 2 [⟨.d (.int .u8 op_), []⟩, ⟨.d (.int .i64 (bitsOp .and .i64 reg_ 7)), []⟩] ?_
           obtain ⟨r_10, hr_10, h⟩ := bind_s h
           have hc_10 := isa_backs_L op_ (bitsOp .and .i64 reg_ 7) r_10 hr_10
           refine Rt (some 84) (.callf 60) [] none [.d (.int .u8 op_), .d (.int .i64 (bitsOp .and .i64 reg_ 7))] (.tup [.d (Row.d r_10.1), .d (.bool r_10.2)]) [] (cut_call (call_of (ws := []) (us := []) (by kernel_rfl) (by kernel_rfl) hc_10 (by kernel_rfl) (by kernel_rfl))) <| Rc 4 [⟨.d (Row.d r_10.1), []⟩, ⟨.d (.bool r_10.2), []⟩, ⟨.tup [], [([4], some (.cells [.d (.int .i64 r_10.1.Name), .d (.int .i64 r_10.1.A), .d (.int .i64 r_10.1.B), .d (.bool r_10.1.Mod)] 0))]⟩, ⟨.d (.bool r_10.2), []⟩] <| Rd <| kS_nrm <| Runs.ret <| kB_ret <| kS_ret ?_
           obtain rfl := Option.some.inj h
           exact ⟨Out.ret_ne, (by kernel_rfl)⟩
          | false =>
           replace h := ite_f hb_10 h
           refine Cf <| Sq <| Ro <| Rc 3 [⟨.d (.int .u8 op_), []⟩, ⟨.d (.bool (decide (op_ < 224))), []⟩, ⟨.d (.bool (decide (op_ < 224))), []⟩] <| Rd <| kS_nrm ?_
           cases hb_11 : ((decide (op_ < 224)) : Bool) with
           | true =>
            replace h := ite_t hb_11 h
            refine Ct <| Sq <| Ro <| Rc 2 [⟨.d (.int .u8 op_), []⟩, ⟨.d (.int .i64 (bitsOp .and .i64 reg_ 7)), []⟩] ?_
            obtain ⟨r_11, hr_11, h⟩ := bind_s h
            have hc_11 := isa_turns_L op_ (bitsOp .and .i64 reg_ 7) r_11 hr_11
            refine Rt (some 92) (.callf 61) [] none [.d (.int .u8 op_), .d (.int .i64 (bitsOp .and .i64 reg_ 7))] (.tup [.d (Row.d r_11.1), .d (.bool r_11.2)]) [] (cut_call (call_of (ws := []) (us := []) (by kernel_rfl) (by kernel_rfl) hc_11 (by kernel_rfl) (by kernel_rfl))) <| Rc 4 [⟨.d (Row.d r_11.1), []⟩, ⟨.d (.bool r_11.2), []⟩, ⟨.tup [], [([4], some (.cells [.d (.int .i64 r_11.1.Name), .d (.int .i64 r_11.1.A), .d (.int .i64 r_11.1.B), .d (.bool r_11.1.Mod)] 0))]⟩, ⟨.d (.bool r_11.2), []⟩] <| Rd <| kS_nrm <| Runs.ret <| kB_ret <| kS_ret ?_
            obtain rfl := Option.some.inj h
            exact ⟨Out.ret_ne, (by kernel_rfl)⟩
           | false =>
            replace h := ite_f hb_11 h
            refine Cf <| Sq <| Ro <| Rc 3 [⟨.d (.int .u8 op_), []⟩, ⟨.d (.bool (decide (op_ < 240))), []⟩, ⟨.d (.bool (decide (op_ < 240))), []⟩] <| Rd <| kS_nrm ?_
            cases hb_12 : ((decide (op_ < 240)) : Bool) with
            | true =>
             replace h := ite_t hb_12 h
             refine Ct <| Sq <| Ro <| Rc 1 [⟨.d (.int .u8 op_), []⟩] ?_
             obtain ⟨r_12, hr_12, h⟩ := bind_s h
             have hc_12 := isa_goes_L op_ r_12 hr_12
             refine Rt (some 99) (.callf 62) [] none [.d (.int .u8 op_)] (.tup [.d (Row.d r_12.1), .d (.bool r_12.2)]) [] (cut_call (call_of (ws := []) (us := []) (by kernel_rfl) (by kernel_rfl) hc_12 (by kernel_rfl) (by kernel_rfl))) <| Rc 4 [⟨.d (Row.d r_12.1), []⟩, ⟨.d (.bool r_12.2), []⟩, ⟨.tup [], [([4], some (.cells [.d (.int .i64 r_12.1.Name), .d (.int .i64 r_12.1.A), .d (.int .i64 r_12.1.B), .d (.bool r_12.1.Mod)] 0))]⟩, ⟨.d (.bool r_12.2), []⟩] <| Rd <| kS_nrm <| Runs.ret <| kB_ret <| kS_ret ?_
             obtain rfl := Option.some.inj h
             exact ⟨Out.ret_ne, (by kernel_rfl)⟩
            | false =>
             replace h := ite_f hb_12 h
             refine Cf <| Runs.skip <| kB_nrm <| kS_nrm <| Sq <| Ro <| Rc 2 [⟨.d (.int .u8 op_), []⟩, ⟨.d (.int .i64 (bitsOp .and .i64 reg_ 7)), []⟩] ?_
             obtain ⟨r_13, hr_13, h⟩ := bind_s h
             have hc_13 := isa_rest_L op_ (bitsOp .and .i64 reg_ 7) r_13 hr_13
             refine Rt (some 104) (.callf 63) [] none [.d (.int .u8 op_), .d (.int .i64 (bitsOp .and .i64 reg_ 7))] (.tup [.d (Row.d r_13.1), .d (.bool r_13.2)]) [] (cut_call (call_of (ws := []) (us := []) (by kernel_rfl) (by kernel_rfl) hc_13 (by kernel_rfl) (by kernel_rfl))) <| Rc 4 [⟨.d (Row.d r_13.1), []⟩, ⟨.d (.bool r_13.2), []⟩, ⟨.tup [], [([4], some (.cells [.d (.int .i64 r_13.1.Name), .d (.int .i64 r_13.1.A), .d (.int .i64 r_13.1.B), .d (.bool r_13.1.Mod)] 0))]⟩, ⟨.d (.bool r_13.2), []⟩] <| Rd <| kS_nrm <| Runs.ret ?_
             obtain rfl := Option.some.inj h
             exact ⟨Out.ret_ne, (by kernel_rfl)⟩
theorem isa_Of_L (op_ : Int) (reg_ : Int) (r : (Row × Bool)) (h : isa_Of op_ reg_ = some r) : L 43 [.d (.int .u8 op_), .d (.int .i64 reg_)] = some (.tup [.d (Row.d r.1), .d (.bool r.2)], [.d (.int .u8 op_), .d (.int .i64 reg_)]) := by
 obtain ⟨p, ⟨hne, hf⟩, hr⟩ := isa_Of_ok op_ reg_ r h
 obtain ⟨k, hk⟩ := run_of (F := F43) (args := [.d (.int .u8 op_), .d (.int .i64 reg_)]) (ap := [.d (.int .u8 op_), .d (.int .i64 reg_)]) (bx0 := updW (fun _ => none) []) rfl rfl (by kernel_rfl) ⟨p, ⟨hne, hf⟩, hr⟩
 exact lim_run (k := k) rfl hk
def inst_Row_Q (i_ : Inst) (r : (Row × Bool)) (p : Out × St) : Prop := (∀ i, p.1 ≠ .exit i) ∧ finF F22 [.d (Inst.d i_)] p.2 = some (.tup [.d (Row.d r.1), .d (.bool r.2)], [.d (Inst.d i_)])
theorem inst_Row_ok (i_ : Inst) (r : (Row × Bool)) (h : inst_Row i_ = some r) : Runs L F22.body ⟨tmOf [.d (Inst.d i_)] 0, updW (fun _ => none) []⟩ (inst_Row_Q i_ r) := by
 unfold inst_Row at h
 refine Sq <| Ro <| Rc 3 [⟨.ptr [1] 0 0, [([1], some (.cells [.d (.bool i_.Lock), .d (.int .i64 i_.Rep), .d (.int .i64 i_.Seg), .d (.int .u8 i_.Op), .d (.int .i64 i_.Mod), .d (.int .i64 i_.Reg), .d (.int .i64 i_.RM), .d (.int .u16 i_.Disp), .d (.int .u16 i_.Imm), .d (.int .u16 i_.Sel)] 0))]⟩, ⟨.ptr [2] 0 0, [([2], some (.cells [.d (.int .i64 0), .d (.int .i64 0), .d (.int .i64 0), .d (.bool false)] 0))]⟩, ⟨.d (.bool false), []⟩] <| Rd <| kS_nrm <| Sq <| Sq <| Ro <| Rc 2 [⟨.ptr [1] 0 3, []⟩, ⟨.d (.int .u8 i_.Op), []⟩] ?_
 obtain ⟨r_1, hr_1, h⟩ := bind_s h
 have hc_1 := isa_Prefix_L i_.Op r_1 hr_1
 refine Rt (some 6) (.callf 42) [] none [.d (.int .u8 i_.Op)] (.d (.bool r_1)) [] (cut_call (call_of (ws := []) (us := []) (by kernel_rfl) (by kernel_rfl) hc_1 (by kernel_rfl) (by kernel_rfl))) <| Rd <| kS_nrm ?_
 cases hb_1 : (r_1 : Bool) with
 | true =>
  replace h := ite_t hb_1 h
  refine Ct <| Sq <| Ro <| Rc 3 [⟨.d (.agg [.int .i64 0, .int .i64 0, .int .i64 0, .bool false]), []⟩, ⟨.tup [], [([2], some (.cells [.d (.int .i64 0), .d (.int .i64 0), .d (.int .i64 0), .d (.bool false)] 0))]⟩, ⟨.d (.bool false), []⟩] <| Rd <| kS_nrm <| Runs.ret <| kS_ret ?_
  obtain rfl := Option.some.inj h
  exact ⟨Out.ret_ne, (by kernel_rfl)⟩
 | false =>
  replace h := ite_f hb_1 h
  refine Cf <| Runs.skip <| kS_nrm <| Sq <| Ro <| Rc 4 [⟨.ptr [1] 0 3, []⟩, ⟨.d (.int .u8 i_.Op), []⟩, ⟨.ptr [1] 0 5, []⟩, ⟨.d (.int .i64 i_.Reg), []⟩] ?_
  obtain ⟨r_2, hr_2, h⟩ := bind_s h
  have hc_2 := isa_Of_L i_.Op i_.Reg r_2 hr_2
  refine Rt (some 12) (.callf 43) [] none [.d (.int .u8 i_.Op), .d (.int .i64 i_.Reg)] (.tup [.d (Row.d r_2.1), .d (.bool r_2.2)]) [] (cut_call (call_of (ws := []) (us := []) (by kernel_rfl) (by kernel_rfl) hc_2 (by kernel_rfl) (by kernel_rfl))) <| Rc 4 [⟨.d (Row.d r_2.1), []⟩, ⟨.d (.bool r_2.2), []⟩, ⟨.tup [], [([2], some (.cells [.d (.int .i64 r_2.1.Name), .d (.int .i64 r_2.1.A), .d (.int .i64 r_2.1.B), .d (.bool r_2.1.Mod)] 0))]⟩, ⟨.d (.bool r_2.2), []⟩] <| Rd <| kS_nrm <| Runs.ret ?_
  obtain rfl := Option.some.inj h
  exact ⟨Out.ret_ne, (by kernel_rfl)⟩
theorem inst_Row_L (i_ : Inst) (r : (Row × Bool)) (h : inst_Row i_ = some r) : L 22 [.d (Inst.d i_)] = some (.tup [.d (Row.d r.1), .d (.bool r.2)], [.d (Inst.d i_)]) := by
 obtain ⟨p, ⟨hne, hf⟩, hr⟩ := inst_Row_ok i_ r h
 obtain ⟨k, hk⟩ := run_of (F := F22) (args := [.d (Inst.d i_)]) (ap := [.d (Inst.d i_)]) (bx0 := updW (fun _ => none) []) rfl rfl (by kernel_rfl) ⟨p, ⟨hne, hf⟩, hr⟩
 exact lim_run (k := k) rfl hk
def inst_Disps_Q (mod_ : Int) (rm_ : Int) (r : Int) (p : Out × St) : Prop := (∀ i, p.1 ≠ .exit i) ∧ finF F24 [.d (.int .i64 mod_), .d (.int .i64 rm_)] p.2 = some (.d (.int .i64 r), [.d (.int .i64 mod_), .d (.int .i64 rm_)])
theorem inst_Disps_ok (mod_ : Int) (rm_ : Int) (r : Int) (h : inst_Disps mod_ rm_ = some r) : Runs L F24.body ⟨tmOf [.d (.int .i64 mod_), .d (.int .i64 rm_)] 0, updW (fun _ => none) []⟩ (inst_Disps_Q mod_ rm_ r) := by
 unfold inst_Disps at h
 refine Sq <| Ro <| Rc 1 [⟨.d (.int .i64 0), []⟩] <| Rd <| kS_nrm <| Sq <| Runs.block <| Sq <| Ro <| Rc 3 [⟨.d (.int .i64 mod_), []⟩, ⟨.d (.bool (mod_ == 1)), []⟩, ⟨.d (.bool (mod_ == 1)), []⟩] <| Rd <| kS_nrm ?_
 cases hb_1 : ((mod_ == 1) : Bool) with
 | true =>
  replace h := ite_t hb_1 h
  refine Ct <| Sq <| Ro <| Rc 1 [⟨.d (.int .i64 1), []⟩] <| Rd <| kS_nrm <| Runs.ret <| kB_ret <| kS_ret ?_
  obtain rfl := Option.some.inj h
  exact ⟨Out.ret_ne, (by kernel_rfl)⟩
 | false =>
  replace h := ite_f hb_1 h
  refine Cf <| Sq <| Sq <| Ro <| Rc 3 [⟨.d (.int .i64 mod_), []⟩, ⟨.d (.bool (mod_ == 2)), []⟩, ⟨.d (.bool (mod_ == 2)), []⟩] <| Rd <| kS_nrm ?_
  cases hb_2 : ((mod_ == 2) : Bool) with
  | true =>
   replace h := ite_t hb_2 h
   refine Ct <| Runs.skip <| kS_nrm <| Ct <| Sq <| Ro <| Rc 1 [⟨.d (.int .i64 2), []⟩] <| Rd <| kS_nrm <| Runs.ret <| kB_ret <| kS_ret ?_
   obtain rfl := Option.some.inj h
   exact ⟨Out.ret_ne, (by kernel_rfl)⟩
  | false =>
   replace h := ite_f hb_2 h
   refine Cf <| Ro <| Rc 3 [⟨.d (.int .i64 mod_), []⟩, ⟨.d (.bool (mod_ == 0)), []⟩, ⟨.d (.bool (mod_ == 0)), []⟩] ?_
   cases hb_3 : ((mod_ == 0) : Bool) with
   | true =>
    replace h := ite_t hb_3 h
    refine Rc 4 [⟨.d (.int .i64 rm_), []⟩, ⟨.d (.bool (rm_ == 6)), []⟩, ⟨.d (.bool (rm_ == 6)), []⟩, ⟨.d (.bool (rm_ == 6)), []⟩] <| Rd <| kS_nrm ?_
    cases hb_4 : ((rm_ == 6) : Bool) with
    | true =>
     replace h := ite_t hb_4 h
     refine Ct <| Sq <| Ro <| Rc 1 [⟨.d (.int .i64 2), []⟩] <| Rd <| kS_nrm <| Runs.ret <| kB_ret <| kS_ret ?_
     obtain rfl := Option.some.inj h
     exact ⟨Out.ret_ne, (by kernel_rfl)⟩
    | false =>
     replace h := ite_f hb_4 h
     refine Cf <| Runs.skip <| kB_nrm <| kS_nrm <| Sq <| Ro <| Rc 1 [⟨.d (.int .i64 0), []⟩] <| Rd <| kS_nrm <| Runs.ret ?_
     obtain rfl := Option.some.inj h
     exact ⟨Out.ret_ne, (by kernel_rfl)⟩
   | false =>
    replace h := ite_f hb_3 h
    refine Rc 4 [⟨.tup [], []⟩, ⟨.tup [], []⟩, ⟨.d (.bool false), []⟩, ⟨.d (.bool false), []⟩] <| Rd <| kS_nrm <| Cf <| Runs.skip <| kB_nrm <| kS_nrm <| Sq <| Ro <| Rc 1 [⟨.d (.int .i64 0), []⟩] <| Rd <| kS_nrm <| Runs.ret ?_
    obtain rfl := Option.some.inj h
    exact ⟨Out.ret_ne, (by kernel_rfl)⟩
theorem inst_Disps_L (mod_ : Int) (rm_ : Int) (r : Int) (h : inst_Disps mod_ rm_ = some r) : L 24 [.d (.int .i64 mod_), .d (.int .i64 rm_)] = some (.d (.int .i64 r), [.d (.int .i64 mod_), .d (.int .i64 rm_)]) := by
 obtain ⟨p, ⟨hne, hf⟩, hr⟩ := inst_Disps_ok mod_ rm_ r h
 obtain ⟨k, hk⟩ := run_of (F := F24) (args := [.d (.int .i64 mod_), .d (.int .i64 rm_)]) (ap := [.d (.int .i64 mod_), .d (.int .i64 rm_)]) (bx0 := updW (fun _ => none) []) rfl rfl (by kernel_rfl) ⟨p, ⟨hne, hf⟩, hr⟩
 exact lim_run (k := k) rfl hk
def bits_Low_Q (w_ : Int) (r : Int) (p : Out × St) : Prop := (∀ i, p.1 ≠ .exit i) ∧ finF F25 [.d (.int .u16 w_)] p.2 = some (.d (.int .u8 r), [.d (.int .u16 w_)])
theorem bits_Low_ok (w_ : Int) (r : Int) (h : bits_Low w_ = some r) : Runs L F25.body ⟨tmOf [.d (.int .u16 w_)] 0, updW (fun _ => none) []⟩ (bits_Low_Q w_ r) := by
 unfold bits_Low at h
 refine Sq <| Ro <| Rc 1 [⟨.d (.int .u8 0), []⟩] <| Rd <| kS_nrm <| Sq <| Ro <| Rc 3 [⟨.d (.int .u16 w_), []⟩, ⟨.d (.int .u8 (IntKind.wrap .u8 w_)), []⟩, ⟨.d (.int .u8 (IntKind.wrap .u8 w_)), []⟩] <| Rd <| kS_nrm <| Runs.ret ?_
 obtain rfl := Option.some.inj h
 exact ⟨Out.ret_ne, (by kernel_rfl)⟩
theorem bits_Low_L (w_ : Int) (r : Int) (h : bits_Low w_ = some r) : L 25 [.d (.int .u16 w_)] = some (.d (.int .u8 r), [.d (.int .u16 w_)]) := by
 obtain ⟨p, ⟨hne, hf⟩, hr⟩ := bits_Low_ok w_ r h
 obtain ⟨k, hk⟩ := run_of (F := F25) (args := [.d (.int .u16 w_)]) (ap := [.d (.int .u16 w_)]) (bx0 := updW (fun _ => none) []) rfl rfl (by kernel_rfl) ⟨p, ⟨hne, hf⟩, hr⟩
 exact lim_run (k := k) rfl hk
def bits_Sign_Q (b_ : Int) (r : Int) (p : Out × St) : Prop := (∀ i, p.1 ≠ .exit i) ∧ finF F64 [.d (.int .u8 b_)] p.2 = some (.d (.int .u16 r), [.d (.int .u8 b_)])
theorem bits_Sign_ok (b_ : Int) (r : Int) (h : bits_Sign b_ = some r) : Runs L F64.body ⟨tmOf [.d (.int .u8 b_)] 0, updW (fun _ => none) []⟩ (bits_Sign_Q b_ r) := by
 unfold bits_Sign at h
 refine Sq <| Ro <| Rc 1 [⟨.d (.int .u16 0), []⟩] <| Rd <| kS_nrm <| Sq <| Ro <| Rc 5 [⟨.d (.int .u8 b_), []⟩, ⟨.d (.int .i8 (IntKind.wrap .i8 b_)), []⟩, ⟨.d (.int .i16 (IntKind.wrap .i16 (IntKind.wrap .i8 b_))), []⟩, ⟨.d (.int .u16 (IntKind.wrap .u16 (IntKind.wrap .i16 (IntKind.wrap .i8 b_)))), []⟩, ⟨.d (.int .u16 (IntKind.wrap .u16 (IntKind.wrap .i16 (IntKind.wrap .i8 b_)))), []⟩] <| Rd <| kS_nrm <| Runs.ret ?_
 obtain rfl := Option.some.inj h
 exact ⟨Out.ret_ne, (by kernel_rfl)⟩
theorem bits_Sign_L (b_ : Int) (r : Int) (h : bits_Sign b_ = some r) : L 64 [.d (.int .u8 b_)] = some (.d (.int .u16 r), [.d (.int .u8 b_)]) := by
 obtain ⟨p, ⟨hne, hf⟩, hr⟩ := bits_Sign_ok b_ r h
 obtain ⟨k, hk⟩ := run_of (F := F64) (args := [.d (.int .u8 b_)]) (ap := [.d (.int .u8 b_)]) (bx0 := updW (fun _ => none) []) rfl rfl (by kernel_rfl) ⟨p, ⟨hne, hf⟩, hr⟩
 exact lim_run (k := k) rfl hk
def bits_Fits_Q (w_ : Int) (r : Bool) (p : Out × St) : Prop := (∀ i, p.1 ≠ .exit i) ∧ finF F52 [.d (.int .u16 w_)] p.2 = some (.d (.bool r), [.d (.int .u16 w_)])
theorem bits_Fits_ok (w_ : Int) (r : Bool) (h : bits_Fits w_ = some r) : Runs L F52.body ⟨tmOf [.d (.int .u16 w_)] 0, updW (fun _ => none) []⟩ (bits_Fits_Q w_ r) := by
 unfold bits_Fits at h
 refine Sq <| Ro <| Rc 1 [⟨.d (.bool false), []⟩] <| Rd <| kS_nrm <| Sq <| Ro <| Rc 1 [⟨.d (.int .u16 w_), []⟩] ?_
 obtain ⟨r_1, hr_1, h⟩ := bind_s h
 have hc_1 := bits_Low_L w_ r_1 hr_1
 refine Rt (some 4) (.callf 25) [] none [.d (.int .u16 w_)] (.d (.int .u8 r_1)) [] (cut_call (call_of (ws := []) (us := []) (by kernel_rfl) (by kernel_rfl) hc_1 (by kernel_rfl) (by kernel_rfl))) ?_
 obtain ⟨r_2, hr_2, h⟩ := bind_s h
 have hc_2 := bits_Sign_L r_1 r_2 hr_2
 refine Rt (some 5) (.callf 64) [] none [.d (.int .u8 r_1)] (.d (.int .u16 r_2)) [] (cut_call (call_of (ws := []) (us := []) (by kernel_rfl) (by kernel_rfl) hc_2 (by kernel_rfl) (by kernel_rfl))) <| Rc 3 [⟨.d (.int .u16 w_), []⟩, ⟨.d (.bool (r_2 == w_)), []⟩, ⟨.d (.bool (r_2 == w_)), []⟩] <| Rd <| kS_nrm <| Runs.ret ?_
 obtain rfl := Option.some.inj h
 exact ⟨Out.ret_ne, (by kernel_rfl)⟩
theorem bits_Fits_L (w_ : Int) (r : Bool) (h : bits_Fits w_ = some r) : L 52 [.d (.int .u16 w_)] = some (.d (.bool r), [.d (.int .u16 w_)]) := by
 obtain ⟨p, ⟨hne, hf⟩, hr⟩ := bits_Fits_ok w_ r h
 obtain ⟨k, hk⟩ := run_of (F := F52) (args := [.d (.int .u16 w_)]) (ap := [.d (.int .u16 w_)]) (bx0 := updW (fun _ => none) []) rfl rfl (by kernel_rfl) ⟨p, ⟨hne, hf⟩, hr⟩
 exact lim_run (k := k) rfl hk
def inst_second_h26 (i2 : Inst) : St := ⟨tab [(2, .ptr [2] 0 0)], tabB [([2], some (.cells [.d (.bool i2.Lock), .d (.int .i64 i2.Rep), .d (.int .i64 i2.Seg), .d (.int .u8 i2.Op), .d (.int .i64 i2.Mod), .d (.int .i64 i2.Reg), .d (.int .i64 i2.RM), .d (.int .u16 i2.Disp), .d (.int .u16 i2.Imm), .d (.int .u16 i2.Sel)] 0))]⟩
def inst_second_Q (i_ : Inst) (r_ : Row) (r : Bool) (p : Out × St) : Prop := (∀ i, p.1 ≠ .exit i) ∧ finF F39 [.d (Inst.d i_), .d (Row.d r_)] p.2 = some (.d (.bool r), [.d (Inst.d i_), .d (Row.d r_)])
theorem inst_second_j26_ok (i_ : Inst) (r_ : Row) (i2 : Inst) (r : Bool) (h : inst_second_j26 i2 = some r) : Runs L F39b26 (inst_second_h26 i2) (inst_second_Q i_ r_ r) := by
 unfold inst_second_j26 at h
 refine Sq <| Sq <| Ro <| Rc 4 [⟨.ptr [2] 0 4, []⟩, ⟨.d (.int .i64 i2.Mod), []⟩, ⟨.ptr [2] 0 6, []⟩, ⟨.d (.int .i64 i2.RM), []⟩] ?_
 obtain ⟨r_1, hr_1, h⟩ := bind_s h
 have hc_1 := inst_Disps_L i2.Mod i2.RM r_1 hr_1
 refine Rt (some 76) (.callf 24) [] none [.d (.int .i64 i2.Mod), .d (.int .i64 i2.RM)] (.d (.int .i64 r_1)) [] (cut_call (call_of (ws := []) (us := []) (by kernel_rfl) (by kernel_rfl) hc_1 (by kernel_rfl) (by kernel_rfl))) <| Rd <| kS_nrm <| Runs.block <| Sq <| Ro <| Rc 2 [⟨.d (.bool (r_1 == 0)), []⟩, ⟨.d (.bool (r_1 == 0)), []⟩] <| Rd <| kS_nrm ?_
 cases hb_15 : ((r_1 == 0) : Bool) with
 | true =>
  replace h := ite_t hb_15 h
  refine Ct <| Sq <| Ro <| Rc 4 [⟨.ptr [2] 0 7, []⟩, ⟨.d (.int .u16 i2.Disp), []⟩, ⟨.d (.bool (i2.Disp == 0)), []⟩, ⟨.d (.bool (i2.Disp == 0)), []⟩] <| Rd <| kS_nrm <| Runs.ret <| kB_ret <| kS_ret ?_
  obtain rfl := Option.some.inj h
  exact ⟨Out.ret_ne, (by kernel_rfl)⟩
 | false =>
  replace h := ite_f hb_15 h
  refine Cf <| Sq <| Ro <| Rc 2 [⟨.d (.bool (r_1 == 1)), []⟩, ⟨.d (.bool (r_1 == 1)), []⟩] <| Rd <| kS_nrm ?_
  cases hb_16 : ((r_1 == 1) : Bool) with
  | true =>
   replace h := ite_t hb_16 h
   refine Ct <| Sq <| Ro <| Rc 2 [⟨.ptr [2] 0 7, []⟩, ⟨.d (.int .u16 i2.Disp), []⟩] ?_
   obtain ⟨r_2, hr_2, h⟩ := bind_s h
   have hc_2 := bits_Fits_L i2.Disp r_2 hr_2
   refine Rt (some 86) (.callf 52) [] none [.d (.int .u16 i2.Disp)] (.d (.bool r_2)) [] (cut_call (call_of (ws := []) (us := []) (by kernel_rfl) (by kernel_rfl) hc_2 (by kernel_rfl) (by kernel_rfl))) <| Rc 1 [⟨.d (.bool r_2), []⟩] <| Rd <| kS_nrm <| Runs.ret <| kB_ret <| kS_ret ?_
   obtain rfl := Option.some.inj h
   exact ⟨Out.ret_ne, (by kernel_rfl)⟩
  | false =>
   replace h := ite_f hb_16 h
   refine Cf <| Runs.skip <| kB_nrm <| kS_nrm <| Sq <| Ro <| Rc 1 [⟨.d (.bool true), []⟩] <| Rd <| kS_nrm <| Runs.ret ?_
   obtain rfl := Option.some.inj h
   exact ⟨Out.ret_ne, (by kernel_rfl)⟩
theorem inst_second_ok (i_ : Inst) (r_ : Row) (r : Bool) (h : inst_second i_ r_ = some r) : Runs L F39.body ⟨tmOf [.d (Inst.d i_), .d (Row.d r_)] 0, updW (fun _ => none) []⟩ (inst_second_Q i_ r_ r) := by
 unfold inst_second at h
 refine Sq <| Ro <| Rc 3 [⟨.ptr [2] 0 0, [([2], some (.cells [.d (.bool i_.Lock), .d (.int .i64 i_.Rep), .d (.int .i64 i_.Seg), .d (.int .u8 i_.Op), .d (.int .i64 i_.Mod), .d (.int .i64 i_.Reg), .d (.int .i64 i_.RM), .d (.int .u16 i_.Disp), .d (.int .u16 i_.Imm), .d (.int .u16 i_.Sel)] 0))]⟩, ⟨.ptr [3] 0 0, [([3], some (.cells [.d (.int .i64 r_.Name), .d (.int .i64 r_.A), .d (.int .i64 r_.B), .d (.bool r_.Mod)] 0))]⟩, ⟨.d (.bool false), []⟩] <| Rd <| kS_nrm <| Sq <| Sq <| Ro <| Rc 3 [⟨.ptr [3] 0 3, []⟩, ⟨.d (.bool r_.Mod), []⟩, ⟨.d (.bool (!r_.Mod)), []⟩] <| Rd <| kS_nrm ?_
 cases hb_1 : ((!r_.Mod) : Bool) with
 | true =>
  replace h := ite_t hb_1 h
  refine Ct <| Sq <| Ro <| Rc 4 [⟨.ptr [2] 0 4, []⟩, ⟨.d (.int .i64 i_.Mod), []⟩, ⟨.d (.bool (i_.Mod == 0)), []⟩, ⟨.d (.bool (i_.Mod == 0)), []⟩] ?_
  cases hb_2 : ((i_.Mod == 0) : Bool) with
  | true =>
   replace h := ite_t hb_2 h
   refine Rc 5 [⟨.ptr [2] 0 5, []⟩, ⟨.d (.int .i64 i_.Reg), []⟩, ⟨.d (.bool (i_.Reg == 0)), []⟩, ⟨.d (.bool (i_.Reg == 0)), []⟩, ⟨.d (.bool (i_.Reg == 0)), []⟩] ?_
   cases hb_3 : ((i_.Reg == 0) : Bool) with
   | true =>
    replace h := ite_t hb_3 h
    refine Rc 5 [⟨.ptr [2] 0 6, []⟩, ⟨.d (.int .i64 i_.RM), []⟩, ⟨.d (.bool (i_.RM == 0)), []⟩, ⟨.d (.bool (i_.RM == 0)), []⟩, ⟨.d (.bool (i_.RM == 0)), []⟩] ?_
    cases hb_4 : ((i_.RM == 0) : Bool) with
    | true =>
     replace h := ite_t hb_4 h
     refine Rc 5 [⟨.ptr [2] 0 7, []⟩, ⟨.d (.int .u16 i_.Disp), []⟩, ⟨.d (.bool (i_.Disp == 0)), []⟩, ⟨.d (.bool (i_.Disp == 0)), []⟩, ⟨.d (.bool (i_.Disp == 0)), []⟩] <| Rd <| kS_nrm <| Runs.ret <| kS_ret ?_
     obtain rfl := Option.some.inj h
     exact ⟨Out.ret_ne, (by kernel_rfl)⟩
    | false =>
     replace h := ite_f hb_4 h
     refine Rc 5 [⟨.tup [], []⟩, ⟨.tup [], []⟩, ⟨.tup [], []⟩, ⟨.d (.bool false), []⟩, ⟨.d (.bool false), []⟩] <| Rd <| kS_nrm <| Runs.ret <| kS_ret ?_
     obtain rfl := Option.some.inj h
     exact ⟨Out.ret_ne, (by kernel_rfl)⟩
   | false =>
    replace h := ite_f hb_3 h
    refine Rc 10 [⟨.tup [], []⟩, ⟨.tup [], []⟩, ⟨.tup [], []⟩, ⟨.d (.bool false), []⟩, ⟨.d (.bool false), []⟩, ⟨.tup [], []⟩, ⟨.tup [], []⟩, ⟨.tup [], []⟩, ⟨.d (.bool false), []⟩, ⟨.d (.bool false), []⟩] <| Rd <| kS_nrm <| Runs.ret <| kS_ret ?_
    obtain rfl := Option.some.inj h
    exact ⟨Out.ret_ne, (by kernel_rfl)⟩
  | false =>
   replace h := ite_f hb_2 h
   refine Rc 15 [⟨.tup [], []⟩, ⟨.tup [], []⟩, ⟨.tup [], []⟩, ⟨.d (.bool false), []⟩, ⟨.d (.bool false), []⟩, ⟨.tup [], []⟩, ⟨.tup [], []⟩, ⟨.tup [], []⟩, ⟨.d (.bool false), []⟩, ⟨.d (.bool false), []⟩, ⟨.tup [], []⟩, ⟨.tup [], []⟩, ⟨.tup [], []⟩, ⟨.d (.bool false), []⟩, ⟨.d (.bool false), []⟩] <| Rd <| kS_nrm <| Runs.ret <| kS_ret ?_
   obtain rfl := Option.some.inj h
   exact ⟨Out.ret_ne, (by kernel_rfl)⟩
 | false =>
  replace h := ite_f hb_1 h
  refine Cf <| Runs.skip <| kS_nrm <| Sq <| Sq <| Ro <| Rc 4 [⟨.ptr [2] 0 4, []⟩, ⟨.d (.int .i64 i_.Mod), []⟩, ⟨.d (.bool (decide (i_.Mod < 0))), []⟩, ⟨.d (.bool (decide (i_.Mod < 0))), []⟩] ?_
  cases hb_5 : ((decide (i_.Mod < 0)) : Bool) with
  | true =>
   replace h := ite_t hb_5 h
   refine Rc 24 [⟨.tup [], []⟩, ⟨.tup [], []⟩, ⟨.tup [], []⟩, ⟨.d (.bool true), []⟩, ⟨.d (.bool true), []⟩, ⟨.tup [], []⟩, ⟨.tup [], []⟩, ⟨.tup [], []⟩, ⟨.d (.bool true), []⟩, ⟨.d (.bool true), []⟩, ⟨.tup [], []⟩, ⟨.tup [], []⟩, ⟨.tup [], []⟩, ⟨.d (.bool true), []⟩, ⟨.d (.bool true), []⟩, ⟨.tup [], []⟩, ⟨.tup [], []⟩, ⟨.tup [], []⟩, ⟨.d (.bool true), []⟩, ⟨.d (.bool true), []⟩, ⟨.tup [], []⟩, ⟨.tup [], []⟩, ⟨.tup [], []⟩, ⟨.d (.bool true), []⟩] <| Rd <| kS_nrm <| Ct <| Sq <| Ro <| Rc 1 [⟨.d (.bool false), []⟩] <| Rd <| kS_nrm <| Runs.ret <| kS_ret ?_
   obtain rfl := Option.some.inj h
   exact ⟨Out.ret_ne, (by kernel_rfl)⟩
  | false =>
   replace h := ite_f hb_5 h
   refine Rc 5 [⟨.ptr [2] 0 4, []⟩, ⟨.d (.int .i64 i_.Mod), []⟩, ⟨.d (.bool (decide (i_.Mod > 3))), []⟩, ⟨.d (.bool (decide (i_.Mod > 3))), []⟩, ⟨.d (.bool (decide (i_.Mod > 3))), []⟩] ?_
   cases hb_6 : ((decide (i_.Mod > 3)) : Bool) with
   | true =>
    replace h := ite_t hb_6 h
    refine Rc 19 [⟨.tup [], []⟩, ⟨.tup [], []⟩, ⟨.tup [], []⟩, ⟨.d (.bool true), []⟩, ⟨.d (.bool true), []⟩, ⟨.tup [], []⟩, ⟨.tup [], []⟩, ⟨.tup [], []⟩, ⟨.d (.bool true), []⟩, ⟨.d (.bool true), []⟩, ⟨.tup [], []⟩, ⟨.tup [], []⟩, ⟨.tup [], []⟩, ⟨.d (.bool true), []⟩, ⟨.d (.bool true), []⟩, ⟨.tup [], []⟩, ⟨.tup [], []⟩, ⟨.tup [], []⟩, ⟨.d (.bool true), []⟩] <| Rd <| kS_nrm <| Ct <| Sq <| Ro <| Rc 1 [⟨.d (.bool false), []⟩] <| Rd <| kS_nrm <| Runs.ret <| kS_ret ?_
    obtain rfl := Option.some.inj h
    exact ⟨Out.ret_ne, (by kernel_rfl)⟩
   | false =>
    replace h := ite_f hb_6 h
    refine Rc 5 [⟨.ptr [2] 0 5, []⟩, ⟨.d (.int .i64 i_.Reg), []⟩, ⟨.d (.bool (decide (i_.Reg < 0))), []⟩, ⟨.d (.bool (decide (i_.Reg < 0))), []⟩, ⟨.d (.bool (decide (i_.Reg < 0))), []⟩] ?_
    cases hb_7 : ((decide (i_.Reg < 0)) : Bool) with
    | true =>
     replace h := ite_t hb_7 h
     refine Rc 14 [⟨.tup [], []⟩, ⟨.tup [], []⟩, ⟨.tup [], []⟩, ⟨.d (.bool true), []⟩, ⟨.d (.bool true), []⟩, ⟨.tup [], []⟩, ⟨.tup [], []⟩, ⟨.tup [], []⟩, ⟨.d (.bool true), []⟩, ⟨.d (.bool true), []⟩, ⟨.tup [], []⟩, ⟨.tup [], []⟩, ⟨.tup [], []⟩, ⟨.d (.bool true), []⟩] <| Rd <| kS_nrm <| Ct <| Sq <| Ro <| Rc 1 [⟨.d (.bool false), []⟩] <| Rd <| kS_nrm <| Runs.ret <| kS_ret ?_
     obtain rfl := Option.some.inj h
     exact ⟨Out.ret_ne, (by kernel_rfl)⟩
    | false =>
     replace h := ite_f hb_7 h
     refine Rc 5 [⟨.ptr [2] 0 5, []⟩, ⟨.d (.int .i64 i_.Reg), []⟩, ⟨.d (.bool (decide (i_.Reg > 7))), []⟩, ⟨.d (.bool (decide (i_.Reg > 7))), []⟩, ⟨.d (.bool (decide (i_.Reg > 7))), []⟩] ?_
     cases hb_8 : ((decide (i_.Reg > 7)) : Bool) with
     | true =>
      replace h := ite_t hb_8 h
      refine Rc 9 [⟨.tup [], []⟩, ⟨.tup [], []⟩, ⟨.tup [], []⟩, ⟨.d (.bool true), []⟩, ⟨.d (.bool true), []⟩, ⟨.tup [], []⟩, ⟨.tup [], []⟩, ⟨.tup [], []⟩, ⟨.d (.bool true), []⟩] <| Rd <| kS_nrm <| Ct <| Sq <| Ro <| Rc 1 [⟨.d (.bool false), []⟩] <| Rd <| kS_nrm <| Runs.ret <| kS_ret ?_
      obtain rfl := Option.some.inj h
      exact ⟨Out.ret_ne, (by kernel_rfl)⟩
     | false =>
      replace h := ite_f hb_8 h
      refine Rc 5 [⟨.ptr [2] 0 6, []⟩, ⟨.d (.int .i64 i_.RM), []⟩, ⟨.d (.bool (decide (i_.RM < 0))), []⟩, ⟨.d (.bool (decide (i_.RM < 0))), []⟩, ⟨.d (.bool (decide (i_.RM < 0))), []⟩] ?_
      cases hb_9 : ((decide (i_.RM < 0)) : Bool) with
      | true =>
       replace h := ite_t hb_9 h
       refine Rc 4 [⟨.tup [], []⟩, ⟨.tup [], []⟩, ⟨.tup [], []⟩, ⟨.d (.bool true), []⟩] <| Rd <| kS_nrm <| Ct <| Sq <| Ro <| Rc 1 [⟨.d (.bool false), []⟩] <| Rd <| kS_nrm <| Runs.ret <| kS_ret ?_
       obtain rfl := Option.some.inj h
       exact ⟨Out.ret_ne, (by kernel_rfl)⟩
      | false =>
       replace h := ite_f hb_9 h
       refine Rc 4 [⟨.ptr [2] 0 6, []⟩, ⟨.d (.int .i64 i_.RM), []⟩, ⟨.d (.bool (decide (i_.RM > 7))), []⟩, ⟨.d (.bool (decide (i_.RM > 7))), []⟩] <| Rd <| kS_nrm ?_
       cases hb_10 : ((decide (i_.RM > 7)) : Bool) with
       | true =>
        replace h := ite_t hb_10 h
        refine Ct <| Sq <| Ro <| Rc 1 [⟨.d (.bool false), []⟩] <| Rd <| kS_nrm <| Runs.ret <| kS_ret ?_
        obtain rfl := Option.some.inj h
        exact ⟨Out.ret_ne, (by kernel_rfl)⟩
       | false =>
        replace h := ite_f hb_10 h
        refine Cf <| Runs.skip <| kS_nrm <| Sq <| Sq <| Ro <| Rc 4 [⟨.ptr [2] 0 4, []⟩, ⟨.d (.int .i64 i_.Mod), []⟩, ⟨.d (.bool (i_.Mod == 3)), []⟩, ⟨.d (.bool (i_.Mod == 3)), []⟩] ?_
        cases hb_11 : ((i_.Mod == 3) : Bool) with
        | true =>
         replace h := ite_t hb_11 h
         refine Rc 4 [⟨.ptr [3] 0 1, []⟩, ⟨.d (.int .i64 r_.A), []⟩, ⟨.d (.bool (r_.A == 19)), []⟩, ⟨.d (.bool (r_.A == 19)), []⟩] ?_
         cases hb_12 : ((r_.A == 19) : Bool) with
         | true =>
          replace h := ite_t hb_12 h
          refine Rc 10 [⟨.tup [], []⟩, ⟨.tup [], []⟩, ⟨.tup [], []⟩, ⟨.d (.bool true), []⟩, ⟨.d (.bool true), []⟩, ⟨.tup [], []⟩, ⟨.tup [], []⟩, ⟨.tup [], []⟩, ⟨.d (.bool true), []⟩, ⟨.d (.bool true), []⟩] <| Rd <| kS_nrm <| Ct <| Sq <| Ro <| Rc 1 [⟨.d (.bool false), []⟩] <| Rd <| kS_nrm <| Runs.ret <| kS_ret ?_
          obtain rfl := Option.some.inj h
          exact ⟨Out.ret_ne, (by kernel_rfl)⟩
         | false =>
          replace h := ite_f hb_12 h
          refine Rc 5 [⟨.ptr [3] 0 2, []⟩, ⟨.d (.int .i64 r_.B), []⟩, ⟨.d (.bool (r_.B == 19)), []⟩, ⟨.d (.bool (r_.B == 19)), []⟩, ⟨.d (.bool (r_.B == 19)), []⟩] ?_
          cases hb_13 : ((r_.B == 19) : Bool) with
          | true =>
           replace h := ite_t hb_13 h
           refine Rc 5 [⟨.tup [], []⟩, ⟨.tup [], []⟩, ⟨.tup [], []⟩, ⟨.d (.bool true), []⟩, ⟨.d (.bool true), []⟩] <| Rd <| kS_nrm <| Ct <| Sq <| Ro <| Rc 1 [⟨.d (.bool false), []⟩] <| Rd <| kS_nrm <| Runs.ret <| kS_ret ?_
           obtain rfl := Option.some.inj h
           exact ⟨Out.ret_ne, (by kernel_rfl)⟩
          | false =>
           replace h := ite_f hb_13 h
           refine Rc 5 [⟨.ptr [3] 0 2, []⟩, ⟨.d (.int .i64 r_.B), []⟩, ⟨.d (.bool (r_.B == 20)), []⟩, ⟨.d (.bool (r_.B == 20)), []⟩, ⟨.d (.bool (r_.B == 20)), []⟩] <| Rd <| kS_nrm ?_
           cases hb_14 : ((r_.B == 20) : Bool) with
           | true =>
            replace h := ite_t hb_14 h
            refine Ct <| Sq <| Ro <| Rc 1 [⟨.d (.bool false), []⟩] <| Rd <| kS_nrm <| Runs.ret <| kS_ret ?_
            obtain rfl := Option.some.inj h
            exact ⟨Out.ret_ne, (by kernel_rfl)⟩
           | false =>
            replace h := ite_f hb_14 h
            refine Cf <| Runs.skip <| kS_nrm <| Runs.canon (inst_second_h26 i_) (Canon.nil (by kernel_rfl)) ?_
            exact inst_second_j26_ok i_ r_ i_ r h
        | false =>
         replace h := ite_f hb_11 h
         refine Rc 14 [⟨.tup [], []⟩, ⟨.tup [], []⟩, ⟨.tup [], []⟩, ⟨.tup [], []⟩, ⟨.tup [], []⟩, ⟨.tup [], []⟩, ⟨.tup [], []⟩, ⟨.tup [], []⟩, ⟨.tup [], []⟩, ⟨.tup [], []⟩, ⟨.tup [], []⟩, ⟨.tup [], []⟩, ⟨.tup [], []⟩, ⟨.d (.bool false), []⟩] <| Rd <| kS_nrm <| Cf <| Runs.skip <| kS_nrm <| Runs.canon (inst_second_h26 i_) (Canon.nil (by kernel_rfl)) ?_
         exact inst_second_j26_ok i_ r_ i_ r h
theorem inst_second_L (i_ : Inst) (r_ : Row) (r : Bool) (h : inst_second i_ r_ = some r) : L 39 [.d (Inst.d i_), .d (Row.d r_)] = some (.d (.bool r), [.d (Inst.d i_), .d (Row.d r_)]) := by
 obtain ⟨p, ⟨hne, hf⟩, hr⟩ := inst_second_ok i_ r_ r h
 obtain ⟨k, hk⟩ := run_of (F := F39) (args := [.d (Inst.d i_), .d (Row.d r_)]) (ap := [.d (Inst.d i_), .d (Row.d r_)]) (bx0 := updW (fun _ => none) []) rfl rfl (by kernel_rfl) ⟨p, ⟨hne, hf⟩, hr⟩
 exact lim_run (k := k) rfl hk
def inst_behind_h6 (i2 : Inst) (r3 : Row) (t11 : (A2 Int)) (t12 : Int) : St := ⟨tab [(2, .ptr [2] 0 0), (3, .ptr [3] 0 0), (11, .d (.agg [.int .i64 t11.a0, .int .i64 t11.a1])), (12, .d (.int .i64 t12))], tabB [([2], some (.cells [.d (.bool i2.Lock), .d (.int .i64 i2.Rep), .d (.int .i64 i2.Seg), .d (.int .u8 i2.Op), .d (.int .i64 i2.Mod), .d (.int .i64 i2.Reg), .d (.int .i64 i2.RM), .d (.int .u16 i2.Disp), .d (.int .u16 i2.Imm), .d (.int .u16 i2.Sel)] 0)), ([3], some (.cells [.d (.int .i64 r3.Name), .d (.int .i64 r3.A), .d (.int .i64 r3.B), .d (.bool r3.Mod)] 0))]⟩
def inst_behind_h32 (i2 : Inst) (r3 : Row) (t11 : (A2 Int)) (t12 : Int) (t15 : Int) (t41 : Bool) : St := ⟨tab [(2, .ptr [2] 0 0), (3, .ptr [3] 0 0), (11, .d (.agg [.int .i64 t11.a0, .int .i64 t11.a1])), (12, .d (.int .i64 t12)), (15, .d (.int .i64 t15)), (41, .d (.bool t41))], tabB [([2], some (.cells [.d (.bool i2.Lock), .d (.int .i64 i2.Rep), .d (.int .i64 i2.Seg), .d (.int .u8 i2.Op), .d (.int .i64 i2.Mod), .d (.int .i64 i2.Reg), .d (.int .i64 i2.RM), .d (.int .u16 i2.Disp), .d (.int .u16 i2.Imm), .d (.int .u16 i2.Sel)] 0)), ([3], some (.cells [.d (.int .i64 r3.Name), .d (.int .i64 r3.A), .d (.int .i64 r3.B), .d (.bool r3.Mod)] 0))]⟩
def inst_behind_h62 (i2 : Inst) : St := ⟨tab [(2, .ptr [2] 0 0)], tabB [([2], some (.cells [.d (.bool i2.Lock), .d (.int .i64 i2.Rep), .d (.int .i64 i2.Seg), .d (.int .u8 i2.Op), .d (.int .i64 i2.Mod), .d (.int .i64 i2.Reg), .d (.int .i64 i2.RM), .d (.int .u16 i2.Disp), .d (.int .u16 i2.Imm), .d (.int .u16 i2.Sel)] 0))]⟩
def inst_behind_Q (i_ : Inst) (r_ : Row) (r : Bool) (p : Out × St) : Prop := (∀ i, p.1 ≠ .exit i) ∧ finF F40 [.d (Inst.d i_), .d (Row.d r_)] p.2 = some (.d (.bool r), [.d (Inst.d i_), .d (Row.d r_)])
def inst_behind_P6 (i_ : Inst) (r_ : Row) (i2 : Inst) (r3 : Row) (t11 : (A2 Int)) (e : (Bool ⊕ Unit)) (p : Out × St) : Prop := match e with
 | .inl x => p.1 = .ret ∧ finF F40 [.d (Inst.d i_), .d (Row.d r_)] p.2 = some (.d (.bool x), [.d (Inst.d i_), .d (Row.d r_)])
 | .inr x => p.1 = .exit 0 ∧ ∃ g : Unit, Canon [] [2] [[2]] p.2 (inst_behind_h62 i2)
theorem inst_behind_j32_ok (i_ : Inst) (r_ : Row) (i2 : Inst) (r3 : Row) (t11 : (A2 Int)) (t12 : Int) (t15 : Int) (t41 : Bool) (r : (Lp Int (Bool ⊕ Unit))) (h : inst_behind_j32 i2 r3 t11 t12 t15 t41 = some r) : Runs L F40b32 (inst_behind_h32 i2 r3 t11 t12 t15 t41) (kB 2 (kB 1 (kS L F40c61 (LQ [] [2, 3, 11, 12] [[2], [3]] (fun (x : Int) (g : Unit) => inst_behind_h6 i2 r3 t11 x) (inst_behind_P6 i_ r_ i2 r3 t11) r)))) := by
 unfold inst_behind_j32 at h
 cases hb_8 : (t41 : Bool) with
 | true =>
  replace h := ite_t hb_8 h
  refine Ct <| Sq <| Ro <| Rc 2 [⟨.ptr [2] 0 8, []⟩, ⟨.d (.int .u16 i2.Imm), []⟩] ?_
  obtain ⟨r_1, hr_1, h⟩ := bind_s h
  have hc_1 := bits_Fits_L i2.Imm r_1 hr_1
  refine Rt (some 46) (.callf 52) [] none [.d (.int .u16 i2.Imm)] (.d (.bool r_1)) [] (cut_call (call_of (ws := []) (us := []) (by kernel_rfl) (by kernel_rfl) hc_1 (by kernel_rfl) (by kernel_rfl))) <| Rc 1 [⟨.d (.bool r_1), []⟩] ?_
  cases hb_9 : (r_1 : Bool) with
  | true =>
   replace h := ite_t hb_9 h
   refine Rc 5 [⟨.ptr [2] 0 9, []⟩, ⟨.d (.int .u16 i2.Sel), []⟩, ⟨.d (.bool (i2.Sel == 0)), []⟩, ⟨.d (.bool (i2.Sel == 0)), []⟩, ⟨.d (.bool (i2.Sel == 0)), []⟩] <| Rd <| kS_nrm <| Runs.ret <| kB_ret <| kB_ret <| kS_ret ?_
   obtain rfl := Option.some.inj h
   exact ⟨nofun, rfl, (by kernel_rfl)⟩
  | false =>
   replace h := ite_f hb_9 h
   refine Rc 5 [⟨.tup [], []⟩, ⟨.tup [], []⟩, ⟨.tup [], []⟩, ⟨.d (.bool false), []⟩, ⟨.d (.bool false), []⟩] <| Rd <| kS_nrm <| Runs.ret <| kB_ret <| kB_ret <| kS_ret ?_
   obtain rfl := Option.some.inj h
   exact ⟨nofun, rfl, (by kernel_rfl)⟩
 | false =>
  replace h := ite_f hb_8 h
  refine Cf <| Sq <| Sq <| Ro <| Rc 2 [⟨.d (.bool (t15 == 7)), []⟩, ⟨.d (.bool (t15 == 7)), []⟩] <| Rd <| kS_nrm ?_
  cases hb_10 : ((t15 == 7) : Bool) with
  | true =>
   replace h := ite_t hb_10 h
   refine Ct <| Runs.skip <| kS_nrm <| Ct <| Sq <| Ro <| Rc 4 [⟨.ptr [2] 0 9, []⟩, ⟨.d (.int .u16 i2.Sel), []⟩, ⟨.d (.bool (i2.Sel == 0)), []⟩, ⟨.d (.bool (i2.Sel == 0)), []⟩] <| Rd <| kS_nrm <| Runs.ret <| kB_ret <| kB_ret <| kS_ret ?_
   obtain rfl := Option.some.inj h
   exact ⟨nofun, rfl, (by kernel_rfl)⟩
  | false =>
   replace h := ite_f hb_10 h
   refine Cf <| Sq <| Ro <| Rc 2 [⟨.d (.bool (t15 == 10)), []⟩, ⟨.d (.bool (t15 == 10)), []⟩] <| Rd <| kS_nrm ?_
   cases hb_11 : ((t15 == 10) : Bool) with
   | true =>
    replace h := ite_t hb_11 h
    refine Ct <| Runs.skip <| kS_nrm <| Ct <| Sq <| Ro <| Rc 4 [⟨.ptr [2] 0 9, []⟩, ⟨.d (.int .u16 i2.Sel), []⟩, ⟨.d (.bool (i2.Sel == 0)), []⟩, ⟨.d (.bool (i2.Sel == 0)), []⟩] <| Rd <| kS_nrm <| Runs.ret <| kB_ret <| kB_ret <| kS_ret ?_
    obtain rfl := Option.some.inj h
    exact ⟨nofun, rfl, (by kernel_rfl)⟩
   | false =>
    replace h := ite_f hb_11 h
    refine Cf <| Sq <| Ro <| Rc 2 [⟨.d (.bool (t15 == 12)), []⟩, ⟨.d (.bool (t15 == 12)), []⟩] <| Rd <| kS_nrm ?_
    cases hb_12 : ((t15 == 12) : Bool) with
    | true =>
     replace h := ite_t hb_12 h
     refine Ct <| Runs.skip <| kS_nrm <| Ct <| Sq <| Ro <| Rc 4 [⟨.ptr [2] 0 9, []⟩, ⟨.d (.int .u16 i2.Sel), []⟩, ⟨.d (.bool (i2.Sel == 0)), []⟩, ⟨.d (.bool (i2.Sel == 0)), []⟩] <| Rd <| kS_nrm <| Runs.ret <| kB_ret <| kB_ret <| kS_ret ?_
     obtain rfl := Option.some.inj h
     exact ⟨nofun, rfl, (by kernel_rfl)⟩
    | false =>
     replace h := ite_f hb_12 h
     refine Cf <| Ro <| Rc 2 [⟨.d (.bool (t15 == 13)), []⟩, ⟨.d (.bool (t15 == 13)), []⟩] <| Rd <| kS_nrm ?_
     cases hb_13 : ((t15 == 13) : Bool) with
     | true =>
      replace h := ite_t hb_13 h
      refine Ct <| Sq <| Ro <| Rc 4 [⟨.ptr [2] 0 9, []⟩, ⟨.d (.int .u16 i2.Sel), []⟩, ⟨.d (.bool (i2.Sel == 0)), []⟩, ⟨.d (.bool (i2.Sel == 0)), []⟩] <| Rd <| kS_nrm <| Runs.ret <| kB_ret <| kB_ret <| kS_ret ?_
      obtain rfl := Option.some.inj h
      exact ⟨nofun, rfl, (by kernel_rfl)⟩
     | false =>
      replace h := ite_f hb_13 h
      refine Cf <| Sq <| Ro <| Rc 2 [⟨.d (.bool (t15 == 11)), []⟩, ⟨.d (.bool (t15 == 11)), []⟩] <| Rd <| kS_nrm ?_
      cases hb_14 : ((t15 == 11) : Bool) with
      | true =>
       replace h := ite_t hb_14 h
       refine Ct <| Sq <| Ro <| Rc 1 [⟨.d (.bool true), []⟩] <| Rd <| kS_nrm <| Runs.ret <| kB_ret <| kB_ret <| kS_ret ?_
       obtain rfl := Option.some.inj h
       exact ⟨nofun, rfl, (by kernel_rfl)⟩
      | false =>
       replace h := ite_f hb_14 h
       refine Cf <| Runs.skip <| kB_nrm <| kB_nrm <| kS_nrm <| Ro <| Rc 2 [⟨.d (.int .i64 (IntKind.wrap .i64 (t12 + 1))), []⟩, ⟨.d (.int .i64 (IntKind.wrap .i64 (t12 + 1))), []⟩] <| Rd ?_
       obtain rfl := Option.some.inj h
       exact ⟨rfl, (), (Canon.nil (by kernel_rfl))⟩
theorem inst_behind_l6_ok (i_ : Inst) (r_ : Row) (i2 : Inst) (r3 : Row) (t11 : (A2 Int)) (t12 : Int) (r : (Lp Int (Bool ⊕ Unit))) (h : inst_behind_l6 i2 r3 t11 t12 = some r) : Runs L F40l6 (inst_behind_h6 i2 r3 t11 t12) (LQ [] [2, 3, 11, 12] [[2], [3]] (fun (x : Int) (g : Unit) => inst_behind_h6 i2 r3 t11 x) (inst_behind_P6 i_ r_ i2 r3 t11) r) := by
 unfold inst_behind_l6 at h
 refine Sq <| Ro <| Rc 1 [⟨.d (.bool (decide (t12 < 2))), []⟩] <| Rd <| kS_nrm <| Sq ?_
 cases hb_1 : ((decide (t12 < 2)) : Bool) with
 | true =>
  replace h := ite_t hb_1 h
  refine Ct <| Runs.skip <| kS_nrm <| Sq <| Runs.block <| Sq <| Ro ?_
  obtain ⟨z_1, hz_1, h⟩ := bind_s h
  refine Rt (some 14) (.indexA 2 1 none) [] none [.d (.agg [.int .i64 t11.a0, .int .i64 t11.a1]), .d (.int .i64 t12)] (.d (.int .i64 z_1)) [] (cut_ixA (e := (D.int .i64)) (l := t11.l) hz_1 rfl) <| Rc 1 [⟨.d (.int .i64 z_1), []⟩] <| Rd <| kS_nrm <| Sq <| Ro <| Rc 1 [⟨.d (.int .i64 z_1), []⟩] <| Rd <| kS_nrm <| Runs.block <| Sq <| Ro <| Rc 2 [⟨.d (.bool (z_1 == 6)), []⟩, ⟨.d (.bool (z_1 == 6)), []⟩] <| Rd <| kS_nrm ?_
  cases hb_2 : ((z_1 == 6) : Bool) with
  | true =>
   replace h := ite_t hb_2 h
   refine Ct <| Sq <| Ro <| Rc 4 [⟨.ptr [2] 0 8, []⟩, ⟨.d (.int .u16 i2.Imm), []⟩, ⟨.d (.bool (decide (i2.Imm < 256))), []⟩, ⟨.d (.bool (decide (i2.Imm < 256))), []⟩] ?_
   cases hb_3 : ((decide (i2.Imm < 256)) : Bool) with
   | true =>
    replace h := ite_t hb_3 h
    refine Rc 5 [⟨.ptr [2] 0 9, []⟩, ⟨.d (.int .u16 i2.Sel), []⟩, ⟨.d (.bool (i2.Sel == 0)), []⟩, ⟨.d (.bool (i2.Sel == 0)), []⟩, ⟨.d (.bool (i2.Sel == 0)), []⟩] ?_
    cases hb_4 : ((i2.Sel == 0) : Bool) with
    | true =>
     replace h := ite_t hb_4 h
     refine Rc 4 [⟨.ptr [3] 0 0, []⟩, ⟨.d (.int .i64 r3.Name), []⟩, ⟨.d (.bool (r3.Name != 70)), []⟩, ⟨.d (.bool (r3.Name != 70)), []⟩] ?_
     cases hb_5 : ((r3.Name != 70) : Bool) with
     | true =>
      replace h := ite_t hb_5 h
      refine Rc 5 [⟨.ptr [3] 0 0, []⟩, ⟨.d (.int .i64 r3.Name), []⟩, ⟨.d (.bool (r3.Name != 71)), []⟩, ⟨.d (.bool (r3.Name != 71)), []⟩, ⟨.d (.bool (r3.Name != 71)), []⟩] ?_
      cases hb_6 : ((r3.Name != 71) : Bool) with
      | true =>
       replace h := ite_t hb_6 h
       refine Rc 6 [⟨.tup [], []⟩, ⟨.tup [], []⟩, ⟨.tup [], []⟩, ⟨.d (.bool true), []⟩, ⟨.d (.bool true), []⟩, ⟨.d (.bool true), []⟩] <| Rd <| kS_nrm <| Runs.ret <| kB_ret <| kB_ret <| kS_ret ?_
       obtain rfl := Option.some.inj h
       exact ⟨nofun, rfl, (by kernel_rfl)⟩
      | false =>
       replace h := ite_f hb_6 h
       refine Rc 6 [⟨.ptr [2] 0 8, []⟩, ⟨.d (.int .u16 i2.Imm), []⟩, ⟨.d (.bool (i2.Imm == 10)), []⟩, ⟨.d (.bool (i2.Imm == 10)), []⟩, ⟨.d (.bool (i2.Imm == 10)), []⟩, ⟨.d (.bool (i2.Imm == 10)), []⟩] <| Rd <| kS_nrm <| Runs.ret <| kB_ret <| kB_ret <| kS_ret ?_
       obtain rfl := Option.some.inj h
       exact ⟨nofun, rfl, (by kernel_rfl)⟩
     | false =>
      replace h := ite_f hb_5 h
      refine Rc 11 [⟨.tup [], []⟩, ⟨.tup [], []⟩, ⟨.tup [], []⟩, ⟨.d (.bool false), []⟩, ⟨.d (.bool false), []⟩, ⟨.ptr [2] 0 8, []⟩, ⟨.d (.int .u16 i2.Imm), []⟩, ⟨.d (.bool (i2.Imm == 10)), []⟩, ⟨.d (.bool (i2.Imm == 10)), []⟩, ⟨.d (.bool (i2.Imm == 10)), []⟩, ⟨.d (.bool (i2.Imm == 10)), []⟩] <| Rd <| kS_nrm <| Runs.ret <| kB_ret <| kB_ret <| kS_ret ?_
      obtain rfl := Option.some.inj h
      exact ⟨nofun, rfl, (by kernel_rfl)⟩
    | false =>
     replace h := ite_f hb_4 h
     refine Rc 15 [⟨.tup [], []⟩, ⟨.tup [], []⟩, ⟨.tup [], []⟩, ⟨.tup [], []⟩, ⟨.tup [], []⟩, ⟨.tup [], []⟩, ⟨.tup [], []⟩, ⟨.tup [], []⟩, ⟨.tup [], []⟩, ⟨.tup [], []⟩, ⟨.tup [], []⟩, ⟨.tup [], []⟩, ⟨.tup [], []⟩, ⟨.d (.bool false), []⟩, ⟨.d (.bool false), []⟩] <| Rd <| kS_nrm <| Runs.ret <| kB_ret <| kB_ret <| kS_ret ?_
     obtain rfl := Option.some.inj h
     exact ⟨nofun, rfl, (by kernel_rfl)⟩
   | false =>
    replace h := ite_f hb_3 h
    refine Rc 20 [⟨.tup [], []⟩, ⟨.tup [], []⟩, ⟨.tup [], []⟩, ⟨.d (.bool false), []⟩, ⟨.d (.bool false), []⟩, ⟨.tup [], []⟩, ⟨.tup [], []⟩, ⟨.tup [], []⟩, ⟨.tup [], []⟩, ⟨.tup [], []⟩, ⟨.tup [], []⟩, ⟨.tup [], []⟩, ⟨.tup [], []⟩, ⟨.tup [], []⟩, ⟨.tup [], []⟩, ⟨.tup [], []⟩, ⟨.tup [], []⟩, ⟨.tup [], []⟩, ⟨.d (.bool false), []⟩, ⟨.d (.bool false), []⟩] <| Rd <| kS_nrm <| Runs.ret <| kB_ret <| kB_ret <| kS_ret ?_
    obtain rfl := Option.some.inj h
    exact ⟨nofun, rfl, (by kernel_rfl)⟩
  | false =>
   replace h := ite_f hb_2 h
   refine Cf <| Sq <| Sq <| Ro <| Rc 2 [⟨.d (.bool (z_1 == 8)), []⟩, ⟨.d (.bool (z_1 == 8)), []⟩] <| Rd <| kS_nrm ?_
   cases hb_7 : ((z_1 == 8) : Bool) with
   | true =>
    replace h := ite_t hb_7 h
    refine Ct <| Runs.skip <| kS_nrm <| Runs.canon (inst_behind_h32 i2 r3 t11 t12 z_1 true) (Canon.nil (by kernel_rfl)) ?_
    exact inst_behind_j32_ok i_ r_ i2 r3 t11 t12 z_1 true r h
   | false =>
    replace h := ite_f hb_7 h
    refine Cf <| Ro <| Rc 2 [⟨.d (.bool (z_1 == 9)), []⟩, ⟨.d (.bool (z_1 == 9)), []⟩] <| Rd <| kS_nrm <| Runs.canon (inst_behind_h32 i2 r3 t11 t12 z_1 (z_1 == 9)) (Canon.nil (by kernel_rfl)) ?_
    exact inst_behind_j32_ok i_ r_ i2 r3 t11 t12 z_1 (z_1 == 9) r h
 | false =>
  replace h := ite_f hb_1 h
  refine Cf <| Runs.exit <| kS_exit ?_
  obtain rfl := Option.some.inj h
  exact ⟨nofun, rfl, (), (Canon.nil (by kernel_rfl))⟩
theorem inst_behind_ok (i_ : Inst) (r_ : Row) (r : Bool) (h : inst_behind i_ r_ = some r) : Runs L F40.body ⟨tmOf [.d (Inst.d i_), .d (Row.d r_)] 0, updW (fun _ => none) []⟩ (inst_behind_Q i_ r_ r) := by
 unfold inst_behind at h
 refine Sq <| Ro <| Rc 3 [⟨.ptr [2] 0 0, [([2], some (.cells [.d (.bool i_.Lock), .d (.int .i64 i_.Rep), .d (.int .i64 i_.Seg), .d (.int .u8 i_.Op), .d (.int .i64 i_.Mod), .d (.int .i64 i_.Reg), .d (.int .i64 i_.RM), .d (.int .u16 i_.Disp), .d (.int .u16 i_.Imm), .d (.int .u16 i_.Sel)] 0))]⟩, ⟨.ptr [3] 0 0, [([3], some (.cells [.d (.int .i64 r_.Name), .d (.int .i64 r_.A), .d (.int .i64 r_.B), .d (.bool r_.Mod)] 0))]⟩, ⟨.d (.bool false), []⟩] <| Rd <| kS_nrm <| Sq <| Sq <| Ro <| Rc 6 [⟨.ptr [3] 0 1, []⟩, ⟨.d (.int .i64 r_.A), []⟩, ⟨.ptr [3] 0 2, []⟩, ⟨.d (.int .i64 r_.B), []⟩, ⟨.d (.agg [.int .i64 r_.A, .int .i64 r_.B]), []⟩, ⟨.d (.int .i64 0), []⟩] <| Rd <| kS_nrm <| Runs.block ?_
 obtain ⟨e_1, he_1, h⟩ := bind_s h
 refine Runs.loop (fun x : Int => inst_behind_l6 i_ r_ ({ a0 := r_.A, a1 := r_.B } : (A2 Int)) x) (fun (x : Int) (g : Unit) => inst_behind_h6 i_ r_ ({ a0 := r_.A, a1 := r_.B } : (A2 Int)) x) (inst_behind_P6 i_ r_ i_ r_ ({ a0 := r_.A, a1 := r_.B } : (A2 Int))) (fun x g r hr => inst_behind_l6_ok i_ r_ i_ r_ ({ a0 := r_.A, a1 := r_.B } : (A2 Int)) x  r hr) () he_1 (Canon.nil (by kernel_rfl)) ?_
 rintro ⟨o, s⟩ hp
 cases e_1 with
 | inl e_2 =>
  obtain ⟨ho, hf⟩ := hp
  have ho' : o = .ret := ho
  subst ho'
  refine kB_ret <| kS_ret ?_
  obtain rfl := Option.some.inj h
  exact ⟨Out.ret_ne, hf⟩
 | inr e_3 =>
  obtain ⟨ho, g_1, hk_1⟩ := hp
  have ho' : o = .exit 0 := ho
  subst ho'
  refine kB_hit <| kS_nrm <| Runs.canon _ hk_1 <| Sq <| Ro <| Rc 4 [⟨.ptr [2] 0 8, []⟩, ⟨.d (.int .u16 i_.Imm), []⟩, ⟨.d (.bool (i_.Imm == 0)), []⟩, ⟨.d (.bool (i_.Imm == 0)), []⟩] ?_
  cases hb_1 : ((i_.Imm == 0) : Bool) with
  | true =>
   replace h := ite_t hb_1 h
   refine Rc 5 [⟨.ptr [2] 0 9, []⟩, ⟨.d (.int .u16 i_.Sel), []⟩, ⟨.d (.bool (i_.Sel == 0)), []⟩, ⟨.d (.bool (i_.Sel == 0)), []⟩, ⟨.d (.bool (i_.Sel == 0)), []⟩] <| Rd <| kS_nrm <| Runs.ret ?_
   obtain rfl := Option.some.inj h
   exact ⟨Out.ret_ne, (by kernel_rfl)⟩
  | false =>
   replace h := ite_f hb_1 h
   refine Rc 5 [⟨.tup [], []⟩, ⟨.tup [], []⟩, ⟨.tup [], []⟩, ⟨.d (.bool false), []⟩, ⟨.d (.bool false), []⟩] <| Rd <| kS_nrm <| Runs.ret ?_
   obtain rfl := Option.some.inj h
   exact ⟨Out.ret_ne, (by kernel_rfl)⟩
theorem inst_behind_L (i_ : Inst) (r_ : Row) (r : Bool) (h : inst_behind i_ r_ = some r) : L 40 [.d (Inst.d i_), .d (Row.d r_)] = some (.d (.bool r), [.d (Inst.d i_), .d (Row.d r_)]) := by
 obtain ⟨p, ⟨hne, hf⟩, hr⟩ := inst_behind_ok i_ r_ r h
 obtain ⟨k, hk⟩ := run_of (F := F40) (args := [.d (Inst.d i_), .d (Row.d r_)]) (ap := [.d (Inst.d i_), .d (Row.d r_)]) (bx0 := updW (fun _ => none) []) rfl rfl (by kernel_rfl) ⟨p, ⟨hne, hf⟩, hr⟩
 exact lim_run (k := k) rfl hk
def isa_Repeats_h28 (t3 : Int) (t4 : Bool) : St := ⟨tab [(3, .d (.int .i64 t3)), (4, .d (.bool t4))], tabB []⟩
def isa_Repeats_Q (name_ : Int) (r : Int) (p : Out × St) : Prop := (∀ i, p.1 ≠ .exit i) ∧ finF F53 [.d (.int .i64 name_)] p.2 = some (.d (.int .i64 r), [.d (.int .i64 name_)])
theorem isa_Repeats_j28_ok (name_ : Int) (t3 : Int) (t4 : Bool) (r : Int) (h : isa_Repeats_j28 t3 t4 = some r) : Runs L F53b28 (isa_Repeats_h28 t3 t4) (kB 0 (kS L F53c51 (isa_Repeats_Q name_ r))) := by
 unfold isa_Repeats_j28 at h
 cases hb_2 : (t4 : Bool) with
 | true =>
  replace h := ite_t hb_2 h
  refine Ct <| Sq <| Ro <| Rc 1 [⟨.d (.int .i64 1), []⟩] <| Rd <| kS_nrm <| Runs.ret <| kB_ret <| kS_ret ?_
  obtain rfl := Option.some.inj h
  exact ⟨Out.ret_ne, (by kernel_rfl)⟩
 | false =>
  replace h := ite_f hb_2 h
  refine Cf <| Sq <| Sq <| Ro <| Rc 2 [⟨.d (.bool (t3 == 48)), []⟩, ⟨.d (.bool (t3 == 48)), []⟩] <| Rd <| kS_nrm ?_
  cases hb_3 : ((t3 == 48) : Bool) with
  | true =>
   replace h := ite_t hb_3 h
   refine Ct <| Runs.skip <| kS_nrm <| Ct <| Sq <| Ro <| Rc 1 [⟨.d (.int .i64 2), []⟩] <| Rd <| kS_nrm <| Runs.ret <| kB_ret <| kS_ret ?_
   obtain rfl := Option.some.inj h
   exact ⟨Out.ret_ne, (by kernel_rfl)⟩
  | false =>
   replace h := ite_f hb_3 h
   refine Cf <| Sq <| Ro <| Rc 2 [⟨.d (.bool (t3 == 49)), []⟩, ⟨.d (.bool (t3 == 49)), []⟩] <| Rd <| kS_nrm ?_
   cases hb_4 : ((t3 == 49) : Bool) with
   | true =>
    replace h := ite_t hb_4 h
    refine Ct <| Runs.skip <| kS_nrm <| Ct <| Sq <| Ro <| Rc 1 [⟨.d (.int .i64 2), []⟩] <| Rd <| kS_nrm <| Runs.ret <| kB_ret <| kS_ret ?_
    obtain rfl := Option.some.inj h
    exact ⟨Out.ret_ne, (by kernel_rfl)⟩
   | false =>
    replace h := ite_f hb_4 h
    refine Cf <| Sq <| Ro <| Rc 2 [⟨.d (.bool (t3 == 54)), []⟩, ⟨.d (.bool (t3 == 54)), []⟩] <| Rd <| kS_nrm ?_
    cases hb_5 : ((t3 == 54) : Bool) with
    | true =>
     replace h := ite_t hb_5 h
     refine Ct <| Runs.skip <| kS_nrm <| Ct <| Sq <| Ro <| Rc 1 [⟨.d (.int .i64 2), []⟩] <| Rd <| kS_nrm <| Runs.ret <| kB_ret <| kS_ret ?_
     obtain rfl := Option.some.inj h
     exact ⟨Out.ret_ne, (by kernel_rfl)⟩
    | false =>
     replace h := ite_f hb_5 h
     refine Cf <| Ro <| Rc 2 [⟨.d (.bool (t3 == 55)), []⟩, ⟨.d (.bool (t3 == 55)), []⟩] <| Rd <| kS_nrm ?_
     cases hb_6 : ((t3 == 55) : Bool) with
     | true =>
      replace h := ite_t hb_6 h
      refine Ct <| Sq <| Ro <| Rc 1 [⟨.d (.int .i64 2), []⟩] <| Rd <| kS_nrm <| Runs.ret <| kB_ret <| kS_ret ?_
      obtain rfl := Option.some.inj h
      exact ⟨Out.ret_ne, (by kernel_rfl)⟩
     | false =>
      replace h := ite_f hb_6 h
      refine Cf <| Runs.skip <| kB_nrm <| kS_nrm <| Sq <| Ro <| Rc 1 [⟨.d (.int .i64 0), []⟩] <| Rd <| kS_nrm <| Runs.ret ?_
      obtain rfl := Option.some.inj h
      exact ⟨Out.ret_ne, (by kernel_rfl)⟩
theorem isa_Repeats_ok (name_ : Int) (r : Int) (h : isa_Repeats name_ = some r) : Runs L F53.body ⟨tmOf [.d (.int .i64 name_)] 0, updW (fun _ => none) []⟩ (isa_Repeats_Q name_ r) := by
 unfold isa_Repeats at h
 refine Sq <| Ro <| Rc 1 [⟨.d (.int .i64 0), []⟩] <| Rd <| kS_nrm <| Sq <| Sq <| Ro <| Rc 1 [⟨.d (.int .i64 name_), []⟩] <| Rd <| kS_nrm <| Runs.block <| Sq <| Sq <| Ro <| Rc 2 [⟨.d (.bool (name_ == 46)), []⟩, ⟨.d (.bool (name_ == 46)), []⟩] <| Rd <| kS_nrm ?_
 cases hb_1 : ((name_ == 46) : Bool) with
 | true =>
  replace h := ite_t hb_1 h
  refine Ct <| Runs.skip <| kS_nrm <| Runs.canon (isa_Repeats_h28 name_ true) (Canon.nil (by kernel_rfl)) ?_
  exact isa_Repeats_j28_ok name_ name_ true r h
 | false =>
  replace h := ite_f hb_1 h
  refine Cf <| Sq <| Ro <| Rc 2 [⟨.d (.bool (name_ == 47)), []⟩, ⟨.d (.bool (name_ == 47)), []⟩] <| Rd <| kS_nrm ?_
  cases hb_7 : ((name_ == 47) : Bool) with
  | true =>
   replace h := ite_t hb_7 h
   refine Ct <| Runs.skip <| kS_nrm <| Runs.canon (isa_Repeats_h28 name_ true) (Canon.nil (by kernel_rfl)) ?_
   exact isa_Repeats_j28_ok name_ name_ true r h
  | false =>
   replace h := ite_f hb_7 h
   refine Cf <| Sq <| Ro <| Rc 2 [⟨.d (.bool (name_ == 50)), []⟩, ⟨.d (.bool (name_ == 50)), []⟩] <| Rd <| kS_nrm ?_
   cases hb_8 : ((name_ == 50) : Bool) with
   | true =>
    replace h := ite_t hb_8 h
    refine Ct <| Runs.skip <| kS_nrm <| Runs.canon (isa_Repeats_h28 name_ true) (Canon.nil (by kernel_rfl)) ?_
    exact isa_Repeats_j28_ok name_ name_ true r h
   | false =>
    replace h := ite_f hb_8 h
    refine Cf <| Sq <| Ro <| Rc 2 [⟨.d (.bool (name_ == 51)), []⟩, ⟨.d (.bool (name_ == 51)), []⟩] <| Rd <| kS_nrm ?_
    cases hb_9 : ((name_ == 51) : Bool) with
    | true =>
     replace h := ite_t hb_9 h
     refine Ct <| Runs.skip <| kS_nrm <| Runs.canon (isa_Repeats_h28 name_ true) (Canon.nil (by kernel_rfl)) ?_
     exact isa_Repeats_j28_ok name_ name_ true r h
    | false =>
     replace h := ite_f hb_9 h
     refine Cf <| Sq <| Ro <| Rc 2 [⟨.d (.bool (name_ == 52)), []⟩, ⟨.d (.bool (name_ == 52)), []⟩] <| Rd <| kS_nrm ?_
     cases hb_10 : ((name_ == 52) : Bool) with
     | true =>
      replace h := ite_t hb_10 h
      refine Ct <| Runs.skip <| kS_nrm <| Runs.canon (isa_Repeats_h28 name_ true) (Canon.nil (by kernel_rfl)) ?_
      exact isa_Repeats_j28_ok name_ name_ true r h
     | false =>
      replace h := ite_f hb_10 h
      refine Cf <| Ro <| Rc 2 [⟨.d (.bool (name_ == 53)), []⟩, ⟨.d (.bool (name_ == 53)), []⟩] <| Rd <| kS_nrm <| Runs.canon (isa_Repeats_h28 name_ (name_ == 53)) (Canon.nil (by kernel_rfl)) ?_
      exact isa_Repeats_j28_ok name_ name_ (name_ == 53) r h
theorem isa_Repeats_L (name_ : Int) (r : Int) (h : isa_Repeats name_ = some r) : L 53 [.d (.int .i64 name_)] = some (.d (.int .i64 r), [.d (.int .i64 name_)]) := by
 obtain ⟨p, ⟨hne, hf⟩, hr⟩ := isa_Repeats_ok name_ r h
 obtain ⟨k, hk⟩ := run_of (F := F53) (args := [.d (.int .i64 name_)]) (ap := [.d (.int .i64 name_)]) (bx0 := updW (fun _ => none) []) rfl rfl (by kernel_rfl) ⟨p, ⟨hne, hf⟩, hr⟩
 exact lim_run (k := k) rfl hk
def inst_prefixes_Q (i_ : Inst) (r_ : Row) (r : Bool) (p : Out × St) : Prop := (∀ i, p.1 ≠ .exit i) ∧ finF F41 [.d (Inst.d i_), .d (Row.d r_)] p.2 = some (.d (.bool r), [.d (Inst.d i_), .d (Row.d r_)])
theorem inst_prefixes_ok (i_ : Inst) (r_ : Row) (r : Bool) (h : inst_prefixes i_ r_ = some r) : Runs L F41.body ⟨tmOf [.d (Inst.d i_), .d (Row.d r_)] 0, updW (fun _ => none) []⟩ (inst_prefixes_Q i_ r_ r) := by
 unfold inst_prefixes at h
 refine Sq <| Ro <| Rc 3 [⟨.ptr [2] 0 0, [([2], some (.cells [.d (.bool i_.Lock), .d (.int .i64 i_.Rep), .d (.int .i64 i_.Seg), .d (.int .u8 i_.Op), .d (.int .i64 i_.Mod), .d (.int .i64 i_.Reg), .d (.int .i64 i_.RM), .d (.int .u16 i_.Disp), .d (.int .u16 i_.Imm), .d (.int .u16 i_.Sel)] 0))]⟩, ⟨.ptr [3] 0 0, [([3], some (.cells [.d (.int .i64 r_.Name), .d (.int .i64 r_.A), .d (.int .i64 r_.B), .d (.bool r_.Mod)] 0))]⟩, ⟨.d (.bool false), []⟩] <| Rd <| kS_nrm <| Sq <| Ro <| Rc 2 [⟨.ptr [3] 0 0, []⟩, ⟨.d (.int .i64 r_.Name), []⟩] ?_
 obtain ⟨r_1, hr_1, h⟩ := bind_s h
 have hc_1 := isa_Repeats_L r_.Name r_1 hr_1
 refine Rt (some 8) (.callf 53) [] none [.d (.int .i64 r_.Name)] (.d (.int .i64 r_1)) [] (cut_call (call_of (ws := []) (us := []) (by kernel_rfl) (by kernel_rfl) hc_1 (by kernel_rfl) (by kernel_rfl))) <| Rc 1 [⟨.d (.int .i64 r_1), []⟩] <| Rd <| kS_nrm <| Sq <| Sq <| Ro <| Rc 2 [⟨.ptr [2] 0 1, []⟩, ⟨.d (.int .i64 i_.Rep), []⟩] <| Rd <| kS_nrm <| Runs.block <| Sq <| Ro <| Rc 2 [⟨.d (.bool (i_.Rep == 0)), []⟩, ⟨.d (.bool (i_.Rep == 0)), []⟩] <| Rd <| kS_nrm ?_
 cases hb_1 : ((i_.Rep == 0) : Bool) with
 | true =>
  replace h := ite_t hb_1 h
  refine Ct <| Runs.skip <| kB_nrm <| kS_nrm <| Sq <| Ro <| Rc 4 [⟨.ptr [2] 0 2, []⟩, ⟨.d (.int .i64 i_.Seg), []⟩, ⟨.d (.bool (decide (i_.Seg ≥ 0))), []⟩, ⟨.d (.bool (decide (i_.Seg ≥ 0))), []⟩] ?_
  cases hb_2 : ((decide (i_.Seg ≥ 0)) : Bool) with
  | true =>
   replace h := ite_t hb_2 h
   refine Rc 5 [⟨.ptr [2] 0 2, []⟩, ⟨.d (.int .i64 i_.Seg), []⟩, ⟨.d (.bool (decide (i_.Seg ≤ 4))), []⟩, ⟨.d (.bool (decide (i_.Seg ≤ 4))), []⟩, ⟨.d (.bool (decide (i_.Seg ≤ 4))), []⟩] <| Rd <| kS_nrm <| Runs.ret ?_
   obtain rfl := Option.some.inj h
   exact ⟨Out.ret_ne, (by kernel_rfl)⟩
  | false =>
   replace h := ite_f hb_2 h
   refine Rc 5 [⟨.tup [], []⟩, ⟨.tup [], []⟩, ⟨.tup [], []⟩, ⟨.d (.bool false), []⟩, ⟨.d (.bool false), []⟩] <| Rd <| kS_nrm <| Runs.ret ?_
   obtain rfl := Option.some.inj h
   exact ⟨Out.ret_ne, (by kernel_rfl)⟩
 | false =>
  replace h := ite_f hb_1 h
  refine Cf <| Sq <| Ro <| Rc 2 [⟨.d (.bool (i_.Rep == 1)), []⟩, ⟨.d (.bool (i_.Rep == 1)), []⟩] <| Rd <| kS_nrm ?_
  cases hb_3 : ((i_.Rep == 1) : Bool) with
  | true =>
   replace h := ite_t hb_3 h
   refine Ct <| Sq <| Ro <| Rc 2 [⟨.d (.int .i64 r_1), []⟩, ⟨.d (.bool (decide (r_1 < 2))), []⟩] <| Rd <| kS_nrm ?_
   cases hb_4 : ((decide (r_1 < 2)) : Bool) with
   | true =>
    replace h := ite_t hb_4 h
    refine Ct <| Sq <| Ro <| Rc 1 [⟨.d (.bool false), []⟩] <| Rd <| kS_nrm <| Runs.ret <| kB_ret <| kS_ret ?_
    obtain rfl := Option.some.inj h
    exact ⟨Out.ret_ne, (by kernel_rfl)⟩
   | false =>
    replace h := ite_f hb_4 h
    refine Cf <| Runs.skip <| kB_nrm <| kS_nrm <| Sq <| Ro <| Rc 4 [⟨.ptr [2] 0 2, []⟩, ⟨.d (.int .i64 i_.Seg), []⟩, ⟨.d (.bool (decide (i_.Seg ≥ 0))), []⟩, ⟨.d (.bool (decide (i_.Seg ≥ 0))), []⟩] ?_
    cases hb_5 : ((decide (i_.Seg ≥ 0)) : Bool) with
    | true =>
     replace h := ite_t hb_5 h
     refine Rc 5 [⟨.ptr [2] 0 2, []⟩, ⟨.d (.int .i64 i_.Seg), []⟩, ⟨.d (.bool (decide (i_.Seg ≤ 4))), []⟩, ⟨.d (.bool (decide (i_.Seg ≤ 4))), []⟩, ⟨.d (.bool (decide (i_.Seg ≤ 4))), []⟩] <| Rd <| kS_nrm <| Runs.ret ?_
     obtain rfl := Option.some.inj h
     exact ⟨Out.ret_ne, (by kernel_rfl)⟩
    | false =>
     replace h := ite_f hb_5 h
     refine Rc 5 [⟨.tup [], []⟩, ⟨.tup [], []⟩, ⟨.tup [], []⟩, ⟨.d (.bool false), []⟩, ⟨.d (.bool false), []⟩] <| Rd <| kS_nrm <| Runs.ret ?_
     obtain rfl := Option.some.inj h
     exact ⟨Out.ret_ne, (by kernel_rfl)⟩
  | false =>
   replace h := ite_f hb_3 h
   refine Cf <| Sq <| Ro <| Rc 2 [⟨.d (.bool (i_.Rep == 2)), []⟩, ⟨.d (.bool (i_.Rep == 2)), []⟩] <| Rd <| kS_nrm ?_
   cases hb_6 : ((i_.Rep == 2) : Bool) with
   | true =>
    replace h := ite_t hb_6 h
    refine Ct <| Sq <| Ro <| Rc 2 [⟨.d (.int .i64 r_1), []⟩, ⟨.d (.bool (decide (r_1 < 1))), []⟩] <| Rd <| kS_nrm ?_
    cases hb_7 : ((decide (r_1 < 1)) : Bool) with
    | true =>
     replace h := ite_t hb_7 h
     refine Ct <| Sq <| Ro <| Rc 1 [⟨.d (.bool false), []⟩] <| Rd <| kS_nrm <| Runs.ret <| kB_ret <| kS_ret ?_
     obtain rfl := Option.some.inj h
     exact ⟨Out.ret_ne, (by kernel_rfl)⟩
    | false =>
     replace h := ite_f hb_7 h
     refine Cf <| Runs.skip <| kB_nrm <| kS_nrm <| Sq <| Ro <| Rc 4 [⟨.ptr [2] 0 2, []⟩, ⟨.d (.int .i64 i_.Seg), []⟩, ⟨.d (.bool (decide (i_.Seg ≥ 0))), []⟩, ⟨.d (.bool (decide (i_.Seg ≥ 0))), []⟩] ?_
     cases hb_8 : ((decide (i_.Seg ≥ 0)) : Bool) with
     | true =>
      replace h := ite_t hb_8 h
      refine Rc 5 [⟨.ptr [2] 0 2, []⟩, ⟨.d (.int .i64 i_.Seg), []⟩, ⟨.d (.bool (decide (i_.Seg ≤ 4))), []⟩, ⟨.d (.bool (decide (i_.Seg ≤ 4))), []⟩, ⟨.d (.bool (decide (i_.Seg ≤ 4))), []⟩] <| Rd <| kS_nrm <| Runs.ret ?_
      obtain rfl := Option.some.inj h
      exact ⟨Out.ret_ne, (by kernel_rfl)⟩
     | false =>
      replace h := ite_f hb_8 h
      refine Rc 5 [⟨.tup [], []⟩, ⟨.tup [], []⟩, ⟨.tup [], []⟩, ⟨.d (.bool false), []⟩, ⟨.d (.bool false), []⟩] <| Rd <| kS_nrm <| Runs.ret ?_
      obtain rfl := Option.some.inj h
      exact ⟨Out.ret_ne, (by kernel_rfl)⟩
   | false =>
    replace h := ite_f hb_6 h
    refine Cf <| Sq <| Ro <| Rc 1 [⟨.d (.bool false), []⟩] <| Rd <| kS_nrm <| Runs.ret <| kB_ret <| kS_ret ?_
    obtain rfl := Option.some.inj h
    exact ⟨Out.ret_ne, (by kernel_rfl)⟩
theorem inst_prefixes_L (i_ : Inst) (r_ : Row) (r : Bool) (h : inst_prefixes i_ r_ = some r) : L 41 [.d (Inst.d i_), .d (Row.d r_)] = some (.d (.bool r), [.d (Inst.d i_), .d (Row.d r_)]) := by
 obtain ⟨p, ⟨hne, hf⟩, hr⟩ := inst_prefixes_ok i_ r_ r h
 obtain ⟨k, hk⟩ := run_of (F := F41) (args := [.d (Inst.d i_), .d (Row.d r_)]) (ap := [.d (Inst.d i_), .d (Row.d r_)]) (bx0 := updW (fun _ => none) []) rfl rfl (by kernel_rfl) ⟨p, ⟨hne, hf⟩, hr⟩
 exact lim_run (k := k) rfl hk
def inst_May_Q (i_ : Inst) (r : Bool) (p : Out × St) : Prop := (∀ i, p.1 ≠ .exit i) ∧ finF F21 [.d (Inst.d i_)] p.2 = some (.d (.bool r), [.d (Inst.d i_)])
theorem inst_May_ok (i_ : Inst) (r : Bool) (h : inst_May i_ = some r) : Runs L F21.body ⟨tmOf [.d (Inst.d i_)] 0, updW (fun _ => none) []⟩ (inst_May_Q i_ r) := by
 unfold inst_May at h
 refine Sq <| Ro <| Rc 2 [⟨.ptr [1] 0 0, [([1], some (.cells [.d (.bool i_.Lock), .d (.int .i64 i_.Rep), .d (.int .i64 i_.Seg), .d (.int .u8 i_.Op), .d (.int .i64 i_.Mod), .d (.int .i64 i_.Reg), .d (.int .i64 i_.RM), .d (.int .u16 i_.Disp), .d (.int .u16 i_.Imm), .d (.int .u16 i_.Sel)] 0))]⟩, ⟨.d (.bool false), []⟩] <| Rd <| kS_nrm <| Sq <| Ro <| Rc 1 [⟨.d (Inst.d i_), []⟩] ?_
 obtain ⟨r_1, hr_1, h⟩ := bind_s h
 have hc_1 := inst_Row_L i_ r_1 hr_1
 refine Rt (some 7) (.callf 22) [] none [.d (Inst.d i_)] (.tup [.d (Row.d r_1.1), .d (.bool r_1.2)]) [] (cut_call (call_of (ws := []) (us := []) (by kernel_rfl) (by kernel_rfl) hc_1 (by kernel_rfl) (by kernel_rfl))) <| Rc 6 [⟨.tup [.d (Row.d r_1.1), .d (.bool r_1.2)], []⟩, ⟨.d (Row.d r_1.1), []⟩, ⟨.d (.bool r_1.2), []⟩, ⟨.ptr [3] 0 0, [([3], some (.cells [.d (.int .i64 0), .d (.int .i64 0), .d (.int .i64 0), .d (.bool false)] 0))]⟩, ⟨.tup [], [([3], some (.cells [.d (.int .i64 r_1.1.Name), .d (.int .i64 r_1.1.A), .d (.int .i64 r_1.1.B), .d (.bool r_1.1.Mod)] 0))]⟩, ⟨.d (.bool r_1.2), []⟩] <| Rd <| kS_nrm <| Sq <| Ro <| Rc 2 [⟨.d (.bool r_1.2), []⟩, ⟨.d (.bool r_1.2), []⟩] ?_
 cases hb_1 : (r_1.2 : Bool) with
 | true =>
  replace h := ite_t hb_1 h
  refine Rc 2 [⟨.d (Inst.d i_), []⟩, ⟨.d (Row.d r_1.1), []⟩] ?_
  obtain ⟨r_2, hr_2, h⟩ := bind_s h
  have hc_2 := inst_second_L i_ r_1.1 r_2 hr_2
  refine Rt (some 14) (.callf 39) [] none [.d (Inst.d i_), .d (Row.d r_1.1)] (.d (.bool r_2)) [] (cut_call (call_of (ws := []) (us := []) (by kernel_rfl) (by kernel_rfl) hc_2 (by kernel_rfl) (by kernel_rfl))) <| Rc 2 [⟨.d (.bool r_2), []⟩, ⟨.d (.bool r_2), []⟩] ?_
  cases hb_2 : (r_2 : Bool) with
  | true =>
   replace h := ite_t hb_2 h
   refine Rc 2 [⟨.d (Inst.d i_), []⟩, ⟨.d (Row.d r_1.1), []⟩] ?_
   obtain ⟨r_3, hr_3, h⟩ := bind_s h
   have hc_3 := inst_behind_L i_ r_1.1 r_3 hr_3
   refine Rt (some 19) (.callf 40) [] none [.d (Inst.d i_), .d (Row.d r_1.1)] (.d (.bool r_3)) [] (cut_call (call_of (ws := []) (us := []) (by kernel_rfl) (by kernel_rfl) hc_3 (by kernel_rfl) (by kernel_rfl))) <| Rc 2 [⟨.d (.bool r_3), []⟩, ⟨.d (.bool r_3), []⟩] ?_
   cases hb_3 : (r_3 : Bool) with
   | true =>
    replace h := ite_t hb_3 h
    refine Rc 2 [⟨.d (Inst.d i_), []⟩, ⟨.d (Row.d r_1.1), []⟩] ?_
    obtain ⟨r_4, hr_4, h⟩ := bind_s h
    have hc_4 := inst_prefixes_L i_ r_1.1 r_4 hr_4
    refine Rt (some 24) (.callf 41) [] none [.d (Inst.d i_), .d (Row.d r_1.1)] (.d (.bool r_4)) [] (cut_call (call_of (ws := []) (us := []) (by kernel_rfl) (by kernel_rfl) hc_4 (by kernel_rfl) (by kernel_rfl))) <| Rc 2 [⟨.d (.bool r_4), []⟩, ⟨.d (.bool r_4), []⟩] <| Rd <| kS_nrm <| Runs.ret ?_
    obtain rfl := Option.some.inj h
    exact ⟨Out.ret_ne, (by kernel_rfl)⟩
   | false =>
    replace h := ite_f hb_3 h
    refine Rc 5 [⟨.tup [], []⟩, ⟨.tup [], []⟩, ⟨.tup [], []⟩, ⟨.d (.bool false), []⟩, ⟨.d (.bool false), []⟩] <| Rd <| kS_nrm <| Runs.ret ?_
    obtain rfl := Option.some.inj h
    exact ⟨Out.ret_ne, (by kernel_rfl)⟩
  | false =>
   replace h := ite_f hb_2 h
   refine Rc 10 [⟨.tup [], []⟩, ⟨.tup [], []⟩, ⟨.tup [], []⟩, ⟨.d (.bool false), []⟩, ⟨.d (.bool false), []⟩, ⟨.tup [], []⟩, ⟨.tup [], []⟩, ⟨.tup [], []⟩, ⟨.d (.bool false), []⟩, ⟨.d (.bool false), []⟩] <| Rd <| kS_nrm <| Runs.ret ?_
   obtain rfl := Option.some.inj h
   exact ⟨Out.ret_ne, (by kernel_rfl)⟩
 | false =>
  replace h := ite_f hb_1 h
  refine Rc 15 [⟨.tup [], []⟩, ⟨.tup [], []⟩, ⟨.tup [], []⟩, ⟨.d (.bool false), []⟩, ⟨.d (.bool false), []⟩, ⟨.tup [], []⟩, ⟨.tup [], []⟩, ⟨.tup [], []⟩, ⟨.d (.bool false), []⟩, ⟨.d (.bool false), []⟩, ⟨.tup [], []⟩, ⟨.tup [], []⟩, ⟨.tup [], []⟩, ⟨.d (.bool false), []⟩, ⟨.d (.bool false), []⟩] <| Rd <| kS_nrm <| Runs.ret ?_
  obtain rfl := Option.some.inj h
  exact ⟨Out.ret_ne, (by kernel_rfl)⟩
theorem inst_May_L (i_ : Inst) (r : Bool) (h : inst_May i_ = some r) : L 21 [.d (Inst.d i_)] = some (.d (.bool r), [.d (Inst.d i_)]) := by
 obtain ⟨p, ⟨hne, hf⟩, hr⟩ := inst_May_ok i_ r h
 obtain ⟨k, hk⟩ := run_of (F := F21) (args := [.d (Inst.d i_)]) (ap := [.d (Inst.d i_)]) (bx0 := updW (fun _ => none) []) rfl rfl (by kernel_rfl) ⟨p, ⟨hne, hf⟩, hr⟩
 exact lim_run (k := k) rfl hk
def code_ahead_h4 (i1 : Inst) (out3 : (List Int)) (v_3 : Nat) : St := ⟨tab [(1, .ptr [1] 0 0), (3, .ref [3] v_3 0 (List.map (D.int .u8) out3).length 1)], tabB [([1], some (.cells [.d (.bool i1.Lock), .d (.int .i64 i1.Rep), .d (.int .i64 i1.Seg), .d (.int .u8 i1.Op), .d (.int .i64 i1.Mod), .d (.int .i64 i1.Reg), .d (.int .i64 i1.RM), .d (.int .u16 i1.Disp), .d (.int .u16 i1.Imm), .d (.int .u16 i1.Sel)] 0)), ([3], some (.arr (List.map (D.int .u8) out3) v_3 false))]⟩
def code_ahead_h10 (i1 : Inst) (out3 : (List Int)) (v_3 : Nat) : St := ⟨tab [(1, .ptr [1] 0 0), (3, .ref [3] v_3 0 (List.map (D.int .u8) out3).length 1)], tabB [([1], some (.cells [.d (.bool i1.Lock), .d (.int .i64 i1.Rep), .d (.int .i64 i1.Seg), .d (.int .u8 i1.Op), .d (.int .i64 i1.Mod), .d (.int .i64 i1.Reg), .d (.int .i64 i1.RM), .d (.int .u16 i1.Disp), .d (.int .u16 i1.Imm), .d (.int .u16 i1.Sel)] 0)), ([3], some (.arr (List.map (D.int .u8) out3) v_3 false))]⟩
def code_ahead_Q (i_ : Inst) (r : (List Int)) (p : Out × St) : Prop := (∀ i, p.1 ≠ .exit i) ∧ finF F23 [.d (Inst.d i_)] p.2 = some (.arr false 1 (List.map (D.int .u8) r), [.d (Inst.d i_)])
theorem code_ahead_j10_ok (i_ : Inst) (i1 : Inst) (out3 : (List Int)) (v_3 : Nat) (r : (List Int)) (h : code_ahead_j10 i1 out3 = some r) : Runs L F23b10 (code_ahead_h10 i1 out3 v_3) (code_ahead_Q i_ r) := by
 unfold code_ahead_j10 at h
 refine Sq <| Sq <| Ro <| Rc 3 [⟨.ptr [1] 0 1, []⟩, ⟨.d (.int .i64 i1.Rep), []⟩, ⟨.d (.bool (decide (i1.Rep > 0))), []⟩] <| Rd <| kS_nrm ?_
 cases hb_2 : ((decide (i1.Rep > 0)) : Bool) with
 | true =>
  replace h := ite_t hb_2 h
  refine Ct <| Ro <| Rc 6 [⟨.ref [3] v_3 0 (List.map (D.int .u8) out3).length 1, []⟩, ⟨.ptr [1] 0 1, []⟩, ⟨.d (.int .i64 i1.Rep), []⟩, ⟨.d (.int .i64 (IntKind.wrap .i64 (241 + i1.Rep))), []⟩, ⟨.d (.int .u8 (IntKind.wrap .u8 (IntKind.wrap .i64 (241 + i1.Rep)))), []⟩, ⟨.ref [17] 0 0 (List.map (D.int .u8) ([(IntKind.wrap .u8 (IntKind.wrap .i64 (241 + i1.Rep)))] : List Int)).length 1, [([17], some (.arr (List.map (D.int .u8) ([(IntKind.wrap .u8 (IntKind.wrap .i64 (241 + i1.Rep)))] : List Int)) 0 false))]⟩] ?_
  obtain ⟨z_2, hz_2, h⟩ := bind_s h
  refine Rt (some 18) (.append 1 1 false) [] none [.ref [3] v_3 0 (List.map (D.int .u8) out3).length 1, .ref [17] 0 0 (List.map (D.int .u8) ([(IntKind.wrap .u8 (IntKind.wrap .i64 (241 + i1.Rep)))] : List Int)).length 1] (.ref [3] (v_3 + 1) 0 (List.map (D.int .u8) z_2).length 1) [([17], some (.arr (List.map (D.int .u8) ([(IntKind.wrap .u8 (IntKind.wrap .i64 (241 + i1.Rep)))] : List Int)) 0 true)), ([3], some (.arr (List.map (D.int .u8) z_2) (v_3 + 1) false))] (cut_appR (e := (D.int .u8)) (l := out3) (fz := false) (ws := [([17], some (.arr (List.map (D.int .u8) ([(IntKind.wrap .u8 (IntKind.wrap .i64 (241 + i1.Rep)))] : List Int)) 0 true))]) (ap_ref (e := (D.int .u8)) (l := ([(IntKind.wrap .u8 (IntKind.wrap .i64 (241 + i1.Rep)))] : List Int)) (fz := false) (by kernel_rfl) (by kernel_rfl) rfl) (fun _ => rfl) hz_2 (by kernel_rfl) (by kernel_rfl) rfl) <| Rc 1 [⟨.ref [3] (v_3 + 1) 0 (List.map (D.int .u8) z_2).length 1, []⟩] <| Rd <| kS_nrm <| Sq <| Sq <| Ro <| Rc 3 [⟨.ptr [1] 0 2, []⟩, ⟨.d (.int .i64 i1.Seg), []⟩, ⟨.d (.bool (decide (i1.Seg > 0))), []⟩] <| Rd <| kS_nrm ?_
  cases hb_3 : ((decide (i1.Seg > 0)) : Bool) with
  | true =>
   replace h := ite_t hb_3 h
   refine Ct <| Ro <| Rc 3 [⟨.ref [3] (v_3 + 1) 0 (List.map (D.int .u8) z_2).length 1, []⟩, ⟨.ptr [1] 0 2, []⟩, ⟨.d (.int .i64 i1.Seg), []⟩] ?_
   obtain ⟨z_3, hz_3, h⟩ := bind_s h
   refine Rt (some 25) (.iaddrA 5 1) [] none [.elt (.agg [.int .u8 0, .int .u8 38, .int .u8 46, .int .u8 54, .int .u8 62]) 0, .d (.int .i64 i1.Seg)] (.elt (.agg (List.map (D.int .u8) ([0, 38, 46, 54, 62] : List Int))) (0 + (i1.Seg).toNat * 1)) [] (cut_iaE (l := ([0, 38, 46, 54, 62] : List Int)) hz_3 rfl) <| Rt (some 26) (.load none) [] none [.elt (.agg (List.map (D.int .u8) ([0, 38, 46, 54, 62] : List Int))) (0 + (i1.Seg).toNat * 1)] (.d (.int .u8 z_3)) [] (cut_ldE (e := (D.int .u8)) (l := ([0, 38, 46, 54, 62] : List Int)) (y := z_3) hz_3) <| Rc 1 [⟨.ref [27] 0 0 (List.map (D.int .u8) ([z_3] : List Int)).length 1, [([27], some (.arr (List.map (D.int .u8) ([z_3] : List Int)) 0 false))]⟩] ?_
   obtain ⟨z_4, hz_4, h⟩ := bind_s h
   refine Rt (some 28) (.append 1 1 false) [] none [.ref [3] (v_3 + 1) 0 (List.map (D.int .u8) z_2).length 1, .ref [27] 0 0 (List.map (D.int .u8) ([z_3] : List Int)).length 1] (.ref [3] ((v_3 + 1) + 1) 0 (List.map (D.int .u8) z_4).length 1) [([27], some (.arr (List.map (D.int .u8) ([z_3] : List Int)) 0 true)), ([3], some (.arr (List.map (D.int .u8) z_4) ((v_3 + 1) + 1) false))] (cut_appR (e := (D.int .u8)) (l := z_2) (fz := false) (ws := [([27], some (.arr (List.map (D.int .u8) ([z_3] : List Int)) 0 true))]) (ap_ref (e := (D.int .u8)) (l := ([z_3] : List Int)) (fz := false) (by kernel_rfl) (by kernel_rfl) rfl) (fun _ => rfl) hz_4 (by kernel_rfl) (by kernel_rfl) rfl) <| Rc 1 [⟨.ref [3] ((v_3 + 1) + 1) 0 (List.map (D.int .u8) z_4).length 1, []⟩] <| Rd <| kS_nrm <| Sq <| Ro <| Rc 2 [⟨.ref [3] ((v_3 + 1) + 1) 0 (List.map (D.int .u8) z_4).length 1, []⟩, ⟨.ref [3] ((v_3 + 1) + 1) 0 (List.map (D.int .u8) z_4).length 1, []⟩] <| Rd <| kS_nrm <| Runs.ret ?_
   obtain rfl := Option.some.inj h
   exact ⟨Out.ret_ne, (fin_of (rs := [.ref [3] ((v_3 + 1) + 1) 0 (List.map (D.int .u8) z_4).length 1]) (by kernel_rfl) (by kernel_rfl) (outs_own (id := [3]) (v := ((v_3 + 1) + 1)) (fz := false) (es := List.map (D.int .u8) z_4) (by kernel_rfl) (by decide) rfl outs_nil) (gives_cons (give_same (by kernel_rfl)) gives_nil))⟩
  | false =>
   replace h := ite_f hb_3 h
   refine Cf <| Runs.skip <| kS_nrm <| Sq <| Ro <| Rc 2 [⟨.ref [3] (v_3 + 1) 0 (List.map (D.int .u8) z_2).length 1, []⟩, ⟨.ref [3] (v_3 + 1) 0 (List.map (D.int .u8) z_2).length 1, []⟩] <| Rd <| kS_nrm <| Runs.ret ?_
   obtain rfl := Option.some.inj h
   exact ⟨Out.ret_ne, (fin_of (rs := [.ref [3] (v_3 + 1) 0 (List.map (D.int .u8) z_2).length 1]) (by kernel_rfl) (by kernel_rfl) (outs_own (id := [3]) (v := (v_3 + 1)) (fz := false) (es := List.map (D.int .u8) z_2) (by kernel_rfl) (by decide) rfl outs_nil) (gives_cons (give_same (by kernel_rfl)) gives_nil))⟩
 | false =>
  replace h := ite_f hb_2 h
  refine Cf <| Runs.skip <| kS_nrm <| Sq <| Sq <| Ro <| Rc 3 [⟨.ptr [1] 0 2, []⟩, ⟨.d (.int .i64 i1.Seg), []⟩, ⟨.d (.bool (decide (i1.Seg > 0))), []⟩] <| Rd <| kS_nrm ?_
  cases hb_4 : ((decide (i1.Seg > 0)) : Bool) with
  | true =>
   replace h := ite_t hb_4 h
   refine Ct <| Ro <| Rc 3 [⟨.ref [3] v_3 0 (List.map (D.int .u8) out3).length 1, []⟩, ⟨.ptr [1] 0 2, []⟩, ⟨.d (.int .i64 i1.Seg), []⟩] ?_
   obtain ⟨z_5, hz_5, h⟩ := bind_s h
   refine Rt (some 25) (.iaddrA 5 1) [] none [.elt (.agg [.int .u8 0, .int .u8 38, .int .u8 46, .int .u8 54, .int .u8 62]) 0, .d (.int .i64 i1.Seg)] (.elt (.agg (List.map (D.int .u8) ([0, 38, 46, 54, 62] : List Int))) (0 + (i1.Seg).toNat * 1)) [] (cut_iaE (l := ([0, 38, 46, 54, 62] : List Int)) hz_5 rfl) <| Rt (some 26) (.load none) [] none [.elt (.agg (List.map (D.int .u8) ([0, 38, 46, 54, 62] : List Int))) (0 + (i1.Seg).toNat * 1)] (.d (.int .u8 z_5)) [] (cut_ldE (e := (D.int .u8)) (l := ([0, 38, 46, 54, 62] : List Int)) (y := z_5) hz_5) <| Rc 1 [⟨.ref [27] 0 0 (List.map (D.int .u8) ([z_5] : List Int)).length 1, [([27], some (.arr (List.map (D.int .u8) ([z_5] : List Int)) 0 false))]⟩] ?_
   obtain ⟨z_6, hz_6, h⟩ := bind_s h
   refine Rt (some 28) (.append 1 1 false) [] none [.ref [3] v_3 0 (List.map (D.int .u8) out3).length 1, .ref [27] 0 0 (List.map (D.int .u8) ([z_5] : List Int)).length 1] (.ref [3] (v_3 + 1) 0 (List.map (D.int .u8) z_6).length 1) [([27], some (.arr (List.map (D.int .u8) ([z_5] : List Int)) 0 true)), ([3], some (.arr (List.map (D.int .u8) z_6) (v_3 + 1) false))] (cut_appR (e := (D.int .u8)) (l := out3) (fz := false) (ws := [([27], some (.arr (List.map (D.int .u8) ([z_5] : List Int)) 0 true))]) (ap_ref (e := (D.int .u8)) (l := ([z_5] : List Int)) (fz := false) (by kernel_rfl) (by kernel_rfl) rfl) (fun _ => rfl) hz_6 (by kernel_rfl) (by kernel_rfl) rfl) <| Rc 1 [⟨.ref [3] (v_3 + 1) 0 (List.map (D.int .u8) z_6).length 1, []⟩] <| Rd <| kS_nrm <| Sq <| Ro <| Rc 2 [⟨.ref [3] (v_3 + 1) 0 (List.map (D.int .u8) z_6).length 1, []⟩, ⟨.ref [3] (v_3 + 1) 0 (List.map (D.int .u8) z_6).length 1, []⟩] <| Rd <| kS_nrm <| Runs.ret ?_
   obtain rfl := Option.some.inj h
   exact ⟨Out.ret_ne, (fin_of (rs := [.ref [3] (v_3 + 1) 0 (List.map (D.int .u8) z_6).length 1]) (by kernel_rfl) (by kernel_rfl) (outs_own (id := [3]) (v := (v_3 + 1)) (fz := false) (es := List.map (D.int .u8) z_6) (by kernel_rfl) (by decide) rfl outs_nil) (gives_cons (give_same (by kernel_rfl)) gives_nil))⟩
  | false =>
   replace h := ite_f hb_4 h
   refine Cf <| Runs.skip <| kS_nrm <| Sq <| Ro <| Rc 2 [⟨.ref [3] v_3 0 (List.map (D.int .u8) out3).length 1, []⟩, ⟨.ref [3] v_3 0 (List.map (D.int .u8) out3).length 1, []⟩] <| Rd <| kS_nrm <| Runs.ret ?_
   obtain rfl := Option.some.inj h
   exact ⟨Out.ret_ne, (fin_of (rs := [.ref [3] v_3 0 (List.map (D.int .u8) out3).length 1]) (by kernel_rfl) (by kernel_rfl) (outs_own (id := [3]) (v := v_3) (fz := false) (es := List.map (D.int .u8) out3) (by kernel_rfl) (by decide) rfl outs_nil) (gives_cons (give_same (by kernel_rfl)) gives_nil))⟩
theorem code_ahead_ok (i_ : Inst) (r : (List Int)) (h : code_ahead i_ = some r) : Runs L F23.body ⟨tmOf [.d (Inst.d i_)] 0, updW (fun _ => none) []⟩ (code_ahead_Q i_ r) := by
 unfold code_ahead at h
 refine Sq <| Ro <| Rc 2 [⟨.ptr [1] 0 0, [([1], some (.cells [.d (.bool i_.Lock), .d (.int .i64 i_.Rep), .d (.int .i64 i_.Seg), .d (.int .u8 i_.Op), .d (.int .i64 i_.Mod), .d (.int .i64 i_.Reg), .d (.int .i64 i_.RM), .d (.int .u16 i_.Disp), .d (.int .u16 i_.Imm), .d (.int .u16 i_.Sel)] 0))]⟩, ⟨.nils, []⟩] <| Rd <| kS_nrm <| Sq <| Ro <| Rc 1 [⟨.nils, []⟩] <| Rd <| kS_nrm <| Runs.canon (code_ahead_h4 i_ ([] : List Int) 0) (Canon.cons (own_nil (D.int .u8) (v := 0) (by kernel_rfl) (by kernel_rfl)) (Canon.nil (by kernel_rfl))) <| Sq <| Sq <| Ro <| Rc 2 [⟨.ptr [1] 0 0, []⟩, ⟨.d (.bool i_.Lock), []⟩] <| Rd <| kS_nrm ?_
 cases hb_1 : (i_.Lock : Bool) with
 | true =>
  replace h := ite_t hb_1 h
  refine Ct <| Ro <| Rc 2 [⟨.ref [3] 0 0 (List.map (D.int .u8) ([] : List Int)).length 1, []⟩, ⟨.ref [7] 0 0 (List.map (D.int .u8) ([240] : List Int)).length 1, [([7], some (.arr (List.map (D.int .u8) ([240] : List Int)) 0 false))]⟩] ?_
  obtain ⟨z_1, hz_1, h⟩ := bind_s h
  refine Rt (some 8) (.append 1 1 false) [] none [.ref [3] 0 0 (List.map (D.int .u8) ([] : List Int)).length 1, .ref [7] 0 0 (List.map (D.int .u8) ([240] : List Int)).length 1] (.ref [3] 1 0 (List.map (D.int .u8) z_1).length 1) [([7], some (.arr (List.map (D.int .u8) ([240] : List Int)) 0 true)), ([3], some (.arr (List.map (D.int .u8) z_1) 1 false))] (cut_appR (e := (D.int .u8)) (l := ([] : List Int)) (fz := false) (ws := [([7], some (.arr (List.map (D.int .u8) ([240] : List Int)) 0 true))]) (ap_ref (e := (D.int .u8)) (l := ([240] : List Int)) (fz := false) (by kernel_rfl) (by kernel_rfl) rfl) (fun _ => rfl) hz_1 (by kernel_rfl) (by kernel_rfl) rfl) <| Rc 1 [⟨.ref [3] 1 0 (List.map (D.int .u8) z_1).length 1, []⟩] <| Rd <| kS_nrm <| Runs.canon (code_ahead_h10 i_ z_1 1) (Canon.nil (by kernel_rfl)) ?_
  exact code_ahead_j10_ok i_ i_ z_1 1 r h
 | false =>
  replace h := ite_f hb_1 h
  refine Cf <| Runs.skip <| kS_nrm <| Runs.canon (code_ahead_h10 i_ ([] : List Int) 0) (Canon.nil (by kernel_rfl)) ?_
  exact code_ahead_j10_ok i_ i_ ([] : List Int) 0 r h
theorem code_ahead_L (i_ : Inst) (r : (List Int)) (h : code_ahead i_ = some r) : L 23 [.d (Inst.d i_)] = some (.arr false 1 (List.map (D.int .u8) r), [.d (Inst.d i_)]) := by
 obtain ⟨p, ⟨hne, hf⟩, hr⟩ := code_ahead_ok i_ r h
 obtain ⟨k, hk⟩ := run_of (F := F23) (args := [.d (Inst.d i_)]) (ap := [.d (Inst.d i_)]) (bx0 := updW (fun _ => none) []) rfl rfl (by kernel_rfl) ⟨p, ⟨hne, hf⟩, hr⟩
 exact lim_run (k := k) rfl hk
def isa_Immediate_h16 (t3 : Int) (t4 : Bool) : St := ⟨tab [(3, .d (.int .i64 t3)), (4, .d (.bool t4))], tabB []⟩
def isa_Immediate_Q (op_ : Int) (r : Int) (p : Out × St) : Prop := (∀ i, p.1 ≠ .exit i) ∧ finF F44 [.d (.int .i64 op_)] p.2 = some (.d (.int .i64 r), [.d (.int .i64 op_)])
theorem isa_Immediate_j16_ok (op_ : Int) (t3 : Int) (t4 : Bool) (r : Int) (h : isa_Immediate_j16 t3 t4 = some r) : Runs L F44b16 (isa_Immediate_h16 t3 t4) (kB 0 (kS L F44c45 (isa_Immediate_Q op_ r))) := by
 unfold isa_Immediate_j16 at h
 cases hb_2 : (t4 : Bool) with
 | true =>
  replace h := ite_t hb_2 h
  refine Ct <| Sq <| Ro <| Rc 1 [⟨.d (.int .i64 1), []⟩] <| Rd <| kS_nrm <| Runs.ret <| kB_ret <| kS_ret ?_
  obtain rfl := Option.some.inj h
  exact ⟨Out.ret_ne, (by kernel_rfl)⟩
 | false =>
  replace h := ite_f hb_2 h
  refine Cf <| Sq <| Sq <| Ro <| Rc 2 [⟨.d (.bool (t3 == 7)), []⟩, ⟨.d (.bool (t3 == 7)), []⟩] <| Rd <| kS_nrm ?_
  cases hb_3 : ((t3 == 7) : Bool) with
  | true =>
   replace h := ite_t hb_3 h
   refine Ct <| Runs.skip <| kS_nrm <| Ct <| Sq <| Ro <| Rc 1 [⟨.d (.int .i64 2), []⟩] <| Rd <| kS_nrm <| Runs.ret <| kB_ret <| kS_ret ?_
   obtain rfl := Option.some.inj h
   exact ⟨Out.ret_ne, (by kernel_rfl)⟩
  | false =>
   replace h := ite_f hb_3 h
   refine Cf <| Sq <| Ro <| Rc 2 [⟨.d (.bool (t3 == 10)), []⟩, ⟨.d (.bool (t3 == 10)), []⟩] <| Rd <| kS_nrm ?_
   cases hb_4 : ((t3 == 10) : Bool) with
   | true =>
    replace h := ite_t hb_4 h
    refine Ct <| Runs.skip <| kS_nrm <| Ct <| Sq <| Ro <| Rc 1 [⟨.d (.int .i64 2), []⟩] <| Rd <| kS_nrm <| Runs.ret <| kB_ret <| kS_ret ?_
    obtain rfl := Option.some.inj h
    exact ⟨Out.ret_ne, (by kernel_rfl)⟩
   | false =>
    replace h := ite_f hb_4 h
    refine Cf <| Sq <| Ro <| Rc 2 [⟨.d (.bool (t3 == 12)), []⟩, ⟨.d (.bool (t3 == 12)), []⟩] <| Rd <| kS_nrm ?_
    cases hb_5 : ((t3 == 12) : Bool) with
    | true =>
     replace h := ite_t hb_5 h
     refine Ct <| Runs.skip <| kS_nrm <| Ct <| Sq <| Ro <| Rc 1 [⟨.d (.int .i64 2), []⟩] <| Rd <| kS_nrm <| Runs.ret <| kB_ret <| kS_ret ?_
     obtain rfl := Option.some.inj h
     exact ⟨Out.ret_ne, (by kernel_rfl)⟩
    | false =>
     replace h := ite_f hb_5 h
     refine Cf <| Ro <| Rc 2 [⟨.d (.bool (t3 == 13)), []⟩, ⟨.d (.bool (t3 == 13)), []⟩] <| Rd <| kS_nrm ?_
     cases hb_6 : ((t3 == 13) : Bool) with
     | true =>
      replace h := ite_t hb_6 h
      refine Ct <| Sq <| Ro <| Rc 1 [⟨.d (.int .i64 2), []⟩] <| Rd <| kS_nrm <| Runs.ret <| kB_ret <| kS_ret ?_
      obtain rfl := Option.some.inj h
      exact ⟨Out.ret_ne, (by kernel_rfl)⟩
     | false =>
      replace h := ite_f hb_6 h
      refine Cf <| Sq <| Ro <| Rc 2 [⟨.d (.bool (t3 == 11)), []⟩, ⟨.d (.bool (t3 == 11)), []⟩] <| Rd <| kS_nrm ?_
      cases hb_7 : ((t3 == 11) : Bool) with
      | true =>
       replace h := ite_t hb_7 h
       refine Ct <| Sq <| Ro <| Rc 1 [⟨.d (.int .i64 4), []⟩] <| Rd <| kS_nrm <| Runs.ret <| kB_ret <| kS_ret ?_
       obtain rfl := Option.some.inj h
       exact ⟨Out.ret_ne, (by kernel_rfl)⟩
      | false =>
       replace h := ite_f hb_7 h
       refine Cf <| Runs.skip <| kB_nrm <| kS_nrm <| Sq <| Ro <| Rc 1 [⟨.d (.int .i64 0), []⟩] <| Rd <| kS_nrm <| Runs.ret ?_
       obtain rfl := Option.some.inj h
       exact ⟨Out.ret_ne, (by kernel_rfl)⟩
theorem isa_Immediate_ok (op_ : Int) (r : Int) (h : isa_Immediate op_ = some r) : Runs L F44.body ⟨tmOf [.d (.int .i64 op_)] 0, updW (fun _ => none) []⟩ (isa_Immediate_Q op_ r) := by
 unfold isa_Immediate at h
 refine Sq <| Ro <| Rc 1 [⟨.d (.int .i64 0), []⟩] <| Rd <| kS_nrm <| Sq <| Sq <| Ro <| Rc 1 [⟨.d (.int .i64 op_), []⟩] <| Rd <| kS_nrm <| Runs.block <| Sq <| Sq <| Ro <| Rc 2 [⟨.d (.bool (op_ == 6)), []⟩, ⟨.d (.bool (op_ == 6)), []⟩] <| Rd <| kS_nrm ?_
 cases hb_1 : ((op_ == 6) : Bool) with
 | true =>
  replace h := ite_t hb_1 h
  refine Ct <| Runs.skip <| kS_nrm <| Runs.canon (isa_Immediate_h16 op_ true) (Canon.nil (by kernel_rfl)) ?_
  exact isa_Immediate_j16_ok op_ op_ true r h
 | false =>
  replace h := ite_f hb_1 h
  refine Cf <| Sq <| Ro <| Rc 2 [⟨.d (.bool (op_ == 8)), []⟩, ⟨.d (.bool (op_ == 8)), []⟩] <| Rd <| kS_nrm ?_
  cases hb_8 : ((op_ == 8) : Bool) with
  | true =>
   replace h := ite_t hb_8 h
   refine Ct <| Runs.skip <| kS_nrm <| Runs.canon (isa_Immediate_h16 op_ true) (Canon.nil (by kernel_rfl)) ?_
   exact isa_Immediate_j16_ok op_ op_ true r h
  | false =>
   replace h := ite_f hb_8 h
   refine Cf <| Ro <| Rc 2 [⟨.d (.bool (op_ == 9)), []⟩, ⟨.d (.bool (op_ == 9)), []⟩] <| Rd <| kS_nrm <| Runs.canon (isa_Immediate_h16 op_ (op_ == 9)) (Canon.nil (by kernel_rfl)) ?_
   exact isa_Immediate_j16_ok op_ op_ (op_ == 9) r h
theorem isa_Immediate_L (op_ : Int) (r : Int) (h : isa_Immediate op_ = some r) : L 44 [.d (.int .i64 op_)] = some (.d (.int .i64 r), [.d (.int .i64 op_)]) := by
 obtain ⟨p, ⟨hne, hf⟩, hr⟩ := isa_Immediate_ok op_ r h
 obtain ⟨k, hk⟩ := run_of (F := F44) (args := [.d (.int .i64 op_)]) (ap := [.d (.int .i64 op_)]) (bx0 := updW (fun _ => none) []) rfl rfl (by kernel_rfl) ⟨p, ⟨hne, hf⟩, hr⟩
 exact lim_run (k := k) rfl hk
def inst_Imms_Q (r_ : Row) (r : Int) (p : Out × St) : Prop := (∀ i, p.1 ≠ .exit i) ∧ finF F27 [.d (Row.d r_)] p.2 = some (.d (.int .i64 r), [.d (Row.d r_)])
theorem inst_Imms_ok (r_ : Row) (r : Int) (h : inst_Imms r_ = some r) : Runs L F27.body ⟨tmOf [.d (Row.d r_)] 0, updW (fun _ => none) []⟩ (inst_Imms_Q r_ r) := by
 unfold inst_Imms at h
 refine Sq <| Ro <| Rc 2 [⟨.ptr [1] 0 0, [([1], some (.cells [.d (.int .i64 r_.Name), .d (.int .i64 r_.A), .d (.int .i64 r_.B), .d (.bool r_.Mod)] 0))]⟩, ⟨.d (.int .i64 0), []⟩] <| Rd <| kS_nrm <| Sq <| Ro <| Rc 2 [⟨.ptr [1] 0 1, []⟩, ⟨.d (.int .i64 r_.A), []⟩] ?_
 obtain ⟨r_1, hr_1, h⟩ := bind_s h
 have hc_1 := isa_Immediate_L r_.A r_1 hr_1
 refine Rt (some 5) (.callf 44) [] (some []) [.d (.int .i64 r_.A)] (.d (.int .i64 r_1)) [] (cut_call (call_of (ws := []) (us := []) (by kernel_rfl) (by kernel_rfl) hc_1 (by kernel_rfl) (by kernel_rfl))) <| Rc 2 [⟨.ptr [1] 0 2, []⟩, ⟨.d (.int .i64 r_.B), []⟩] ?_
 obtain ⟨r_2, hr_2, h⟩ := bind_s h
 have hc_2 := isa_Immediate_L r_.B r_2 hr_2
 refine Rt (some 8) (.callf 44) [] none [.d (.int .i64 r_.B)] (.d (.int .i64 r_2)) [] (cut_call (call_of (ws := []) (us := []) (by kernel_rfl) (by kernel_rfl) hc_2 (by kernel_rfl) (by kernel_rfl))) <| Rc 2 [⟨.d (.int .i64 (IntKind.wrap .i64 (r_1 + r_2))), []⟩, ⟨.d (.int .i64 (IntKind.wrap .i64 (r_1 + r_2))), []⟩] <| Rd <| kS_nrm <| Runs.ret ?_
 obtain rfl := Option.some.inj h
 exact ⟨Out.ret_ne, (by kernel_rfl)⟩
theorem inst_Imms_L (r_ : Row) (r : Int) (h : inst_Imms r_ = some r) : L 27 [.d (Row.d r_)] = some (.d (.int .i64 r), [.d (Row.d r_)]) := by
 obtain ⟨p, ⟨hne, hf⟩, hr⟩ := inst_Imms_ok r_ r h
 obtain ⟨k, hk⟩ := run_of (F := F27) (args := [.d (Row.d r_)]) (ap := [.d (Row.d r_)]) (bx0 := updW (fun _ => none) []) rfl rfl (by kernel_rfl) ⟨p, ⟨hne, hf⟩, hr⟩
 exact lim_run (k := k) rfl hk
def bits_High_Q (w_ : Int) (r : Int) (p : Out × St) : Prop := (∀ i, p.1 ≠ .exit i) ∧ finF F26 [.d (.int .u16 w_)] p.2 = some (.d (.int .u8 r), [.d (.int .u16 w_)])
theorem bits_High_ok (w_ : Int) (r : Int) (h : bits_High w_ = some r) : Runs L F26.body ⟨tmOf [.d (.int .u16 w_)] 0, updW (fun _ => none) []⟩ (bits_High_Q w_ r) := by
 unfold bits_High at h
 refine Sq <| Ro <| Rc 1 [⟨.d (.int .u8 0), []⟩] <| Rd <| kS_nrm <| Sq <| Ro <| Rc 4 [⟨.d (.int .u16 w_), []⟩, ⟨.d (.int .u16 (shrI .u16 w_ 8)), []⟩, ⟨.d (.int .u8 (IntKind.wrap .u8 (shrI .u16 w_ 8))), []⟩, ⟨.d (.int .u8 (IntKind.wrap .u8 (shrI .u16 w_ 8))), []⟩] <| Rd <| kS_nrm <| Runs.ret ?_
 obtain rfl := Option.some.inj h
 exact ⟨Out.ret_ne, (by kernel_rfl)⟩
theorem bits_High_L (w_ : Int) (r : Int) (h : bits_High w_ = some r) : L 26 [.d (.int .u16 w_)] = some (.d (.int .u8 r), [.d (.int .u16 w_)]) := by
 obtain ⟨p, ⟨hne, hf⟩, hr⟩ := bits_High_ok w_ r h
 obtain ⟨k, hk⟩ := run_of (F := F26) (args := [.d (.int .u16 w_)]) (ap := [.d (.int .u16 w_)]) (bx0 := updW (fun _ => none) []) rfl rfl (by kernel_rfl) ⟨p, ⟨hne, hf⟩, hr⟩
 exact lim_run (k := k) rfl hk
def code_Put_h33 (i1 : Inst) (r4 : Row) (b_16 : (List Int)) (v_16 : Nat) : St := ⟨tab [(1, .ptr [1] 0 0), (4, .ptr [4] 0 0), (6, .ref [16] v_16 0 (List.map (D.int .u8) b_16).length 1)], tabB [([1], some (.cells [.d (.bool i1.Lock), .d (.int .i64 i1.Rep), .d (.int .i64 i1.Seg), .d (.int .u8 i1.Op), .d (.int .i64 i1.Mod), .d (.int .i64 i1.Reg), .d (.int .i64 i1.RM), .d (.int .u16 i1.Disp), .d (.int .u16 i1.Imm), .d (.int .u16 i1.Sel)] 0)), ([4], some (.cells [.d (.int .i64 r4.Name), .d (.int .i64 r4.A), .d (.int .i64 r4.B), .d (.bool r4.Mod)] 0)), ([16], some (.arr (List.map (D.int .u8) b_16) v_16 false))]⟩
def code_Put_Q (i_ : Inst) (r : ((List Int) × Int)) (p : Out × St) : Prop := (∀ i, p.1 ≠ .exit i) ∧ finF F8 [.d (Inst.d i_)] p.2 = some (.tup [.d (.sl (List.map (D.int .u8) r.1)), .d (.int .i64 r.2)], [.d (Inst.d i_)])
theorem code_Put_j33_ok (i_ : Inst) (i1 : Inst) (r4 : Row) (b_16 : (List Int)) (v_16 : Nat) (r : ((List Int) × Int)) (h : code_Put_j33 i1 r4 b_16 = some r) : Runs L F8b33 (code_Put_h33 i1 r4 b_16 v_16) (code_Put_Q i_ r) := by
 unfold code_Put_j33 at h
 refine Sq <| Sq <| Ro <| Rc 1 [⟨.d (Row.d r4), []⟩] ?_
 obtain ⟨r_6, hr_6, h⟩ := bind_s h
 have hc_6 := inst_Imms_L r4 r_6 hr_6
 refine Rt (some 62) (.callf 27) [] none [.d (Row.d r4)] (.d (.int .i64 r_6)) [] (cut_call (call_of (ws := []) (us := []) (by kernel_rfl) (by kernel_rfl) hc_6 (by kernel_rfl) (by kernel_rfl))) <| Rd <| kS_nrm <| Runs.block <| Sq <| Ro <| Rc 2 [⟨.d (.bool (r_6 == 1)), []⟩, ⟨.d (.bool (r_6 == 1)), []⟩] <| Rd <| kS_nrm ?_
 cases hb_4 : ((r_6 == 1) : Bool) with
 | true =>
  replace h := ite_t hb_4 h
  refine Ct <| Ro <| Rc 3 [⟨.ref [16] v_16 0 (List.map (D.int .u8) b_16).length 1, []⟩, ⟨.ptr [1] 0 8, []⟩, ⟨.d (.int .u16 i1.Imm), []⟩] ?_
  obtain ⟨r_7, hr_7, h⟩ := bind_s h
  have hc_7 := bits_Low_L i1.Imm r_7 hr_7
  refine Rt (some 68) (.callf 25) [] none [.d (.int .u16 i1.Imm)] (.d (.int .u8 r_7)) [] (cut_call (call_of (ws := []) (us := []) (by kernel_rfl) (by kernel_rfl) hc_7 (by kernel_rfl) (by kernel_rfl))) <| Rc 1 [⟨.ref [69] 0 0 (List.map (D.int .u8) ([r_7] : List Int)).length 1, [([69], some (.arr (List.map (D.int .u8) ([r_7] : List Int)) 0 false))]⟩] ?_
  obtain ⟨z_4, hz_4, h⟩ := bind_s h
  refine Rt (some 70) (.append 1 1 false) [] none [.ref [16] v_16 0 (List.map (D.int .u8) b_16).length 1, .ref [69] 0 0 (List.map (D.int .u8) ([r_7] : List Int)).length 1] (.ref [16] (v_16 + 1) 0 (List.map (D.int .u8) z_4).length 1) [([69], some (.arr (List.map (D.int .u8) ([r_7] : List Int)) 0 true)), ([16], some (.arr (List.map (D.int .u8) z_4) (v_16 + 1) false))] (cut_appR (e := (D.int .u8)) (l := b_16) (fz := false) (ws := [([69], some (.arr (List.map (D.int .u8) ([r_7] : List Int)) 0 true))]) (ap_ref (e := (D.int .u8)) (l := ([r_7] : List Int)) (fz := false) (by kernel_rfl) (by kernel_rfl) rfl) (fun _ => rfl) hz_4 (by kernel_rfl) (by kernel_rfl) rfl) <| Rc 1 [⟨.ref [16] (v_16 + 1) 0 (List.map (D.int .u8) z_4).length 1, []⟩] <| Rd <| kB_nrm <| kS_nrm <| Sq <| Ro <| Rc 3 [⟨.ref [16] (v_16 + 1) 0 (List.map (D.int .u8) z_4).length 1, []⟩, ⟨.ref [16] (v_16 + 1) 0 (List.map (D.int .u8) z_4).length 1, []⟩, ⟨.d (.int .i64 0), []⟩] <| Rd <| kS_nrm <| Sq <| Runs.gcons (frz_ref (e := (D.int .u8)) (l := z_4) (id := [16]) (v := (v_16 + 1)) (n := 1) (fz := false) (by kernel_rfl) (by kernel_rfl) rfl) <| Runs.gnil <| kS_nrm <| Runs.ret ?_
  obtain rfl := Option.some.inj h
  exact ⟨Out.ret_ne, (by kernel_rfl)⟩
 | false =>
  replace h := ite_f hb_4 h
  refine Cf <| Sq <| Ro <| Rc 2 [⟨.d (.bool (r_6 == 2)), []⟩, ⟨.d (.bool (r_6 == 2)), []⟩] <| Rd <| kS_nrm ?_
  cases hb_5 : ((r_6 == 2) : Bool) with
  | true =>
   replace h := ite_t hb_5 h
   refine Ct <| Ro <| Rc 3 [⟨.ref [16] v_16 0 (List.map (D.int .u8) b_16).length 1, []⟩, ⟨.ptr [1] 0 8, []⟩, ⟨.d (.int .u16 i1.Imm), []⟩] ?_
   obtain ⟨r_8, hr_8, h⟩ := bind_s h
   have hc_8 := bits_Low_L i1.Imm r_8 hr_8
   refine Rt (some 76) (.callf 25) [] (some []) [.d (.int .u16 i1.Imm)] (.d (.int .u8 r_8)) [] (cut_call (call_of (ws := []) (us := []) (by kernel_rfl) (by kernel_rfl) hc_8 (by kernel_rfl) (by kernel_rfl))) <| Rc 2 [⟨.ptr [1] 0 8, []⟩, ⟨.d (.int .u16 i1.Imm), []⟩] ?_
   obtain ⟨r_9, hr_9, h⟩ := bind_s h
   have hc_9 := bits_High_L i1.Imm r_9 hr_9
   refine Rt (some 79) (.callf 26) [] none [.d (.int .u16 i1.Imm)] (.d (.int .u8 r_9)) [] (cut_call (call_of (ws := []) (us := []) (by kernel_rfl) (by kernel_rfl) hc_9 (by kernel_rfl) (by kernel_rfl))) <| Rc 1 [⟨.ref [80] 0 0 (List.map (D.int .u8) ([r_8, r_9] : List Int)).length 1, [([80], some (.arr (List.map (D.int .u8) ([r_8, r_9] : List Int)) 0 false))]⟩] ?_
   obtain ⟨z_5, hz_5, h⟩ := bind_s h
   refine Rt (some 81) (.append 1 1 false) [] none [.ref [16] v_16 0 (List.map (D.int .u8) b_16).length 1, .ref [80] 0 0 (List.map (D.int .u8) ([r_8, r_9] : List Int)).length 1] (.ref [16] (v_16 + 1) 0 (List.map (D.int .u8) z_5).length 1) [([80], some (.arr (List.map (D.int .u8) ([r_8, r_9] : List Int)) 0 true)), ([16], some (.arr (List.map (D.int .u8) z_5) (v_16 + 1) false))] (cut_appR (e := (D.int .u8)) (l := b_16) (fz := false) (ws := [([80], some (.arr (List.map (D.int .u8) ([r_8, r_9] : List Int)) 0 true))]) (ap_ref (e := (D.int .u8)) (l := ([r_8, r_9] : List Int)) (fz := false) (by kernel_rfl) (by kernel_rfl) rfl) (fun _ => rfl) hz_5 (by kernel_rfl) (by kernel_rfl) rfl) <| Rc 1 [⟨.ref [16] (v_16 + 1) 0 (List.map (D.int .u8) z_5).length 1, []⟩] <| Rd <| kB_nrm <| kS_nrm <| Sq <| Ro <| Rc 3 [⟨.ref [16] (v_16 + 1) 0 (List.map (D.int .u8) z_5).length 1, []⟩, ⟨.ref [16] (v_16 + 1) 0 (List.map (D.int .u8) z_5).length 1, []⟩, ⟨.d (.int .i64 0), []⟩] <| Rd <| kS_nrm <| Sq <| Runs.gcons (frz_ref (e := (D.int .u8)) (l := z_5) (id := [16]) (v := (v_16 + 1)) (n := 1) (fz := false) (by kernel_rfl) (by kernel_rfl) rfl) <| Runs.gnil <| kS_nrm <| Runs.ret ?_
   obtain rfl := Option.some.inj h
   exact ⟨Out.ret_ne, (by kernel_rfl)⟩
  | false =>
   replace h := ite_f hb_5 h
   refine Cf <| Sq <| Ro <| Rc 2 [⟨.d (.bool (r_6 == 4)), []⟩, ⟨.d (.bool (r_6 == 4)), []⟩] <| Rd <| kS_nrm ?_
   cases hb_6 : ((r_6 == 4) : Bool) with
   | true =>
    replace h := ite_t hb_6 h
    refine Ct <| Ro <| Rc 3 [⟨.ref [16] v_16 0 (List.map (D.int .u8) b_16).length 1, []⟩, ⟨.ptr [1] 0 8, []⟩, ⟨.d (.int .u16 i1.Imm), []⟩] ?_
    obtain ⟨r_10, hr_10, h⟩ := bind_s h
    have hc_10 := bits_Low_L i1.Imm r_10 hr_10
    refine Rt (some 87) (.callf 25) [] (some []) [.d (.int .u16 i1.Imm)] (.d (.int .u8 r_10)) [] (cut_call (call_of (ws := []) (us := []) (by kernel_rfl) (by kernel_rfl) hc_10 (by kernel_rfl) (by kernel_rfl))) <| Rc 2 [⟨.ptr [1] 0 8, []⟩, ⟨.d (.int .u16 i1.Imm), []⟩] ?_
    obtain ⟨r_11, hr_11, h⟩ := bind_s h
    have hc_11 := bits_High_L i1.Imm r_11 hr_11
    refine Rt (some 90) (.callf 26) [] (some []) [.d (.int .u16 i1.Imm)] (.d (.int .u8 r_11)) [] (cut_call (call_of (ws := []) (us := []) (by kernel_rfl) (by kernel_rfl) hc_11 (by kernel_rfl) (by kernel_rfl))) <| Rc 2 [⟨.ptr [1] 0 9, []⟩, ⟨.d (.int .u16 i1.Sel), []⟩] ?_
    obtain ⟨r_12, hr_12, h⟩ := bind_s h
    have hc_12 := bits_Low_L i1.Sel r_12 hr_12
    refine Rt (some 93) (.callf 25) [] (some []) [.d (.int .u16 i1.Sel)] (.d (.int .u8 r_12)) [] (cut_call (call_of (ws := []) (us := []) (by kernel_rfl) (by kernel_rfl) hc_12 (by kernel_rfl) (by kernel_rfl))) <| Rc 2 [⟨.ptr [1] 0 9, []⟩, ⟨.d (.int .u16 i1.Sel), []⟩] ?_
    obtain ⟨r_13, hr_13, h⟩ := bind_s h
    have hc_13 := bits_High_L i1.Sel r_13 hr_13
    refine Rt (some 96) (.callf 26) [] none [.d (.int .u16 i1.Sel)] (.d (.int .u8 r_13)) [] (cut_call (call_of (ws := []) (us := []) (by kernel_rfl) (by kernel_rfl) hc_13 (by kernel_rfl) (by kernel_rfl))) <| Rc 1 [⟨.ref [97] 0 0 (List.map (D.int .u8) ([r_10, r_11, r_12, r_13] : List Int)).length 1, [([97], some (.arr (List.map (D.int .u8) ([r_10, r_11, r_12, r_13] : List Int)) 0 false))]⟩] ?_
    obtain ⟨z_6, hz_6, h⟩ := bind_s h
    refine Rt (some 98) (.append 1 1 false) [] none [.ref [16] v_16 0 (List.map (D.int .u8) b_16).length 1, .ref [97] 0 0 (List.map (D.int .u8) ([r_10, r_11, r_12, r_13] : List Int)).length 1] (.ref [16] (v_16 + 1) 0 (List.map (D.int .u8) z_6).length 1) [([97], some (.arr (List.map (D.int .u8) ([r_10, r_11, r_12, r_13] : List Int)) 0 true)), ([16], some (.arr (List.map (D.int .u8) z_6) (v_16 + 1) false))] (cut_appR (e := (D.int .u8)) (l := b_16) (fz := false) (ws := [([97], some (.arr (List.map (D.int .u8) ([r_10, r_11, r_12, r_13] : List Int)) 0 true))]) (ap_ref (e := (D.int .u8)) (l := ([r_10, r_11, r_12, r_13] : List Int)) (fz := false) (by kernel_rfl) (by kernel_rfl) rfl) (fun _ => rfl) hz_6 (by kernel_rfl) (by kernel_rfl) rfl) <| Rc 1 [⟨.ref [16] (v_16 + 1) 0 (List.map (D.int .u8) z_6).length 1, []⟩] <| Rd <| kB_nrm <| kS_nrm <| Sq <| Ro <| Rc 3 [⟨.ref [16] (v_16 + 1) 0 (List.map (D.int .u8) z_6).length 1, []⟩, ⟨.ref [16] (v_16 + 1) 0 (List.map (D.int .u8) z_6).length 1, []⟩, ⟨.d (.int .i64 0), []⟩] <| Rd <| kS_nrm <| Sq <| Runs.gcons (frz_ref (e := (D.int .u8)) (l := z_6) (id := [16]) (v := (v_16 + 1)) (n := 1) (fz := false) (by kernel_rfl) (by kernel_rfl) rfl) <| Runs.gnil <| kS_nrm <| Runs.ret ?_
    obtain rfl := Option.some.inj h
    exact ⟨Out.ret_ne, (by kernel_rfl)⟩
   | false =>
    replace h := ite_f hb_6 h
    refine Cf <| Runs.skip <| kB_nrm <| kS_nrm <| Sq <| Ro <| Rc 3 [⟨.ref [16] v_16 0 (List.map (D.int .u8) b_16).length 1, []⟩, ⟨.ref [16] v_16 0 (List.map (D.int .u8) b_16).length 1, []⟩, ⟨.d (.int .i64 0), []⟩] <| Rd <| kS_nrm <| Sq <| Runs.gcons (frz_ref (e := (D.int .u8)) (l := b_16) (id := [16]) (v := v_16) (n := 1) (fz := false) (by kernel_rfl) (by kernel_rfl) rfl) <| Runs.gnil <| kS_nrm <| Runs.ret ?_
    obtain rfl := Option.some.inj h
    exact ⟨Out.ret_ne, (by kernel_rfl)⟩
theorem code_Put_ok (i_ : Inst) (r : ((List Int) × Int)) (h : code_Put i_ = some r) : Runs L F8.body ⟨tmOf [.d (Inst.d i_)] 0, updW (fun _ => none) []⟩ (code_Put_Q i_ r) := by
 unfold code_Put at h
 refine Sq <| Ro <| Rc 3 [⟨.ptr [1] 0 0, [([1], some (.cells [.d (.bool i_.Lock), .d (.int .i64 i_.Rep), .d (.int .i64 i_.Seg), .d (.int .u8 i_.Op), .d (.int .i64 i_.Mod), .d (.int .i64 i_.Reg), .d (.int .i64 i_.RM), .d (.int .u16 i_.Disp), .d (.int .u16 i_.Imm), .d (.int .u16 i_.Sel)] 0))]⟩, ⟨.nils, []⟩, ⟨.d (.int .i64 0), []⟩] <| Rd <| kS_nrm <| Sq <| Sq <| Ro <| Rc 1 [⟨.d (Inst.d i_), []⟩] ?_
 obtain ⟨r_1, hr_1, h⟩ := bind_s h
 have hc_1 := inst_May_L i_ r_1 hr_1
 refine Rt (some 8) (.callf 21) [] none [.d (Inst.d i_)] (.d (.bool r_1)) [] (cut_call (call_of (ws := []) (us := []) (by kernel_rfl) (by kernel_rfl) hc_1 (by kernel_rfl) (by kernel_rfl))) <| Rc 1 [⟨.d (.bool (!r_1)), []⟩] <| Rd <| kS_nrm ?_
 cases hb_1 : ((!r_1) : Bool) with
 | true =>
  replace h := ite_t hb_1 h
  refine Ct <| Sq <| Ro <| Rc 2 [⟨.nils, []⟩, ⟨.d (.int .i64 1), []⟩] <| Rd <| kS_nrm <| Sq <| Runs.gcons (frz_nil (D.int .u8) (by kernel_rfl)) <| Runs.gnil <| kS_nrm <| Runs.ret <| kS_ret ?_
  obtain rfl := Option.some.inj h
  exact ⟨Out.ret_ne, (by kernel_rfl)⟩
 | false =>
  replace h := ite_f hb_1 h
  refine Cf <| Runs.skip <| kS_nrm <| Sq <| Ro <| Rc 1 [⟨.d (Inst.d i_), []⟩] ?_
  obtain ⟨r_2, hr_2, h⟩ := bind_s h
  have hc_2 := inst_Row_L i_ r_2 hr_2
  refine Rt (some 12) (.callf 22) [] none [.d (Inst.d i_)] (.tup [.d (Row.d r_2.1), .d (.bool r_2.2)]) [] (cut_call (call_of (ws := []) (us := []) (by kernel_rfl) (by kernel_rfl) hc_2 (by kernel_rfl) (by kernel_rfl))) <| Rc 6 [⟨.tup [.d (Row.d r_2.1), .d (.bool r_2.2)], []⟩, ⟨.d (Row.d r_2.1), []⟩, ⟨.d (.bool r_2.2), []⟩, ⟨.ptr [4] 0 0, [([4], some (.cells [.d (.int .i64 0), .d (.int .i64 0), .d (.int .i64 0), .d (.bool false)] 0))]⟩, ⟨.tup [], [([4], some (.cells [.d (.int .i64 r_2.1.Name), .d (.int .i64 r_2.1.A), .d (.int .i64 r_2.1.B), .d (.bool r_2.1.Mod)] 0))]⟩, ⟨.d (.bool r_2.2), []⟩] <| Rd <| kS_nrm <| Sq <| Ro <| Rc 1 [⟨.d (Inst.d i_), []⟩] ?_
  obtain ⟨r_3, hr_3, h⟩ := bind_s h
  have hc_3 := code_ahead_L i_ r_3 hr_3
  refine Rt (some 16) (.callf 23) [[19]] (some []) [.d (Inst.d i_)] (.ref [16] 0 0 (List.map (D.int .u8) r_3).length 1) [([16], some (.arr (List.map (D.int .u8) r_3) 0 false))] (cut_call (call_of (ws := []) (us := []) (by kernel_rfl) (gives_cons (ws := []) (give_same (by kernel_rfl)) gives_nil) hc_3 (by kernel_rfl) (by kernel_rfl))) <| Rc 3 [⟨.ptr [1] 0 3, []⟩, ⟨.d (.int .u8 i_.Op), []⟩, ⟨.ref [19] 0 0 (List.map (D.int .u8) ([i_.Op] : List Int)).length 1, [([19], some (.arr (List.map (D.int .u8) ([i_.Op] : List Int)) 0 false))]⟩] ?_
  obtain ⟨z_1, hz_1, h⟩ := bind_s h
  refine Rt (some 20) (.append 1 1 false) [] none [.ref [16] 0 0 (List.map (D.int .u8) r_3).length 1, .ref [19] 0 0 (List.map (D.int .u8) ([i_.Op] : List Int)).length 1] (.ref [16] 1 0 (List.map (D.int .u8) z_1).length 1) [([19], some (.arr (List.map (D.int .u8) ([i_.Op] : List Int)) 0 true)), ([16], some (.arr (List.map (D.int .u8) z_1) 1 false))] (cut_appR (e := (D.int .u8)) (l := r_3) (fz := false) (ws := [([19], some (.arr (List.map (D.int .u8) ([i_.Op] : List Int)) 0 true))]) (ap_ref (e := (D.int .u8)) (l := ([i_.Op] : List Int)) (fz := false) (by kernel_rfl) (by kernel_rfl) rfl) (fun _ => rfl) hz_1 (by kernel_rfl) (by kernel_rfl) rfl) <| Rc 1 [⟨.ref [16] 1 0 (List.map (D.int .u8) z_1).length 1, []⟩] <| Rd <| kS_nrm <| Sq <| Sq <| Ro <| Rc 2 [⟨.ptr [4] 0 3, []⟩, ⟨.d (.bool r_2.1.Mod), []⟩] <| Rd <| kS_nrm ?_
  cases hb_2 : (r_2.1.Mod : Bool) with
  | true =>
   replace h := ite_t hb_2 h
   refine Ct <| Sq <| Ro <| Rc 13 [⟨.ref [16] 1 0 (List.map (D.int .u8) z_1).length 1, []⟩, ⟨.ptr [1] 0 4, []⟩, ⟨.d (.int .i64 i_.Mod), []⟩, ⟨.d (.int .i64 (shlI .i64 i_.Mod 6)), []⟩, ⟨.ptr [1] 0 5, []⟩, ⟨.d (.int .i64 i_.Reg), []⟩, ⟨.d (.int .i64 (shlI .i64 i_.Reg 3)), []⟩, ⟨.d (.int .i64 (bitsOp .or .i64 (shlI .i64 i_.Mod 6) (shlI .i64 i_.Reg 3))), []⟩, ⟨.ptr [1] 0 6, []⟩, ⟨.d (.int .i64 i_.RM), []⟩, ⟨.d (.int .i64 (bitsOp .or .i64 (bitsOp .or .i64 (shlI .i64 i_.Mod 6) (shlI .i64 i_.Reg 3)) i_.RM)), []⟩, ⟨.d (.int .u8 (IntKind.wrap .u8 (bitsOp .or .i64 (bitsOp .or .i64 (shlI .i64 i_.Mod 6) (shlI .i64 i_.Reg 3)) i_.RM))), []⟩, ⟨.ref [35] 0 0 (List.map (D.int .u8) ([(IntKind.wrap .u8 (bitsOp .or .i64 (bitsOp .or .i64 (shlI .i64 i_.Mod 6) (shlI .i64 i_.Reg 3)) i_.RM))] : List Int)).length 1, [([35], some (.arr (List.map (D.int .u8) ([(IntKind.wrap .u8 (bitsOp .or .i64 (bitsOp .or .i64 (shlI .i64 i_.Mod 6) (shlI .i64 i_.Reg 3)) i_.RM))] : List Int)) 0 false))]⟩] ?_
   obtain ⟨z_2, hz_2, h⟩ := bind_s h
   refine Rt (some 36) (.append 1 1 false) [] none [.ref [16] 1 0 (List.map (D.int .u8) z_1).length 1, .ref [35] 0 0 (List.map (D.int .u8) ([(IntKind.wrap .u8 (bitsOp .or .i64 (bitsOp .or .i64 (shlI .i64 i_.Mod 6) (shlI .i64 i_.Reg 3)) i_.RM))] : List Int)).length 1] (.ref [16] 2 0 (List.map (D.int .u8) z_2).length 1) [([35], some (.arr (List.map (D.int .u8) ([(IntKind.wrap .u8 (bitsOp .or .i64 (bitsOp .or .i64 (shlI .i64 i_.Mod 6) (shlI .i64 i_.Reg 3)) i_.RM))] : List Int)) 0 true)), ([16], some (.arr (List.map (D.int .u8) z_2) 2 false))] (cut_appR (e := (D.int .u8)) (l := z_1) (fz := false) (ws := [([35], some (.arr (List.map (D.int .u8) ([(IntKind.wrap .u8 (bitsOp .or .i64 (bitsOp .or .i64 (shlI .i64 i_.Mod 6) (shlI .i64 i_.Reg 3)) i_.RM))] : List Int)) 0 true))]) (ap_ref (e := (D.int .u8)) (l := ([(IntKind.wrap .u8 (bitsOp .or .i64 (bitsOp .or .i64 (shlI .i64 i_.Mod 6) (shlI .i64 i_.Reg 3)) i_.RM))] : List Int)) (fz := false) (by kernel_rfl) (by kernel_rfl) rfl) (fun _ => rfl) hz_2 (by kernel_rfl) (by kernel_rfl) rfl) <| Rc 1 [⟨.ref [16] 2 0 (List.map (D.int .u8) z_2).length 1, []⟩] <| Rd <| kS_nrm <| Sq <| Ro <| Rc 4 [⟨.ptr [1] 0 4, []⟩, ⟨.d (.int .i64 i_.Mod), []⟩, ⟨.ptr [1] 0 6, []⟩, ⟨.d (.int .i64 i_.RM), []⟩] ?_
   obtain ⟨r_4, hr_4, h⟩ := bind_s h
   have hc_4 := inst_Disps_L i_.Mod i_.RM r_4 hr_4
   refine Rt (some 41) (.callf 24) [] none [.d (.int .i64 i_.Mod), .d (.int .i64 i_.RM)] (.d (.int .i64 r_4)) [] (cut_call (call_of (ws := []) (us := []) (by kernel_rfl) (by kernel_rfl) hc_4 (by kernel_rfl) (by kernel_rfl))) <| Rd <| kS_nrm <| Runs.block <| Sq <| Ro <| Rc 2 [⟨.d (.bool (r_4 == 1)), []⟩, ⟨.d (.bool (r_4 == 1)), []⟩] <| Rd <| kS_nrm ?_
   cases hb_3 : ((r_4 == 1) : Bool) with
   | true =>
    replace h := ite_t hb_3 h
    refine Ct <| Ro <| Rc 3 [⟨.ref [16] 2 0 (List.map (D.int .u8) z_2).length 1, []⟩, ⟨.ptr [1] 0 7, []⟩, ⟨.d (.int .u16 i_.Disp), []⟩] ?_
    obtain ⟨r_5, hr_5, h⟩ := bind_s h
    have hc_5 := bits_Low_L i_.Disp r_5 hr_5
    refine Rt (some 47) (.callf 25) [] none [.d (.int .u16 i_.Disp)] (.d (.int .u8 r_5)) [] (cut_call (call_of (ws := []) (us := []) (by kernel_rfl) (by kernel_rfl) hc_5 (by kernel_rfl) (by kernel_rfl))) <| Rc 1 [⟨.ref [48] 0 0 (List.map (D.int .u8) ([r_5] : List Int)).length 1, [([48], some (.arr (List.map (D.int .u8) ([r_5] : List Int)) 0 false))]⟩] ?_
    obtain ⟨z_3, hz_3, h⟩ := bind_s h
    refine Rt (some 49) (.append 1 1 false) [] none [.ref [16] 2 0 (List.map (D.int .u8) z_2).length 1, .ref [48] 0 0 (List.map (D.int .u8) ([r_5] : List Int)).length 1] (.ref [16] 3 0 (List.map (D.int .u8) z_3).length 1) [([48], some (.arr (List.map (D.int .u8) ([r_5] : List Int)) 0 true)), ([16], some (.arr (List.map (D.int .u8) z_3) 3 false))] (cut_appR (e := (D.int .u8)) (l := z_2) (fz := false) (ws := [([48], some (.arr (List.map (D.int .u8) ([r_5] : List Int)) 0 true))]) (ap_ref (e := (D.int .u8)) (l := ([r_5] : List Int)) (fz := false) (by kernel_rfl) (by kernel_rfl) rfl) (fun _ => rfl) hz_3 (by kernel_rfl) (by kernel_rfl) rfl) <| Rc 1 [⟨.ref [16] 3 0 (List.map (D.int .u8) z_3).length 1, []⟩] <| Rd <| kB_nrm <| kS_nrm <| Runs.canon (code_Put_h33 i_ ({ Name := r_2.1.Name, A := r_2.1.A, B := r_2.1.B, Mod := true } : Row) z_3 3) (Canon.nil (by kernel_rfl)) ?_
    exact code_Put_j33_ok i_ i_ ({ Name := r_2.1.Name, A := r_2.1.A, B := r_2.1.B, Mod := true } : Row) z_3 3 r h
   | false =>
    replace h := ite_f hb_3 h
    refine Cf <| Sq <| Ro <| Rc 2 [⟨.d (.bool (r_4 == 2)), []⟩, ⟨.d (.bool (r_4 == 2)), []⟩] <| Rd <| kS_nrm ?_
    cases hb_7 : ((r_4 == 2) : Bool) with
    | true =>
     replace h := ite_t hb_7 h
     refine Ct <| Ro <| Rc 3 [⟨.ref [16] 2 0 (List.map (D.int .u8) z_2).length 1, []⟩, ⟨.ptr [1] 0 7, []⟩, ⟨.d (.int .u16 i_.Disp), []⟩] ?_
     obtain ⟨r_14, hr_14, h⟩ := bind_s h
     have hc_14 := bits_Low_L i_.Disp r_14 hr_14
     refine Rt (some 55) (.callf 25) [] (some []) [.d (.int .u16 i_.Disp)] (.d (.int .u8 r_14)) [] (cut_call (call_of (ws := []) (us := []) (by kernel_rfl) (by kernel_rfl) hc_14 (by kernel_rfl) (by kernel_rfl))) <| Rc 2 [⟨.ptr [1] 0 7, []⟩, ⟨.d (.int .u16 i_.Disp), []⟩] ?_
     obtain ⟨r_15, hr_15, h⟩ := bind_s h
     have hc_15 := bits_High_L i_.Disp r_15 hr_15
     refine Rt (some 58) (.callf 26) [] none [.d (.int .u16 i_.Disp)] (.d (.int .u8 r_15)) [] (cut_call (call_of (ws := []) (us := []) (by kernel_rfl) (by kernel_rfl) hc_15 (by kernel_rfl) (by kernel_rfl))) <| Rc 1 [⟨.ref [59] 0 0 (List.map (D.int .u8) ([r_14, r_15] : List Int)).length 1, [([59], some (.arr (List.map (D.int .u8) ([r_14, r_15] : List Int)) 0 false))]⟩] ?_
     obtain ⟨z_7, hz_7, h⟩ := bind_s h
     refine Rt (some 60) (.append 1 1 false) [] none [.ref [16] 2 0 (List.map (D.int .u8) z_2).length 1, .ref [59] 0 0 (List.map (D.int .u8) ([r_14, r_15] : List Int)).length 1] (.ref [16] 3 0 (List.map (D.int .u8) z_7).length 1) [([59], some (.arr (List.map (D.int .u8) ([r_14, r_15] : List Int)) 0 true)), ([16], some (.arr (List.map (D.int .u8) z_7) 3 false))] (cut_appR (e := (D.int .u8)) (l := z_2) (fz := false) (ws := [([59], some (.arr (List.map (D.int .u8) ([r_14, r_15] : List Int)) 0 true))]) (ap_ref (e := (D.int .u8)) (l := ([r_14, r_15] : List Int)) (fz := false) (by kernel_rfl) (by kernel_rfl) rfl) (fun _ => rfl) hz_7 (by kernel_rfl) (by kernel_rfl) rfl) <| Rc 1 [⟨.ref [16] 3 0 (List.map (D.int .u8) z_7).length 1, []⟩] <| Rd <| kB_nrm <| kS_nrm <| Runs.canon (code_Put_h33 i_ ({ Name := r_2.1.Name, A := r_2.1.A, B := r_2.1.B, Mod := true } : Row) z_7 3) (Canon.nil (by kernel_rfl)) ?_
     exact code_Put_j33_ok i_ i_ ({ Name := r_2.1.Name, A := r_2.1.A, B := r_2.1.B, Mod := true } : Row) z_7 3 r h
    | false =>
     replace h := ite_f hb_7 h
     refine Cf <| Runs.skip <| kB_nrm <| kS_nrm <| Runs.canon (code_Put_h33 i_ ({ Name := r_2.1.Name, A := r_2.1.A, B := r_2.1.B, Mod := true } : Row) z_2 2) (Canon.nil (by kernel_rfl)) ?_
     exact code_Put_j33_ok i_ i_ ({ Name := r_2.1.Name, A := r_2.1.A, B := r_2.1.B, Mod := true } : Row) z_2 2 r h
  | false =>
   replace h := ite_f hb_2 h
   refine Cf <| Runs.skip <| kS_nrm <| Runs.canon (code_Put_h33 i_ ({ Name := r_2.1.Name, A := r_2.1.A, B := r_2.1.B, Mod := false } : Row) z_1 1) (Canon.nil (by kernel_rfl)) ?_
   exact code_Put_j33_ok i_ i_ ({ Name := r_2.1.Name, A := r_2.1.A, B := r_2.1.B, Mod := false } : Row) z_1 1 r h
theorem code_Put_L (i_ : Inst) (r : ((List Int) × Int)) (h : code_Put i_ = some r) : L 8 [.d (Inst.d i_)] = some (.tup [.d (.sl (List.map (D.int .u8) r.1)), .d (.int .i64 r.2)], [.d (Inst.d i_)]) := by
 obtain ⟨p, ⟨hne, hf⟩, hr⟩ := code_Put_ok i_ r h
 obtain ⟨k, hk⟩ := run_of (F := F8) (args := [.d (Inst.d i_)]) (ap := [.d (Inst.d i_)]) (bx0 := updW (fun _ => none) []) rfl rfl (by kernel_rfl) ⟨p, ⟨hne, hf⟩, hr⟩
 exact lim_run (k := k) rfl hk
def hansomlaw06_awake_Q  (r : Bool) (p : Out × St) : Prop := (∀ i, p.1 ≠ .exit i) ∧ finF F10 [] p.2 = some (.d (.bool r), [])
theorem hansomlaw06_awake_ok  (r : Bool) (h : hansomlaw06_awake = some r) : Runs L F10.body ⟨tmOf [] 0, updW (fun _ => none) []⟩ (hansomlaw06_awake_Q  r) := by
 unfold hansomlaw06_awake at h
 refine Sq <| Ro <| Rc 1 [⟨.d (.bool false), []⟩] <| Rd <| kS_nrm <| Sq <| Ro <| Rc 1 [⟨.d (.agg [.bool false, .int .i64 0, .int .i64 0, .int .u8 184, .int .i64 0, .int .i64 0, .int .i64 0, .int .u16 0, .int .u16 4660, .int .u16 0]), []⟩] ?_
 obtain ⟨r_1, hr_1, h⟩ := bind_s h
 have hc_1 := code_Put_L ({ Lock := false, Rep := 0, Seg := 0, Op := 184, Mod := 0, Reg := 0, RM := 0, Disp := 0, Imm := 4660, Sel := 0 } : Inst) r_1 hr_1
 refine Rt (some 5) (.callf 8) [] none [.d (.agg [.bool false, .int .i64 0, .int .i64 0, .int .u8 184, .int .i64 0, .int .i64 0, .int .i64 0, .int .u16 0, .int .u16 4660, .int .u16 0])] (.tup [.d (.sl (List.map (D.int .u8) r_1.1)), .d (.int .i64 r_1.2)]) [] (cut_call (call_of (ws := []) (us := []) (by kernel_rfl) (by kernel_rfl) hc_1 (by kernel_rfl) (by kernel_rfl))) <| Rc 5 [⟨.tup [.d (.sl (List.map (D.int .u8) r_1.1)), .d (.int .i64 r_1.2)], []⟩, ⟨.d (.sl (List.map (D.int .u8) r_1.1)), []⟩, ⟨.d (.int .i64 r_1.2), []⟩, ⟨.d (.sl (List.map (D.int .u8) r_1.1)), []⟩, ⟨.d (.int .i64 r_1.2), []⟩] <| Rd <| kS_nrm <| Sq <| Ro <| Rc 3 [⟨.d (.int .i64 r_1.2), []⟩, ⟨.d (.bool (r_1.2 == 0)), []⟩, ⟨.d (.bool (r_1.2 == 0)), []⟩] ?_
 cases hb_1 : ((r_1.2 == 0) : Bool) with
 | true =>
  replace h := ite_t hb_1 h
  refine Rc 1 [⟨.d (.sl (List.map (D.int .u8) r_1.1)), []⟩] <| Rt (some 12) .bytesStr [] none [.d (.sl (List.map (D.int .u8) r_1.1))] (.d (.str (b2s r_1.1))) [] (cut_bs _) <| Rc 3 [⟨.d (.bool ((b2s r_1.1) == ([184, 52, 18] : List UInt8))), []⟩, ⟨.d (.bool ((b2s r_1.1) == ([184, 52, 18] : List UInt8))), []⟩, ⟨.d (.bool ((b2s r_1.1) == ([184, 52, 18] : List UInt8))), []⟩] <| Rd <| kS_nrm <| Runs.ret ?_
  obtain rfl := Option.some.inj h
  exact ⟨Out.ret_ne, (by kernel_rfl)⟩
 | false =>
  replace h := ite_f hb_1 h
  refine Rc 5 [⟨.tup [], []⟩, ⟨.tup [], []⟩, ⟨.tup [], []⟩, ⟨.d (.bool false), []⟩, ⟨.d (.bool false), []⟩] <| Rd <| kS_nrm <| Runs.ret ?_
  obtain rfl := Option.some.inj h
  exact ⟨Out.ret_ne, (by kernel_rfl)⟩
theorem hansomlaw06_awake_L  (r : Bool) (h : hansomlaw06_awake = some r) : L 10 [] = some (.d (.bool r), []) := by
 obtain ⟨p, ⟨hne, hf⟩, hr⟩ := hansomlaw06_awake_ok  r h
 obtain ⟨k, hk⟩ := run_of (F := F10) (args := []) (ap := []) (bx0 := updW (fun _ => none) []) rfl rfl (by kernel_rfl) ⟨p, ⟨hne, hf⟩, hr⟩
 exact lim_run (k := k) rfl hk
def hansomlaw06_CodeOwn_Q (x_ : Inst) (y_ : Inst) (r : Bool) (p : Out × St) : Prop := (∀ i, p.1 ≠ .exit i) ∧ finF F4 [.d (Inst.d x_), .d (Inst.d y_)] p.2 = some (.d (.bool r), [.d (Inst.d x_), .d (Inst.d y_)])
theorem hansomlaw06_CodeOwn_ok (x_ : Inst) (y_ : Inst) (r : Bool) (h : hansomlaw06_CodeOwn x_ y_ = some r) : Runs L F4.body ⟨tmOf [.d (Inst.d x_), .d (Inst.d y_)] 0, updW (fun _ => none) []⟩ (hansomlaw06_CodeOwn_Q x_ y_ r) := by
 unfold hansomlaw06_CodeOwn at h
 refine Sq <| Ro <| Rc 3 [⟨.ptr [2] 0 0, [([2], some (.cells [.d (.bool x_.Lock), .d (.int .i64 x_.Rep), .d (.int .i64 x_.Seg), .d (.int .u8 x_.Op), .d (.int .i64 x_.Mod), .d (.int .i64 x_.Reg), .d (.int .i64 x_.RM), .d (.int .u16 x_.Disp), .d (.int .u16 x_.Imm), .d (.int .u16 x_.Sel)] 0))]⟩, ⟨.ptr [3] 0 0, [([3], some (.cells [.d (.bool y_.Lock), .d (.int .i64 y_.Rep), .d (.int .i64 y_.Seg), .d (.int .u8 y_.Op), .d (.int .i64 y_.Mod), .d (.int .i64 y_.Reg), .d (.int .i64 y_.RM), .d (.int .u16 y_.Disp), .d (.int .u16 y_.Imm), .d (.int .u16 y_.Sel)] 0))]⟩, ⟨.d (.bool false), []⟩] <| Rd <| kS_nrm <| Sq <| Ro <| Rc 1 [⟨.d (Inst.d x_), []⟩] ?_
 obtain ⟨r_1, hr_1, h⟩ := bind_s h
 have hc_1 := hansomref05_Near_L x_ r_1 hr_1
 refine Rt (some 13) (.callf 7) [[5], [6]] (some []) [.d (Inst.d x_)] (.d (Inst.d r_1)) [] (cut_call (call_of (ws := []) (us := []) (by kernel_rfl) (by kernel_rfl) hc_1 (by kernel_rfl) (by kernel_rfl))) <| Rc 1 [⟨.d (Inst.d y_), []⟩] ?_
 obtain ⟨r_2, hr_2, h⟩ := bind_s h
 have hc_2 := hansomref05_Near_L y_ r_2 hr_2
 refine Rt (some 15) (.callf 7) [[5], [6]] (some []) [.d (Inst.d y_)] (.d (Inst.d r_2)) [] (cut_call (call_of (ws := []) (us := []) (by kernel_rfl) (by kernel_rfl) hc_2 (by kernel_rfl) (by kernel_rfl))) <| Rc 4 [⟨.ptr [5] 0 0, [([5], some (.cells [.d (.bool false), .d (.int .i64 0), .d (.int .i64 0), .d (.int .u8 0), .d (.int .i64 0), .d (.int .i64 0), .d (.int .i64 0), .d (.int .u16 0), .d (.int .u16 0), .d (.int .u16 0)] 0))]⟩, ⟨.ptr [6] 0 0, [([6], some (.cells [.d (.bool false), .d (.int .i64 0), .d (.int .i64 0), .d (.int .u8 0), .d (.int .i64 0), .d (.int .i64 0), .d (.int .i64 0), .d (.int .u16 0), .d (.int .u16 0), .d (.int .u16 0)] 0))]⟩, ⟨.tup [], [([5], some (.cells [.d (.bool r_1.Lock), .d (.int .i64 r_1.Rep), .d (.int .i64 r_1.Seg), .d (.int .u8 r_1.Op), .d (.int .i64 r_1.Mod), .d (.int .i64 r_1.Reg), .d (.int .i64 r_1.RM), .d (.int .u16 r_1.Disp), .d (.int .u16 r_1.Imm), .d (.int .u16 r_1.Sel)] 0))]⟩, ⟨.tup [], [([6], some (.cells [.d (.bool r_2.Lock), .d (.int .i64 r_2.Rep), .d (.int .i64 r_2.Seg), .d (.int .u8 r_2.Op), .d (.int .i64 r_2.Mod), .d (.int .i64 r_2.Reg), .d (.int .i64 r_2.RM), .d (.int .u16 r_2.Disp), .d (.int .u16 r_2.Imm), .d (.int .u16 r_2.Sel)] 0))]⟩] <| Rd <| kS_nrm <| Sq <| Ro <| Rc 1 [⟨.d (Inst.d r_1), []⟩] ?_
 obtain ⟨r_3, hr_3, h⟩ := bind_s h
 have hc_3 := code_Put_L r_1 r_3 hr_3
 refine Rt (some 18) (.callf 8) [] none [.d (Inst.d r_1)] (.tup [.d (.sl (List.map (D.int .u8) r_3.1)), .d (.int .i64 r_3.2)]) [] (cut_call (call_of (ws := []) (us := []) (by kernel_rfl) (by kernel_rfl) hc_3 (by kernel_rfl) (by kernel_rfl))) <| Rc 5 [⟨.tup [.d (.sl (List.map (D.int .u8) r_3.1)), .d (.int .i64 r_3.2)], []⟩, ⟨.d (.sl (List.map (D.int .u8) r_3.1)), []⟩, ⟨.d (.int .i64 r_3.2), []⟩, ⟨.d (.sl (List.map (D.int .u8) r_3.1)), []⟩, ⟨.d (.int .i64 r_3.2), []⟩] <| Rd <| kS_nrm <| Sq <| Ro <| Rc 1 [⟨.d (Inst.d r_2), []⟩] ?_
 obtain ⟨r_4, hr_4, h⟩ := bind_s h
 have hc_4 := code_Put_L r_2 r_4 hr_4
 refine Rt (some 23) (.callf 8) [] none [.d (Inst.d r_2)] (.tup [.d (.sl (List.map (D.int .u8) r_4.1)), .d (.int .i64 r_4.2)]) [] (cut_call (call_of (ws := []) (us := []) (by kernel_rfl) (by kernel_rfl) hc_4 (by kernel_rfl) (by kernel_rfl))) <| Rc 5 [⟨.tup [.d (.sl (List.map (D.int .u8) r_4.1)), .d (.int .i64 r_4.2)], []⟩, ⟨.d (.sl (List.map (D.int .u8) r_4.1)), []⟩, ⟨.d (.int .i64 r_4.2), []⟩, ⟨.d (.sl (List.map (D.int .u8) r_4.1)), []⟩, ⟨.d (.int .i64 r_4.2), []⟩] <| Rd <| kS_nrm <| Sq <| Ro <| Rc 1 [⟨.d (.sl (List.map (D.int .u8) r_3.1)), []⟩] <| Rt (some 27) .lenL [] none [.d (.sl (List.map (D.int .u8) r_3.1))] (.d (.int .i64 (r_3.1.length : Int))) [] (cut_len _) <| Rc 1 [⟨.d (.sl (List.map (D.int .u8) r_4.1)), []⟩] <| Rt (some 29) .lenL [] none [.d (.sl (List.map (D.int .u8) r_4.1))] (.d (.int .i64 (r_4.1.length : Int))) [] (cut_len _) <| Rc 2 [⟨.d (.int .i64 (mnI (r_3.1.length : Int) (r_4.1.length : Int))), []⟩, ⟨.d (.int .i64 (mnI (r_3.1.length : Int) (r_4.1.length : Int))), []⟩] <| Rd <| kS_nrm <| Sq <| Ro ?_
 obtain ⟨r_5, hr_5, h⟩ := bind_s h
 have hc_5 := hansomlaw06_awake_L r_5 hr_5
 refine Rt (some 31) (.callf 10) [] none [] (.d (.bool r_5)) [] (cut_call (call_of (ws := []) (us := []) (by kernel_rfl) (by kernel_rfl) hc_5 (by kernel_rfl) (by kernel_rfl))) <| Rc 1 [⟨.d (.bool r_5), []⟩] ?_
 cases hb_1 : (r_5 : Bool) with
 | true =>
  replace h := ite_t hb_1 h
  refine Rc 4 [⟨.d (.int .i64 r_3.2), []⟩, ⟨.d (.bool (r_3.2 == 0)), []⟩, ⟨.d (.bool (r_3.2 == 0)), []⟩, ⟨.d (.bool (r_3.2 == 0)), []⟩] ?_
  cases hb_2 : ((r_3.2 == 0) : Bool) with
  | true =>
   replace h := ite_t hb_2 h
   refine Rc 4 [⟨.d (.int .i64 r_4.2), []⟩, ⟨.d (.bool (r_4.2 == 0)), []⟩, ⟨.d (.bool (r_4.2 == 0)), []⟩, ⟨.d (.bool (r_4.2 == 0)), []⟩] ?_
   cases hb_3 : ((r_4.2 == 0) : Bool) with
   | true =>
    replace h := ite_t hb_3 h
    refine Rc 4 [⟨.d (.int .i64 (mnI (r_3.1.length : Int) (r_4.1.length : Int))), []⟩, ⟨.d (.bool (decide ((mnI (r_3.1.length : Int) (r_4.1.length : Int)) > 0))), []⟩, ⟨.d (.bool (decide ((mnI (r_3.1.length : Int) (r_4.1.length : Int)) > 0))), []⟩, ⟨.d (.bool (decide ((mnI (r_3.1.length : Int) (r_4.1.length : Int)) > 0))), []⟩] ?_
    cases hb_4 : ((decide ((mnI (r_3.1.length : Int) (r_4.1.length : Int)) > 0)) : Bool) with
    | true =>
     replace h := ite_t hb_4 h
     refine Rc 5 [⟨.d (Inst.d r_1), []⟩, ⟨.d (Inst.d r_2), []⟩, ⟨.d (.bool (r_1.Lock == r_2.Lock && (r_1.Rep == r_2.Rep && (r_1.Seg == r_2.Seg && (r_1.Op == r_2.Op && (r_1.Mod == r_2.Mod && (r_1.Reg == r_2.Reg && (r_1.RM == r_2.RM && (r_1.Disp == r_2.Disp && (r_1.Imm == r_2.Imm && (r_1.Sel == r_2.Sel && true))))))))))), []⟩, ⟨.d (.sl (List.map (D.int .u8) r_3.1)), []⟩, ⟨.d (.int .i64 (mnI (r_3.1.length : Int) (r_4.1.length : Int))), []⟩] ?_
     obtain ⟨z_1, hz_1, h⟩ := bind_s h
     refine Rt (some 50) (.subsl 1 false true false) [] none [.d (.sl (List.map (D.int .u8) r_3.1)), .d (.int .i64 (mnI (r_3.1.length : Int) (r_4.1.length : Int)))] (.d (.sl (List.map (D.int .u8) z_1))) [] (cut_slFT hz_1 (fun _ => rfl)) <| Rt (some 51) .bytesStr [] none [.d (.sl (List.map (D.int .u8) z_1))] (.d (.str (b2s z_1))) [] (cut_bs _) <| Rc 2 [⟨.d (.sl (List.map (D.int .u8) r_4.1)), []⟩, ⟨.d (.int .i64 (mnI (r_3.1.length : Int) (r_4.1.length : Int))), []⟩] ?_
     obtain ⟨z_2, hz_2, h⟩ := bind_s h
     refine Rt (some 54) (.subsl 1 false true false) [] none [.d (.sl (List.map (D.int .u8) r_4.1)), .d (.int .i64 (mnI (r_3.1.length : Int) (r_4.1.length : Int)))] (.d (.sl (List.map (D.int .u8) z_2))) [] (cut_slFT hz_2 (fun _ => rfl)) <| Rt (some 55) .bytesStr [] none [.d (.sl (List.map (D.int .u8) z_2))] (.d (.str (b2s z_2))) [] (cut_bs _) <| Rc 4 [⟨.d (.bool ((b2s z_1) == (b2s z_2))), []⟩, ⟨.d (.bool ((r_1.Lock == r_2.Lock && (r_1.Rep == r_2.Rep && (r_1.Seg == r_2.Seg && (r_1.Op == r_2.Op && (r_1.Mod == r_2.Mod && (r_1.Reg == r_2.Reg && (r_1.RM == r_2.RM && (r_1.Disp == r_2.Disp && (r_1.Imm == r_2.Imm && (r_1.Sel == r_2.Sel && true)))))))))) == ((b2s z_1) == (b2s z_2)))), []⟩, ⟨.d (.bool ((r_1.Lock == r_2.Lock && (r_1.Rep == r_2.Rep && (r_1.Seg == r_2.Seg && (r_1.Op == r_2.Op && (r_1.Mod == r_2.Mod && (r_1.Reg == r_2.Reg && (r_1.RM == r_2.RM && (r_1.Disp == r_2.Disp && (r_1.Imm == r_2.Imm && (r_1.Sel == r_2.Sel && true)))))))))) == ((b2s z_1) == (b2s z_2)))), []⟩, ⟨.d (.bool ((r_1.Lock == r_2.Lock && (r_1.Rep == r_2.Rep && (r_1.Seg == r_2.Seg && (r_1.Op == r_2.Op && (r_1.Mod == r_2.Mod && (r_1.Reg == r_2.Reg && (r_1.RM == r_2.RM && (r_1.Disp == r_2.Disp && (r_1.Imm == r_2.Imm && (r_1.Sel == r_2.Sel && true)))))))))) == ((b2s z_1) == (b2s z_2)))), []⟩] <| Rd <| kS_nrm <| Runs.ret ?_
     obtain rfl := Option.some.inj h
     exact ⟨Out.ret_ne, (by kernel_rfl)⟩
    | false =>
     replace h := ite_f hb_4 h
     refine Rc 15 [⟨.tup [], []⟩, ⟨.tup [], []⟩, ⟨.tup [], []⟩, ⟨.tup [], []⟩, ⟨.tup [], []⟩, ⟨.tup [], []⟩, ⟨.tup [], []⟩, ⟨.tup [], []⟩, ⟨.tup [], []⟩, ⟨.tup [], []⟩, ⟨.tup [], []⟩, ⟨.tup [], []⟩, ⟨.tup [], []⟩, ⟨.d (.bool false), []⟩, ⟨.d (.bool false), []⟩] <| Rd <| kS_nrm <| Runs.ret ?_
     obtain rfl := Option.some.inj h
     exact ⟨Out.ret_ne, (by kernel_rfl)⟩
   | false =>
    replace h := ite_f hb_3 h
    refine Rc 19 [⟨.tup [], []⟩, ⟨.tup [], []⟩, ⟨.d (.bool false), []⟩, ⟨.d (.bool false), []⟩, ⟨.tup [], []⟩, ⟨.tup [], []⟩, ⟨.tup [], []⟩, ⟨.tup [], []⟩, ⟨.tup [], []⟩, ⟨.tup [], []⟩, ⟨.tup [], []⟩, ⟨.tup [], []⟩, ⟨.tup [], []⟩, ⟨.tup [], []⟩, ⟨.tup [], []⟩, ⟨.tup [], []⟩, ⟨.tup [], []⟩, ⟨.d (.bool false), []⟩, ⟨.d (.bool false), []⟩] <| Rd <| kS_nrm <| Runs.ret ?_
    obtain rfl := Option.some.inj h
    exact ⟨Out.ret_ne, (by kernel_rfl)⟩
  | false =>
   replace h := ite_f hb_2 h
   refine Rc 23 [⟨.tup [], []⟩, ⟨.tup [], []⟩, ⟨.d (.bool false), []⟩, ⟨.d (.bool false), []⟩, ⟨.tup [], []⟩, ⟨.tup [], []⟩, ⟨.d (.bool false), []⟩, ⟨.d (.bool false), []⟩, ⟨.tup [], []⟩, ⟨.tup [], []⟩, ⟨.tup [], []⟩, ⟨.tup [], []⟩, ⟨.tup [], []⟩, ⟨.tup [], []⟩, ⟨.tup [], []⟩, ⟨.tup [], []⟩, ⟨.tup [], []⟩, ⟨.tup [], []⟩, ⟨.tup [], []⟩, ⟨.tup [], []⟩, ⟨.tup [], []⟩, ⟨.d (.bool false), []⟩, ⟨.d (.bool false), []⟩] <| Rd <| kS_nrm <| Runs.ret ?_
   obtain rfl := Option.some.inj h
   exact ⟨Out.ret_ne, (by kernel_rfl)⟩
 | false =>
  replace h := ite_f hb_1 h
  refine Rc 27 [⟨.tup [], []⟩, ⟨.tup [], []⟩, ⟨.d (.bool false), []⟩, ⟨.d (.bool false), []⟩, ⟨.tup [], []⟩, ⟨.tup [], []⟩, ⟨.d (.bool false), []⟩, ⟨.d (.bool false), []⟩, ⟨.tup [], []⟩, ⟨.tup [], []⟩, ⟨.d (.bool false), []⟩, ⟨.d (.bool false), []⟩, ⟨.tup [], []⟩, ⟨.tup [], []⟩, ⟨.tup [], []⟩, ⟨.tup [], []⟩, ⟨.tup [], []⟩, ⟨.tup [], []⟩, ⟨.tup [], []⟩, ⟨.tup [], []⟩, ⟨.tup [], []⟩, ⟨.tup [], []⟩, ⟨.tup [], []⟩, ⟨.tup [], []⟩, ⟨.tup [], []⟩, ⟨.d (.bool false), []⟩, ⟨.d (.bool false), []⟩] <| Rd <| kS_nrm <| Runs.ret ?_
  obtain rfl := Option.some.inj h
  exact ⟨Out.ret_ne, (by kernel_rfl)⟩
theorem hansomlaw06_CodeOwn_L (x_ : Inst) (y_ : Inst) (r : Bool) (h : hansomlaw06_CodeOwn x_ y_ = some r) : L 4 [.d (Inst.d x_), .d (Inst.d y_)] = some (.d (.bool r), [.d (Inst.d x_), .d (Inst.d y_)]) := by
 obtain ⟨p, ⟨hne, hf⟩, hr⟩ := hansomlaw06_CodeOwn_ok x_ y_ r h
 obtain ⟨k, hk⟩ := run_of (F := F4) (args := [.d (Inst.d x_), .d (Inst.d y_)]) (ap := [.d (Inst.d x_), .d (Inst.d y_)]) (bx0 := updW (fun _ => none) []) rfl rfl (by kernel_rfl) ⟨p, ⟨hne, hf⟩, hr⟩
 exact lim_run (k := k) rfl hk
end Go.Es.Cow
