/- The interpreter answers as plain Lean does: part 1. No condition. -/
import Derived.Test.YtncfbghdnnhfiaaIaaF
import Derived.Test.YtncfbghdnnhfiaaIaaP
import Derived.KernelRfl
set_option linter.unusedVariables false
set_option linter.unusedSimpArgs false
set_option maxRecDepth 100000
set_option maxHeartbeats 4000000
namespace Go.Es.Iaa
def isa_mod_Q (name_ : Int) (a_ : Int) (b_ : Int) (r : (Row × Bool)) (p : Out × St) : Prop := (∀ i, p.1 ≠ .exit i) ∧ finF F67 [.d (.int .i64 name_), .d (.int .i64 a_), .d (.int .i64 b_)] p.2 = some (.tup [.d (Row.d r.1), .d (.bool r.2)], [.d (.int .i64 name_), .d (.int .i64 a_), .d (.int .i64 b_)])
theorem isa_mod_ok (name_ : Int) (a_ : Int) (b_ : Int) (r : (Row × Bool)) (h : isa_mod name_ a_ b_ = some r) : Runs L F67.body ⟨tmOf [.d (.int .i64 name_), .d (.int .i64 a_), .d (.int .i64 b_)] 0, updW (fun _ => none) []⟩ (isa_mod_Q name_ a_ b_ r) := by
 unfold isa_mod at h
 refine Sq <| Ro <| Rc 2 [⟨.ptr [6] 0 0, [([6], some (.cells [.d (.int .i64 0), .d (.int .i64 0), .d (.int .i64 0), .d (.bool false)] 0))]⟩, ⟨.d (.bool false), []⟩] <| Rd <| kS_nrm <| Sq <| Ro <| Rc 6 [⟨.d (.int .i64 name_), []⟩, ⟨.d (.int .i64 a_), []⟩, ⟨.d (.int .i64 b_), []⟩, ⟨.d (.agg [.int .i64 name_, .int .i64 a_, .int .i64 b_, .bool true]), []⟩, ⟨.tup [], [([6], some (.cells [.d (.int .i64 name_), .d (.int .i64 a_), .d (.int .i64 b_), .d (.bool true)] 0))]⟩, ⟨.d (.bool true), []⟩] <| Rd <| kS_nrm <| Runs.ret ?_
 obtain rfl := Option.some.inj h
 exact ⟨Out.ret_ne, (by kernel_rfl)⟩
theorem isa_mod_L (name_ : Int) (a_ : Int) (b_ : Int) (r : (Row × Bool)) (h : isa_mod name_ a_ b_ = some r) : L 67 [.d (.int .i64 name_), .d (.int .i64 a_), .d (.int .i64 b_)] = some (.tup [.d (Row.d r.1), .d (.bool r.2)], [.d (.int .i64 name_), .d (.int .i64 a_), .d (.int .i64 b_)]) := by
 obtain ⟨p, ⟨hne, hf⟩, hr⟩ := isa_mod_ok name_ a_ b_ r h
 obtain ⟨k, hk⟩ := run_of (F := F67) (args := [.d (.int .i64 name_), .d (.int .i64 a_), .d (.int .i64 b_)]) (ap := [.d (.int .i64 name_), .d (.int .i64 a_), .d (.int .i64 b_)]) (bx0 := updW (fun _ => none) []) rfl rfl (by kernel_rfl) ⟨p, ⟨hne, hf⟩, hr⟩
 exact lim_run (k := k) rfl hk
def isa_row_Q (name_ : Int) (a_ : Int) (b_ : Int) (r : (Row × Bool)) (p : Out × St) : Prop := (∀ i, p.1 ≠ .exit i) ∧ finF F38 [.d (.int .i64 name_), .d (.int .i64 a_), .d (.int .i64 b_)] p.2 = some (.tup [.d (Row.d r.1), .d (.bool r.2)], [.d (.int .i64 name_), .d (.int .i64 a_), .d (.int .i64 b_)])
theorem isa_row_ok (name_ : Int) (a_ : Int) (b_ : Int) (r : (Row × Bool)) (h : isa_row name_ a_ b_ = some r) : Runs L F38.body ⟨tmOf [.d (.int .i64 name_), .d (.int .i64 a_), .d (.int .i64 b_)] 0, updW (fun _ => none) []⟩ (isa_row_Q name_ a_ b_ r) := by
 unfold isa_row at h
 refine Sq <| Ro <| Rc 2 [⟨.ptr [6] 0 0, [([6], some (.cells [.d (.int .i64 0), .d (.int .i64 0), .d (.int .i64 0), .d (.bool false)] 0))]⟩, ⟨.d (.bool false), []⟩] <| Rd <| kS_nrm <| Sq <| Ro <| Rc 6 [⟨.d (.int .i64 name_), []⟩, ⟨.d (.int .i64 a_), []⟩, ⟨.d (.int .i64 b_), []⟩, ⟨.d (.agg [.int .i64 name_, .int .i64 a_, .int .i64 b_, .bool false]), []⟩, ⟨.tup [], [([6], some (.cells [.d (.int .i64 name_), .d (.int .i64 a_), .d (.int .i64 b_), .d (.bool false)] 0))]⟩, ⟨.d (.bool true), []⟩] <| Rd <| kS_nrm <| Runs.ret ?_
 obtain rfl := Option.some.inj h
 exact ⟨Out.ret_ne, (by kernel_rfl)⟩
theorem isa_row_L (name_ : Int) (a_ : Int) (b_ : Int) (r : (Row × Bool)) (h : isa_row name_ a_ b_ = some r) : L 38 [.d (.int .i64 name_), .d (.int .i64 a_), .d (.int .i64 b_)] = some (.tup [.d (Row.d r.1), .d (.bool r.2)], [.d (.int .i64 name_), .d (.int .i64 a_), .d (.int .i64 b_)]) := by
 obtain ⟨p, ⟨hne, hf⟩, hr⟩ := isa_row_ok name_ a_ b_ r h
 obtain ⟨k, hk⟩ := run_of (F := F38) (args := [.d (.int .i64 name_), .d (.int .i64 a_), .d (.int .i64 b_)]) (ap := [.d (.int .i64 name_), .d (.int .i64 a_), .d (.int .i64 b_)]) (bx0 := updW (fun _ => none) []) rfl rfl (by kernel_rfl) ⟨p, ⟨hne, hf⟩, hr⟩
 exact lim_run (k := k) rfl hk
def isa_bad_Q  (r : (Row × Bool)) (p : Out × St) : Prop := (∀ i, p.1 ≠ .exit i) ∧ finF F39 [] p.2 = some (.tup [.d (Row.d r.1), .d (.bool r.2)], [])
theorem isa_bad_ok  (r : (Row × Bool)) (h : isa_bad = some r) : Runs L F39.body ⟨tmOf [] 0, updW (fun _ => none) []⟩ (isa_bad_Q  r) := by
 unfold isa_bad at h
 refine Sq <| Ro <| Rc 2 [⟨.ptr [0] 0 0, [([0], some (.cells [.d (.int .i64 0), .d (.int .i64 0), .d (.int .i64 0), .d (.bool false)] 0))]⟩, ⟨.d (.bool false), []⟩] <| Rd <| kS_nrm <| Sq <| Ro <| Rc 3 [⟨.d (.agg [.int .i64 0, .int .i64 0, .int .i64 0, .bool false]), []⟩, ⟨.tup [], [([0], some (.cells [.d (.int .i64 0), .d (.int .i64 0), .d (.int .i64 0), .d (.bool false)] 0))]⟩, ⟨.d (.bool false), []⟩] <| Rd <| kS_nrm <| Runs.ret ?_
 obtain rfl := Option.some.inj h
 exact ⟨Out.ret_ne, (by kernel_rfl)⟩
theorem isa_bad_L  (r : (Row × Bool)) (h : isa_bad = some r) : L 39 [] = some (.tup [.d (Row.d r.1), .d (.bool r.2)], []) := by
 obtain ⟨p, ⟨hne, hf⟩, hr⟩ := isa_bad_ok  r h
 obtain ⟨k, hk⟩ := run_of (F := F39) (args := []) (ap := []) (bx0 := updW (fun _ => none) []) rfl rfl (by kernel_rfl) ⟨p, ⟨hne, hf⟩, hr⟩
 exact lim_run (k := k) rfl hk
def isa_sums_h63 (b_2 : Row) (t47 : Int) (t48 : Bool) : St := ⟨tab [(2, .ptr [2] 0 0), (47, .d (.int .u8 t47)), (48, .d (.bool t48))], tabB [([2], some (.cells [.d (.int .i64 b_2.Name), .d (.int .i64 b_2.A), .d (.int .i64 b_2.B), .d (.bool b_2.Mod)] 0))]⟩
def isa_sums_h77 (b_2 : Row) (t47 : Int) (t56 : Bool) : St := ⟨tab [(2, .ptr [2] 0 0), (47, .d (.int .u8 t47)), (56, .d (.bool t56))], tabB [([2], some (.cells [.d (.int .i64 b_2.Name), .d (.int .i64 b_2.A), .d (.int .i64 b_2.B), .d (.bool b_2.Mod)] 0))]⟩
def isa_sums_Q (op_ : Int) (r : (Row × Bool)) (p : Out × St) : Prop := (∀ i, p.1 ≠ .exit i) ∧ finF F37 [.d (.int .u8 op_)] p.2 = some (.tup [.d (Row.d r.1), .d (.bool r.2)], [.d (.int .u8 op_)])
theorem isa_sums_j77_ok (op_ : Int) (b_2 : Row) (t47 : Int) (t56 : Bool) (r : (Row × Bool)) (h : isa_sums_j77 b_2 t47 t56 = some r) : Runs L F37b77 (isa_sums_h77 b_2 t47 t56) (kB 1 (kS L F37c106 (isa_sums_Q op_ r))) := by
 unfold isa_sums_j77 at h
 cases hb_10 : (t56 : Bool) with
 | true =>
  replace h := ite_t hb_10 h
  refine Ct <| Sq <| Ro ?_
  obtain ⟨r_8, hr_8, h⟩ := bind_s h
  have hc_8 := isa_row_L 10 23 0 r_8 hr_8
  refine Rt (some 60) (.callf 38) [] none [.d (.int .i64 10), .d (.int .i64 23), .d (.int .i64 0)] (.tup [.d (Row.d r_8.1), .d (.bool r_8.2)]) [] (cut_call (call_of (ws := []) (us := []) (by kernel_rfl) (by kernel_rfl) hc_8 (by kernel_rfl) (by kernel_rfl))) <| Rc 4 [⟨.d (Row.d r_8.1), []⟩, ⟨.d (.bool r_8.2), []⟩, ⟨.tup [], [([2], some (.cells [.d (.int .i64 r_8.1.Name), .d (.int .i64 r_8.1.A), .d (.int .i64 r_8.1.B), .d (.bool r_8.1.Mod)] 0))]⟩, ⟨.d (.bool r_8.2), []⟩] <| Rd <| kS_nrm <| Runs.ret <| kB_ret <| kS_ret ?_
  obtain rfl := Option.some.inj h
  exact ⟨Out.ret_ne, (by kernel_rfl)⟩
 | false =>
  replace h := ite_f hb_10 h
  refine Cf <| Sq <| Ro <| Rc 2 [⟨.d (.bool (t47 == 39)), []⟩, ⟨.d (.bool (t47 == 39)), []⟩] <| Rd <| kS_nrm ?_
  cases hb_11 : ((t47 == 39) : Bool) with
  | true =>
   replace h := ite_t hb_11 h
   refine Ct <| Sq <| Ro ?_
   obtain ⟨r_9, hr_9, h⟩ := bind_s h
   have hc_9 := isa_row_L 11 0 0 r_9 hr_9
   refine Rt (some 65) (.callf 38) [] none [.d (.int .i64 11), .d (.int .i64 0), .d (.int .i64 0)] (.tup [.d (Row.d r_9.1), .d (.bool r_9.2)]) [] (cut_call (call_of (ws := []) (us := []) (by kernel_rfl) (by kernel_rfl) hc_9 (by kernel_rfl) (by kernel_rfl))) <| Rc 4 [⟨.d (Row.d r_9.1), []⟩, ⟨.d (.bool r_9.2), []⟩, ⟨.tup [], [([2], some (.cells [.d (.int .i64 r_9.1.Name), .d (.int .i64 r_9.1.A), .d (.int .i64 r_9.1.B), .d (.bool r_9.1.Mod)] 0))]⟩, ⟨.d (.bool r_9.2), []⟩] <| Rd <| kS_nrm <| Runs.ret <| kB_ret <| kS_ret ?_
   obtain rfl := Option.some.inj h
   exact ⟨Out.ret_ne, (by kernel_rfl)⟩
  | false =>
   replace h := ite_f hb_11 h
   refine Cf <| Sq <| Ro <| Rc 2 [⟨.d (.bool (t47 == 47)), []⟩, ⟨.d (.bool (t47 == 47)), []⟩] <| Rd <| kS_nrm ?_
   cases hb_12 : ((t47 == 47) : Bool) with
   | true =>
    replace h := ite_t hb_12 h
    refine Ct <| Sq <| Ro ?_
    obtain ⟨r_10, hr_10, h⟩ := bind_s h
    have hc_10 := isa_row_L 12 0 0 r_10 hr_10
    refine Rt (some 70) (.callf 38) [] none [.d (.int .i64 12), .d (.int .i64 0), .d (.int .i64 0)] (.tup [.d (Row.d r_10.1), .d (.bool r_10.2)]) [] (cut_call (call_of (ws := []) (us := []) (by kernel_rfl) (by kernel_rfl) hc_10 (by kernel_rfl) (by kernel_rfl))) <| Rc 4 [⟨.d (Row.d r_10.1), []⟩, ⟨.d (.bool r_10.2), []⟩, ⟨.tup [], [([2], some (.cells [.d (.int .i64 r_10.1.Name), .d (.int .i64 r_10.1.A), .d (.int .i64 r_10.1.B), .d (.bool r_10.1.Mod)] 0))]⟩, ⟨.d (.bool r_10.2), []⟩] <| Rd <| kS_nrm <| Runs.ret <| kB_ret <| kS_ret ?_
    obtain rfl := Option.some.inj h
    exact ⟨Out.ret_ne, (by kernel_rfl)⟩
   | false =>
    replace h := ite_f hb_12 h
    refine Cf <| Sq <| Ro <| Rc 2 [⟨.d (.bool (t47 == 55)), []⟩, ⟨.d (.bool (t47 == 55)), []⟩] <| Rd <| kS_nrm ?_
    cases hb_13 : ((t47 == 55) : Bool) with
    | true =>
     replace h := ite_t hb_13 h
     refine Ct <| Sq <| Ro ?_
     obtain ⟨r_11, hr_11, h⟩ := bind_s h
     have hc_11 := isa_row_L 13 0 0 r_11 hr_11
     refine Rt (some 75) (.callf 38) [] none [.d (.int .i64 13), .d (.int .i64 0), .d (.int .i64 0)] (.tup [.d (Row.d r_11.1), .d (.bool r_11.2)]) [] (cut_call (call_of (ws := []) (us := []) (by kernel_rfl) (by kernel_rfl) hc_11 (by kernel_rfl) (by kernel_rfl))) <| Rc 4 [⟨.d (Row.d r_11.1), []⟩, ⟨.d (.bool r_11.2), []⟩, ⟨.tup [], [([2], some (.cells [.d (.int .i64 r_11.1.Name), .d (.int .i64 r_11.1.A), .d (.int .i64 r_11.1.B), .d (.bool r_11.1.Mod)] 0))]⟩, ⟨.d (.bool r_11.2), []⟩] <| Rd <| kS_nrm <| Runs.ret <| kB_ret <| kS_ret ?_
     obtain rfl := Option.some.inj h
     exact ⟨Out.ret_ne, (by kernel_rfl)⟩
    | false =>
     replace h := ite_f hb_13 h
     refine Cf <| Sq <| Ro <| Rc 2 [⟨.d (.bool (t47 == 63)), []⟩, ⟨.d (.bool (t47 == 63)), []⟩] <| Rd <| kS_nrm ?_
     cases hb_14 : ((t47 == 63) : Bool) with
     | true =>
      replace h := ite_t hb_14 h
      refine Ct <| Sq <| Ro ?_
      obtain ⟨r_12, hr_12, h⟩ := bind_s h
      have hc_12 := isa_row_L 14 0 0 r_12 hr_12
      refine Rt (some 80) (.callf 38) [] none [.d (.int .i64 14), .d (.int .i64 0), .d (.int .i64 0)] (.tup [.d (Row.d r_12.1), .d (.bool r_12.2)]) [] (cut_call (call_of (ws := []) (us := []) (by kernel_rfl) (by kernel_rfl) hc_12 (by kernel_rfl) (by kernel_rfl))) <| Rc 4 [⟨.d (Row.d r_12.1), []⟩, ⟨.d (.bool r_12.2), []⟩, ⟨.tup [], [([2], some (.cells [.d (.int .i64 r_12.1.Name), .d (.int .i64 r_12.1.A), .d (.int .i64 r_12.1.B), .d (.bool r_12.1.Mod)] 0))]⟩, ⟨.d (.bool r_12.2), []⟩] <| Rd <| kS_nrm <| Runs.ret <| kB_ret <| kS_ret ?_
      obtain rfl := Option.some.inj h
      exact ⟨Out.ret_ne, (by kernel_rfl)⟩
     | false =>
      replace h := ite_f hb_14 h
      refine Cf <| Runs.skip <| kB_nrm <| kS_nrm <| Sq <| Ro ?_
      obtain ⟨r_13, hr_13, h⟩ := bind_s h
      have hc_13 := isa_bad_L r_13 hr_13
      refine Rt (some 83) (.callf 39) [] none [] (.tup [.d (Row.d r_13.1), .d (.bool r_13.2)]) [] (cut_call (call_of (ws := []) (us := []) (by kernel_rfl) (by kernel_rfl) hc_13 (by kernel_rfl) (by kernel_rfl))) <| Rc 4 [⟨.d (Row.d r_13.1), []⟩, ⟨.d (.bool r_13.2), []⟩, ⟨.tup [], [([2], some (.cells [.d (.int .i64 r_13.1.Name), .d (.int .i64 r_13.1.A), .d (.int .i64 r_13.1.B), .d (.bool r_13.1.Mod)] 0))]⟩, ⟨.d (.bool r_13.2), []⟩] <| Rd <| kS_nrm <| Runs.ret ?_
      obtain rfl := Option.some.inj h
      exact ⟨Out.ret_ne, (by kernel_rfl)⟩
theorem isa_sums_j63_ok (op_ : Int) (b_2 : Row) (t47 : Int) (t48 : Bool) (r : (Row × Bool)) (h : isa_sums_j63 b_2 t47 t48 = some r) : Runs L F37b63 (isa_sums_h63 b_2 t47 t48) (kB 1 (kS L F37c106 (isa_sums_Q op_ r))) := by
 unfold isa_sums_j63 at h
 cases hb_8 : (t48 : Bool) with
 | true =>
  replace h := ite_t hb_8 h
  refine Ct <| Sq <| Ro ?_
  obtain ⟨r_7, hr_7, h⟩ := bind_s h
  have hc_7 := isa_row_L 9 23 0 r_7 hr_7
  refine Rt (some 53) (.callf 38) [] none [.d (.int .i64 9), .d (.int .i64 23), .d (.int .i64 0)] (.tup [.d (Row.d r_7.1), .d (.bool r_7.2)]) [] (cut_call (call_of (ws := []) (us := []) (by kernel_rfl) (by kernel_rfl) hc_7 (by kernel_rfl) (by kernel_rfl))) <| Rc 4 [⟨.d (Row.d r_7.1), []⟩, ⟨.d (.bool r_7.2), []⟩, ⟨.tup [], [([2], some (.cells [.d (.int .i64 r_7.1.Name), .d (.int .i64 r_7.1.A), .d (.int .i64 r_7.1.B), .d (.bool r_7.1.Mod)] 0))]⟩, ⟨.d (.bool r_7.2), []⟩] <| Rd <| kS_nrm <| Runs.ret <| kB_ret <| kS_ret ?_
  obtain rfl := Option.some.inj h
  exact ⟨Out.ret_ne, (by kernel_rfl)⟩
 | false =>
  replace h := ite_f hb_8 h
  refine Cf <| Sq <| Sq <| Ro <| Rc 2 [⟨.d (.bool (t47 == 7)), []⟩, ⟨.d (.bool (t47 == 7)), []⟩] <| Rd <| kS_nrm ?_
  cases hb_9 : ((t47 == 7) : Bool) with
  | true =>
   replace h := ite_t hb_9 h
   refine Ct <| Runs.skip <| kS_nrm <| Runs.canon (isa_sums_h77 b_2 t47 true) (Canon.nil (by kernel_rfl)) ?_
   exact isa_sums_j77_ok op_ b_2 t47 true r h
  | false =>
   replace h := ite_f hb_9 h
   refine Cf <| Sq <| Ro <| Rc 2 [⟨.d (.bool (t47 == 23)), []⟩, ⟨.d (.bool (t47 == 23)), []⟩] <| Rd <| kS_nrm ?_
   cases hb_15 : ((t47 == 23) : Bool) with
   | true =>
    replace h := ite_t hb_15 h
    refine Ct <| Runs.skip <| kS_nrm <| Runs.canon (isa_sums_h77 b_2 t47 true) (Canon.nil (by kernel_rfl)) ?_
    exact isa_sums_j77_ok op_ b_2 t47 true r h
   | false =>
    replace h := ite_f hb_15 h
    refine Cf <| Ro <| Rc 2 [⟨.d (.bool (t47 == 31)), []⟩, ⟨.d (.bool (t47 == 31)), []⟩] <| Rd <| kS_nrm <| Runs.canon (isa_sums_h77 b_2 t47 (t47 == 31)) (Canon.nil (by kernel_rfl)) ?_
    exact isa_sums_j77_ok op_ b_2 t47 (t47 == 31) r h
theorem isa_sums_ok (op_ : Int) (r : (Row × Bool)) (h : isa_sums op_ = some r) : Runs L F37.body ⟨tmOf [.d (.int .u8 op_)] 0, updW (fun _ => none) []⟩ (isa_sums_Q op_ r) := by
 unfold isa_sums at h
 refine Sq <| Ro <| Rc 2 [⟨.ptr [2] 0 0, [([2], some (.cells [.d (.int .i64 0), .d (.int .i64 0), .d (.int .i64 0), .d (.bool false)] 0))]⟩, ⟨.d (.bool false), []⟩] <| Rd <| kS_nrm <| Sq <| Ro <| Rc 5 [⟨.d (.int .u8 op_), []⟩, ⟨.d (.int .u8 (shrI .u8 op_ 3)), []⟩, ⟨.d (.int .i64 (IntKind.wrap .i64 (shrI .u8 op_ 3))), []⟩, ⟨.d (.int .i64 (IntKind.wrap .i64 (1 + (IntKind.wrap .i64 (shrI .u8 op_ 3))))), []⟩, ⟨.d (.int .i64 (IntKind.wrap .i64 (1 + (IntKind.wrap .i64 (shrI .u8 op_ 3))))), []⟩] <| Rd <| kS_nrm <| Sq <| Sq <| Ro <| Rc 2 [⟨.d (.int .u8 op_), []⟩, ⟨.d (.int .u8 (bitsOp .and .u8 op_ 7)), []⟩] <| Rd <| kS_nrm <| Runs.block <| Sq <| Ro <| Rc 2 [⟨.d (.bool ((bitsOp .and .u8 op_ 7) == 0)), []⟩, ⟨.d (.bool ((bitsOp .and .u8 op_ 7) == 0)), []⟩] <| Rd <| kS_nrm ?_
 cases hb_1 : (((bitsOp .and .u8 op_ 7) == 0) : Bool) with
 | true =>
  replace h := ite_t hb_1 h
  refine Ct <| Sq <| Ro <| Rc 1 [⟨.d (.int .i64 (IntKind.wrap .i64 (1 + (IntKind.wrap .i64 (shrI .u8 op_ 3))))), []⟩] ?_
  obtain ⟨r_1, hr_1, h⟩ := bind_s h
  have hc_1 := isa_mod_L (IntKind.wrap .i64 (1 + (IntKind.wrap .i64 (shrI .u8 op_ 3)))) 1 3 r_1 hr_1
  refine Rt (some 14) (.callf 67) [] none [.d (.int .i64 (IntKind.wrap .i64 (1 + (IntKind.wrap .i64 (shrI .u8 op_ 3))))), .d (.int .i64 1), .d (.int .i64 3)] (.tup [.d (Row.d r_1.1), .d (.bool r_1.2)]) [] (cut_call (call_of (ws := []) (us := []) (by kernel_rfl) (by kernel_rfl) hc_1 (by kernel_rfl) (by kernel_rfl))) <| Rc 4 [⟨.d (Row.d r_1.1), []⟩, ⟨.d (.bool r_1.2), []⟩, ⟨.tup [], [([2], some (.cells [.d (.int .i64 r_1.1.Name), .d (.int .i64 r_1.1.A), .d (.int .i64 r_1.1.B), .d (.bool r_1.1.Mod)] 0))]⟩, ⟨.d (.bool r_1.2), []⟩] <| Rd <| kS_nrm <| Runs.ret <| kB_ret <| kS_ret ?_
  obtain rfl := Option.some.inj h
  exact ⟨Out.ret_ne, (by kernel_rfl)⟩
 | false =>
  replace h := ite_f hb_1 h
  refine Cf <| Sq <| Ro <| Rc 2 [⟨.d (.bool ((bitsOp .and .u8 op_ 7) == 1)), []⟩, ⟨.d (.bool ((bitsOp .and .u8 op_ 7) == 1)), []⟩] <| Rd <| kS_nrm ?_
  cases hb_2 : (((bitsOp .and .u8 op_ 7) == 1) : Bool) with
  | true =>
   replace h := ite_t hb_2 h
   refine Ct <| Sq <| Ro <| Rc 1 [⟨.d (.int .i64 (IntKind.wrap .i64 (1 + (IntKind.wrap .i64 (shrI .u8 op_ 3))))), []⟩] ?_
   obtain ⟨r_2, hr_2, h⟩ := bind_s h
   have hc_2 := isa_mod_L (IntKind.wrap .i64 (1 + (IntKind.wrap .i64 (shrI .u8 op_ 3)))) 2 4 r_2 hr_2
   refine Rt (some 20) (.callf 67) [] none [.d (.int .i64 (IntKind.wrap .i64 (1 + (IntKind.wrap .i64 (shrI .u8 op_ 3))))), .d (.int .i64 2), .d (.int .i64 4)] (.tup [.d (Row.d r_2.1), .d (.bool r_2.2)]) [] (cut_call (call_of (ws := []) (us := []) (by kernel_rfl) (by kernel_rfl) hc_2 (by kernel_rfl) (by kernel_rfl))) <| Rc 4 [⟨.d (Row.d r_2.1), []⟩, ⟨.d (.bool r_2.2), []⟩, ⟨.tup [], [([2], some (.cells [.d (.int .i64 r_2.1.Name), .d (.int .i64 r_2.1.A), .d (.int .i64 r_2.1.B), .d (.bool r_2.1.Mod)] 0))]⟩, ⟨.d (.bool r_2.2), []⟩] <| Rd <| kS_nrm <| Runs.ret <| kB_ret <| kS_ret ?_
   obtain rfl := Option.some.inj h
   exact ⟨Out.ret_ne, (by kernel_rfl)⟩
  | false =>
   replace h := ite_f hb_2 h
   refine Cf <| Sq <| Ro <| Rc 2 [⟨.d (.bool ((bitsOp .and .u8 op_ 7) == 2)), []⟩, ⟨.d (.bool ((bitsOp .and .u8 op_ 7) == 2)), []⟩] <| Rd <| kS_nrm ?_
   cases hb_3 : (((bitsOp .and .u8 op_ 7) == 2) : Bool) with
   | true =>
    replace h := ite_t hb_3 h
    refine Ct <| Sq <| Ro <| Rc 1 [⟨.d (.int .i64 (IntKind.wrap .i64 (1 + (IntKind.wrap .i64 (shrI .u8 op_ 3))))), []⟩] ?_
    obtain ⟨r_3, hr_3, h⟩ := bind_s h
    have hc_3 := isa_mod_L (IntKind.wrap .i64 (1 + (IntKind.wrap .i64 (shrI .u8 op_ 3)))) 3 1 r_3 hr_3
    refine Rt (some 26) (.callf 67) [] none [.d (.int .i64 (IntKind.wrap .i64 (1 + (IntKind.wrap .i64 (shrI .u8 op_ 3))))), .d (.int .i64 3), .d (.int .i64 1)] (.tup [.d (Row.d r_3.1), .d (.bool r_3.2)]) [] (cut_call (call_of (ws := []) (us := []) (by kernel_rfl) (by kernel_rfl) hc_3 (by kernel_rfl) (by kernel_rfl))) <| Rc 4 [⟨.d (Row.d r_3.1), []⟩, ⟨.d (.bool r_3.2), []⟩, ⟨.tup [], [([2], some (.cells [.d (.int .i64 r_3.1.Name), .d (.int .i64 r_3.1.A), .d (.int .i64 r_3.1.B), .d (.bool r_3.1.Mod)] 0))]⟩, ⟨.d (.bool r_3.2), []⟩] <| Rd <| kS_nrm <| Runs.ret <| kB_ret <| kS_ret ?_
    obtain rfl := Option.some.inj h
    exact ⟨Out.ret_ne, (by kernel_rfl)⟩
   | false =>
    replace h := ite_f hb_3 h
    refine Cf <| Sq <| Ro <| Rc 2 [⟨.d (.bool ((bitsOp .and .u8 op_ 7) == 3)), []⟩, ⟨.d (.bool ((bitsOp .and .u8 op_ 7) == 3)), []⟩] <| Rd <| kS_nrm ?_
    cases hb_4 : (((bitsOp .and .u8 op_ 7) == 3) : Bool) with
    | true =>
     replace h := ite_t hb_4 h
     refine Ct <| Sq <| Ro <| Rc 1 [⟨.d (.int .i64 (IntKind.wrap .i64 (1 + (IntKind.wrap .i64 (shrI .u8 op_ 3))))), []⟩] ?_
     obtain ⟨r_4, hr_4, h⟩ := bind_s h
     have hc_4 := isa_mod_L (IntKind.wrap .i64 (1 + (IntKind.wrap .i64 (shrI .u8 op_ 3)))) 4 2 r_4 hr_4
     refine Rt (some 32) (.callf 67) [] none [.d (.int .i64 (IntKind.wrap .i64 (1 + (IntKind.wrap .i64 (shrI .u8 op_ 3))))), .d (.int .i64 4), .d (.int .i64 2)] (.tup [.d (Row.d r_4.1), .d (.bool r_4.2)]) [] (cut_call (call_of (ws := []) (us := []) (by kernel_rfl) (by kernel_rfl) hc_4 (by kernel_rfl) (by kernel_rfl))) <| Rc 4 [⟨.d (Row.d r_4.1), []⟩, ⟨.d (.bool r_4.2), []⟩, ⟨.tup [], [([2], some (.cells [.d (.int .i64 r_4.1.Name), .d (.int .i64 r_4.1.A), .d (.int .i64 r_4.1.B), .d (.bool r_4.1.Mod)] 0))]⟩, ⟨.d (.bool r_4.2), []⟩] <| Rd <| kS_nrm <| Runs.ret <| kB_ret <| kS_ret ?_
     obtain rfl := Option.some.inj h
     exact ⟨Out.ret_ne, (by kernel_rfl)⟩
    | false =>
     replace h := ite_f hb_4 h
     refine Cf <| Sq <| Ro <| Rc 2 [⟨.d (.bool ((bitsOp .and .u8 op_ 7) == 4)), []⟩, ⟨.d (.bool ((bitsOp .and .u8 op_ 7) == 4)), []⟩] <| Rd <| kS_nrm ?_
     cases hb_5 : (((bitsOp .and .u8 op_ 7) == 4) : Bool) with
     | true =>
      replace h := ite_t hb_5 h
      refine Ct <| Sq <| Ro <| Rc 1 [⟨.d (.int .i64 (IntKind.wrap .i64 (1 + (IntKind.wrap .i64 (shrI .u8 op_ 3))))), []⟩] ?_
      obtain ⟨r_5, hr_5, h⟩ := bind_s h
      have hc_5 := isa_row_L (IntKind.wrap .i64 (1 + (IntKind.wrap .i64 (shrI .u8 op_ 3)))) 14 6 r_5 hr_5
      refine Rt (some 38) (.callf 38) [] none [.d (.int .i64 (IntKind.wrap .i64 (1 + (IntKind.wrap .i64 (shrI .u8 op_ 3))))), .d (.int .i64 14), .d (.int .i64 6)] (.tup [.d (Row.d r_5.1), .d (.bool r_5.2)]) [] (cut_call (call_of (ws := []) (us := []) (by kernel_rfl) (by kernel_rfl) hc_5 (by kernel_rfl) (by kernel_rfl))) <| Rc 4 [⟨.d (Row.d r_5.1), []⟩, ⟨.d (.bool r_5.2), []⟩, ⟨.tup [], [([2], some (.cells [.d (.int .i64 r_5.1.Name), .d (.int .i64 r_5.1.A), .d (.int .i64 r_5.1.B), .d (.bool r_5.1.Mod)] 0))]⟩, ⟨.d (.bool r_5.2), []⟩] <| Rd <| kS_nrm <| Runs.ret <| kB_ret <| kS_ret ?_
      obtain rfl := Option.some.inj h
      exact ⟨Out.ret_ne, (by kernel_rfl)⟩
     | false =>
      replace h := ite_f hb_5 h
      refine Cf <| Sq <| Ro <| Rc 2 [⟨.d (.bool ((bitsOp .and .u8 op_ 7) == 5)), []⟩, ⟨.d (.bool ((bitsOp .and .u8 op_ 7) == 5)), []⟩] <| Rd <| kS_nrm ?_
      cases hb_6 : (((bitsOp .and .u8 op_ 7) == 5) : Bool) with
      | true =>
       replace h := ite_t hb_6 h
       refine Ct <| Sq <| Ro <| Rc 1 [⟨.d (.int .i64 (IntKind.wrap .i64 (1 + (IntKind.wrap .i64 (shrI .u8 op_ 3))))), []⟩] ?_
       obtain ⟨r_6, hr_6, h⟩ := bind_s h
       have hc_6 := isa_row_L (IntKind.wrap .i64 (1 + (IntKind.wrap .i64 (shrI .u8 op_ 3)))) 16 7 r_6 hr_6
       refine Rt (some 44) (.callf 38) [] none [.d (.int .i64 (IntKind.wrap .i64 (1 + (IntKind.wrap .i64 (shrI .u8 op_ 3))))), .d (.int .i64 16), .d (.int .i64 7)] (.tup [.d (Row.d r_6.1), .d (.bool r_6.2)]) [] (cut_call (call_of (ws := []) (us := []) (by kernel_rfl) (by kernel_rfl) hc_6 (by kernel_rfl) (by kernel_rfl))) <| Rc 4 [⟨.d (Row.d r_6.1), []⟩, ⟨.d (.bool r_6.2), []⟩, ⟨.tup [], [([2], some (.cells [.d (.int .i64 r_6.1.Name), .d (.int .i64 r_6.1.A), .d (.int .i64 r_6.1.B), .d (.bool r_6.1.Mod)] 0))]⟩, ⟨.d (.bool r_6.2), []⟩] <| Rd <| kS_nrm <| Runs.ret <| kB_ret <| kS_ret ?_
       obtain rfl := Option.some.inj h
       exact ⟨Out.ret_ne, (by kernel_rfl)⟩
      | false =>
       replace h := ite_f hb_6 h
       refine Cf <| Runs.skip <| kB_nrm <| kS_nrm <| Sq <| Sq <| Ro <| Rc 1 [⟨.d (.int .u8 op_), []⟩] <| Rd <| kS_nrm <| Runs.block <| Sq <| Sq <| Ro <| Rc 2 [⟨.d (.bool (op_ == 6)), []⟩, ⟨.d (.bool (op_ == 6)), []⟩] <| Rd <| kS_nrm ?_
       cases hb_7 : ((op_ == 6) : Bool) with
       | true =>
        replace h := ite_t hb_7 h
        refine Ct <| Runs.skip <| kS_nrm <| Runs.canon (isa_sums_h63 ({ Name := 0, A := 0, B := 0, Mod := false } : Row) op_ true) (Canon.nil (by kernel_rfl)) ?_
        exact isa_sums_j63_ok op_ ({ Name := 0, A := 0, B := 0, Mod := false } : Row) op_ true r h
       | false =>
        replace h := ite_f hb_7 h
        refine Cf <| Sq <| Ro <| Rc 2 [⟨.d (.bool (op_ == 14)), []⟩, ⟨.d (.bool (op_ == 14)), []⟩] <| Rd <| kS_nrm ?_
        cases hb_16 : ((op_ == 14) : Bool) with
        | true =>
         replace h := ite_t hb_16 h
         refine Ct <| Runs.skip <| kS_nrm <| Runs.canon (isa_sums_h63 ({ Name := 0, A := 0, B := 0, Mod := false } : Row) op_ true) (Canon.nil (by kernel_rfl)) ?_
         exact isa_sums_j63_ok op_ ({ Name := 0, A := 0, B := 0, Mod := false } : Row) op_ true r h
        | false =>
         replace h := ite_f hb_16 h
         refine Cf <| Sq <| Ro <| Rc 2 [⟨.d (.bool (op_ == 22)), []⟩, ⟨.d (.bool (op_ == 22)), []⟩] <| Rd <| kS_nrm ?_
         cases hb_17 : ((op_ == 22) : Bool) with
         | true =>
          replace h := ite_t hb_17 h
          refine Ct <| Runs.skip <| kS_nrm <| Runs.canon (isa_sums_h63 ({ Name := 0, A := 0, B := 0, Mod := false } : Row) op_ true) (Canon.nil (by kernel_rfl)) ?_
          exact isa_sums_j63_ok op_ ({ Name := 0, A := 0, B := 0, Mod := false } : Row) op_ true r h
         | false =>
          replace h := ite_f hb_17 h
          refine Cf <| Ro <| Rc 2 [⟨.d (.bool (op_ == 30)), []⟩, ⟨.d (.bool (op_ == 30)), []⟩] <| Rd <| kS_nrm <| Runs.canon (isa_sums_h63 ({ Name := 0, A := 0, B := 0, Mod := false } : Row) op_ (op_ == 30)) (Canon.nil (by kernel_rfl)) ?_
          exact isa_sums_j63_ok op_ ({ Name := 0, A := 0, B := 0, Mod := false } : Row) op_ (op_ == 30) r h
theorem isa_sums_L (op_ : Int) (r : (Row × Bool)) (h : isa_sums op_ = some r) : L 37 [.d (.int .u8 op_)] = some (.tup [.d (Row.d r.1), .d (.bool r.2)], [.d (.int .u8 op_)]) := by
 obtain ⟨p, ⟨hne, hf⟩, hr⟩ := isa_sums_ok op_ r h
 obtain ⟨k, hk⟩ := run_of (F := F37) (args := [.d (.int .u8 op_)]) (ap := [.d (.int .u8 op_)]) (bx0 := updW (fun _ => none) []) rfl rfl (by kernel_rfl) ⟨p, ⟨hne, hf⟩, hr⟩
 exact lim_run (k := k) rfl hk
def isa_moves_Q (op_ : Int) (reg_ : Int) (r : (Row × Bool)) (p : Out × St) : Prop := (∀ i, p.1 ≠ .exit i) ∧ finF F40 [.d (.int .u8 op_), .d (.int .i64 reg_)] p.2 = some (.tup [.d (Row.d r.1), .d (.bool r.2)], [.d (.int .u8 op_), .d (.int .i64 reg_)])
theorem isa_moves_ok (op_ : Int) (reg_ : Int) (r : (Row × Bool)) (h : isa_moves op_ reg_ = some r) : Runs L F40.body ⟨tmOf [.d (.int .u8 op_), .d (.int .i64 reg_)] 0, updW (fun _ => none) []⟩ (isa_moves_Q op_ reg_ r) := by
 unfold isa_moves at h
 refine Sq <| Ro <| Rc 2 [⟨.ptr [4] 0 0, [([4], some (.cells [.d (.int .i64 0), .d (.int .i64 0), .d (.int .i64 0), .d (.bool false)] 0))]⟩, ⟨.d (.bool false), []⟩] <| Rd <| kS_nrm <| Sq <| Sq <| Ro <| Rc 1 [⟨.d (.int .u8 op_), []⟩] <| Rd <| kS_nrm <| Runs.block <| Sq <| Ro <| Rc 2 [⟨.d (.bool (op_ == 128)), []⟩, ⟨.d (.bool (op_ == 128)), []⟩] <| Rd <| kS_nrm ?_
 cases hb_1 : ((op_ == 128) : Bool) with
 | true =>
  replace h := ite_t hb_1 h
  refine Ct <| Sq <| Ro <| Rc 2 [⟨.d (.int .i64 reg_), []⟩, ⟨.d (.int .i64 (IntKind.wrap .i64 (1 + reg_))), []⟩] ?_
  obtain ⟨r_1, hr_1, h⟩ := bind_s h
  have hc_1 := isa_mod_L (IntKind.wrap .i64 (1 + reg_)) 1 6 r_1 hr_1
  refine Rt (some 11) (.callf 67) [] none [.d (.int .i64 (IntKind.wrap .i64 (1 + reg_))), .d (.int .i64 1), .d (.int .i64 6)] (.tup [.d (Row.d r_1.1), .d (.bool r_1.2)]) [] (cut_call (call_of (ws := []) (us := []) (by kernel_rfl) (by kernel_rfl) hc_1 (by kernel_rfl) (by kernel_rfl))) <| Rc 4 [⟨.d (Row.d r_1.1), []⟩, ⟨.d (.bool r_1.2), []⟩, ⟨.tup [], [([4], some (.cells [.d (.int .i64 r_1.1.Name), .d (.int .i64 r_1.1.A), .d (.int .i64 r_1.1.B), .d (.bool r_1.1.Mod)] 0))]⟩, ⟨.d (.bool r_1.2), []⟩] <| Rd <| kS_nrm <| Runs.ret <| kB_ret <| kS_ret ?_
  obtain rfl := Option.some.inj h
  exact ⟨Out.ret_ne, (by kernel_rfl)⟩
 | false =>
  replace h := ite_f hb_1 h
  refine Cf <| Sq <| Ro <| Rc 2 [⟨.d (.bool (op_ == 129)), []⟩, ⟨.d (.bool (op_ == 129)), []⟩] <| Rd <| kS_nrm ?_
  cases hb_2 : ((op_ == 129) : Bool) with
  | true =>
   replace h := ite_t hb_2 h
   refine Ct <| Sq <| Ro <| Rc 2 [⟨.d (.int .i64 reg_), []⟩, ⟨.d (.int .i64 (IntKind.wrap .i64 (1 + reg_))), []⟩] ?_
   obtain ⟨r_2, hr_2, h⟩ := bind_s h
   have hc_2 := isa_mod_L (IntKind.wrap .i64 (1 + reg_)) 2 7 r_2 hr_2
   refine Rt (some 18) (.callf 67) [] none [.d (.int .i64 (IntKind.wrap .i64 (1 + reg_))), .d (.int .i64 2), .d (.int .i64 7)] (.tup [.d (Row.d r_2.1), .d (.bool r_2.2)]) [] (cut_call (call_of (ws := []) (us := []) (by kernel_rfl) (by kernel_rfl) hc_2 (by kernel_rfl) (by kernel_rfl))) <| Rc 4 [⟨.d (Row.d r_2.1), []⟩, ⟨.d (.bool r_2.2), []⟩, ⟨.tup [], [([4], some (.cells [.d (.int .i64 r_2.1.Name), .d (.int .i64 r_2.1.A), .d (.int .i64 r_2.1.B), .d (.bool r_2.1.Mod)] 0))]⟩, ⟨.d (.bool r_2.2), []⟩] <| Rd <| kS_nrm <| Runs.ret <| kB_ret <| kS_ret ?_
   obtain rfl := Option.some.inj h
   exact ⟨Out.ret_ne, (by kernel_rfl)⟩
  | false =>
   replace h := ite_f hb_2 h
   refine Cf <| Sq <| Ro <| Rc 2 [⟨.d (.bool (op_ == 131)), []⟩, ⟨.d (.bool (op_ == 131)), []⟩] <| Rd <| kS_nrm ?_
   cases hb_3 : ((op_ == 131) : Bool) with
   | true =>
    replace h := ite_t hb_3 h
    refine Ct <| Sq <| Sq <| Ro <| Rc 3 [⟨.d (.int .i64 reg_), []⟩, ⟨.d (.bool (reg_ == 1)), []⟩, ⟨.d (.bool (reg_ == 1)), []⟩] ?_
    cases hb_4 : ((reg_ == 1) : Bool) with
    | true =>
     replace h := ite_t hb_4 h
     refine Rc 7 [⟨.tup [], []⟩, ⟨.tup [], []⟩, ⟨.d (.bool true), []⟩, ⟨.d (.bool true), []⟩, ⟨.tup [], []⟩, ⟨.tup [], []⟩, ⟨.d (.bool true), []⟩] <| Rd <| kS_nrm <| Ct <| Sq <| Ro ?_
     obtain ⟨r_3, hr_3, h⟩ := bind_s h
     have hc_3 := isa_bad_L r_3 hr_3
     refine Rt (some 33) (.callf 39) [] none [] (.tup [.d (Row.d r_3.1), .d (.bool r_3.2)]) [] (cut_call (call_of (ws := []) (us := []) (by kernel_rfl) (by kernel_rfl) hc_3 (by kernel_rfl) (by kernel_rfl))) <| Rc 4 [⟨.d (Row.d r_3.1), []⟩, ⟨.d (.bool r_3.2), []⟩, ⟨.tup [], [([4], some (.cells [.d (.int .i64 r_3.1.Name), .d (.int .i64 r_3.1.A), .d (.int .i64 r_3.1.B), .d (.bool r_3.1.Mod)] 0))]⟩, ⟨.d (.bool r_3.2), []⟩] <| Rd <| kS_nrm <| Runs.ret <| kS_ret <| kB_ret <| kS_ret ?_
     obtain rfl := Option.some.inj h
     exact ⟨Out.ret_ne, (by kernel_rfl)⟩
    | false =>
     replace h := ite_f hb_4 h
     refine Rc 4 [⟨.d (.int .i64 reg_), []⟩, ⟨.d (.bool (reg_ == 4)), []⟩, ⟨.d (.bool (reg_ == 4)), []⟩, ⟨.d (.bool (reg_ == 4)), []⟩] ?_
     cases hb_5 : ((reg_ == 4) : Bool) with
     | true =>
      replace h := ite_t hb_5 h
      refine Rc 3 [⟨.tup [], []⟩, ⟨.tup [], []⟩, ⟨.d (.bool true), []⟩] <| Rd <| kS_nrm <| Ct <| Sq <| Ro ?_
      obtain ⟨r_4, hr_4, h⟩ := bind_s h
      have hc_4 := isa_bad_L r_4 hr_4
      refine Rt (some 33) (.callf 39) [] none [] (.tup [.d (Row.d r_4.1), .d (.bool r_4.2)]) [] (cut_call (call_of (ws := []) (us := []) (by kernel_rfl) (by kernel_rfl) hc_4 (by kernel_rfl) (by kernel_rfl))) <| Rc 4 [⟨.d (Row.d r_4.1), []⟩, ⟨.d (.bool r_4.2), []⟩, ⟨.tup [], [([4], some (.cells [.d (.int .i64 r_4.1.Name), .d (.int .i64 r_4.1.A), .d (.int .i64 r_4.1.B), .d (.bool r_4.1.Mod)] 0))]⟩, ⟨.d (.bool r_4.2), []⟩] <| Rd <| kS_nrm <| Runs.ret <| kS_ret <| kB_ret <| kS_ret ?_
      obtain rfl := Option.some.inj h
      exact ⟨Out.ret_ne, (by kernel_rfl)⟩
     | false =>
      replace h := ite_f hb_5 h
      refine Rc 3 [⟨.d (.int .i64 reg_), []⟩, ⟨.d (.bool (reg_ == 6)), []⟩, ⟨.d (.bool (reg_ == 6)), []⟩] <| Rd <| kS_nrm ?_
      cases hb_6 : ((reg_ == 6) : Bool) with
      | true =>
       replace h := ite_t hb_6 h
       refine Ct <| Sq <| Ro ?_
       obtain ⟨r_5, hr_5, h⟩ := bind_s h
       have hc_5 := isa_bad_L r_5 hr_5
       refine Rt (some 33) (.callf 39) [] none [] (.tup [.d (Row.d r_5.1), .d (.bool r_5.2)]) [] (cut_call (call_of (ws := []) (us := []) (by kernel_rfl) (by kernel_rfl) hc_5 (by kernel_rfl) (by kernel_rfl))) <| Rc 4 [⟨.d (Row.d r_5.1), []⟩, ⟨.d (.bool r_5.2), []⟩, ⟨.tup [], [([4], some (.cells [.d (.int .i64 r_5.1.Name), .d (.int .i64 r_5.1.A), .d (.int .i64 r_5.1.B), .d (.bool r_5.1.Mod)] 0))]⟩, ⟨.d (.bool r_5.2), []⟩] <| Rd <| kS_nrm <| Runs.ret <| kS_ret <| kB_ret <| kS_ret ?_
       obtain rfl := Option.some.inj h
       exact ⟨Out.ret_ne, (by kernel_rfl)⟩
      | false =>
       replace h := ite_f hb_6 h
       refine Cf <| Runs.skip <| kS_nrm <| Sq <| Ro <| Rc 2 [⟨.d (.int .i64 reg_), []⟩, ⟨.d (.int .i64 (IntKind.wrap .i64 (1 + reg_))), []⟩] ?_
       obtain ⟨r_6, hr_6, h⟩ := bind_s h
       have hc_6 := isa_mod_L (IntKind.wrap .i64 (1 + reg_)) 2 8 r_6 hr_6
       refine Rt (some 38) (.callf 67) [] none [.d (.int .i64 (IntKind.wrap .i64 (1 + reg_))), .d (.int .i64 2), .d (.int .i64 8)] (.tup [.d (Row.d r_6.1), .d (.bool r_6.2)]) [] (cut_call (call_of (ws := []) (us := []) (by kernel_rfl) (by kernel_rfl) hc_6 (by kernel_rfl) (by kernel_rfl))) <| Rc 4 [⟨.d (Row.d r_6.1), []⟩, ⟨.d (.bool r_6.2), []⟩, ⟨.tup [], [([4], some (.cells [.d (.int .i64 r_6.1.Name), .d (.int .i64 r_6.1.A), .d (.int .i64 r_6.1.B), .d (.bool r_6.1.Mod)] 0))]⟩, ⟨.d (.bool r_6.2), []⟩] <| Rd <| kS_nrm <| Runs.ret <| kB_ret <| kS_ret ?_
       obtain rfl := Option.some.inj h
       exact ⟨Out.ret_ne, (by kernel_rfl)⟩
   | false =>
    replace h := ite_f hb_3 h
    refine Cf <| Sq <| Ro <| Rc 2 [⟨.d (.bool (op_ == 132)), []⟩, ⟨.d (.bool (op_ == 132)), []⟩] <| Rd <| kS_nrm ?_
    cases hb_7 : ((op_ == 132) : Bool) with
    | true =>
     replace h := ite_t hb_7 h
     refine Ct <| Sq <| Ro ?_
     obtain ⟨r_7, hr_7, h⟩ := bind_s h
     have hc_7 := isa_mod_L 33 1 3 r_7 hr_7
     refine Rt (some 43) (.callf 67) [] none [.d (.int .i64 33), .d (.int .i64 1), .d (.int .i64 3)] (.tup [.d (Row.d r_7.1), .d (.bool r_7.2)]) [] (cut_call (call_of (ws := []) (us := []) (by kernel_rfl) (by kernel_rfl) hc_7 (by kernel_rfl) (by kernel_rfl))) <| Rc 4 [⟨.d (Row.d r_7.1), []⟩, ⟨.d (.bool r_7.2), []⟩, ⟨.tup [], [([4], some (.cells [.d (.int .i64 r_7.1.Name), .d (.int .i64 r_7.1.A), .d (.int .i64 r_7.1.B), .d (.bool r_7.1.Mod)] 0))]⟩, ⟨.d (.bool r_7.2), []⟩] <| Rd <| kS_nrm <| Runs.ret <| kB_ret <| kS_ret ?_
     obtain rfl := Option.some.inj h
     exact ⟨Out.ret_ne, (by kernel_rfl)⟩
    | false =>
     replace h := ite_f hb_7 h
     refine Cf <| Sq <| Ro <| Rc 2 [⟨.d (.bool (op_ == 133)), []⟩, ⟨.d (.bool (op_ == 133)), []⟩] <| Rd <| kS_nrm ?_
     cases hb_8 : ((op_ == 133) : Bool) with
     | true =>
      replace h := ite_t hb_8 h
      refine Ct <| Sq <| Ro ?_
      obtain ⟨r_8, hr_8, h⟩ := bind_s h
      have hc_8 := isa_mod_L 33 2 4 r_8 hr_8
      refine Rt (some 48) (.callf 67) [] none [.d (.int .i64 33), .d (.int .i64 2), .d (.int .i64 4)] (.tup [.d (Row.d r_8.1), .d (.bool r_8.2)]) [] (cut_call (call_of (ws := []) (us := []) (by kernel_rfl) (by kernel_rfl) hc_8 (by kernel_rfl) (by kernel_rfl))) <| Rc 4 [⟨.d (Row.d r_8.1), []⟩, ⟨.d (.bool r_8.2), []⟩, ⟨.tup [], [([4], some (.cells [.d (.int .i64 r_8.1.Name), .d (.int .i64 r_8.1.A), .d (.int .i64 r_8.1.B), .d (.bool r_8.1.Mod)] 0))]⟩, ⟨.d (.bool r_8.2), []⟩] <| Rd <| kS_nrm <| Runs.ret <| kB_ret <| kS_ret ?_
      obtain rfl := Option.some.inj h
      exact ⟨Out.ret_ne, (by kernel_rfl)⟩
     | false =>
      replace h := ite_f hb_8 h
      refine Cf <| Sq <| Ro <| Rc 2 [⟨.d (.bool (op_ == 134)), []⟩, ⟨.d (.bool (op_ == 134)), []⟩] <| Rd <| kS_nrm ?_
      cases hb_9 : ((op_ == 134) : Bool) with
      | true =>
       replace h := ite_t hb_9 h
       refine Ct <| Sq <| Ro ?_
       obtain ⟨r_9, hr_9, h⟩ := bind_s h
       have hc_9 := isa_mod_L 34 1 3 r_9 hr_9
       refine Rt (some 53) (.callf 67) [] none [.d (.int .i64 34), .d (.int .i64 1), .d (.int .i64 3)] (.tup [.d (Row.d r_9.1), .d (.bool r_9.2)]) [] (cut_call (call_of (ws := []) (us := []) (by kernel_rfl) (by kernel_rfl) hc_9 (by kernel_rfl) (by kernel_rfl))) <| Rc 4 [⟨.d (Row.d r_9.1), []⟩, ⟨.d (.bool r_9.2), []⟩, ⟨.tup [], [([4], some (.cells [.d (.int .i64 r_9.1.Name), .d (.int .i64 r_9.1.A), .d (.int .i64 r_9.1.B), .d (.bool r_9.1.Mod)] 0))]⟩, ⟨.d (.bool r_9.2), []⟩] <| Rd <| kS_nrm <| Runs.ret <| kB_ret <| kS_ret ?_
       obtain rfl := Option.some.inj h
       exact ⟨Out.ret_ne, (by kernel_rfl)⟩
      | false =>
       replace h := ite_f hb_9 h
       refine Cf <| Sq <| Ro <| Rc 2 [⟨.d (.bool (op_ == 135)), []⟩, ⟨.d (.bool (op_ == 135)), []⟩] <| Rd <| kS_nrm ?_
       cases hb_10 : ((op_ == 135) : Bool) with
       | true =>
        replace h := ite_t hb_10 h
        refine Ct <| Sq <| Ro ?_
        obtain ⟨r_10, hr_10, h⟩ := bind_s h
        have hc_10 := isa_mod_L 34 2 4 r_10 hr_10
        refine Rt (some 58) (.callf 67) [] none [.d (.int .i64 34), .d (.int .i64 2), .d (.int .i64 4)] (.tup [.d (Row.d r_10.1), .d (.bool r_10.2)]) [] (cut_call (call_of (ws := []) (us := []) (by kernel_rfl) (by kernel_rfl) hc_10 (by kernel_rfl) (by kernel_rfl))) <| Rc 4 [⟨.d (Row.d r_10.1), []⟩, ⟨.d (.bool r_10.2), []⟩, ⟨.tup [], [([4], some (.cells [.d (.int .i64 r_10.1.Name), .d (.int .i64 r_10.1.A), .d (.int .i64 r_10.1.B), .d (.bool r_10.1.Mod)] 0))]⟩, ⟨.d (.bool r_10.2), []⟩] <| Rd <| kS_nrm <| Runs.ret <| kB_ret <| kS_ret ?_
        obtain rfl := Option.some.inj h
        exact ⟨Out.ret_ne, (by kernel_rfl)⟩
       | false =>
        replace h := ite_f hb_10 h
        refine Cf <| Sq <| Ro <| Rc 2 [⟨.d (.bool (op_ == 136)), []⟩, ⟨.d (.bool (op_ == 136)), []⟩] <| Rd <| kS_nrm ?_
        cases hb_11 : ((op_ == 136) : Bool) with
        | true =>
         replace h := ite_t hb_11 h
         refine Ct <| Sq <| Ro ?_
         obtain ⟨r_11, hr_11, h⟩ := bind_s h
         have hc_11 := isa_mod_L 35 1 3 r_11 hr_11
         refine Rt (some 63) (.callf 67) [] none [.d (.int .i64 35), .d (.int .i64 1), .d (.int .i64 3)] (.tup [.d (Row.d r_11.1), .d (.bool r_11.2)]) [] (cut_call (call_of (ws := []) (us := []) (by kernel_rfl) (by kernel_rfl) hc_11 (by kernel_rfl) (by kernel_rfl))) <| Rc 4 [⟨.d (Row.d r_11.1), []⟩, ⟨.d (.bool r_11.2), []⟩, ⟨.tup [], [([4], some (.cells [.d (.int .i64 r_11.1.Name), .d (.int .i64 r_11.1.A), .d (.int .i64 r_11.1.B), .d (.bool r_11.1.Mod)] 0))]⟩, ⟨.d (.bool r_11.2), []⟩] <| Rd <| kS_nrm <| Runs.ret <| kB_ret <| kS_ret ?_
         obtain rfl := Option.some.inj h
         exact ⟨Out.ret_ne, (by kernel_rfl)⟩
        | false =>
         replace h := ite_f hb_11 h
         refine Cf <| Sq <| Ro <| Rc 2 [⟨.d (.bool (op_ == 137)), []⟩, ⟨.d (.bool (op_ == 137)), []⟩] <| Rd <| kS_nrm ?_
         cases hb_12 : ((op_ == 137) : Bool) with
         | true =>
          replace h := ite_t hb_12 h
          refine Ct <| Sq <| Ro ?_
          obtain ⟨r_12, hr_12, h⟩ := bind_s h
          have hc_12 := isa_mod_L 35 2 4 r_12 hr_12
          refine Rt (some 68) (.callf 67) [] none [.d (.int .i64 35), .d (.int .i64 2), .d (.int .i64 4)] (.tup [.d (Row.d r_12.1), .d (.bool r_12.2)]) [] (cut_call (call_of (ws := []) (us := []) (by kernel_rfl) (by kernel_rfl) hc_12 (by kernel_rfl) (by kernel_rfl))) <| Rc 4 [⟨.d (Row.d r_12.1), []⟩, ⟨.d (.bool r_12.2), []⟩, ⟨.tup [], [([4], some (.cells [.d (.int .i64 r_12.1.Name), .d (.int .i64 r_12.1.A), .d (.int .i64 r_12.1.B), .d (.bool r_12.1.Mod)] 0))]⟩, ⟨.d (.bool r_12.2), []⟩] <| Rd <| kS_nrm <| Runs.ret <| kB_ret <| kS_ret ?_
          obtain rfl := Option.some.inj h
          exact ⟨Out.ret_ne, (by kernel_rfl)⟩
         | false =>
          replace h := ite_f hb_12 h
          refine Cf <| Sq <| Ro <| Rc 2 [⟨.d (.bool (op_ == 138)), []⟩, ⟨.d (.bool (op_ == 138)), []⟩] <| Rd <| kS_nrm ?_
          cases hb_13 : ((op_ == 138) : Bool) with
          | true =>
           replace h := ite_t hb_13 h
           refine Ct <| Sq <| Ro ?_
           obtain ⟨r_13, hr_13, h⟩ := bind_s h
           have hc_13 := isa_mod_L 35 3 1 r_13 hr_13
           refine Rt (some 73) (.callf 67) [] none [.d (.int .i64 35), .d (.int .i64 3), .d (.int .i64 1)] (.tup [.d (Row.d r_13.1), .d (.bool r_13.2)]) [] (cut_call (call_of (ws := []) (us := []) (by kernel_rfl) (by kernel_rfl) hc_13 (by kernel_rfl) (by kernel_rfl))) <| Rc 4 [⟨.d (Row.d r_13.1), []⟩, ⟨.d (.bool r_13.2), []⟩, ⟨.tup [], [([4], some (.cells [.d (.int .i64 r_13.1.Name), .d (.int .i64 r_13.1.A), .d (.int .i64 r_13.1.B), .d (.bool r_13.1.Mod)] 0))]⟩, ⟨.d (.bool r_13.2), []⟩] <| Rd <| kS_nrm <| Runs.ret <| kB_ret <| kS_ret ?_
           obtain rfl := Option.some.inj h
           exact ⟨Out.ret_ne, (by kernel_rfl)⟩
          | false =>
           replace h := ite_f hb_13 h
           refine Cf <| Sq <| Ro <| Rc 2 [⟨.d (.bool (op_ == 139)), []⟩, ⟨.d (.bool (op_ == 139)), []⟩] <| Rd <| kS_nrm ?_
           cases hb_14 : ((op_ == 139) : Bool) with
           | true =>
            replace h := ite_t hb_14 h
            refine Ct <| Sq <| Ro ?_
            obtain ⟨r_14, hr_14, h⟩ := bind_s h
            have hc_14 := isa_mod_L 35 4 2 r_14 hr_14
            refine Rt (some 78) (.callf 67) [] none [.d (.int .i64 35), .d (.int .i64 4), .d (.int .i64 2)] (.tup [.d (Row.d r_14.1), .d (.bool r_14.2)]) [] (cut_call (call_of (ws := []) (us := []) (by kernel_rfl) (by kernel_rfl) hc_14 (by kernel_rfl) (by kernel_rfl))) <| Rc 4 [⟨.d (Row.d r_14.1), []⟩, ⟨.d (.bool r_14.2), []⟩, ⟨.tup [], [([4], some (.cells [.d (.int .i64 r_14.1.Name), .d (.int .i64 r_14.1.A), .d (.int .i64 r_14.1.B), .d (.bool r_14.1.Mod)] 0))]⟩, ⟨.d (.bool r_14.2), []⟩] <| Rd <| kS_nrm <| Runs.ret <| kB_ret <| kS_ret ?_
            obtain rfl := Option.some.inj h
            exact ⟨Out.ret_ne, (by kernel_rfl)⟩
           | false =>
            replace h := ite_f hb_14 h
            refine Cf <| Sq <| Ro <| Rc 2 [⟨.d (.bool (op_ == 140)), []⟩, ⟨.d (.bool (op_ == 140)), []⟩] <| Rd <| kS_nrm ?_
            cases hb_15 : ((op_ == 140) : Bool) with
            | true =>
             replace h := ite_t hb_15 h
             refine Ct <| Sq <| Ro <| Rc 2 [⟨.d (.int .i64 reg_), []⟩, ⟨.d (.bool (decide (reg_ < 4))), []⟩] <| Rd <| kS_nrm ?_
             cases hb_16 : ((decide (reg_ < 4)) : Bool) with
             | true =>
              replace h := ite_t hb_16 h
              refine Ct <| Sq <| Ro ?_
              obtain ⟨r_15, hr_15, h⟩ := bind_s h
              have hc_15 := isa_mod_L 35 2 5 r_15 hr_15
              refine Rt (some 85) (.callf 67) [] none [.d (.int .i64 35), .d (.int .i64 2), .d (.int .i64 5)] (.tup [.d (Row.d r_15.1), .d (.bool r_15.2)]) [] (cut_call (call_of (ws := []) (us := []) (by kernel_rfl) (by kernel_rfl) hc_15 (by kernel_rfl) (by kernel_rfl))) <| Rc 4 [⟨.d (Row.d r_15.1), []⟩, ⟨.d (.bool r_15.2), []⟩, ⟨.tup [], [([4], some (.cells [.d (.int .i64 r_15.1.Name), .d (.int .i64 r_15.1.A), .d (.int .i64 r_15.1.B), .d (.bool r_15.1.Mod)] 0))]⟩, ⟨.d (.bool r_15.2), []⟩] <| Rd <| kS_nrm <| Runs.ret <| kB_ret <| kS_ret ?_
              obtain rfl := Option.some.inj h
              exact ⟨Out.ret_ne, (by kernel_rfl)⟩
             | false =>
              replace h := ite_f hb_16 h
              refine Cf <| Runs.skip <| kB_nrm <| kS_nrm <| Sq <| Ro ?_
              obtain ⟨r_16, hr_16, h⟩ := bind_s h
              have hc_16 := isa_bad_L r_16 hr_16
              refine Rt (some 111) (.callf 39) [] none [] (.tup [.d (Row.d r_16.1), .d (.bool r_16.2)]) [] (cut_call (call_of (ws := []) (us := []) (by kernel_rfl) (by kernel_rfl) hc_16 (by kernel_rfl) (by kernel_rfl))) <| Rc 4 [⟨.d (Row.d r_16.1), []⟩, ⟨.d (.bool r_16.2), []⟩, ⟨.tup [], [([4], some (.cells [.d (.int .i64 r_16.1.Name), .d (.int .i64 r_16.1.A), .d (.int .i64 r_16.1.B), .d (.bool r_16.1.Mod)] 0))]⟩, ⟨.d (.bool r_16.2), []⟩] <| Rd <| kS_nrm <| Runs.ret ?_
              obtain rfl := Option.some.inj h
              exact ⟨Out.ret_ne, (by kernel_rfl)⟩
            | false =>
             replace h := ite_f hb_15 h
             refine Cf <| Sq <| Ro <| Rc 2 [⟨.d (.bool (op_ == 141)), []⟩, ⟨.d (.bool (op_ == 141)), []⟩] <| Rd <| kS_nrm ?_
             cases hb_17 : ((op_ == 141) : Bool) with
             | true =>
              replace h := ite_t hb_17 h
              refine Ct <| Sq <| Ro ?_
              obtain ⟨r_17, hr_17, h⟩ := bind_s h
              have hc_17 := isa_mod_L 36 4 20 r_17 hr_17
              refine Rt (some 90) (.callf 67) [] none [.d (.int .i64 36), .d (.int .i64 4), .d (.int .i64 20)] (.tup [.d (Row.d r_17.1), .d (.bool r_17.2)]) [] (cut_call (call_of (ws := []) (us := []) (by kernel_rfl) (by kernel_rfl) hc_17 (by kernel_rfl) (by kernel_rfl))) <| Rc 4 [⟨.d (Row.d r_17.1), []⟩, ⟨.d (.bool r_17.2), []⟩, ⟨.tup [], [([4], some (.cells [.d (.int .i64 r_17.1.Name), .d (.int .i64 r_17.1.A), .d (.int .i64 r_17.1.B), .d (.bool r_17.1.Mod)] 0))]⟩, ⟨.d (.bool r_17.2), []⟩] <| Rd <| kS_nrm <| Runs.ret <| kB_ret <| kS_ret ?_
              obtain rfl := Option.some.inj h
              exact ⟨Out.ret_ne, (by kernel_rfl)⟩
             | false =>
              replace h := ite_f hb_17 h
              refine Cf <| Sq <| Ro <| Rc 2 [⟨.d (.bool (op_ == 142)), []⟩, ⟨.d (.bool (op_ == 142)), []⟩] <| Rd <| kS_nrm ?_
              cases hb_18 : ((op_ == 142) : Bool) with
              | true =>
               replace h := ite_t hb_18 h
               refine Ct <| Sq <| Ro <| Rc 3 [⟨.d (.int .i64 reg_), []⟩, ⟨.d (.bool (decide (reg_ < 4))), []⟩, ⟨.d (.bool (decide (reg_ < 4))), []⟩] ?_
               cases hb_19 : ((decide (reg_ < 4)) : Bool) with
               | true =>
                replace h := ite_t hb_19 h
                refine Rc 3 [⟨.d (.int .i64 reg_), []⟩, ⟨.d (.bool (reg_ != 1)), []⟩, ⟨.d (.bool (reg_ != 1)), []⟩] <| Rd <| kS_nrm ?_
                cases hb_20 : ((reg_ != 1) : Bool) with
                | true =>
                 replace h := ite_t hb_20 h
                 refine Ct <| Sq <| Ro ?_
                 obtain ⟨r_18, hr_18, h⟩ := bind_s h
                 have hc_18 := isa_mod_L 35 5 2 r_18 hr_18
                 refine Rt (some 101) (.callf 67) [] none [.d (.int .i64 35), .d (.int .i64 5), .d (.int .i64 2)] (.tup [.d (Row.d r_18.1), .d (.bool r_18.2)]) [] (cut_call (call_of (ws := []) (us := []) (by kernel_rfl) (by kernel_rfl) hc_18 (by kernel_rfl) (by kernel_rfl))) <| Rc 4 [⟨.d (Row.d r_18.1), []⟩, ⟨.d (.bool r_18.2), []⟩, ⟨.tup [], [([4], some (.cells [.d (.int .i64 r_18.1.Name), .d (.int .i64 r_18.1.A), .d (.int .i64 r_18.1.B), .d (.bool r_18.1.Mod)] 0))]⟩, ⟨.d (.bool r_18.2), []⟩] <| Rd <| kS_nrm <| Runs.ret <| kB_ret <| kS_ret ?_
                 obtain rfl := Option.some.inj h
                 exact ⟨Out.ret_ne, (by kernel_rfl)⟩
                | false =>
                 replace h := ite_f hb_20 h
                 refine Cf <| Runs.skip <| kB_nrm <| kS_nrm <| Sq <| Ro ?_
                 obtain ⟨r_19, hr_19, h⟩ := bind_s h
                 have hc_19 := isa_bad_L r_19 hr_19
                 refine Rt (some 111) (.callf 39) [] none [] (.tup [.d (Row.d r_19.1), .d (.bool r_19.2)]) [] (cut_call (call_of (ws := []) (us := []) (by kernel_rfl) (by kernel_rfl) hc_19 (by kernel_rfl) (by kernel_rfl))) <| Rc 4 [⟨.d (Row.d r_19.1), []⟩, ⟨.d (.bool r_19.2), []⟩, ⟨.tup [], [([4], some (.cells [.d (.int .i64 r_19.1.Name), .d (.int .i64 r_19.1.A), .d (.int .i64 r_19.1.B), .d (.bool r_19.1.Mod)] 0))]⟩, ⟨.d (.bool r_19.2), []⟩] <| Rd <| kS_nrm <| Runs.ret ?_
                 obtain rfl := Option.some.inj h
                 exact ⟨Out.ret_ne, (by kernel_rfl)⟩
               | false =>
                replace h := ite_f hb_19 h
                refine Rc 3 [⟨.tup [], []⟩, ⟨.tup [], []⟩, ⟨.d (.bool false), []⟩] <| Rd <| kS_nrm <| Cf <| Runs.skip <| kB_nrm <| kS_nrm <| Sq <| Ro ?_
                obtain ⟨r_20, hr_20, h⟩ := bind_s h
                have hc_20 := isa_bad_L r_20 hr_20
                refine Rt (some 111) (.callf 39) [] none [] (.tup [.d (Row.d r_20.1), .d (.bool r_20.2)]) [] (cut_call (call_of (ws := []) (us := []) (by kernel_rfl) (by kernel_rfl) hc_20 (by kernel_rfl) (by kernel_rfl))) <| Rc 4 [⟨.d (Row.d r_20.1), []⟩, ⟨.d (.bool r_20.2), []⟩, ⟨.tup [], [([4], some (.cells [.d (.int .i64 r_20.1.Name), .d (.int .i64 r_20.1.A), .d (.int .i64 r_20.1.B), .d (.bool r_20.1.Mod)] 0))]⟩, ⟨.d (.bool r_20.2), []⟩] <| Rd <| kS_nrm <| Runs.ret ?_
                obtain rfl := Option.some.inj h
                exact ⟨Out.ret_ne, (by kernel_rfl)⟩
              | false =>
               replace h := ite_f hb_18 h
               refine Cf <| Sq <| Ro <| Rc 2 [⟨.d (.bool (op_ == 143)), []⟩, ⟨.d (.bool (op_ == 143)), []⟩] <| Rd <| kS_nrm ?_
               cases hb_21 : ((op_ == 143) : Bool) with
               | true =>
                replace h := ite_t hb_21 h
                refine Ct <| Sq <| Ro <| Rc 2 [⟨.d (.int .i64 reg_), []⟩, ⟨.d (.bool (reg_ == 0)), []⟩] <| Rd <| kS_nrm ?_
                cases hb_22 : ((reg_ == 0) : Bool) with
                | true =>
                 replace h := ite_t hb_22 h
                 refine Ct <| Sq <| Ro ?_
                 obtain ⟨r_21, hr_21, h⟩ := bind_s h
                 have hc_21 := isa_mod_L 10 2 0 r_21 hr_21
                 refine Rt (some 108) (.callf 67) [] none [.d (.int .i64 10), .d (.int .i64 2), .d (.int .i64 0)] (.tup [.d (Row.d r_21.1), .d (.bool r_21.2)]) [] (cut_call (call_of (ws := []) (us := []) (by kernel_rfl) (by kernel_rfl) hc_21 (by kernel_rfl) (by kernel_rfl))) <| Rc 4 [⟨.d (Row.d r_21.1), []⟩, ⟨.d (.bool r_21.2), []⟩, ⟨.tup [], [([4], some (.cells [.d (.int .i64 r_21.1.Name), .d (.int .i64 r_21.1.A), .d (.int .i64 r_21.1.B), .d (.bool r_21.1.Mod)] 0))]⟩, ⟨.d (.bool r_21.2), []⟩] <| Rd <| kS_nrm <| Runs.ret <| kB_ret <| kS_ret ?_
                 obtain rfl := Option.some.inj h
                 exact ⟨Out.ret_ne, (by kernel_rfl)⟩
                | false =>
                 replace h := ite_f hb_22 h
                 refine Cf <| Runs.skip <| kB_nrm <| kS_nrm <| Sq <| Ro ?_
                 obtain ⟨r_22, hr_22, h⟩ := bind_s h
                 have hc_22 := isa_bad_L r_22 hr_22
                 refine Rt (some 111) (.callf 39) [] none [] (.tup [.d (Row.d r_22.1), .d (.bool r_22.2)]) [] (cut_call (call_of (ws := []) (us := []) (by kernel_rfl) (by kernel_rfl) hc_22 (by kernel_rfl) (by kernel_rfl))) <| Rc 4 [⟨.d (Row.d r_22.1), []⟩, ⟨.d (.bool r_22.2), []⟩, ⟨.tup [], [([4], some (.cells [.d (.int .i64 r_22.1.Name), .d (.int .i64 r_22.1.A), .d (.int .i64 r_22.1.B), .d (.bool r_22.1.Mod)] 0))]⟩, ⟨.d (.bool r_22.2), []⟩] <| Rd <| kS_nrm <| Runs.ret ?_
                 obtain rfl := Option.some.inj h
                 exact ⟨Out.ret_ne, (by kernel_rfl)⟩
               | false =>
                replace h := ite_f hb_21 h
                refine Cf <| Runs.skip <| kB_nrm <| kS_nrm <| Sq <| Ro ?_
                obtain ⟨r_23, hr_23, h⟩ := bind_s h
                have hc_23 := isa_bad_L r_23 hr_23
                refine Rt (some 111) (.callf 39) [] none [] (.tup [.d (Row.d r_23.1), .d (.bool r_23.2)]) [] (cut_call (call_of (ws := []) (us := []) (by kernel_rfl) (by kernel_rfl) hc_23 (by kernel_rfl) (by kernel_rfl))) <| Rc 4 [⟨.d (Row.d r_23.1), []⟩, ⟨.d (.bool r_23.2), []⟩, ⟨.tup [], [([4], some (.cells [.d (.int .i64 r_23.1.Name), .d (.int .i64 r_23.1.A), .d (.int .i64 r_23.1.B), .d (.bool r_23.1.Mod)] 0))]⟩, ⟨.d (.bool r_23.2), []⟩] <| Rd <| kS_nrm <| Runs.ret ?_
                obtain rfl := Option.some.inj h
                exact ⟨Out.ret_ne, (by kernel_rfl)⟩
theorem isa_moves_L (op_ : Int) (reg_ : Int) (r : (Row × Bool)) (h : isa_moves op_ reg_ = some r) : L 40 [.d (.int .u8 op_), .d (.int .i64 reg_)] = some (.tup [.d (Row.d r.1), .d (.bool r.2)], [.d (.int .u8 op_), .d (.int .i64 reg_)]) := by
 obtain ⟨p, ⟨hne, hf⟩, hr⟩ := isa_moves_ok op_ reg_ r h
 obtain ⟨k, hk⟩ := run_of (F := F40) (args := [.d (.int .u8 op_), .d (.int .i64 reg_)]) (ap := [.d (.int .u8 op_), .d (.int .i64 reg_)]) (bx0 := updW (fun _ => none) []) rfl rfl (by kernel_rfl) ⟨p, ⟨hne, hf⟩, hr⟩
 exact lim_run (k := k) rfl hk
def isa_words_Q (op_ : Int) (r : (Row × Bool)) (p : Out × St) : Prop := (∀ i, p.1 ≠ .exit i) ∧ finF F41 [.d (.int .u8 op_)] p.2 = some (.tup [.d (Row.d r.1), .d (.bool r.2)], [.d (.int .u8 op_)])
theorem isa_words_ok (op_ : Int) (r : (Row × Bool)) (h : isa_words op_ = some r) : Runs L F41.body ⟨tmOf [.d (.int .u8 op_)] 0, updW (fun _ => none) []⟩ (isa_words_Q op_ r) := by
 unfold isa_words at h
 refine Sq <| Ro <| Rc 2 [⟨.ptr [2] 0 0, [([2], some (.cells [.d (.int .i64 0), .d (.int .i64 0), .d (.int .i64 0), .d (.bool false)] 0))]⟩, ⟨.d (.bool false), []⟩] <| Rd <| kS_nrm <| Sq <| Sq <| Ro <| Rc 2 [⟨.d (.int .u8 op_), []⟩, ⟨.d (.bool (decide (op_ < 152))), []⟩] <| Rd <| kS_nrm ?_
 cases hb_1 : ((decide (op_ < 152)) : Bool) with
 | true =>
  replace h := ite_t hb_1 h
  refine Ct <| Sq <| Ro ?_
  obtain ⟨r_1, hr_1, h⟩ := bind_s h
  have hc_1 := isa_row_L 34 16 22 r_1 hr_1
  refine Rt (some 7) (.callf 38) [] none [.d (.int .i64 34), .d (.int .i64 16), .d (.int .i64 22)] (.tup [.d (Row.d r_1.1), .d (.bool r_1.2)]) [] (cut_call (call_of (ws := []) (us := []) (by kernel_rfl) (by kernel_rfl) hc_1 (by kernel_rfl) (by kernel_rfl))) <| Rc 4 [⟨.d (Row.d r_1.1), []⟩, ⟨.d (.bool r_1.2), []⟩, ⟨.tup [], [([2], some (.cells [.d (.int .i64 r_1.1.Name), .d (.int .i64 r_1.1.A), .d (.int .i64 r_1.1.B), .d (.bool r_1.1.Mod)] 0))]⟩, ⟨.d (.bool r_1.2), []⟩] <| Rd <| kS_nrm <| Runs.ret <| kS_ret ?_
  obtain rfl := Option.some.inj h
  exact ⟨Out.ret_ne, (by kernel_rfl)⟩
 | false =>
  replace h := ite_f hb_1 h
  refine Cf <| Runs.skip <| kS_nrm <| Sq <| Sq <| Ro <| Rc 2 [⟨.d (.int .u8 op_), []⟩, ⟨.d (.bool (op_ == 154)), []⟩] <| Rd <| kS_nrm ?_
  cases hb_2 : ((op_ == 154) : Bool) with
  | true =>
   replace h := ite_t hb_2 h
   refine Ct <| Sq <| Ro ?_
   obtain ⟨r_2, hr_2, h⟩ := bind_s h
   have hc_2 := isa_row_L 40 11 0 r_2 hr_2
   refine Rt (some 12) (.callf 38) [] none [.d (.int .i64 40), .d (.int .i64 11), .d (.int .i64 0)] (.tup [.d (Row.d r_2.1), .d (.bool r_2.2)]) [] (cut_call (call_of (ws := []) (us := []) (by kernel_rfl) (by kernel_rfl) hc_2 (by kernel_rfl) (by kernel_rfl))) <| Rc 4 [⟨.d (Row.d r_2.1), []⟩, ⟨.d (.bool r_2.2), []⟩, ⟨.tup [], [([2], some (.cells [.d (.int .i64 r_2.1.Name), .d (.int .i64 r_2.1.A), .d (.int .i64 r_2.1.B), .d (.bool r_2.1.Mod)] 0))]⟩, ⟨.d (.bool r_2.2), []⟩] <| Rd <| kS_nrm <| Runs.ret <| kS_ret ?_
   obtain rfl := Option.some.inj h
   exact ⟨Out.ret_ne, (by kernel_rfl)⟩
  | false =>
   replace h := ite_f hb_2 h
   refine Cf <| Runs.skip <| kS_nrm <| Sq <| Ro <| Rc 3 [⟨.ref [15] 0 0 (List.map (D.int .i64) ([37, 38, 0, 41, 42, 43, 44, 45] : List Int)).length 1, [([15], some (.arr (List.map (D.int .i64) ([37, 38, 0, 41, 42, 43, 44, 45] : List Int)) 0 false))]⟩, ⟨.d (.int .u8 op_), []⟩, ⟨.d (.int .u8 (IntKind.wrap .u8 (op_ - 152))), []⟩] ?_
   obtain ⟨z_1, hz_1, h⟩ := bind_s h
   refine Rt (some 18) (.iaddrS 1) [] none [.ref [15] 0 0 (List.map (D.int .i64) ([37, 38, 0, 41, 42, 43, 44, 45] : List Int)).length 1, .d (.int .u8 (IntKind.wrap .u8 (op_ - 152)))] (.eref [15] 0 (0 + ((IntKind.wrap .u8 (op_ - 152))).toNat) 0) [] (cut_atR (e := (D.int .i64)) (l := ([37, 38, 0, 41, 42, 43, 44, 45] : List Int)) hz_1 rfl) <| Rt (some 19) (.load none) [] none [.eref [15] 0 (0 + ((IntKind.wrap .u8 (op_ - 152))).toNat) 0] (.d (.int .i64 z_1)) [] (cut_loadR (e := (D.int .i64)) (l := ([37, 38, 0, 41, 42, 43, 44, 45] : List Int)) (fz := false) (y := z_1) (by kernel_rfl) hz_1 (by kernel_rfl) (by kernel_rfl)) <| Rc 1 [⟨.d (.int .i64 z_1), []⟩] <| Rd <| kS_nrm <| Sq <| Ro <| Rc 1 [⟨.d (.int .i64 z_1), []⟩] ?_
   obtain ⟨r_3, hr_3, h⟩ := bind_s h
   have hc_3 := isa_row_L z_1 0 0 r_3 hr_3
   refine Rt (some 21) (.callf 38) [] none [.d (.int .i64 z_1), .d (.int .i64 0), .d (.int .i64 0)] (.tup [.d (Row.d r_3.1), .d (.bool r_3.2)]) [] (cut_call (call_of (ws := []) (us := []) (by kernel_rfl) (by kernel_rfl) hc_3 (by kernel_rfl) (by kernel_rfl))) <| Rc 4 [⟨.d (Row.d r_3.1), []⟩, ⟨.d (.bool r_3.2), []⟩, ⟨.tup [], [([2], some (.cells [.d (.int .i64 r_3.1.Name), .d (.int .i64 r_3.1.A), .d (.int .i64 r_3.1.B), .d (.bool r_3.1.Mod)] 0))]⟩, ⟨.d (.bool r_3.2), []⟩] <| Rd <| kS_nrm <| Runs.ret ?_
   obtain rfl := Option.some.inj h
   exact ⟨Out.ret_ne, (by kernel_rfl)⟩
theorem isa_words_L (op_ : Int) (r : (Row × Bool)) (h : isa_words op_ = some r) : L 41 [.d (.int .u8 op_)] = some (.tup [.d (Row.d r.1), .d (.bool r.2)], [.d (.int .u8 op_)]) := by
 obtain ⟨p, ⟨hne, hf⟩, hr⟩ := isa_words_ok op_ r h
 obtain ⟨k, hk⟩ := run_of (F := F41) (args := [.d (.int .u8 op_)]) (ap := [.d (.int .u8 op_)]) (bx0 := updW (fun _ => none) []) rfl rfl (by kernel_rfl) ⟨p, ⟨hne, hf⟩, hr⟩
 exact lim_run (k := k) rfl hk
def isa_texts_Q (op_ : Int) (r : (Row × Bool)) (p : Out × St) : Prop := (∀ i, p.1 ≠ .exit i) ∧ finF F42 [.d (.int .u8 op_)] p.2 = some (.tup [.d (Row.d r.1), .d (.bool r.2)], [.d (.int .u8 op_)])
theorem isa_texts_ok (op_ : Int) (r : (Row × Bool)) (h : isa_texts op_ = some r) : Runs L F42.body ⟨tmOf [.d (.int .u8 op_)] 0, updW (fun _ => none) []⟩ (isa_texts_Q op_ r) := by
 unfold isa_texts at h
 refine Sq <| Ro <| Rc 2 [⟨.ptr [2] 0 0, [([2], some (.cells [.d (.int .i64 0), .d (.int .i64 0), .d (.int .i64 0), .d (.bool false)] 0))]⟩, ⟨.d (.bool false), []⟩] <| Rd <| kS_nrm <| Sq <| Sq <| Ro <| Rc 1 [⟨.d (.int .u8 op_), []⟩] <| Rd <| kS_nrm <| Runs.block <| Sq <| Ro <| Rc 2 [⟨.d (.bool (op_ == 160)), []⟩, ⟨.d (.bool (op_ == 160)), []⟩] <| Rd <| kS_nrm ?_
 cases hb_1 : ((op_ == 160) : Bool) with
 | true =>
  replace h := ite_t hb_1 h
  refine Ct <| Sq <| Ro ?_
  obtain ⟨r_1, hr_1, h⟩ := bind_s h
  have hc_1 := isa_row_L 35 14 12 r_1 hr_1
  refine Rt (some 7) (.callf 38) [] none [.d (.int .i64 35), .d (.int .i64 14), .d (.int .i64 12)] (.tup [.d (Row.d r_1.1), .d (.bool r_1.2)]) [] (cut_call (call_of (ws := []) (us := []) (by kernel_rfl) (by kernel_rfl) hc_1 (by kernel_rfl) (by kernel_rfl))) <| Rc 4 [⟨.d (Row.d r_1.1), []⟩, ⟨.d (.bool r_1.2), []⟩, ⟨.tup [], [([2], some (.cells [.d (.int .i64 r_1.1.Name), .d (.int .i64 r_1.1.A), .d (.int .i64 r_1.1.B), .d (.bool r_1.1.Mod)] 0))]⟩, ⟨.d (.bool r_1.2), []⟩] <| Rd <| kS_nrm <| Runs.ret <| kB_ret <| kS_ret ?_
  obtain rfl := Option.some.inj h
  exact ⟨Out.ret_ne, (by kernel_rfl)⟩
 | false =>
  replace h := ite_f hb_1 h
  refine Cf <| Sq <| Ro <| Rc 2 [⟨.d (.bool (op_ == 161)), []⟩, ⟨.d (.bool (op_ == 161)), []⟩] <| Rd <| kS_nrm ?_
  cases hb_2 : ((op_ == 161) : Bool) with
  | true =>
   replace h := ite_t hb_2 h
   refine Ct <| Sq <| Ro ?_
   obtain ⟨r_2, hr_2, h⟩ := bind_s h
   have hc_2 := isa_row_L 35 16 13 r_2 hr_2
   refine Rt (some 12) (.callf 38) [] none [.d (.int .i64 35), .d (.int .i64 16), .d (.int .i64 13)] (.tup [.d (Row.d r_2.1), .d (.bool r_2.2)]) [] (cut_call (call_of (ws := []) (us := []) (by kernel_rfl) (by kernel_rfl) hc_2 (by kernel_rfl) (by kernel_rfl))) <| Rc 4 [⟨.d (Row.d r_2.1), []⟩, ⟨.d (.bool r_2.2), []⟩, ⟨.tup [], [([2], some (.cells [.d (.int .i64 r_2.1.Name), .d (.int .i64 r_2.1.A), .d (.int .i64 r_2.1.B), .d (.bool r_2.1.Mod)] 0))]⟩, ⟨.d (.bool r_2.2), []⟩] <| Rd <| kS_nrm <| Runs.ret <| kB_ret <| kS_ret ?_
   obtain rfl := Option.some.inj h
   exact ⟨Out.ret_ne, (by kernel_rfl)⟩
  | false =>
   replace h := ite_f hb_2 h
   refine Cf <| Sq <| Ro <| Rc 2 [⟨.d (.bool (op_ == 162)), []⟩, ⟨.d (.bool (op_ == 162)), []⟩] <| Rd <| kS_nrm ?_
   cases hb_3 : ((op_ == 162) : Bool) with
   | true =>
    replace h := ite_t hb_3 h
    refine Ct <| Sq <| Ro ?_
    obtain ⟨r_3, hr_3, h⟩ := bind_s h
    have hc_3 := isa_row_L 35 12 14 r_3 hr_3
    refine Rt (some 17) (.callf 38) [] none [.d (.int .i64 35), .d (.int .i64 12), .d (.int .i64 14)] (.tup [.d (Row.d r_3.1), .d (.bool r_3.2)]) [] (cut_call (call_of (ws := []) (us := []) (by kernel_rfl) (by kernel_rfl) hc_3 (by kernel_rfl) (by kernel_rfl))) <| Rc 4 [⟨.d (Row.d r_3.1), []⟩, ⟨.d (.bool r_3.2), []⟩, ⟨.tup [], [([2], some (.cells [.d (.int .i64 r_3.1.Name), .d (.int .i64 r_3.1.A), .d (.int .i64 r_3.1.B), .d (.bool r_3.1.Mod)] 0))]⟩, ⟨.d (.bool r_3.2), []⟩] <| Rd <| kS_nrm <| Runs.ret <| kB_ret <| kS_ret ?_
    obtain rfl := Option.some.inj h
    exact ⟨Out.ret_ne, (by kernel_rfl)⟩
   | false =>
    replace h := ite_f hb_3 h
    refine Cf <| Sq <| Ro <| Rc 2 [⟨.d (.bool (op_ == 163)), []⟩, ⟨.d (.bool (op_ == 163)), []⟩] <| Rd <| kS_nrm ?_
    cases hb_4 : ((op_ == 163) : Bool) with
    | true =>
     replace h := ite_t hb_4 h
     refine Ct <| Sq <| Ro ?_
     obtain ⟨r_4, hr_4, h⟩ := bind_s h
     have hc_4 := isa_row_L 35 13 16 r_4 hr_4
     refine Rt (some 22) (.callf 38) [] none [.d (.int .i64 35), .d (.int .i64 13), .d (.int .i64 16)] (.tup [.d (Row.d r_4.1), .d (.bool r_4.2)]) [] (cut_call (call_of (ws := []) (us := []) (by kernel_rfl) (by kernel_rfl) hc_4 (by kernel_rfl) (by kernel_rfl))) <| Rc 4 [⟨.d (Row.d r_4.1), []⟩, ⟨.d (.bool r_4.2), []⟩, ⟨.tup [], [([2], some (.cells [.d (.int .i64 r_4.1.Name), .d (.int .i64 r_4.1.A), .d (.int .i64 r_4.1.B), .d (.bool r_4.1.Mod)] 0))]⟩, ⟨.d (.bool r_4.2), []⟩] <| Rd <| kS_nrm <| Runs.ret <| kB_ret <| kS_ret ?_
     obtain rfl := Option.some.inj h
     exact ⟨Out.ret_ne, (by kernel_rfl)⟩
    | false =>
     replace h := ite_f hb_4 h
     refine Cf <| Sq <| Ro <| Rc 2 [⟨.d (.bool (op_ == 168)), []⟩, ⟨.d (.bool (op_ == 168)), []⟩] <| Rd <| kS_nrm ?_
     cases hb_5 : ((op_ == 168) : Bool) with
     | true =>
      replace h := ite_t hb_5 h
      refine Ct <| Sq <| Ro ?_
      obtain ⟨r_5, hr_5, h⟩ := bind_s h
      have hc_5 := isa_row_L 33 14 6 r_5 hr_5
      refine Rt (some 27) (.callf 38) [] none [.d (.int .i64 33), .d (.int .i64 14), .d (.int .i64 6)] (.tup [.d (Row.d r_5.1), .d (.bool r_5.2)]) [] (cut_call (call_of (ws := []) (us := []) (by kernel_rfl) (by kernel_rfl) hc_5 (by kernel_rfl) (by kernel_rfl))) <| Rc 4 [⟨.d (Row.d r_5.1), []⟩, ⟨.d (.bool r_5.2), []⟩, ⟨.tup [], [([2], some (.cells [.d (.int .i64 r_5.1.Name), .d (.int .i64 r_5.1.A), .d (.int .i64 r_5.1.B), .d (.bool r_5.1.Mod)] 0))]⟩, ⟨.d (.bool r_5.2), []⟩] <| Rd <| kS_nrm <| Runs.ret <| kB_ret <| kS_ret ?_
      obtain rfl := Option.some.inj h
      exact ⟨Out.ret_ne, (by kernel_rfl)⟩
     | false =>
      replace h := ite_f hb_5 h
      refine Cf <| Sq <| Ro <| Rc 2 [⟨.d (.bool (op_ == 169)), []⟩, ⟨.d (.bool (op_ == 169)), []⟩] <| Rd <| kS_nrm ?_
      cases hb_6 : ((op_ == 169) : Bool) with
      | true =>
       replace h := ite_t hb_6 h
       refine Ct <| Sq <| Ro ?_
       obtain ⟨r_6, hr_6, h⟩ := bind_s h
       have hc_6 := isa_row_L 33 16 7 r_6 hr_6
       refine Rt (some 32) (.callf 38) [] none [.d (.int .i64 33), .d (.int .i64 16), .d (.int .i64 7)] (.tup [.d (Row.d r_6.1), .d (.bool r_6.2)]) [] (cut_call (call_of (ws := []) (us := []) (by kernel_rfl) (by kernel_rfl) hc_6 (by kernel_rfl) (by kernel_rfl))) <| Rc 4 [⟨.d (Row.d r_6.1), []⟩, ⟨.d (.bool r_6.2), []⟩, ⟨.tup [], [([2], some (.cells [.d (.int .i64 r_6.1.Name), .d (.int .i64 r_6.1.A), .d (.int .i64 r_6.1.B), .d (.bool r_6.1.Mod)] 0))]⟩, ⟨.d (.bool r_6.2), []⟩] <| Rd <| kS_nrm <| Runs.ret <| kB_ret <| kS_ret ?_
       obtain rfl := Option.some.inj h
       exact ⟨Out.ret_ne, (by kernel_rfl)⟩
      | false =>
       replace h := ite_f hb_6 h
       refine Cf <| Runs.skip <| kB_nrm <| kS_nrm <| Sq <| Sq <| Ro <| Rc 2 [⟨.d (.int .u8 op_), []⟩, ⟨.d (.bool (decide (op_ < 168))), []⟩] <| Rd <| kS_nrm ?_
       cases hb_7 : ((decide (op_ < 168)) : Bool) with
       | true =>
        replace h := ite_t hb_7 h
        refine Ct <| Sq <| Ro <| Rc 4 [⟨.d (.int .u8 op_), []⟩, ⟨.d (.int .u8 (IntKind.wrap .u8 (op_ - 164))), []⟩, ⟨.d (.int .i64 (IntKind.wrap .i64 (IntKind.wrap .u8 (op_ - 164)))), []⟩, ⟨.d (.int .i64 (IntKind.wrap .i64 (46 + (IntKind.wrap .i64 (IntKind.wrap .u8 (op_ - 164)))))), []⟩] ?_
        obtain ⟨r_7, hr_7, h⟩ := bind_s h
        have hc_7 := isa_row_L (IntKind.wrap .i64 (46 + (IntKind.wrap .i64 (IntKind.wrap .u8 (op_ - 164))))) 0 0 r_7 hr_7
        refine Rt (some 41) (.callf 38) [] none [.d (.int .i64 (IntKind.wrap .i64 (46 + (IntKind.wrap .i64 (IntKind.wrap .u8 (op_ - 164)))))), .d (.int .i64 0), .d (.int .i64 0)] (.tup [.d (Row.d r_7.1), .d (.bool r_7.2)]) [] (cut_call (call_of (ws := []) (us := []) (by kernel_rfl) (by kernel_rfl) hc_7 (by kernel_rfl) (by kernel_rfl))) <| Rc 4 [⟨.d (Row.d r_7.1), []⟩, ⟨.d (.bool r_7.2), []⟩, ⟨.tup [], [([2], some (.cells [.d (.int .i64 r_7.1.Name), .d (.int .i64 r_7.1.A), .d (.int .i64 r_7.1.B), .d (.bool r_7.1.Mod)] 0))]⟩, ⟨.d (.bool r_7.2), []⟩] <| Rd <| kS_nrm <| Runs.ret <| kS_ret ?_
        obtain rfl := Option.some.inj h
        exact ⟨Out.ret_ne, (by kernel_rfl)⟩
       | false =>
        replace h := ite_f hb_7 h
        refine Cf <| Runs.skip <| kS_nrm <| Sq <| Ro <| Rc 4 [⟨.d (.int .u8 op_), []⟩, ⟨.d (.int .u8 (IntKind.wrap .u8 (op_ - 170))), []⟩, ⟨.d (.int .i64 (IntKind.wrap .i64 (IntKind.wrap .u8 (op_ - 170)))), []⟩, ⟨.d (.int .i64 (IntKind.wrap .i64 (50 + (IntKind.wrap .i64 (IntKind.wrap .u8 (op_ - 170)))))), []⟩] ?_
        obtain ⟨r_8, hr_8, h⟩ := bind_s h
        have hc_8 := isa_row_L (IntKind.wrap .i64 (50 + (IntKind.wrap .i64 (IntKind.wrap .u8 (op_ - 170))))) 0 0 r_8 hr_8
        refine Rt (some 48) (.callf 38) [] none [.d (.int .i64 (IntKind.wrap .i64 (50 + (IntKind.wrap .i64 (IntKind.wrap .u8 (op_ - 170)))))), .d (.int .i64 0), .d (.int .i64 0)] (.tup [.d (Row.d r_8.1), .d (.bool r_8.2)]) [] (cut_call (call_of (ws := []) (us := []) (by kernel_rfl) (by kernel_rfl) hc_8 (by kernel_rfl) (by kernel_rfl))) <| Rc 4 [⟨.d (Row.d r_8.1), []⟩, ⟨.d (.bool r_8.2), []⟩, ⟨.tup [], [([2], some (.cells [.d (.int .i64 r_8.1.Name), .d (.int .i64 r_8.1.A), .d (.int .i64 r_8.1.B), .d (.bool r_8.1.Mod)] 0))]⟩, ⟨.d (.bool r_8.2), []⟩] <| Rd <| kS_nrm <| Runs.ret ?_
        obtain rfl := Option.some.inj h
        exact ⟨Out.ret_ne, (by kernel_rfl)⟩
theorem isa_texts_L (op_ : Int) (r : (Row × Bool)) (h : isa_texts op_ = some r) : L 42 [.d (.int .u8 op_)] = some (.tup [.d (Row.d r.1), .d (.bool r.2)], [.d (.int .u8 op_)]) := by
 obtain ⟨p, ⟨hne, hf⟩, hr⟩ := isa_texts_ok op_ r h
 obtain ⟨k, hk⟩ := run_of (F := F42) (args := [.d (.int .u8 op_)]) (ap := [.d (.int .u8 op_)]) (bx0 := updW (fun _ => none) []) rfl rfl (by kernel_rfl) ⟨p, ⟨hne, hf⟩, hr⟩
 exact lim_run (k := k) rfl hk
def isa_backs_Q (op_ : Int) (reg_ : Int) (r : (Row × Bool)) (p : Out × St) : Prop := (∀ i, p.1 ≠ .exit i) ∧ finF F43 [.d (.int .u8 op_), .d (.int .i64 reg_)] p.2 = some (.tup [.d (Row.d r.1), .d (.bool r.2)], [.d (.int .u8 op_), .d (.int .i64 reg_)])
theorem isa_backs_ok (op_ : Int) (reg_ : Int) (r : (Row × Bool)) (h : isa_backs op_ reg_ = some r) : Runs L F43.body ⟨tmOf [.d (.int .u8 op_), .d (.int .i64 reg_)] 0, updW (fun _ => none) []⟩ (isa_backs_Q op_ reg_ r) := by
 unfold isa_backs at h
 refine Sq <| Ro <| Rc 2 [⟨.ptr [4] 0 0, [([4], some (.cells [.d (.int .i64 0), .d (.int .i64 0), .d (.int .i64 0), .d (.bool false)] 0))]⟩, ⟨.d (.bool false), []⟩] <| Rd <| kS_nrm <| Sq <| Sq <| Ro <| Rc 1 [⟨.d (.int .u8 op_), []⟩] <| Rd <| kS_nrm <| Runs.block <| Sq <| Ro <| Rc 2 [⟨.d (.bool (op_ == 194)), []⟩, ⟨.d (.bool (op_ == 194)), []⟩] <| Rd <| kS_nrm ?_
 cases hb_1 : ((op_ == 194) : Bool) with
 | true =>
  replace h := ite_t hb_1 h
  refine Ct <| Sq <| Ro ?_
  obtain ⟨r_1, hr_1, h⟩ := bind_s h
  have hc_1 := isa_row_L 56 7 0 r_1 hr_1
  refine Rt (some 9) (.callf 38) [] none [.d (.int .i64 56), .d (.int .i64 7), .d (.int .i64 0)] (.tup [.d (Row.d r_1.1), .d (.bool r_1.2)]) [] (cut_call (call_of (ws := []) (us := []) (by kernel_rfl) (by kernel_rfl) hc_1 (by kernel_rfl) (by kernel_rfl))) <| Rc 4 [⟨.d (Row.d r_1.1), []⟩, ⟨.d (.bool r_1.2), []⟩, ⟨.tup [], [([4], some (.cells [.d (.int .i64 r_1.1.Name), .d (.int .i64 r_1.1.A), .d (.int .i64 r_1.1.B), .d (.bool r_1.1.Mod)] 0))]⟩, ⟨.d (.bool r_1.2), []⟩] <| Rd <| kS_nrm <| Runs.ret <| kB_ret <| kS_ret ?_
  obtain rfl := Option.some.inj h
  exact ⟨Out.ret_ne, (by kernel_rfl)⟩
 | false =>
  replace h := ite_f hb_1 h
  refine Cf <| Sq <| Ro <| Rc 2 [⟨.d (.bool (op_ == 195)), []⟩, ⟨.d (.bool (op_ == 195)), []⟩] <| Rd <| kS_nrm ?_
  cases hb_2 : ((op_ == 195) : Bool) with
  | true =>
   replace h := ite_t hb_2 h
   refine Ct <| Sq <| Ro ?_
   obtain ⟨r_2, hr_2, h⟩ := bind_s h
   have hc_2 := isa_row_L 56 0 0 r_2 hr_2
   refine Rt (some 14) (.callf 38) [] none [.d (.int .i64 56), .d (.int .i64 0), .d (.int .i64 0)] (.tup [.d (Row.d r_2.1), .d (.bool r_2.2)]) [] (cut_call (call_of (ws := []) (us := []) (by kernel_rfl) (by kernel_rfl) hc_2 (by kernel_rfl) (by kernel_rfl))) <| Rc 4 [⟨.d (Row.d r_2.1), []⟩, ⟨.d (.bool r_2.2), []⟩, ⟨.tup [], [([4], some (.cells [.d (.int .i64 r_2.1.Name), .d (.int .i64 r_2.1.A), .d (.int .i64 r_2.1.B), .d (.bool r_2.1.Mod)] 0))]⟩, ⟨.d (.bool r_2.2), []⟩] <| Rd <| kS_nrm <| Runs.ret <| kB_ret <| kS_ret ?_
   obtain rfl := Option.some.inj h
   exact ⟨Out.ret_ne, (by kernel_rfl)⟩
  | false =>
   replace h := ite_f hb_2 h
   refine Cf <| Sq <| Ro <| Rc 2 [⟨.d (.bool (op_ == 196)), []⟩, ⟨.d (.bool (op_ == 196)), []⟩] <| Rd <| kS_nrm ?_
   cases hb_3 : ((op_ == 196) : Bool) with
   | true =>
    replace h := ite_t hb_3 h
    refine Ct <| Sq <| Ro ?_
    obtain ⟨r_3, hr_3, h⟩ := bind_s h
    have hc_3 := isa_mod_L 58 4 19 r_3 hr_3
    refine Rt (some 19) (.callf 67) [] none [.d (.int .i64 58), .d (.int .i64 4), .d (.int .i64 19)] (.tup [.d (Row.d r_3.1), .d (.bool r_3.2)]) [] (cut_call (call_of (ws := []) (us := []) (by kernel_rfl) (by kernel_rfl) hc_3 (by kernel_rfl) (by kernel_rfl))) <| Rc 4 [⟨.d (Row.d r_3.1), []⟩, ⟨.d (.bool r_3.2), []⟩, ⟨.tup [], [([4], some (.cells [.d (.int .i64 r_3.1.Name), .d (.int .i64 r_3.1.A), .d (.int .i64 r_3.1.B), .d (.bool r_3.1.Mod)] 0))]⟩, ⟨.d (.bool r_3.2), []⟩] <| Rd <| kS_nrm <| Runs.ret <| kB_ret <| kS_ret ?_
    obtain rfl := Option.some.inj h
    exact ⟨Out.ret_ne, (by kernel_rfl)⟩
   | false =>
    replace h := ite_f hb_3 h
    refine Cf <| Sq <| Ro <| Rc 2 [⟨.d (.bool (op_ == 197)), []⟩, ⟨.d (.bool (op_ == 197)), []⟩] <| Rd <| kS_nrm ?_
    cases hb_4 : ((op_ == 197) : Bool) with
    | true =>
     replace h := ite_t hb_4 h
     refine Ct <| Sq <| Ro ?_
     obtain ⟨r_4, hr_4, h⟩ := bind_s h
     have hc_4 := isa_mod_L 59 4 19 r_4 hr_4
     refine Rt (some 24) (.callf 67) [] none [.d (.int .i64 59), .d (.int .i64 4), .d (.int .i64 19)] (.tup [.d (Row.d r_4.1), .d (.bool r_4.2)]) [] (cut_call (call_of (ws := []) (us := []) (by kernel_rfl) (by kernel_rfl) hc_4 (by kernel_rfl) (by kernel_rfl))) <| Rc 4 [⟨.d (Row.d r_4.1), []⟩, ⟨.d (.bool r_4.2), []⟩, ⟨.tup [], [([4], some (.cells [.d (.int .i64 r_4.1.Name), .d (.int .i64 r_4.1.A), .d (.int .i64 r_4.1.B), .d (.bool r_4.1.Mod)] 0))]⟩, ⟨.d (.bool r_4.2), []⟩] <| Rd <| kS_nrm <| Runs.ret <| kB_ret <| kS_ret ?_
     obtain rfl := Option.some.inj h
     exact ⟨Out.ret_ne, (by kernel_rfl)⟩
    | false =>
     replace h := ite_f hb_4 h
     refine Cf <| Sq <| Ro <| Rc 2 [⟨.d (.bool (op_ == 198)), []⟩, ⟨.d (.bool (op_ == 198)), []⟩] <| Rd <| kS_nrm ?_
     cases hb_5 : ((op_ == 198) : Bool) with
     | true =>
      replace h := ite_t hb_5 h
      refine Ct <| Sq <| Ro <| Rc 2 [⟨.d (.int .i64 reg_), []⟩, ⟨.d (.bool (reg_ == 0)), []⟩] <| Rd <| kS_nrm ?_
      cases hb_6 : ((reg_ == 0) : Bool) with
      | true =>
       replace h := ite_t hb_6 h
       refine Ct <| Sq <| Ro ?_
       obtain ⟨r_5, hr_5, h⟩ := bind_s h
       have hc_5 := isa_mod_L 35 1 6 r_5 hr_5
       refine Rt (some 31) (.callf 67) [] none [.d (.int .i64 35), .d (.int .i64 1), .d (.int .i64 6)] (.tup [.d (Row.d r_5.1), .d (.bool r_5.2)]) [] (cut_call (call_of (ws := []) (us := []) (by kernel_rfl) (by kernel_rfl) hc_5 (by kernel_rfl) (by kernel_rfl))) <| Rc 4 [⟨.d (Row.d r_5.1), []⟩, ⟨.d (.bool r_5.2), []⟩, ⟨.tup [], [([4], some (.cells [.d (.int .i64 r_5.1.Name), .d (.int .i64 r_5.1.A), .d (.int .i64 r_5.1.B), .d (.bool r_5.1.Mod)] 0))]⟩, ⟨.d (.bool r_5.2), []⟩] <| Rd <| kS_nrm <| Runs.ret <| kB_ret <| kS_ret ?_
       obtain rfl := Option.some.inj h
       exact ⟨Out.ret_ne, (by kernel_rfl)⟩
      | false =>
       replace h := ite_f hb_6 h
       refine Cf <| Runs.skip <| kB_nrm <| kS_nrm <| Sq <| Ro ?_
       obtain ⟨r_6, hr_6, h⟩ := bind_s h
       have hc_6 := isa_bad_L r_6 hr_6
       refine Rt (some 71) (.callf 39) [] none [] (.tup [.d (Row.d r_6.1), .d (.bool r_6.2)]) [] (cut_call (call_of (ws := []) (us := []) (by kernel_rfl) (by kernel_rfl) hc_6 (by kernel_rfl) (by kernel_rfl))) <| Rc 4 [⟨.d (Row.d r_6.1), []⟩, ⟨.d (.bool r_6.2), []⟩, ⟨.tup [], [([4], some (.cells [.d (.int .i64 r_6.1.Name), .d (.int .i64 r_6.1.A), .d (.int .i64 r_6.1.B), .d (.bool r_6.1.Mod)] 0))]⟩, ⟨.d (.bool r_6.2), []⟩] <| Rd <| kS_nrm <| Runs.ret ?_
       obtain rfl := Option.some.inj h
       exact ⟨Out.ret_ne, (by kernel_rfl)⟩
     | false =>
      replace h := ite_f hb_5 h
      refine Cf <| Sq <| Ro <| Rc 2 [⟨.d (.bool (op_ == 199)), []⟩, ⟨.d (.bool (op_ == 199)), []⟩] <| Rd <| kS_nrm ?_
      cases hb_7 : ((op_ == 199) : Bool) with
      | true =>
       replace h := ite_t hb_7 h
       refine Ct <| Sq <| Ro <| Rc 2 [⟨.d (.int .i64 reg_), []⟩, ⟨.d (.bool (reg_ == 0)), []⟩] <| Rd <| kS_nrm ?_
       cases hb_8 : ((reg_ == 0) : Bool) with
       | true =>
        replace h := ite_t hb_8 h
        refine Ct <| Sq <| Ro ?_
        obtain ⟨r_7, hr_7, h⟩ := bind_s h
        have hc_7 := isa_mod_L 35 2 7 r_7 hr_7
        refine Rt (some 38) (.callf 67) [] none [.d (.int .i64 35), .d (.int .i64 2), .d (.int .i64 7)] (.tup [.d (Row.d r_7.1), .d (.bool r_7.2)]) [] (cut_call (call_of (ws := []) (us := []) (by kernel_rfl) (by kernel_rfl) hc_7 (by kernel_rfl) (by kernel_rfl))) <| Rc 4 [⟨.d (Row.d r_7.1), []⟩, ⟨.d (.bool r_7.2), []⟩, ⟨.tup [], [([4], some (.cells [.d (.int .i64 r_7.1.Name), .d (.int .i64 r_7.1.A), .d (.int .i64 r_7.1.B), .d (.bool r_7.1.Mod)] 0))]⟩, ⟨.d (.bool r_7.2), []⟩] <| Rd <| kS_nrm <| Runs.ret <| kB_ret <| kS_ret ?_
        obtain rfl := Option.some.inj h
        exact ⟨Out.ret_ne, (by kernel_rfl)⟩
       | false =>
        replace h := ite_f hb_8 h
        refine Cf <| Runs.skip <| kB_nrm <| kS_nrm <| Sq <| Ro ?_
        obtain ⟨r_8, hr_8, h⟩ := bind_s h
        have hc_8 := isa_bad_L r_8 hr_8
        refine Rt (some 71) (.callf 39) [] none [] (.tup [.d (Row.d r_8.1), .d (.bool r_8.2)]) [] (cut_call (call_of (ws := []) (us := []) (by kernel_rfl) (by kernel_rfl) hc_8 (by kernel_rfl) (by kernel_rfl))) <| Rc 4 [⟨.d (Row.d r_8.1), []⟩, ⟨.d (.bool r_8.2), []⟩, ⟨.tup [], [([4], some (.cells [.d (.int .i64 r_8.1.Name), .d (.int .i64 r_8.1.A), .d (.int .i64 r_8.1.B), .d (.bool r_8.1.Mod)] 0))]⟩, ⟨.d (.bool r_8.2), []⟩] <| Rd <| kS_nrm <| Runs.ret ?_
        obtain rfl := Option.some.inj h
        exact ⟨Out.ret_ne, (by kernel_rfl)⟩
      | false =>
       replace h := ite_f hb_7 h
       refine Cf <| Sq <| Ro <| Rc 2 [⟨.d (.bool (op_ == 202)), []⟩, ⟨.d (.bool (op_ == 202)), []⟩] <| Rd <| kS_nrm ?_
       cases hb_9 : ((op_ == 202) : Bool) with
       | true =>
        replace h := ite_t hb_9 h
        refine Ct <| Sq <| Ro ?_
        obtain ⟨r_9, hr_9, h⟩ := bind_s h
        have hc_9 := isa_row_L 57 7 0 r_9 hr_9
        refine Rt (some 43) (.callf 38) [] none [.d (.int .i64 57), .d (.int .i64 7), .d (.int .i64 0)] (.tup [.d (Row.d r_9.1), .d (.bool r_9.2)]) [] (cut_call (call_of (ws := []) (us := []) (by kernel_rfl) (by kernel_rfl) hc_9 (by kernel_rfl) (by kernel_rfl))) <| Rc 4 [⟨.d (Row.d r_9.1), []⟩, ⟨.d (.bool r_9.2), []⟩, ⟨.tup [], [([4], some (.cells [.d (.int .i64 r_9.1.Name), .d (.int .i64 r_9.1.A), .d (.int .i64 r_9.1.B), .d (.bool r_9.1.Mod)] 0))]⟩, ⟨.d (.bool r_9.2), []⟩] <| Rd <| kS_nrm <| Runs.ret <| kB_ret <| kS_ret ?_
        obtain rfl := Option.some.inj h
        exact ⟨Out.ret_ne, (by kernel_rfl)⟩
       | false =>
        replace h := ite_f hb_9 h
        refine Cf <| Sq <| Ro <| Rc 2 [⟨.d (.bool (op_ == 203)), []⟩, ⟨.d (.bool (op_ == 203)), []⟩] <| Rd <| kS_nrm ?_
        cases hb_10 : ((op_ == 203) : Bool) with
        | true =>
         replace h := ite_t hb_10 h
         refine Ct <| Sq <| Ro ?_
         obtain ⟨r_10, hr_10, h⟩ := bind_s h
         have hc_10 := isa_row_L 57 0 0 r_10 hr_10
         refine Rt (some 48) (.callf 38) [] none [.d (.int .i64 57), .d (.int .i64 0), .d (.int .i64 0)] (.tup [.d (Row.d r_10.1), .d (.bool r_10.2)]) [] (cut_call (call_of (ws := []) (us := []) (by kernel_rfl) (by kernel_rfl) hc_10 (by kernel_rfl) (by kernel_rfl))) <| Rc 4 [⟨.d (Row.d r_10.1), []⟩, ⟨.d (.bool r_10.2), []⟩, ⟨.tup [], [([4], some (.cells [.d (.int .i64 r_10.1.Name), .d (.int .i64 r_10.1.A), .d (.int .i64 r_10.1.B), .d (.bool r_10.1.Mod)] 0))]⟩, ⟨.d (.bool r_10.2), []⟩] <| Rd <| kS_nrm <| Runs.ret <| kB_ret <| kS_ret ?_
         obtain rfl := Option.some.inj h
         exact ⟨Out.ret_ne, (by kernel_rfl)⟩
        | false =>
         replace h := ite_f hb_10 h
         refine Cf <| Sq <| Ro <| Rc 2 [⟨.d (.bool (op_ == 204)), []⟩, ⟨.d (.bool (op_ == 204)), []⟩] <| Rd <| kS_nrm ?_
         cases hb_11 : ((op_ == 204) : Bool) with
         | true =>
          replace h := ite_t hb_11 h
          refine Ct <| Sq <| Ro ?_
          obtain ⟨r_11, hr_11, h⟩ := bind_s h
          have hc_11 := isa_row_L 60 24 0 r_11 hr_11
          refine Rt (some 53) (.callf 38) [] none [.d (.int .i64 60), .d (.int .i64 24), .d (.int .i64 0)] (.tup [.d (Row.d r_11.1), .d (.bool r_11.2)]) [] (cut_call (call_of (ws := []) (us := []) (by kernel_rfl) (by kernel_rfl) hc_11 (by kernel_rfl) (by kernel_rfl))) <| Rc 4 [⟨.d (Row.d r_11.1), []⟩, ⟨.d (.bool r_11.2), []⟩, ⟨.tup [], [([4], some (.cells [.d (.int .i64 r_11.1.Name), .d (.int .i64 r_11.1.A), .d (.int .i64 r_11.1.B), .d (.bool r_11.1.Mod)] 0))]⟩, ⟨.d (.bool r_11.2), []⟩] <| Rd <| kS_nrm <| Runs.ret <| kB_ret <| kS_ret ?_
          obtain rfl := Option.some.inj h
          exact ⟨Out.ret_ne, (by kernel_rfl)⟩
         | false =>
          replace h := ite_f hb_11 h
          refine Cf <| Sq <| Ro <| Rc 2 [⟨.d (.bool (op_ == 205)), []⟩, ⟨.d (.bool (op_ == 205)), []⟩] <| Rd <| kS_nrm ?_
          cases hb_12 : ((op_ == 205) : Bool) with
          | true =>
           replace h := ite_t hb_12 h
           refine Ct <| Sq <| Ro ?_
           obtain ⟨r_12, hr_12, h⟩ := bind_s h
           have hc_12 := isa_row_L 60 6 0 r_12 hr_12
           refine Rt (some 58) (.callf 38) [] none [.d (.int .i64 60), .d (.int .i64 6), .d (.int .i64 0)] (.tup [.d (Row.d r_12.1), .d (.bool r_12.2)]) [] (cut_call (call_of (ws := []) (us := []) (by kernel_rfl) (by kernel_rfl) hc_12 (by kernel_rfl) (by kernel_rfl))) <| Rc 4 [⟨.d (Row.d r_12.1), []⟩, ⟨.d (.bool r_12.2), []⟩, ⟨.tup [], [([4], some (.cells [.d (.int .i64 r_12.1.Name), .d (.int .i64 r_12.1.A), .d (.int .i64 r_12.1.B), .d (.bool r_12.1.Mod)] 0))]⟩, ⟨.d (.bool r_12.2), []⟩] <| Rd <| kS_nrm <| Runs.ret <| kB_ret <| kS_ret ?_
           obtain rfl := Option.some.inj h
           exact ⟨Out.ret_ne, (by kernel_rfl)⟩
          | false =>
           replace h := ite_f hb_12 h
           refine Cf <| Sq <| Ro <| Rc 2 [⟨.d (.bool (op_ == 206)), []⟩, ⟨.d (.bool (op_ == 206)), []⟩] <| Rd <| kS_nrm ?_
           cases hb_13 : ((op_ == 206) : Bool) with
           | true =>
            replace h := ite_t hb_13 h
            refine Ct <| Sq <| Ro ?_
            obtain ⟨r_13, hr_13, h⟩ := bind_s h
            have hc_13 := isa_row_L 61 0 0 r_13 hr_13
            refine Rt (some 63) (.callf 38) [] none [.d (.int .i64 61), .d (.int .i64 0), .d (.int .i64 0)] (.tup [.d (Row.d r_13.1), .d (.bool r_13.2)]) [] (cut_call (call_of (ws := []) (us := []) (by kernel_rfl) (by kernel_rfl) hc_13 (by kernel_rfl) (by kernel_rfl))) <| Rc 4 [⟨.d (Row.d r_13.1), []⟩, ⟨.d (.bool r_13.2), []⟩, ⟨.tup [], [([4], some (.cells [.d (.int .i64 r_13.1.Name), .d (.int .i64 r_13.1.A), .d (.int .i64 r_13.1.B), .d (.bool r_13.1.Mod)] 0))]⟩, ⟨.d (.bool r_13.2), []⟩] <| Rd <| kS_nrm <| Runs.ret <| kB_ret <| kS_ret ?_
            obtain rfl := Option.some.inj h
            exact ⟨Out.ret_ne, (by kernel_rfl)⟩
           | false =>
            replace h := ite_f hb_13 h
            refine Cf <| Sq <| Ro <| Rc 2 [⟨.d (.bool (op_ == 207)), []⟩, ⟨.d (.bool (op_ == 207)), []⟩] <| Rd <| kS_nrm ?_
            cases hb_14 : ((op_ == 207) : Bool) with
            | true =>
             replace h := ite_t hb_14 h
             refine Ct <| Sq <| Ro ?_
             obtain ⟨r_14, hr_14, h⟩ := bind_s h
             have hc_14 := isa_row_L 62 0 0 r_14 hr_14
             refine Rt (some 68) (.callf 38) [] none [.d (.int .i64 62), .d (.int .i64 0), .d (.int .i64 0)] (.tup [.d (Row.d r_14.1), .d (.bool r_14.2)]) [] (cut_call (call_of (ws := []) (us := []) (by kernel_rfl) (by kernel_rfl) hc_14 (by kernel_rfl) (by kernel_rfl))) <| Rc 4 [⟨.d (Row.d r_14.1), []⟩, ⟨.d (.bool r_14.2), []⟩, ⟨.tup [], [([4], some (.cells [.d (.int .i64 r_14.1.Name), .d (.int .i64 r_14.1.A), .d (.int .i64 r_14.1.B), .d (.bool r_14.1.Mod)] 0))]⟩, ⟨.d (.bool r_14.2), []⟩] <| Rd <| kS_nrm <| Runs.ret <| kB_ret <| kS_ret ?_
             obtain rfl := Option.some.inj h
             exact ⟨Out.ret_ne, (by kernel_rfl)⟩
            | false =>
             replace h := ite_f hb_14 h
             refine Cf <| Runs.skip <| kB_nrm <| kS_nrm <| Sq <| Ro ?_
             obtain ⟨r_15, hr_15, h⟩ := bind_s h
             have hc_15 := isa_bad_L r_15 hr_15
             refine Rt (some 71) (.callf 39) [] none [] (.tup [.d (Row.d r_15.1), .d (.bool r_15.2)]) [] (cut_call (call_of (ws := []) (us := []) (by kernel_rfl) (by kernel_rfl) hc_15 (by kernel_rfl) (by kernel_rfl))) <| Rc 4 [⟨.d (Row.d r_15.1), []⟩, ⟨.d (.bool r_15.2), []⟩, ⟨.tup [], [([4], some (.cells [.d (.int .i64 r_15.1.Name), .d (.int .i64 r_15.1.A), .d (.int .i64 r_15.1.B), .d (.bool r_15.1.Mod)] 0))]⟩, ⟨.d (.bool r_15.2), []⟩] <| Rd <| kS_nrm <| Runs.ret ?_
             obtain rfl := Option.some.inj h
             exact ⟨Out.ret_ne, (by kernel_rfl)⟩
theorem isa_backs_L (op_ : Int) (reg_ : Int) (r : (Row × Bool)) (h : isa_backs op_ reg_ = some r) : L 43 [.d (.int .u8 op_), .d (.int .i64 reg_)] = some (.tup [.d (Row.d r.1), .d (.bool r.2)], [.d (.int .u8 op_), .d (.int .i64 reg_)]) := by
 obtain ⟨p, ⟨hne, hf⟩, hr⟩ := isa_backs_ok op_ reg_ r h
 obtain ⟨k, hk⟩ := run_of (F := F43) (args := [.d (.int .u8 op_), .d (.int .i64 reg_)]) (ap := [.d (.int .u8 op_), .d (.int .i64 reg_)]) (bx0 := updW (fun _ => none) []) rfl rfl (by kernel_rfl) ⟨p, ⟨hne, hf⟩, hr⟩
 exact lim_run (k := k) rfl hk
def isa_turns_Q (op_ : Int) (reg_ : Int) (r : (Row × Bool)) (p : Out × St) : Prop := (∀ i, p.1 ≠ .exit i) ∧ finF F44 [.d (.int .u8 op_), .d (.int .i64 reg_)] p.2 = some (.tup [.d (Row.d r.1), .d (.bool r.2)], [.d (.int .u8 op_), .d (.int .i64 reg_)])
theorem isa_turns_ok (op_ : Int) (reg_ : Int) (r : (Row × Bool)) (h : isa_turns op_ reg_ = some r) : Runs L F44.body ⟨tmOf [.d (.int .u8 op_), .d (.int .i64 reg_)] 0, updW (fun _ => none) []⟩ (isa_turns_Q op_ reg_ r) := by
 unfold isa_turns at h
 refine Sq <| Ro <| Rc 2 [⟨.ptr [4] 0 0, [([4], some (.cells [.d (.int .i64 0), .d (.int .i64 0), .d (.int .i64 0), .d (.bool false)] 0))]⟩, ⟨.d (.bool false), []⟩] <| Rd <| kS_nrm <| Sq <| Sq <| Ro <| Rc 2 [⟨.d (.int .u8 op_), []⟩, ⟨.d (.bool (decide (op_ < 212))), []⟩] <| Rd <| kS_nrm ?_
 cases hb_1 : ((decide (op_ < 212)) : Bool) with
 | true =>
  replace h := ite_t hb_1 h
  refine Ct <| Sq <| Sq <| Ro <| Rc 2 [⟨.d (.int .i64 reg_), []⟩, ⟨.d (.bool (reg_ == 6)), []⟩] <| Rd <| kS_nrm ?_
  cases hb_2 : ((reg_ == 6) : Bool) with
  | true =>
   replace h := ite_t hb_2 h
   refine Ct <| Sq <| Ro ?_
   obtain ⟨r_1, hr_1, h⟩ := bind_s h
   have hc_1 := isa_bad_L r_1 hr_1
   refine Rt (some 13) (.callf 39) [] none [] (.tup [.d (Row.d r_1.1), .d (.bool r_1.2)]) [] (cut_call (call_of (ws := []) (us := []) (by kernel_rfl) (by kernel_rfl) hc_1 (by kernel_rfl) (by kernel_rfl))) <| Rc 4 [⟨.d (Row.d r_1.1), []⟩, ⟨.d (.bool r_1.2), []⟩, ⟨.tup [], [([4], some (.cells [.d (.int .i64 r_1.1.Name), .d (.int .i64 r_1.1.A), .d (.int .i64 r_1.1.B), .d (.bool r_1.1.Mod)] 0))]⟩, ⟨.d (.bool r_1.2), []⟩] <| Rd <| kS_nrm <| Runs.ret <| kS_ret <| kS_ret ?_
   obtain rfl := Option.some.inj h
   exact ⟨Out.ret_ne, (by kernel_rfl)⟩
  | false =>
   replace h := ite_f hb_2 h
   refine Cf <| Runs.skip <| kS_nrm <| Sq <| Ro <| Rc 2 [⟨.ref [16] 0 0 (List.map (D.int .i64) ([63, 64, 65, 66, 67, 68, 0, 69] : List Int)).length 1, [([16], some (.arr (List.map (D.int .i64) ([63, 64, 65, 66, 67, 68, 0, 69] : List Int)) 0 false))]⟩, ⟨.d (.int .i64 reg_), []⟩] ?_
   obtain ⟨z_1, hz_1, h⟩ := bind_s h
   refine Rt (some 18) (.iaddrS 1) [] none [.ref [16] 0 0 (List.map (D.int .i64) ([63, 64, 65, 66, 67, 68, 0, 69] : List Int)).length 1, .d (.int .i64 reg_)] (.eref [16] 0 (0 + (reg_).toNat) 0) [] (cut_atR (e := (D.int .i64)) (l := ([63, 64, 65, 66, 67, 68, 0, 69] : List Int)) hz_1 rfl) <| Rt (some 19) (.load none) [] none [.eref [16] 0 (0 + (reg_).toNat) 0] (.d (.int .i64 z_1)) [] (cut_loadR (e := (D.int .i64)) (l := ([63, 64, 65, 66, 67, 68, 0, 69] : List Int)) (fz := false) (y := z_1) (by kernel_rfl) hz_1 (by kernel_rfl) (by kernel_rfl)) <| Rc 1 [⟨.d (.int .i64 z_1), []⟩] <| Rd <| kS_nrm <| Sq <| Ro <| Rc 2 [⟨.d (.int .i64 1), []⟩, ⟨.d (.int .i64 18), []⟩] <| Rd <| kS_nrm <| Sq <| Sq <| Ro <| Rc 3 [⟨.d (.int .u8 op_), []⟩, ⟨.d (.int .u8 (bitsOp .and .u8 op_ 1)), []⟩, ⟨.d (.bool ((bitsOp .and .u8 op_ 1) == 1)), []⟩] <| Rd <| kS_nrm ?_
   cases hb_3 : (((bitsOp .and .u8 op_ 1) == 1) : Bool) with
   | true =>
    replace h := ite_t hb_3 h
    refine Ct <| Ro <| Rc 1 [⟨.d (.int .i64 2), []⟩] <| Rd <| kS_nrm <| Sq <| Sq <| Ro <| Rc 3 [⟨.d (.int .u8 op_), []⟩, ⟨.d (.int .u8 (bitsOp .and .u8 op_ 2)), []⟩, ⟨.d (.bool ((bitsOp .and .u8 op_ 2) != 0)), []⟩] <| Rd <| kS_nrm ?_
    cases hb_4 : (((bitsOp .and .u8 op_ 2) != 0) : Bool) with
    | true =>
     replace h := ite_t hb_4 h
     refine Ct <| Ro <| Rc 1 [⟨.d (.int .i64 15), []⟩] <| Rd <| kS_nrm <| Sq <| Ro <| Rc 3 [⟨.d (.int .i64 z_1), []⟩, ⟨.d (.int .i64 2), []⟩, ⟨.d (.int .i64 15), []⟩] ?_
     obtain ⟨r_2, hr_2, h⟩ := bind_s h
     have hc_2 := isa_mod_L z_1 2 15 r_2 hr_2
     refine Rt (some 29) (.callf 67) [] none [.d (.int .i64 z_1), .d (.int .i64 2), .d (.int .i64 15)] (.tup [.d (Row.d r_2.1), .d (.bool r_2.2)]) [] (cut_call (call_of (ws := []) (us := []) (by kernel_rfl) (by kernel_rfl) hc_2 (by kernel_rfl) (by kernel_rfl))) <| Rc 4 [⟨.d (Row.d r_2.1), []⟩, ⟨.d (.bool r_2.2), []⟩, ⟨.tup [], [([4], some (.cells [.d (.int .i64 r_2.1.Name), .d (.int .i64 r_2.1.A), .d (.int .i64 r_2.1.B), .d (.bool r_2.1.Mod)] 0))]⟩, ⟨.d (.bool r_2.2), []⟩] <| Rd <| kS_nrm <| Runs.ret <| kS_ret ?_
     obtain rfl := Option.some.inj h
     exact ⟨Out.ret_ne, (by kernel_rfl)⟩
    | false =>
     replace h := ite_f hb_4 h
     refine Cf <| Runs.skip <| kS_nrm <| Sq <| Ro <| Rc 3 [⟨.d (.int .i64 z_1), []⟩, ⟨.d (.int .i64 2), []⟩, ⟨.d (.int .i64 18), []⟩] ?_
     obtain ⟨r_3, hr_3, h⟩ := bind_s h
     have hc_3 := isa_mod_L z_1 2 18 r_3 hr_3
     refine Rt (some 29) (.callf 67) [] none [.d (.int .i64 z_1), .d (.int .i64 2), .d (.int .i64 18)] (.tup [.d (Row.d r_3.1), .d (.bool r_3.2)]) [] (cut_call (call_of (ws := []) (us := []) (by kernel_rfl) (by kernel_rfl) hc_3 (by kernel_rfl) (by kernel_rfl))) <| Rc 4 [⟨.d (Row.d r_3.1), []⟩, ⟨.d (.bool r_3.2), []⟩, ⟨.tup [], [([4], some (.cells [.d (.int .i64 r_3.1.Name), .d (.int .i64 r_3.1.A), .d (.int .i64 r_3.1.B), .d (.bool r_3.1.Mod)] 0))]⟩, ⟨.d (.bool r_3.2), []⟩] <| Rd <| kS_nrm <| Runs.ret <| kS_ret ?_
     obtain rfl := Option.some.inj h
     exact ⟨Out.ret_ne, (by kernel_rfl)⟩
   | false =>
    replace h := ite_f hb_3 h
    refine Cf <| Runs.skip <| kS_nrm <| Sq <| Sq <| Ro <| Rc 3 [⟨.d (.int .u8 op_), []⟩, ⟨.d (.int .u8 (bitsOp .and .u8 op_ 2)), []⟩, ⟨.d (.bool ((bitsOp .and .u8 op_ 2) != 0)), []⟩] <| Rd <| kS_nrm ?_
    cases hb_5 : (((bitsOp .and .u8 op_ 2) != 0) : Bool) with
    | true =>
     replace h := ite_t hb_5 h
     refine Ct <| Ro <| Rc 1 [⟨.d (.int .i64 15), []⟩] <| Rd <| kS_nrm <| Sq <| Ro <| Rc 3 [⟨.d (.int .i64 z_1), []⟩, ⟨.d (.int .i64 1), []⟩, ⟨.d (.int .i64 15), []⟩] ?_
     obtain ⟨r_4, hr_4, h⟩ := bind_s h
     have hc_4 := isa_mod_L z_1 1 15 r_4 hr_4
     refine Rt (some 29) (.callf 67) [] none [.d (.int .i64 z_1), .d (.int .i64 1), .d (.int .i64 15)] (.tup [.d (Row.d r_4.1), .d (.bool r_4.2)]) [] (cut_call (call_of (ws := []) (us := []) (by kernel_rfl) (by kernel_rfl) hc_4 (by kernel_rfl) (by kernel_rfl))) <| Rc 4 [⟨.d (Row.d r_4.1), []⟩, ⟨.d (.bool r_4.2), []⟩, ⟨.tup [], [([4], some (.cells [.d (.int .i64 r_4.1.Name), .d (.int .i64 r_4.1.A), .d (.int .i64 r_4.1.B), .d (.bool r_4.1.Mod)] 0))]⟩, ⟨.d (.bool r_4.2), []⟩] <| Rd <| kS_nrm <| Runs.ret <| kS_ret ?_
     obtain rfl := Option.some.inj h
     exact ⟨Out.ret_ne, (by kernel_rfl)⟩
    | false =>
     replace h := ite_f hb_5 h
     refine Cf <| Runs.skip <| kS_nrm <| Sq <| Ro <| Rc 3 [⟨.d (.int .i64 z_1), []⟩, ⟨.d (.int .i64 1), []⟩, ⟨.d (.int .i64 18), []⟩] ?_
     obtain ⟨r_5, hr_5, h⟩ := bind_s h
     have hc_5 := isa_mod_L z_1 1 18 r_5 hr_5
     refine Rt (some 29) (.callf 67) [] none [.d (.int .i64 z_1), .d (.int .i64 1), .d (.int .i64 18)] (.tup [.d (Row.d r_5.1), .d (.bool r_5.2)]) [] (cut_call (call_of (ws := []) (us := []) (by kernel_rfl) (by kernel_rfl) hc_5 (by kernel_rfl) (by kernel_rfl))) <| Rc 4 [⟨.d (Row.d r_5.1), []⟩, ⟨.d (.bool r_5.2), []⟩, ⟨.tup [], [([4], some (.cells [.d (.int .i64 r_5.1.Name), .d (.int .i64 r_5.1.A), .d (.int .i64 r_5.1.B), .d (.bool r_5.1.Mod)] 0))]⟩, ⟨.d (.bool r_5.2), []⟩] <| Rd <| kS_nrm <| Runs.ret <| kS_ret ?_
     obtain rfl := Option.some.inj h
     exact ⟨Out.ret_ne, (by kernel_rfl)⟩
 | false =>
  replace h := ite_f hb_1 h
  refine Cf <| Runs.skip <| kS_nrm <| Sq <| Runs.block <| Sq <| Ro <| Rc 3 [⟨.d (.int .u8 op_), []⟩, ⟨.d (.bool (op_ == 212)), []⟩, ⟨.d (.bool (op_ == 212)), []⟩] <| Rd <| kS_nrm ?_
  cases hb_6 : ((op_ == 212) : Bool) with
  | true =>
   replace h := ite_t hb_6 h
   refine Ct <| Sq <| Ro ?_
   obtain ⟨r_6, hr_6, h⟩ := bind_s h
   have hc_6 := isa_row_L 70 6 0 r_6 hr_6
   refine Rt (some 35) (.callf 38) [] none [.d (.int .i64 70), .d (.int .i64 6), .d (.int .i64 0)] (.tup [.d (Row.d r_6.1), .d (.bool r_6.2)]) [] (cut_call (call_of (ws := []) (us := []) (by kernel_rfl) (by kernel_rfl) hc_6 (by kernel_rfl) (by kernel_rfl))) <| Rc 4 [⟨.d (Row.d r_6.1), []⟩, ⟨.d (.bool r_6.2), []⟩, ⟨.tup [], [([4], some (.cells [.d (.int .i64 r_6.1.Name), .d (.int .i64 r_6.1.A), .d (.int .i64 r_6.1.B), .d (.bool r_6.1.Mod)] 0))]⟩, ⟨.d (.bool r_6.2), []⟩] <| Rd <| kS_nrm <| Runs.ret <| kB_ret <| kS_ret ?_
   obtain rfl := Option.some.inj h
   exact ⟨Out.ret_ne, (by kernel_rfl)⟩
  | false =>
   replace h := ite_f hb_6 h
   refine Cf <| Sq <| Ro <| Rc 3 [⟨.d (.int .u8 op_), []⟩, ⟨.d (.bool (op_ == 213)), []⟩, ⟨.d (.bool (op_ == 213)), []⟩] <| Rd <| kS_nrm ?_
   cases hb_7 : ((op_ == 213) : Bool) with
   | true =>
    replace h := ite_t hb_7 h
    refine Ct <| Sq <| Ro ?_
    obtain ⟨r_7, hr_7, h⟩ := bind_s h
    have hc_7 := isa_row_L 71 6 0 r_7 hr_7
    refine Rt (some 41) (.callf 38) [] none [.d (.int .i64 71), .d (.int .i64 6), .d (.int .i64 0)] (.tup [.d (Row.d r_7.1), .d (.bool r_7.2)]) [] (cut_call (call_of (ws := []) (us := []) (by kernel_rfl) (by kernel_rfl) hc_7 (by kernel_rfl) (by kernel_rfl))) <| Rc 4 [⟨.d (Row.d r_7.1), []⟩, ⟨.d (.bool r_7.2), []⟩, ⟨.tup [], [([4], some (.cells [.d (.int .i64 r_7.1.Name), .d (.int .i64 r_7.1.A), .d (.int .i64 r_7.1.B), .d (.bool r_7.1.Mod)] 0))]⟩, ⟨.d (.bool r_7.2), []⟩] <| Rd <| kS_nrm <| Runs.ret <| kB_ret <| kS_ret ?_
    obtain rfl := Option.some.inj h
    exact ⟨Out.ret_ne, (by kernel_rfl)⟩
   | false =>
    replace h := ite_f hb_7 h
    refine Cf <| Sq <| Ro <| Rc 3 [⟨.d (.int .u8 op_), []⟩, ⟨.d (.bool (op_ == 215)), []⟩, ⟨.d (.bool (op_ == 215)), []⟩] <| Rd <| kS_nrm ?_
    cases hb_8 : ((op_ == 215) : Bool) with
    | true =>
     replace h := ite_t hb_8 h
     refine Ct <| Sq <| Ro ?_
     obtain ⟨r_8, hr_8, h⟩ := bind_s h
     have hc_8 := isa_row_L 72 0 0 r_8 hr_8
     refine Rt (some 47) (.callf 38) [] none [.d (.int .i64 72), .d (.int .i64 0), .d (.int .i64 0)] (.tup [.d (Row.d r_8.1), .d (.bool r_8.2)]) [] (cut_call (call_of (ws := []) (us := []) (by kernel_rfl) (by kernel_rfl) hc_8 (by kernel_rfl) (by kernel_rfl))) <| Rc 4 [⟨.d (Row.d r_8.1), []⟩, ⟨.d (.bool r_8.2), []⟩, ⟨.tup [], [([4], some (.cells [.d (.int .i64 r_8.1.Name), .d (.int .i64 r_8.1.A), .d (.int .i64 r_8.1.B), .d (.bool r_8.1.Mod)] 0))]⟩, ⟨.d (.bool r_8.2), []⟩] <| Rd <| kS_nrm <| Runs.ret <| kB_ret <| kS_ret ?_
     obtain rfl := Option.some.inj h
     exact ⟨Out.ret_ne, (by kernel_rfl)⟩
    | false =>
     replace h := ite_f hb_8 h
     refine Cf <| Sq <| Ro <| Rc 3 [⟨.d (.int .u8 op_), []⟩, ⟨.d (.bool (decide (op_ ≥ 216))), []⟩, ⟨.d (.bool (decide (op_ ≥ 216))), []⟩] <| Rd <| kS_nrm ?_
     cases hb_9 : ((decide (op_ ≥ 216)) : Bool) with
     | true =>
      replace h := ite_t hb_9 h
      refine Ct <| Sq <| Ro ?_
      obtain ⟨r_9, hr_9, h⟩ := bind_s h
      have hc_9 := isa_mod_L 73 2 0 r_9 hr_9
      refine Rt (some 53) (.callf 67) [] none [.d (.int .i64 73), .d (.int .i64 2), .d (.int .i64 0)] (.tup [.d (Row.d r_9.1), .d (.bool r_9.2)]) [] (cut_call (call_of (ws := []) (us := []) (by kernel_rfl) (by kernel_rfl) hc_9 (by kernel_rfl) (by kernel_rfl))) <| Rc 4 [⟨.d (Row.d r_9.1), []⟩, ⟨.d (.bool r_9.2), []⟩, ⟨.tup [], [([4], some (.cells [.d (.int .i64 r_9.1.Name), .d (.int .i64 r_9.1.A), .d (.int .i64 r_9.1.B), .d (.bool r_9.1.Mod)] 0))]⟩, ⟨.d (.bool r_9.2), []⟩] <| Rd <| kS_nrm <| Runs.ret <| kB_ret <| kS_ret ?_
      obtain rfl := Option.some.inj h
      exact ⟨Out.ret_ne, (by kernel_rfl)⟩
     | false =>
      replace h := ite_f hb_9 h
      refine Cf <| Runs.skip <| kB_nrm <| kS_nrm <| Sq <| Ro ?_
      obtain ⟨r_10, hr_10, h⟩ := bind_s h
      have hc_10 := isa_bad_L r_10 hr_10
      refine Rt (some 56) (.callf 39) [] none [] (.tup [.d (Row.d r_10.1), .d (.bool r_10.2)]) [] (cut_call (call_of (ws := []) (us := []) (by kernel_rfl) (by kernel_rfl) hc_10 (by kernel_rfl) (by kernel_rfl))) <| Rc 4 [⟨.d (Row.d r_10.1), []⟩, ⟨.d (.bool r_10.2), []⟩, ⟨.tup [], [([4], some (.cells [.d (.int .i64 r_10.1.Name), .d (.int .i64 r_10.1.A), .d (.int .i64 r_10.1.B), .d (.bool r_10.1.Mod)] 0))]⟩, ⟨.d (.bool r_10.2), []⟩] <| Rd <| kS_nrm <| Runs.ret ?_
      obtain rfl := Option.some.inj h
      exact ⟨Out.ret_ne, (by kernel_rfl)⟩
theorem isa_turns_L (op_ : Int) (reg_ : Int) (r : (Row × Bool)) (h : isa_turns op_ reg_ = some r) : L 44 [.d (.int .u8 op_), .d (.int .i64 reg_)] = some (.tup [.d (Row.d r.1), .d (.bool r.2)], [.d (.int .u8 op_), .d (.int .i64 reg_)]) := by
 obtain ⟨p, ⟨hne, hf⟩, hr⟩ := isa_turns_ok op_ reg_ r h
 obtain ⟨k, hk⟩ := run_of (F := F44) (args := [.d (.int .u8 op_), .d (.int .i64 reg_)]) (ap := [.d (.int .u8 op_), .d (.int .i64 reg_)]) (bx0 := updW (fun _ => none) []) rfl rfl (by kernel_rfl) ⟨p, ⟨hne, hf⟩, hr⟩
 exact lim_run (k := k) rfl hk
def isa_goes_h20 (b_2 : Row) (op0 : Int) (t4 : Int) (t5 : Bool) : St := ⟨tab [(0, .d (.int .u8 op0)), (2, .ptr [2] 0 0), (4, .d (.int .u8 t4)), (5, .d (.bool t5))], tabB [([2], some (.cells [.d (.int .i64 b_2.Name), .d (.int .i64 b_2.A), .d (.int .i64 b_2.B), .d (.bool b_2.Mod)] 0))]⟩
def isa_goes_Q (op_ : Int) (r : (Row × Bool)) (p : Out × St) : Prop := (∀ i, p.1 ≠ .exit i) ∧ finF F45 [.d (.int .u8 op_)] p.2 = some (.tup [.d (Row.d r.1), .d (.bool r.2)], [.d (.int .u8 op_)])
theorem isa_goes_j20_ok (op_ : Int) (b_2 : Row) (op0 : Int) (t4 : Int) (t5 : Bool) (r : (Row × Bool)) (h : isa_goes_j20 b_2 op0 t4 t5 = some r) : Runs L F45b20 (isa_goes_h20 b_2 op0 t4 t5) (kB 0 (kS L F45c91 (isa_goes_Q op_ r))) := by
 unfold isa_goes_j20 at h
 cases hb_2 : (t5 : Bool) with
 | true =>
  replace h := ite_t hb_2 h
  refine Ct <| Sq <| Ro <| Rc 4 [⟨.d (.int .u8 op0), []⟩, ⟨.d (.int .u8 (IntKind.wrap .u8 (op0 - 224))), []⟩, ⟨.d (.int .i64 (IntKind.wrap .i64 (IntKind.wrap .u8 (op0 - 224)))), []⟩, ⟨.d (.int .i64 (IntKind.wrap .i64 (74 + (IntKind.wrap .i64 (IntKind.wrap .u8 (op0 - 224)))))), []⟩] ?_
  obtain ⟨r_1, hr_1, h⟩ := bind_s h
  have hc_1 := isa_row_L (IntKind.wrap .i64 (74 + (IntKind.wrap .i64 (IntKind.wrap .u8 (op0 - 224))))) 9 0 r_1 hr_1
  refine Rt (some 14) (.callf 38) [] none [.d (.int .i64 (IntKind.wrap .i64 (74 + (IntKind.wrap .i64 (IntKind.wrap .u8 (op0 - 224)))))), .d (.int .i64 9), .d (.int .i64 0)] (.tup [.d (Row.d r_1.1), .d (.bool r_1.2)]) [] (cut_call (call_of (ws := []) (us := []) (by kernel_rfl) (by kernel_rfl) hc_1 (by kernel_rfl) (by kernel_rfl))) <| Rc 4 [⟨.d (Row.d r_1.1), []⟩, ⟨.d (.bool r_1.2), []⟩, ⟨.tup [], [([2], some (.cells [.d (.int .i64 r_1.1.Name), .d (.int .i64 r_1.1.A), .d (.int .i64 r_1.1.B), .d (.bool r_1.1.Mod)] 0))]⟩, ⟨.d (.bool r_1.2), []⟩] <| Rd <| kS_nrm <| Runs.ret <| kB_ret <| kS_ret ?_
  obtain rfl := Option.some.inj h
  exact ⟨Out.ret_ne, (by kernel_rfl)⟩
 | false =>
  replace h := ite_f hb_2 h
  refine Cf <| Sq <| Ro <| Rc 2 [⟨.d (.bool (t4 == 228)), []⟩, ⟨.d (.bool (t4 == 228)), []⟩] <| Rd <| kS_nrm ?_
  cases hb_3 : ((t4 == 228) : Bool) with
  | true =>
   replace h := ite_t hb_3 h
   refine Ct <| Sq <| Ro ?_
   obtain ⟨r_2, hr_2, h⟩ := bind_s h
   have hc_2 := isa_row_L 78 14 6 r_2 hr_2
   refine Rt (some 19) (.callf 38) [] none [.d (.int .i64 78), .d (.int .i64 14), .d (.int .i64 6)] (.tup [.d (Row.d r_2.1), .d (.bool r_2.2)]) [] (cut_call (call_of (ws := []) (us := []) (by kernel_rfl) (by kernel_rfl) hc_2 (by kernel_rfl) (by kernel_rfl))) <| Rc 4 [⟨.d (Row.d r_2.1), []⟩, ⟨.d (.bool r_2.2), []⟩, ⟨.tup [], [([2], some (.cells [.d (.int .i64 r_2.1.Name), .d (.int .i64 r_2.1.A), .d (.int .i64 r_2.1.B), .d (.bool r_2.1.Mod)] 0))]⟩, ⟨.d (.bool r_2.2), []⟩] <| Rd <| kS_nrm <| Runs.ret <| kB_ret <| kS_ret ?_
   obtain rfl := Option.some.inj h
   exact ⟨Out.ret_ne, (by kernel_rfl)⟩
  | false =>
   replace h := ite_f hb_3 h
   refine Cf <| Sq <| Ro <| Rc 2 [⟨.d (.bool (t4 == 229)), []⟩, ⟨.d (.bool (t4 == 229)), []⟩] <| Rd <| kS_nrm ?_
   cases hb_4 : ((t4 == 229) : Bool) with
   | true =>
    replace h := ite_t hb_4 h
    refine Ct <| Sq <| Ro ?_
    obtain ⟨r_3, hr_3, h⟩ := bind_s h
    have hc_3 := isa_row_L 78 16 6 r_3 hr_3
    refine Rt (some 24) (.callf 38) [] none [.d (.int .i64 78), .d (.int .i64 16), .d (.int .i64 6)] (.tup [.d (Row.d r_3.1), .d (.bool r_3.2)]) [] (cut_call (call_of (ws := []) (us := []) (by kernel_rfl) (by kernel_rfl) hc_3 (by kernel_rfl) (by kernel_rfl))) <| Rc 4 [⟨.d (Row.d r_3.1), []⟩, ⟨.d (.bool r_3.2), []⟩, ⟨.tup [], [([2], some (.cells [.d (.int .i64 r_3.1.Name), .d (.int .i64 r_3.1.A), .d (.int .i64 r_3.1.B), .d (.bool r_3.1.Mod)] 0))]⟩, ⟨.d (.bool r_3.2), []⟩] <| Rd <| kS_nrm <| Runs.ret <| kB_ret <| kS_ret ?_
    obtain rfl := Option.some.inj h
    exact ⟨Out.ret_ne, (by kernel_rfl)⟩
   | false =>
    replace h := ite_f hb_4 h
    refine Cf <| Sq <| Ro <| Rc 2 [⟨.d (.bool (t4 == 230)), []⟩, ⟨.d (.bool (t4 == 230)), []⟩] <| Rd <| kS_nrm ?_
    cases hb_5 : ((t4 == 230) : Bool) with
    | true =>
     replace h := ite_t hb_5 h
     refine Ct <| Sq <| Ro ?_
     obtain ⟨r_4, hr_4, h⟩ := bind_s h
     have hc_4 := isa_row_L 79 6 14 r_4 hr_4
     refine Rt (some 29) (.callf 38) [] none [.d (.int .i64 79), .d (.int .i64 6), .d (.int .i64 14)] (.tup [.d (Row.d r_4.1), .d (.bool r_4.2)]) [] (cut_call (call_of (ws := []) (us := []) (by kernel_rfl) (by kernel_rfl) hc_4 (by kernel_rfl) (by kernel_rfl))) <| Rc 4 [⟨.d (Row.d r_4.1), []⟩, ⟨.d (.bool r_4.2), []⟩, ⟨.tup [], [([2], some (.cells [.d (.int .i64 r_4.1.Name), .d (.int .i64 r_4.1.A), .d (.int .i64 r_4.1.B), .d (.bool r_4.1.Mod)] 0))]⟩, ⟨.d (.bool r_4.2), []⟩] <| Rd <| kS_nrm <| Runs.ret <| kB_ret <| kS_ret ?_
     obtain rfl := Option.some.inj h
     exact ⟨Out.ret_ne, (by kernel_rfl)⟩
    | false =>
     replace h := ite_f hb_5 h
     refine Cf <| Sq <| Ro <| Rc 2 [⟨.d (.bool (t4 == 231)), []⟩, ⟨.d (.bool (t4 == 231)), []⟩] <| Rd <| kS_nrm ?_
     cases hb_6 : ((t4 == 231) : Bool) with
     | true =>
      replace h := ite_t hb_6 h
      refine Ct <| Sq <| Ro ?_
      obtain ⟨r_5, hr_5, h⟩ := bind_s h
      have hc_5 := isa_row_L 79 6 16 r_5 hr_5
      refine Rt (some 34) (.callf 38) [] none [.d (.int .i64 79), .d (.int .i64 6), .d (.int .i64 16)] (.tup [.d (Row.d r_5.1), .d (.bool r_5.2)]) [] (cut_call (call_of (ws := []) (us := []) (by kernel_rfl) (by kernel_rfl) hc_5 (by kernel_rfl) (by kernel_rfl))) <| Rc 4 [⟨.d (Row.d r_5.1), []⟩, ⟨.d (.bool r_5.2), []⟩, ⟨.tup [], [([2], some (.cells [.d (.int .i64 r_5.1.Name), .d (.int .i64 r_5.1.A), .d (.int .i64 r_5.1.B), .d (.bool r_5.1.Mod)] 0))]⟩, ⟨.d (.bool r_5.2), []⟩] <| Rd <| kS_nrm <| Runs.ret <| kB_ret <| kS_ret ?_
      obtain rfl := Option.some.inj h
      exact ⟨Out.ret_ne, (by kernel_rfl)⟩
     | false =>
      replace h := ite_f hb_6 h
      refine Cf <| Sq <| Ro <| Rc 2 [⟨.d (.bool (t4 == 232)), []⟩, ⟨.d (.bool (t4 == 232)), []⟩] <| Rd <| kS_nrm ?_
      cases hb_7 : ((t4 == 232) : Bool) with
      | true =>
       replace h := ite_t hb_7 h
       refine Ct <| Sq <| Ro ?_
       obtain ⟨r_6, hr_6, h⟩ := bind_s h
       have hc_6 := isa_row_L 39 10 0 r_6 hr_6
       refine Rt (some 39) (.callf 38) [] none [.d (.int .i64 39), .d (.int .i64 10), .d (.int .i64 0)] (.tup [.d (Row.d r_6.1), .d (.bool r_6.2)]) [] (cut_call (call_of (ws := []) (us := []) (by kernel_rfl) (by kernel_rfl) hc_6 (by kernel_rfl) (by kernel_rfl))) <| Rc 4 [⟨.d (Row.d r_6.1), []⟩, ⟨.d (.bool r_6.2), []⟩, ⟨.tup [], [([2], some (.cells [.d (.int .i64 r_6.1.Name), .d (.int .i64 r_6.1.A), .d (.int .i64 r_6.1.B), .d (.bool r_6.1.Mod)] 0))]⟩, ⟨.d (.bool r_6.2), []⟩] <| Rd <| kS_nrm <| Runs.ret <| kB_ret <| kS_ret ?_
       obtain rfl := Option.some.inj h
       exact ⟨Out.ret_ne, (by kernel_rfl)⟩
      | false =>
       replace h := ite_f hb_7 h
       refine Cf <| Sq <| Ro <| Rc 2 [⟨.d (.bool (t4 == 233)), []⟩, ⟨.d (.bool (t4 == 233)), []⟩] <| Rd <| kS_nrm ?_
       cases hb_8 : ((t4 == 233) : Bool) with
       | true =>
        replace h := ite_t hb_8 h
        refine Ct <| Sq <| Ro ?_
        obtain ⟨r_7, hr_7, h⟩ := bind_s h
        have hc_7 := isa_row_L 80 10 0 r_7 hr_7
        refine Rt (some 44) (.callf 38) [] none [.d (.int .i64 80), .d (.int .i64 10), .d (.int .i64 0)] (.tup [.d (Row.d r_7.1), .d (.bool r_7.2)]) [] (cut_call (call_of (ws := []) (us := []) (by kernel_rfl) (by kernel_rfl) hc_7 (by kernel_rfl) (by kernel_rfl))) <| Rc 4 [⟨.d (Row.d r_7.1), []⟩, ⟨.d (.bool r_7.2), []⟩, ⟨.tup [], [([2], some (.cells [.d (.int .i64 r_7.1.Name), .d (.int .i64 r_7.1.A), .d (.int .i64 r_7.1.B), .d (.bool r_7.1.Mod)] 0))]⟩, ⟨.d (.bool r_7.2), []⟩] <| Rd <| kS_nrm <| Runs.ret <| kB_ret <| kS_ret ?_
        obtain rfl := Option.some.inj h
        exact ⟨Out.ret_ne, (by kernel_rfl)⟩
       | false =>
        replace h := ite_f hb_8 h
        refine Cf <| Sq <| Ro <| Rc 2 [⟨.d (.bool (t4 == 234)), []⟩, ⟨.d (.bool (t4 == 234)), []⟩] <| Rd <| kS_nrm ?_
        cases hb_9 : ((t4 == 234) : Bool) with
        | true =>
         replace h := ite_t hb_9 h
         refine Ct <| Sq <| Ro ?_
         obtain ⟨r_8, hr_8, h⟩ := bind_s h
         have hc_8 := isa_row_L 81 11 0 r_8 hr_8
         refine Rt (some 49) (.callf 38) [] none [.d (.int .i64 81), .d (.int .i64 11), .d (.int .i64 0)] (.tup [.d (Row.d r_8.1), .d (.bool r_8.2)]) [] (cut_call (call_of (ws := []) (us := []) (by kernel_rfl) (by kernel_rfl) hc_8 (by kernel_rfl) (by kernel_rfl))) <| Rc 4 [⟨.d (Row.d r_8.1), []⟩, ⟨.d (.bool r_8.2), []⟩, ⟨.tup [], [([2], some (.cells [.d (.int .i64 r_8.1.Name), .d (.int .i64 r_8.1.A), .d (.int .i64 r_8.1.B), .d (.bool r_8.1.Mod)] 0))]⟩, ⟨.d (.bool r_8.2), []⟩] <| Rd <| kS_nrm <| Runs.ret <| kB_ret <| kS_ret ?_
         obtain rfl := Option.some.inj h
         exact ⟨Out.ret_ne, (by kernel_rfl)⟩
        | false =>
         replace h := ite_f hb_9 h
         refine Cf <| Sq <| Ro <| Rc 2 [⟨.d (.bool (t4 == 235)), []⟩, ⟨.d (.bool (t4 == 235)), []⟩] <| Rd <| kS_nrm ?_
         cases hb_10 : ((t4 == 235) : Bool) with
         | true =>
          replace h := ite_t hb_10 h
          refine Ct <| Sq <| Ro ?_
          obtain ⟨r_9, hr_9, h⟩ := bind_s h
          have hc_9 := isa_row_L 80 9 0 r_9 hr_9
          refine Rt (some 54) (.callf 38) [] none [.d (.int .i64 80), .d (.int .i64 9), .d (.int .i64 0)] (.tup [.d (Row.d r_9.1), .d (.bool r_9.2)]) [] (cut_call (call_of (ws := []) (us := []) (by kernel_rfl) (by kernel_rfl) hc_9 (by kernel_rfl) (by kernel_rfl))) <| Rc 4 [⟨.d (Row.d r_9.1), []⟩, ⟨.d (.bool r_9.2), []⟩, ⟨.tup [], [([2], some (.cells [.d (.int .i64 r_9.1.Name), .d (.int .i64 r_9.1.A), .d (.int .i64 r_9.1.B), .d (.bool r_9.1.Mod)] 0))]⟩, ⟨.d (.bool r_9.2), []⟩] <| Rd <| kS_nrm <| Runs.ret <| kB_ret <| kS_ret ?_
          obtain rfl := Option.some.inj h
          exact ⟨Out.ret_ne, (by kernel_rfl)⟩
         | false =>
          replace h := ite_f hb_10 h
          refine Cf <| Sq <| Ro <| Rc 2 [⟨.d (.bool (t4 == 236)), []⟩, ⟨.d (.bool (t4 == 236)), []⟩] <| Rd <| kS_nrm ?_
          cases hb_11 : ((t4 == 236) : Bool) with
          | true =>
           replace h := ite_t hb_11 h
           refine Ct <| Sq <| Ro ?_
           obtain ⟨r_10, hr_10, h⟩ := bind_s h
           have hc_10 := isa_row_L 78 14 17 r_10 hr_10
           refine Rt (some 59) (.callf 38) [] none [.d (.int .i64 78), .d (.int .i64 14), .d (.int .i64 17)] (.tup [.d (Row.d r_10.1), .d (.bool r_10.2)]) [] (cut_call (call_of (ws := []) (us := []) (by kernel_rfl) (by kernel_rfl) hc_10 (by kernel_rfl) (by kernel_rfl))) <| Rc 4 [⟨.d (Row.d r_10.1), []⟩, ⟨.d (.bool r_10.2), []⟩, ⟨.tup [], [([2], some (.cells [.d (.int .i64 r_10.1.Name), .d (.int .i64 r_10.1.A), .d (.int .i64 r_10.1.B), .d (.bool r_10.1.Mod)] 0))]⟩, ⟨.d (.bool r_10.2), []⟩] <| Rd <| kS_nrm <| Runs.ret <| kB_ret <| kS_ret ?_
           obtain rfl := Option.some.inj h
           exact ⟨Out.ret_ne, (by kernel_rfl)⟩
          | false =>
           replace h := ite_f hb_11 h
           refine Cf <| Sq <| Ro <| Rc 2 [⟨.d (.bool (t4 == 237)), []⟩, ⟨.d (.bool (t4 == 237)), []⟩] <| Rd <| kS_nrm ?_
           cases hb_12 : ((t4 == 237) : Bool) with
           | true =>
            replace h := ite_t hb_12 h
            refine Ct <| Sq <| Ro ?_
            obtain ⟨r_11, hr_11, h⟩ := bind_s h
            have hc_11 := isa_row_L 78 16 17 r_11 hr_11
            refine Rt (some 64) (.callf 38) [] none [.d (.int .i64 78), .d (.int .i64 16), .d (.int .i64 17)] (.tup [.d (Row.d r_11.1), .d (.bool r_11.2)]) [] (cut_call (call_of (ws := []) (us := []) (by kernel_rfl) (by kernel_rfl) hc_11 (by kernel_rfl) (by kernel_rfl))) <| Rc 4 [⟨.d (Row.d r_11.1), []⟩, ⟨.d (.bool r_11.2), []⟩, ⟨.tup [], [([2], some (.cells [.d (.int .i64 r_11.1.Name), .d (.int .i64 r_11.1.A), .d (.int .i64 r_11.1.B), .d (.bool r_11.1.Mod)] 0))]⟩, ⟨.d (.bool r_11.2), []⟩] <| Rd <| kS_nrm <| Runs.ret <| kB_ret <| kS_ret ?_
            obtain rfl := Option.some.inj h
            exact ⟨Out.ret_ne, (by kernel_rfl)⟩
           | false =>
            replace h := ite_f hb_12 h
            refine Cf <| Sq <| Ro <| Rc 2 [⟨.d (.bool (t4 == 238)), []⟩, ⟨.d (.bool (t4 == 238)), []⟩] <| Rd <| kS_nrm ?_
            cases hb_13 : ((t4 == 238) : Bool) with
            | true =>
             replace h := ite_t hb_13 h
             refine Ct <| Sq <| Ro ?_
             obtain ⟨r_12, hr_12, h⟩ := bind_s h
             have hc_12 := isa_row_L 79 17 14 r_12 hr_12
             refine Rt (some 69) (.callf 38) [] none [.d (.int .i64 79), .d (.int .i64 17), .d (.int .i64 14)] (.tup [.d (Row.d r_12.1), .d (.bool r_12.2)]) [] (cut_call (call_of (ws := []) (us := []) (by kernel_rfl) (by kernel_rfl) hc_12 (by kernel_rfl) (by kernel_rfl))) <| Rc 4 [⟨.d (Row.d r_12.1), []⟩, ⟨.d (.bool r_12.2), []⟩, ⟨.tup [], [([2], some (.cells [.d (.int .i64 r_12.1.Name), .d (.int .i64 r_12.1.A), .d (.int .i64 r_12.1.B), .d (.bool r_12.1.Mod)] 0))]⟩, ⟨.d (.bool r_12.2), []⟩] <| Rd <| kS_nrm <| Runs.ret <| kB_ret <| kS_ret ?_
             obtain rfl := Option.some.inj h
             exact ⟨Out.ret_ne, (by kernel_rfl)⟩
            | false =>
             replace h := ite_f hb_13 h
             refine Cf <| Runs.skip <| kB_nrm <| kS_nrm <| Sq <| Ro ?_
             obtain ⟨r_13, hr_13, h⟩ := bind_s h
             have hc_13 := isa_row_L 79 17 16 r_13 hr_13
             refine Rt (some 72) (.callf 38) [] none [.d (.int .i64 79), .d (.int .i64 17), .d (.int .i64 16)] (.tup [.d (Row.d r_13.1), .d (.bool r_13.2)]) [] (cut_call (call_of (ws := []) (us := []) (by kernel_rfl) (by kernel_rfl) hc_13 (by kernel_rfl) (by kernel_rfl))) <| Rc 4 [⟨.d (Row.d r_13.1), []⟩, ⟨.d (.bool r_13.2), []⟩, ⟨.tup [], [([2], some (.cells [.d (.int .i64 r_13.1.Name), .d (.int .i64 r_13.1.A), .d (.int .i64 r_13.1.B), .d (.bool r_13.1.Mod)] 0))]⟩, ⟨.d (.bool r_13.2), []⟩] <| Rd <| kS_nrm <| Runs.ret ?_
             obtain rfl := Option.some.inj h
             exact ⟨Out.ret_ne, (by kernel_rfl)⟩
theorem isa_goes_ok (op_ : Int) (r : (Row × Bool)) (h : isa_goes op_ = some r) : Runs L F45.body ⟨tmOf [.d (.int .u8 op_)] 0, updW (fun _ => none) []⟩ (isa_goes_Q op_ r) := by
 unfold isa_goes at h
 refine Sq <| Ro <| Rc 2 [⟨.ptr [2] 0 0, [([2], some (.cells [.d (.int .i64 0), .d (.int .i64 0), .d (.int .i64 0), .d (.bool false)] 0))]⟩, ⟨.d (.bool false), []⟩] <| Rd <| kS_nrm <| Sq <| Sq <| Ro <| Rc 1 [⟨.d (.int .u8 op_), []⟩] <| Rd <| kS_nrm <| Runs.block <| Sq <| Sq <| Ro <| Rc 2 [⟨.d (.bool (op_ == 224)), []⟩, ⟨.d (.bool (op_ == 224)), []⟩] <| Rd <| kS_nrm ?_
 cases hb_1 : ((op_ == 224) : Bool) with
 | true =>
  replace h := ite_t hb_1 h
  refine Ct <| Runs.skip <| kS_nrm <| Runs.canon (isa_goes_h20 ({ Name := 0, A := 0, B := 0, Mod := false } : Row) op_ op_ true) (Canon.nil (by kernel_rfl)) ?_
  exact isa_goes_j20_ok op_ ({ Name := 0, A := 0, B := 0, Mod := false } : Row) op_ op_ true r h
 | false =>
  replace h := ite_f hb_1 h
  refine Cf <| Sq <| Ro <| Rc 2 [⟨.d (.bool (op_ == 225)), []⟩, ⟨.d (.bool (op_ == 225)), []⟩] <| Rd <| kS_nrm ?_
  cases hb_14 : ((op_ == 225) : Bool) with
  | true =>
   replace h := ite_t hb_14 h
   refine Ct <| Runs.skip <| kS_nrm <| Runs.canon (isa_goes_h20 ({ Name := 0, A := 0, B := 0, Mod := false } : Row) op_ op_ true) (Canon.nil (by kernel_rfl)) ?_
   exact isa_goes_j20_ok op_ ({ Name := 0, A := 0, B := 0, Mod := false } : Row) op_ op_ true r h
  | false =>
   replace h := ite_f hb_14 h
   refine Cf <| Sq <| Ro <| Rc 2 [⟨.d (.bool (op_ == 226)), []⟩, ⟨.d (.bool (op_ == 226)), []⟩] <| Rd <| kS_nrm ?_
   cases hb_15 : ((op_ == 226) : Bool) with
   | true =>
    replace h := ite_t hb_15 h
    refine Ct <| Runs.skip <| kS_nrm <| Runs.canon (isa_goes_h20 ({ Name := 0, A := 0, B := 0, Mod := false } : Row) op_ op_ true) (Canon.nil (by kernel_rfl)) ?_
    exact isa_goes_j20_ok op_ ({ Name := 0, A := 0, B := 0, Mod := false } : Row) op_ op_ true r h
   | false =>
    replace h := ite_f hb_15 h
    refine Cf <| Ro <| Rc 2 [⟨.d (.bool (op_ == 227)), []⟩, ⟨.d (.bool (op_ == 227)), []⟩] <| Rd <| kS_nrm <| Runs.canon (isa_goes_h20 ({ Name := 0, A := 0, B := 0, Mod := false } : Row) op_ op_ (op_ == 227)) (Canon.nil (by kernel_rfl)) ?_
    exact isa_goes_j20_ok op_ ({ Name := 0, A := 0, B := 0, Mod := false } : Row) op_ op_ (op_ == 227) r h
theorem isa_goes_L (op_ : Int) (r : (Row × Bool)) (h : isa_goes op_ = some r) : L 45 [.d (.int .u8 op_)] = some (.tup [.d (Row.d r.1), .d (.bool r.2)], [.d (.int .u8 op_)]) := by
 obtain ⟨p, ⟨hne, hf⟩, hr⟩ := isa_goes_ok op_ r h
 obtain ⟨k, hk⟩ := run_of (F := F45) (args := [.d (.int .u8 op_)]) (ap := [.d (.int .u8 op_)]) (bx0 := updW (fun _ => none) []) rfl rfl (by kernel_rfl) ⟨p, ⟨hne, hf⟩, hr⟩
 exact lim_run (k := k) rfl hk
def isa_rest_h18 (b_4 : Row) (op0 : Int) (reg1 : Int) (t21 : Bool) : St := ⟨tab [(0, .d (.int .u8 op0)), (1, .d (.int .i64 reg1)), (4, .ptr [4] 0 0), (21, .d (.bool t21))], tabB [([4], some (.cells [.d (.int .i64 b_4.Name), .d (.int .i64 b_4.A), .d (.int .i64 b_4.B), .d (.bool b_4.Mod)] 0))]⟩
def isa_rest_h37 (b_4 : Row) (op0 : Int) (reg1 : Int) (e6 : Int) (i7 : Int) : St := ⟨tab [(0, .d (.int .u8 op0)), (1, .d (.int .i64 reg1)), (4, .ptr [4] 0 0), (6, .d (.int .i64 e6)), (7, .d (.int .i64 i7))], tabB [([4], some (.cells [.d (.int .i64 b_4.Name), .d (.int .i64 b_4.A), .d (.int .i64 b_4.B), .d (.bool b_4.Mod)] 0))]⟩
def isa_rest_Q (op_ : Int) (reg_ : Int) (r : (Row × Bool)) (p : Out × St) : Prop := (∀ i, p.1 ≠ .exit i) ∧ finF F46 [.d (.int .u8 op_), .d (.int .i64 reg_)] p.2 = some (.tup [.d (Row.d r.1), .d (.bool r.2)], [.d (.int .u8 op_), .d (.int .i64 reg_)])
theorem isa_rest_j37_ok (op_ : Int) (reg_ : Int) (b_4 : Row) (op0 : Int) (reg1 : Int) (e6 : Int) (i7 : Int) (r : (Row × Bool)) (h : isa_rest_j37 b_4 op0 reg1 e6 i7 = some r) : Runs L F46b37 (isa_rest_h37 b_4 op0 reg1 e6 i7) (isa_rest_Q op_ reg_ r) := by
 unfold isa_rest_j37 at h
 refine Sq <| Sq <| Ro <| Rc 2 [⟨.d (.int .u8 op0), []⟩, ⟨.d (.bool (decide (op0 < 248))), []⟩] <| Rd <| kS_nrm ?_
 cases hb_7 : ((decide (op0 < 248)) : Bool) with
 | true =>
  replace h := ite_t hb_7 h
  refine Ct <| Sq <| Sq <| Ro <| Rc 1 [⟨.d (.int .i64 reg1), []⟩] <| Rd <| kS_nrm <| Runs.block <| Sq <| Ro <| Rc 2 [⟨.d (.bool (reg1 == 0)), []⟩, ⟨.d (.bool (reg1 == 0)), []⟩] <| Rd <| kS_nrm ?_
  cases hb_8 : ((reg1 == 0) : Bool) with
  | true =>
   replace h := ite_t hb_8 h
   refine Ct <| Sq <| Ro <| Rc 2 [⟨.d (.int .i64 e6), []⟩, ⟨.d (.int .i64 i7), []⟩] ?_
   obtain ⟨r_5, hr_5, h⟩ := bind_s h
   have hc_5 := isa_mod_L 33 e6 i7 r_5 hr_5
   refine Rt (some 51) (.callf 67) [] none [.d (.int .i64 33), .d (.int .i64 e6), .d (.int .i64 i7)] (.tup [.d (Row.d r_5.1), .d (.bool r_5.2)]) [] (cut_call (call_of (ws := []) (us := []) (by kernel_rfl) (by kernel_rfl) hc_5 (by kernel_rfl) (by kernel_rfl))) <| Rc 4 [⟨.d (Row.d r_5.1), []⟩, ⟨.d (.bool r_5.2), []⟩, ⟨.tup [], [([4], some (.cells [.d (.int .i64 r_5.1.Name), .d (.int .i64 r_5.1.A), .d (.int .i64 r_5.1.B), .d (.bool r_5.1.Mod)] 0))]⟩, ⟨.d (.bool r_5.2), []⟩] <| Rd <| kS_nrm <| Runs.ret <| kB_ret <| kS_ret <| kS_ret ?_
   obtain rfl := Option.some.inj h
   exact ⟨Out.ret_ne, (by kernel_rfl)⟩
  | false =>
   replace h := ite_f hb_8 h
   refine Cf <| Sq <| Ro <| Rc 2 [⟨.d (.bool (reg1 == 1)), []⟩, ⟨.d (.bool (reg1 == 1)), []⟩] <| Rd <| kS_nrm ?_
   cases hb_9 : ((reg1 == 1) : Bool) with
   | true =>
    replace h := ite_t hb_9 h
    refine Ct <| Sq <| Ro ?_
    obtain ⟨r_6, hr_6, h⟩ := bind_s h
    have hc_6 := isa_bad_L r_6 hr_6
    refine Rt (some 56) (.callf 39) [] none [] (.tup [.d (Row.d r_6.1), .d (.bool r_6.2)]) [] (cut_call (call_of (ws := []) (us := []) (by kernel_rfl) (by kernel_rfl) hc_6 (by kernel_rfl) (by kernel_rfl))) <| Rc 4 [⟨.d (Row.d r_6.1), []⟩, ⟨.d (.bool r_6.2), []⟩, ⟨.tup [], [([4], some (.cells [.d (.int .i64 r_6.1.Name), .d (.int .i64 r_6.1.A), .d (.int .i64 r_6.1.B), .d (.bool r_6.1.Mod)] 0))]⟩, ⟨.d (.bool r_6.2), []⟩] <| Rd <| kS_nrm <| Runs.ret <| kB_ret <| kS_ret <| kS_ret ?_
    obtain rfl := Option.some.inj h
    exact ⟨Out.ret_ne, (by kernel_rfl)⟩
   | false =>
    replace h := ite_f hb_9 h
    refine Cf <| Runs.skip <| kB_nrm <| kS_nrm <| Sq <| Ro <| Rc 4 [⟨.d (.int .i64 reg1), []⟩, ⟨.d (.int .i64 (IntKind.wrap .i64 (84 + reg1))), []⟩, ⟨.d (.int .i64 (IntKind.wrap .i64 ((IntKind.wrap .i64 (84 + reg1)) - 2))), []⟩, ⟨.d (.int .i64 e6), []⟩] ?_
    obtain ⟨r_7, hr_7, h⟩ := bind_s h
    have hc_7 := isa_mod_L (IntKind.wrap .i64 ((IntKind.wrap .i64 (84 + reg1)) - 2)) e6 0 r_7 hr_7
    refine Rt (some 63) (.callf 67) [] none [.d (.int .i64 (IntKind.wrap .i64 ((IntKind.wrap .i64 (84 + reg1)) - 2))), .d (.int .i64 e6), .d (.int .i64 0)] (.tup [.d (Row.d r_7.1), .d (.bool r_7.2)]) [] (cut_call (call_of (ws := []) (us := []) (by kernel_rfl) (by kernel_rfl) hc_7 (by kernel_rfl) (by kernel_rfl))) <| Rc 4 [⟨.d (Row.d r_7.1), []⟩, ⟨.d (.bool r_7.2), []⟩, ⟨.tup [], [([4], some (.cells [.d (.int .i64 r_7.1.Name), .d (.int .i64 r_7.1.A), .d (.int .i64 r_7.1.B), .d (.bool r_7.1.Mod)] 0))]⟩, ⟨.d (.bool r_7.2), []⟩] <| Rd <| kS_nrm <| Runs.ret <| kS_ret ?_
    obtain rfl := Option.some.inj h
    exact ⟨Out.ret_ne, (by kernel_rfl)⟩
 | false =>
  replace h := ite_f hb_7 h
  refine Cf <| Runs.skip <| kS_nrm <| Sq <| Runs.block <| Sq <| Ro <| Rc 3 [⟨.d (.int .i64 reg1), []⟩, ⟨.d (.bool (decide (reg1 < 2))), []⟩, ⟨.d (.bool (decide (reg1 < 2))), []⟩] <| Rd <| kS_nrm ?_
  cases hb_10 : ((decide (reg1 < 2)) : Bool) with
  | true =>
   replace h := ite_t hb_10 h
   refine Ct <| Sq <| Ro <| Rc 3 [⟨.d (.int .i64 reg1), []⟩, ⟨.d (.int .i64 (IntKind.wrap .i64 (15 + reg1))), []⟩, ⟨.d (.int .i64 e6), []⟩] ?_
   obtain ⟨r_8, hr_8, h⟩ := bind_s h
   have hc_8 := isa_mod_L (IntKind.wrap .i64 (15 + reg1)) e6 0 r_8 hr_8
   refine Rt (some 72) (.callf 67) [] none [.d (.int .i64 (IntKind.wrap .i64 (15 + reg1))), .d (.int .i64 e6), .d (.int .i64 0)] (.tup [.d (Row.d r_8.1), .d (.bool r_8.2)]) [] (cut_call (call_of (ws := []) (us := []) (by kernel_rfl) (by kernel_rfl) hc_8 (by kernel_rfl) (by kernel_rfl))) <| Rc 4 [⟨.d (Row.d r_8.1), []⟩, ⟨.d (.bool r_8.2), []⟩, ⟨.tup [], [([4], some (.cells [.d (.int .i64 r_8.1.Name), .d (.int .i64 r_8.1.A), .d (.int .i64 r_8.1.B), .d (.bool r_8.1.Mod)] 0))]⟩, ⟨.d (.bool r_8.2), []⟩] <| Rd <| kS_nrm <| Runs.ret <| kB_ret <| kS_ret ?_
   obtain rfl := Option.some.inj h
   exact ⟨Out.ret_ne, (by kernel_rfl)⟩
  | false =>
   replace h := ite_f hb_10 h
   refine Cf <| Sq <| Ro <| Rc 3 [⟨.d (.int .u8 op0), []⟩, ⟨.d (.bool (op0 == 254)), []⟩, ⟨.d (.bool (op0 == 254)), []⟩] ?_
   cases hb_11 : ((op0 == 254) : Bool) with
   | true =>
    replace h := ite_t hb_11 h
    refine Rc 4 [⟨.tup [], []⟩, ⟨.tup [], []⟩, ⟨.d (.bool true), []⟩, ⟨.d (.bool true), []⟩] <| Rd <| kS_nrm <| Ct <| Sq <| Ro ?_
    obtain ⟨r_9, hr_9, h⟩ := bind_s h
    have hc_9 := isa_bad_L r_9 hr_9
    refine Rt (some 82) (.callf 39) [] none [] (.tup [.d (Row.d r_9.1), .d (.bool r_9.2)]) [] (cut_call (call_of (ws := []) (us := []) (by kernel_rfl) (by kernel_rfl) hc_9 (by kernel_rfl) (by kernel_rfl))) <| Rc 4 [⟨.d (Row.d r_9.1), []⟩, ⟨.d (.bool r_9.2), []⟩, ⟨.tup [], [([4], some (.cells [.d (.int .i64 r_9.1.Name), .d (.int .i64 r_9.1.A), .d (.int .i64 r_9.1.B), .d (.bool r_9.1.Mod)] 0))]⟩, ⟨.d (.bool r_9.2), []⟩] <| Rd <| kS_nrm <| Runs.ret <| kB_ret <| kS_ret ?_
    obtain rfl := Option.some.inj h
    exact ⟨Out.ret_ne, (by kernel_rfl)⟩
   | false =>
    replace h := ite_f hb_11 h
    refine Rc 4 [⟨.d (.int .i64 reg1), []⟩, ⟨.d (.bool (reg1 == 7)), []⟩, ⟨.d (.bool (reg1 == 7)), []⟩, ⟨.d (.bool (reg1 == 7)), []⟩] <| Rd <| kS_nrm ?_
    cases hb_12 : ((reg1 == 7) : Bool) with
    | true =>
     replace h := ite_t hb_12 h
     refine Ct <| Sq <| Ro ?_
     obtain ⟨r_10, hr_10, h⟩ := bind_s h
     have hc_10 := isa_bad_L r_10 hr_10
     refine Rt (some 82) (.callf 39) [] none [] (.tup [.d (Row.d r_10.1), .d (.bool r_10.2)]) [] (cut_call (call_of (ws := []) (us := []) (by kernel_rfl) (by kernel_rfl) hc_10 (by kernel_rfl) (by kernel_rfl))) <| Rc 4 [⟨.d (Row.d r_10.1), []⟩, ⟨.d (.bool r_10.2), []⟩, ⟨.tup [], [([4], some (.cells [.d (.int .i64 r_10.1.Name), .d (.int .i64 r_10.1.A), .d (.int .i64 r_10.1.B), .d (.bool r_10.1.Mod)] 0))]⟩, ⟨.d (.bool r_10.2), []⟩] <| Rd <| kS_nrm <| Runs.ret <| kB_ret <| kS_ret ?_
     obtain rfl := Option.some.inj h
     exact ⟨Out.ret_ne, (by kernel_rfl)⟩
    | false =>
     replace h := ite_f hb_12 h
     refine Cf <| Runs.skip <| kB_nrm <| kS_nrm <| Sq <| Ro <| Rc 3 [⟨.ref [85] 0 0 (List.map (D.int .i64) ([39, 40, 80, 81, 9] : List Int)).length 1, [([85], some (.arr (List.map (D.int .i64) ([39, 40, 80, 81, 9] : List Int)) 0 false))]⟩, ⟨.d (.int .i64 reg1), []⟩, ⟨.d (.int .i64 (IntKind.wrap .i64 (reg1 - 2))), []⟩] ?_
     obtain ⟨z_1, hz_1, h⟩ := bind_s h
     refine Rt (some 88) (.iaddrS 1) [] none [.ref [85] 0 0 (List.map (D.int .i64) ([39, 40, 80, 81, 9] : List Int)).length 1, .d (.int .i64 (IntKind.wrap .i64 (reg1 - 2)))] (.eref [85] 0 (0 + ((IntKind.wrap .i64 (reg1 - 2))).toNat) 0) [] (cut_atR (e := (D.int .i64)) (l := ([39, 40, 80, 81, 9] : List Int)) hz_1 rfl) <| Rt (some 89) (.load none) [] none [.eref [85] 0 (0 + ((IntKind.wrap .i64 (reg1 - 2))).toNat) 0] (.d (.int .i64 z_1)) [] (cut_loadR (e := (D.int .i64)) (l := ([39, 40, 80, 81, 9] : List Int)) (fz := false) (y := z_1) (by kernel_rfl) hz_1 (by kernel_rfl) (by kernel_rfl)) <| Rc 1 [⟨.d (.int .i64 z_1), []⟩] <| Rd <| kS_nrm <| Sq <| Sq <| Ro <| Rc 3 [⟨.d (.int .i64 reg1), []⟩, ⟨.d (.bool (reg1 == 3)), []⟩, ⟨.d (.bool (reg1 == 3)), []⟩] ?_
     cases hb_13 : ((reg1 == 3) : Bool) with
     | true =>
      replace h := ite_t hb_13 h
      refine Rc 3 [⟨.tup [], []⟩, ⟨.tup [], []⟩, ⟨.d (.bool true), []⟩] <| Rd <| kS_nrm <| Ct <| Ro <| Rc 1 [⟨.d (.int .i64 19), []⟩] <| Rd <| kS_nrm <| Sq <| Ro <| Rc 2 [⟨.d (.int .i64 z_1), []⟩, ⟨.d (.int .i64 19), []⟩] ?_
      obtain ⟨r_11, hr_11, h⟩ := bind_s h
      have hc_11 := isa_mod_L z_1 19 0 r_11 hr_11
      refine Rt (some 98) (.callf 67) [] none [.d (.int .i64 z_1), .d (.int .i64 19), .d (.int .i64 0)] (.tup [.d (Row.d r_11.1), .d (.bool r_11.2)]) [] (cut_call (call_of (ws := []) (us := []) (by kernel_rfl) (by kernel_rfl) hc_11 (by kernel_rfl) (by kernel_rfl))) <| Rc 4 [⟨.d (Row.d r_11.1), []⟩, ⟨.d (.bool r_11.2), []⟩, ⟨.tup [], [([4], some (.cells [.d (.int .i64 r_11.1.Name), .d (.int .i64 r_11.1.A), .d (.int .i64 r_11.1.B), .d (.bool r_11.1.Mod)] 0))]⟩, ⟨.d (.bool r_11.2), []⟩] <| Rd <| kS_nrm <| Runs.ret ?_
      obtain rfl := Option.some.inj h
      exact ⟨Out.ret_ne, (by kernel_rfl)⟩
     | false =>
      replace h := ite_f hb_13 h
      refine Rc 3 [⟨.d (.int .i64 reg1), []⟩, ⟨.d (.bool (reg1 == 5)), []⟩, ⟨.d (.bool (reg1 == 5)), []⟩] <| Rd <| kS_nrm ?_
      cases hb_14 : ((reg1 == 5) : Bool) with
      | true =>
       replace h := ite_t hb_14 h
       refine Ct <| Ro <| Rc 1 [⟨.d (.int .i64 19), []⟩] <| Rd <| kS_nrm <| Sq <| Ro <| Rc 2 [⟨.d (.int .i64 z_1), []⟩, ⟨.d (.int .i64 19), []⟩] ?_
       obtain ⟨r_12, hr_12, h⟩ := bind_s h
       have hc_12 := isa_mod_L z_1 19 0 r_12 hr_12
       refine Rt (some 98) (.callf 67) [] none [.d (.int .i64 z_1), .d (.int .i64 19), .d (.int .i64 0)] (.tup [.d (Row.d r_12.1), .d (.bool r_12.2)]) [] (cut_call (call_of (ws := []) (us := []) (by kernel_rfl) (by kernel_rfl) hc_12 (by kernel_rfl) (by kernel_rfl))) <| Rc 4 [⟨.d (Row.d r_12.1), []⟩, ⟨.d (.bool r_12.2), []⟩, ⟨.tup [], [([4], some (.cells [.d (.int .i64 r_12.1.Name), .d (.int .i64 r_12.1.A), .d (.int .i64 r_12.1.B), .d (.bool r_12.1.Mod)] 0))]⟩, ⟨.d (.bool r_12.2), []⟩] <| Rd <| kS_nrm <| Runs.ret ?_
       obtain rfl := Option.some.inj h
       exact ⟨Out.ret_ne, (by kernel_rfl)⟩
      | false =>
       replace h := ite_f hb_14 h
       refine Cf <| Runs.skip <| kS_nrm <| Sq <| Ro <| Rc 2 [⟨.d (.int .i64 z_1), []⟩, ⟨.d (.int .i64 e6), []⟩] ?_
       obtain ⟨r_13, hr_13, h⟩ := bind_s h
       have hc_13 := isa_mod_L z_1 e6 0 r_13 hr_13
       refine Rt (some 98) (.callf 67) [] none [.d (.int .i64 z_1), .d (.int .i64 e6), .d (.int .i64 0)] (.tup [.d (Row.d r_13.1), .d (.bool r_13.2)]) [] (cut_call (call_of (ws := []) (us := []) (by kernel_rfl) (by kernel_rfl) hc_13 (by kernel_rfl) (by kernel_rfl))) <| Rc 4 [⟨.d (Row.d r_13.1), []⟩, ⟨.d (.bool r_13.2), []⟩, ⟨.tup [], [([4], some (.cells [.d (.int .i64 r_13.1.Name), .d (.int .i64 r_13.1.A), .d (.int .i64 r_13.1.B), .d (.bool r_13.1.Mod)] 0))]⟩, ⟨.d (.bool r_13.2), []⟩] <| Rd <| kS_nrm <| Runs.ret ?_
       obtain rfl := Option.some.inj h
       exact ⟨Out.ret_ne, (by kernel_rfl)⟩
theorem isa_rest_j18_ok (op_ : Int) (reg_ : Int) (b_4 : Row) (op0 : Int) (reg1 : Int) (t21 : Bool) (r : (Row × Bool)) (h : isa_rest_j18 b_4 op0 reg1 t21 = some r) : Runs L F46b18 (isa_rest_h18 b_4 op0 reg1 t21) (kB 0 (kS L F46c29 (isa_rest_Q op_ reg_ r))) := by
 unfold isa_rest_j18 at h
 cases hb_4 : (t21 : Bool) with
 | true =>
  replace h := ite_t hb_4 h
  refine Ct <| Sq <| Ro <| Rc 4 [⟨.d (.int .u8 op0), []⟩, ⟨.d (.int .u8 (IntKind.wrap .u8 (op0 - 248))), []⟩, ⟨.d (.int .i64 (IntKind.wrap .i64 (IntKind.wrap .u8 (op0 - 248)))), []⟩, ⟨.d (.int .i64 (IntKind.wrap .i64 (90 + (IntKind.wrap .i64 (IntKind.wrap .u8 (op0 - 248)))))), []⟩] ?_
  obtain ⟨r_3, hr_3, h⟩ := bind_s h
  have hc_3 := isa_row_L (IntKind.wrap .i64 (90 + (IntKind.wrap .i64 (IntKind.wrap .u8 (op0 - 248))))) 0 0 r_3 hr_3
  refine Rt (some 32) (.callf 38) [] none [.d (.int .i64 (IntKind.wrap .i64 (90 + (IntKind.wrap .i64 (IntKind.wrap .u8 (op0 - 248)))))), .d (.int .i64 0), .d (.int .i64 0)] (.tup [.d (Row.d r_3.1), .d (.bool r_3.2)]) [] (cut_call (call_of (ws := []) (us := []) (by kernel_rfl) (by kernel_rfl) hc_3 (by kernel_rfl) (by kernel_rfl))) <| Rc 4 [⟨.d (Row.d r_3.1), []⟩, ⟨.d (.bool r_3.2), []⟩, ⟨.tup [], [([4], some (.cells [.d (.int .i64 r_3.1.Name), .d (.int .i64 r_3.1.A), .d (.int .i64 r_3.1.B), .d (.bool r_3.1.Mod)] 0))]⟩, ⟨.d (.bool r_3.2), []⟩] <| Rd <| kS_nrm <| Runs.ret <| kB_ret <| kS_ret ?_
  obtain rfl := Option.some.inj h
  exact ⟨Out.ret_ne, (by kernel_rfl)⟩
 | false =>
  replace h := ite_f hb_4 h
  refine Cf <| Sq <| Ro <| Rc 3 [⟨.d (.int .u8 op0), []⟩, ⟨.d (.bool (decide (op0 < 246))), []⟩, ⟨.d (.bool (decide (op0 < 246))), []⟩] <| Rd <| kS_nrm ?_
  cases hb_5 : ((decide (op0 < 246)) : Bool) with
  | true =>
   replace h := ite_t hb_5 h
   refine Ct <| Sq <| Ro ?_
   obtain ⟨r_4, hr_4, h⟩ := bind_s h
   have hc_4 := isa_bad_L r_4 hr_4
   refine Rt (some 38) (.callf 39) [] none [] (.tup [.d (Row.d r_4.1), .d (.bool r_4.2)]) [] (cut_call (call_of (ws := []) (us := []) (by kernel_rfl) (by kernel_rfl) hc_4 (by kernel_rfl) (by kernel_rfl))) <| Rc 4 [⟨.d (Row.d r_4.1), []⟩, ⟨.d (.bool r_4.2), []⟩, ⟨.tup [], [([4], some (.cells [.d (.int .i64 r_4.1.Name), .d (.int .i64 r_4.1.A), .d (.int .i64 r_4.1.B), .d (.bool r_4.1.Mod)] 0))]⟩, ⟨.d (.bool r_4.2), []⟩] <| Rd <| kS_nrm <| Runs.ret <| kB_ret <| kS_ret ?_
   obtain rfl := Option.some.inj h
   exact ⟨Out.ret_ne, (by kernel_rfl)⟩
  | false =>
   replace h := ite_f hb_5 h
   refine Cf <| Runs.skip <| kB_nrm <| kS_nrm <| Sq <| Ro <| Rc 2 [⟨.d (.int .i64 1), []⟩, ⟨.d (.int .i64 6), []⟩] <| Rd <| kS_nrm <| Sq <| Sq <| Ro <| Rc 3 [⟨.d (.int .u8 op0), []⟩, ⟨.d (.int .u8 (bitsOp .and .u8 op0 1)), []⟩, ⟨.d (.bool ((bitsOp .and .u8 op0 1) == 1)), []⟩] <| Rd <| kS_nrm ?_
   cases hb_6 : (((bitsOp .and .u8 op0 1) == 1) : Bool) with
   | true =>
    replace h := ite_t hb_6 h
    refine Ct <| Ro <| Rc 2 [⟨.d (.int .i64 2), []⟩, ⟨.d (.int .i64 7), []⟩] <| Rd <| kS_nrm <| Runs.canon (isa_rest_h37 b_4 op0 reg1 2 7) (Canon.nil (by kernel_rfl)) ?_
    exact isa_rest_j37_ok op_ reg_ b_4 op0 reg1 2 7 r h
   | false =>
    replace h := ite_f hb_6 h
    refine Cf <| Runs.skip <| kS_nrm <| Runs.canon (isa_rest_h37 b_4 op0 reg1 1 6) (Canon.nil (by kernel_rfl)) ?_
    exact isa_rest_j37_ok op_ reg_ b_4 op0 reg1 1 6 r h
theorem isa_rest_ok (op_ : Int) (reg_ : Int) (r : (Row × Bool)) (h : isa_rest op_ reg_ = some r) : Runs L F46.body ⟨tmOf [.d (.int .u8 op_), .d (.int .i64 reg_)] 0, updW (fun _ => none) []⟩ (isa_rest_Q op_ reg_ r) := by
 unfold isa_rest at h
 refine Sq <| Ro <| Rc 2 [⟨.ptr [4] 0 0, [([4], some (.cells [.d (.int .i64 0), .d (.int .i64 0), .d (.int .i64 0), .d (.bool false)] 0))]⟩, ⟨.d (.bool false), []⟩] <| Rd <| kS_nrm <| Sq <| Runs.block <| Sq <| Ro <| Rc 3 [⟨.d (.int .u8 op_), []⟩, ⟨.d (.bool (op_ == 244)), []⟩, ⟨.d (.bool (op_ == 244)), []⟩] <| Rd <| kS_nrm ?_
 cases hb_1 : ((op_ == 244) : Bool) with
 | true =>
  replace h := ite_t hb_1 h
  refine Ct <| Sq <| Ro ?_
  obtain ⟨r_1, hr_1, h⟩ := bind_s h
  have hc_1 := isa_row_L 82 0 0 r_1 hr_1
  refine Rt (some 12) (.callf 38) [] none [.d (.int .i64 82), .d (.int .i64 0), .d (.int .i64 0)] (.tup [.d (Row.d r_1.1), .d (.bool r_1.2)]) [] (cut_call (call_of (ws := []) (us := []) (by kernel_rfl) (by kernel_rfl) hc_1 (by kernel_rfl) (by kernel_rfl))) <| Rc 4 [⟨.d (Row.d r_1.1), []⟩, ⟨.d (.bool r_1.2), []⟩, ⟨.tup [], [([4], some (.cells [.d (.int .i64 r_1.1.Name), .d (.int .i64 r_1.1.A), .d (.int .i64 r_1.1.B), .d (.bool r_1.1.Mod)] 0))]⟩, ⟨.d (.bool r_1.2), []⟩] <| Rd <| kS_nrm <| Runs.ret <| kB_ret <| kS_ret ?_
  obtain rfl := Option.some.inj h
  exact ⟨Out.ret_ne, (by kernel_rfl)⟩
 | false =>
  replace h := ite_f hb_1 h
  refine Cf <| Sq <| Ro <| Rc 3 [⟨.d (.int .u8 op_), []⟩, ⟨.d (.bool (op_ == 245)), []⟩, ⟨.d (.bool (op_ == 245)), []⟩] <| Rd <| kS_nrm ?_
  cases hb_2 : ((op_ == 245) : Bool) with
  | true =>
   replace h := ite_t hb_2 h
   refine Ct <| Sq <| Ro ?_
   obtain ⟨r_2, hr_2, h⟩ := bind_s h
   have hc_2 := isa_row_L 83 0 0 r_2 hr_2
   refine Rt (some 18) (.callf 38) [] none [.d (.int .i64 83), .d (.int .i64 0), .d (.int .i64 0)] (.tup [.d (Row.d r_2.1), .d (.bool r_2.2)]) [] (cut_call (call_of (ws := []) (us := []) (by kernel_rfl) (by kernel_rfl) hc_2 (by kernel_rfl) (by kernel_rfl))) <| Rc 4 [⟨.d (Row.d r_2.1), []⟩, ⟨.d (.bool r_2.2), []⟩, ⟨.tup [], [([4], some (.cells [.d (.int .i64 r_2.1.Name), .d (.int .i64 r_2.1.A), .d (.int .i64 r_2.1.B), .d (.bool r_2.1.Mod)] 0))]⟩, ⟨.d (.bool r_2.2), []⟩] <| Rd <| kS_nrm <| Runs.ret <| kB_ret <| kS_ret ?_
   obtain rfl := Option.some.inj h
   exact ⟨Out.ret_ne, (by kernel_rfl)⟩
  | false =>
   replace h := ite_f hb_2 h
   refine Cf <| Sq <| Ro <| Rc 3 [⟨.d (.int .u8 op_), []⟩, ⟨.d (.bool (decide (op_ ≥ 248))), []⟩, ⟨.d (.bool (decide (op_ ≥ 248))), []⟩] ?_
   cases hb_3 : ((decide (op_ ≥ 248)) : Bool) with
   | true =>
    replace h := ite_t hb_3 h
    refine Rc 4 [⟨.d (.int .u8 op_), []⟩, ⟨.d (.bool (decide (op_ < 254))), []⟩, ⟨.d (.bool (decide (op_ < 254))), []⟩, ⟨.d (.bool (decide (op_ < 254))), []⟩] <| Rd <| kS_nrm <| Runs.canon (isa_rest_h18 ({ Name := 0, A := 0, B := 0, Mod := false } : Row) op_ reg_ (decide (op_ < 254))) (Canon.nil (by kernel_rfl)) ?_
    exact isa_rest_j18_ok op_ reg_ ({ Name := 0, A := 0, B := 0, Mod := false } : Row) op_ reg_ (decide (op_ < 254)) r h
   | false =>
    replace h := ite_f hb_3 h
    refine Rc 4 [⟨.tup [], []⟩, ⟨.tup [], []⟩, ⟨.d (.bool false), []⟩, ⟨.d (.bool false), []⟩] <| Rd <| kS_nrm <| Runs.canon (isa_rest_h18 ({ Name := 0, A := 0, B := 0, Mod := false } : Row) op_ reg_ false) (Canon.nil (by kernel_rfl)) ?_
    exact isa_rest_j18_ok op_ reg_ ({ Name := 0, A := 0, B := 0, Mod := false } : Row) op_ reg_ false r h
theorem isa_rest_L (op_ : Int) (reg_ : Int) (r : (Row × Bool)) (h : isa_rest op_ reg_ = some r) : L 46 [.d (.int .u8 op_), .d (.int .i64 reg_)] = some (.tup [.d (Row.d r.1), .d (.bool r.2)], [.d (.int .u8 op_), .d (.int .i64 reg_)]) := by
 obtain ⟨p, ⟨hne, hf⟩, hr⟩ := isa_rest_ok op_ reg_ r h
 obtain ⟨k, hk⟩ := run_of (F := F46) (args := [.d (.int .u8 op_), .d (.int .i64 reg_)]) (ap := [.d (.int .u8 op_), .d (.int .i64 reg_)]) (bx0 := updW (fun _ => none) []) rfl rfl (by kernel_rfl) ⟨p, ⟨hne, hf⟩, hr⟩
 exact lim_run (k := k) rfl hk
def isa_Of_Q (op_ : Int) (reg_ : Int) (r : (Row × Bool)) (p : Out × St) : Prop := (∀ i, p.1 ≠ .exit i) ∧ finF F11 [.d (.int .u8 op_), .d (.int .i64 reg_)] p.2 = some (.tup [.d (Row.d r.1), .d (.bool r.2)], [.d (.int .u8 op_), .d (.int .i64 reg_)])
theorem isa_Of_ok (op_ : Int) (reg_ : Int) (r : (Row × Bool)) (h : isa_Of op_ reg_ = some r) : Runs L F11.body ⟨tmOf [.d (.int .u8 op_), .d (.int .i64 reg_)] 0, updW (fun _ => none) []⟩ (isa_Of_Q op_ reg_ r) := by
 unfold isa_Of at h
 refine Sq <| Ro <| Rc 2 [⟨.ptr [4] 0 0, [([4], some (.cells [.d (.int .i64 0), .d (.int .i64 0), .d (.int .i64 0), .d (.bool false)] 0))]⟩, ⟨.d (.bool false), []⟩] <| Rd <| kS_nrm <| Sq <| Ro <| Rc 3 [⟨.d (.int .i64 reg_), []⟩, ⟨.d (.int .i64 (bitsOp .and .i64 reg_ 7)), []⟩, ⟨.d (.int .i64 (bitsOp .and .i64 reg_ 7)), []⟩] <| Rd <| kS_nrm <| Sq <| Runs.block <| Sq <| Ro <| Rc 3 [⟨.d (.int .u8 op_), []⟩, ⟨.d (.bool (decide (op_ < 64))), []⟩, ⟨.d (.bool (decide (op_ < 64))), []⟩] <| Rd <| kS_nrm ?_
 cases hb_1 : ((decide (op_ < 64)) : Bool) with
 | true =>
  replace h := ite_t hb_1 h
  refine Ct <| Sq <| Ro <| Rc 1 [⟨.d (.int .u8 op_), []⟩] ?_
  obtain ⟨r_1, hr_1, h⟩ := bind_s h
  have hc_1 := isa_sums_L op_ r_1 hr_1
  refine Rt (some 13) (.callf 37) [] none [.d (.int .u8 op_)] (.tup [.d (Row.d r_1.1), .d (.bool r_1.2)]) [] (cut_call (call_of (ws := []) (us := []) (by kernel_rfl) (by kernel_rfl) hc_1 (by kernel_rfl) (by kernel_rfl))) <| Rc 4 [⟨.d (Row.d r_1.1), []⟩, ⟨.d (.bool r_1.2), []⟩, ⟨.tup [], [([4], some (.cells [.d (.int .i64 r_1.1.Name), .d (.int .i64 r_1.1.A), .d (.int .i64 r_1.1.B), .d (.bool r_1.1.Mod)] 0))]⟩, ⟨.d (.bool r_1.2), []⟩] <| Rd <| kS_nrm <| Runs.ret <| kB_ret <| kS_ret ?_
  obtain rfl := Option.some.inj h
  exact ⟨Out.ret_ne, (by kernel_rfl)⟩
 | false =>
  replace h := ite_f hb_1 h
  refine Cf <| Sq <| Ro <| Rc 3 [⟨.d (.int .u8 op_), []⟩, ⟨.d (.bool (decide (op_ < 96))), []⟩, ⟨.d (.bool (decide (op_ < 96))), []⟩] <| Rd <| kS_nrm ?_
  cases hb_2 : ((decide (op_ < 96)) : Bool) with
  | true =>
   replace h := ite_t hb_2 h
   refine Ct <| Sq <| Ro <| Rc 4 [⟨.ref [19] 0 0 (List.map (D.int .i64) ([15, 16, 9, 10] : List Int)).length 1, [([19], some (.arr (List.map (D.int .i64) ([15, 16, 9, 10] : List Int)) 0 false))]⟩, ⟨.d (.int .u8 op_), []⟩, ⟨.d (.int .u8 (IntKind.wrap .u8 (op_ - 64))), []⟩, ⟨.d (.int .u8 (shrI .u8 (IntKind.wrap .u8 (op_ - 64)) 3)), []⟩] ?_
   obtain ⟨z_1, hz_1, h⟩ := bind_s h
   refine Rt (some 23) (.iaddrS 1) [] none [.ref [19] 0 0 (List.map (D.int .i64) ([15, 16, 9, 10] : List Int)).length 1, .d (.int .u8 (shrI .u8 (IntKind.wrap .u8 (op_ - 64)) 3))] (.eref [19] 0 (0 + ((shrI .u8 (IntKind.wrap .u8 (op_ - 64)) 3)).toNat) 0) [] (cut_atR (e := (D.int .i64)) (l := ([15, 16, 9, 10] : List Int)) hz_1 rfl) <| Rt (some 24) (.load none) [] none [.eref [19] 0 (0 + ((shrI .u8 (IntKind.wrap .u8 (op_ - 64)) 3)).toNat) 0] (.d (.int .i64 z_1)) [] (cut_loadR (e := (D.int .i64)) (l := ([15, 16, 9, 10] : List Int)) (fz := false) (y := z_1) (by kernel_rfl) hz_1 (by kernel_rfl) (by kernel_rfl)) <| Rc 1 [⟨.d (.int .i64 z_1), []⟩] <| Rd <| kS_nrm <| Sq <| Ro <| Rc 1 [⟨.d (.int .i64 z_1), []⟩] ?_
   obtain ⟨r_2, hr_2, h⟩ := bind_s h
   have hc_2 := isa_row_L z_1 22 0 r_2 hr_2
   refine Rt (some 26) (.callf 38) [] none [.d (.int .i64 z_1), .d (.int .i64 22), .d (.int .i64 0)] (.tup [.d (Row.d r_2.1), .d (.bool r_2.2)]) [] (cut_call (call_of (ws := []) (us := []) (by kernel_rfl) (by kernel_rfl) hc_2 (by kernel_rfl) (by kernel_rfl))) <| Rc 4 [⟨.d (Row.d r_2.1), []⟩, ⟨.d (.bool r_2.2), []⟩, ⟨.tup [], [([4], some (.cells [.d (.int .i64 r_2.1.Name), .d (.int .i64 r_2.1.A), .d (.int .i64 r_2.1.B), .d (.bool r_2.1.Mod)] 0))]⟩, ⟨.d (.bool r_2.2), []⟩] <| Rd <| kS_nrm <| Runs.ret <| kB_ret <| kS_ret ?_
   obtain rfl := Option.some.inj h
   exact ⟨Out.ret_ne, (by kernel_rfl)⟩
  | false =>
   replace h := ite_f hb_2 h
   refine Cf <| Sq <| Ro <| Rc 3 [⟨.d (.int .u8 op_), []⟩, ⟨.d (.bool (decide (op_ < 112))), []⟩, ⟨.d (.bool (decide (op_ < 112))), []⟩] <| Rd <| kS_nrm ?_
   cases hb_3 : ((decide (op_ < 112)) : Bool) with
   | true =>
    replace h := ite_t hb_3 h
    refine Ct <| Sq <| Ro ?_
    obtain ⟨r_3, hr_3, h⟩ := bind_s h
    have hc_3 := isa_bad_L r_3 hr_3
    refine Rt (some 32) (.callf 39) [] none [] (.tup [.d (Row.d r_3.1), .d (.bool r_3.2)]) [] (cut_call (call_of (ws := []) (us := []) (by kernel_rfl) (by kernel_rfl) hc_3 (by kernel_rfl) (by kernel_rfl))) <| Rc 4 [⟨.d (Row.d r_3.1), []⟩, ⟨.d (.bool r_3.2), []⟩, ⟨.tup [], [([4], some (.cells [.d (.int .i64 r_3.1.Name), .d (.int .i64 r_3.1.A), .d (.int .i64 r_3.1.B), .d (.bool r_3.1.Mod)] 0))]⟩, ⟨.d (.bool r_3.2), []⟩] <| Rd <| kS_nrm <| Runs.ret <| kB_ret <| kS_ret ?_
    obtain rfl := Option.some.inj h
    exact ⟨Out.ret_ne, (by kernel_rfl)⟩
   | false =>
    replace h := ite_f hb_3 h
    refine Cf <| Sq <| Ro <| Rc 3 [⟨.d (.int .u8 op_), []⟩, ⟨.d (.bool (decide (op_ < 128))), []⟩, ⟨.d (.bool (decide (op_ < 128))), []⟩] <| Rd <| kS_nrm ?_
    cases hb_4 : ((decide (op_ < 128)) : Bool) with
    | true =>
     replace h := ite_t hb_4 h
     refine Ct <| Sq <| Ro <| Rc 4 [⟨.d (.int .u8 op_), []⟩, ⟨.d (.int .u8 (IntKind.wrap .u8 (op_ - 112))), []⟩, ⟨.d (.int .i64 (IntKind.wrap .i64 (IntKind.wrap .u8 (op_ - 112)))), []⟩, ⟨.d (.int .i64 (IntKind.wrap .i64 (17 + (IntKind.wrap .i64 (IntKind.wrap .u8 (op_ - 112)))))), []⟩] ?_
     obtain ⟨r_4, hr_4, h⟩ := bind_s h
     have hc_4 := isa_row_L (IntKind.wrap .i64 (17 + (IntKind.wrap .i64 (IntKind.wrap .u8 (op_ - 112))))) 9 0 r_4 hr_4
     refine Rt (some 42) (.callf 38) [] none [.d (.int .i64 (IntKind.wrap .i64 (17 + (IntKind.wrap .i64 (IntKind.wrap .u8 (op_ - 112)))))), .d (.int .i64 9), .d (.int .i64 0)] (.tup [.d (Row.d r_4.1), .d (.bool r_4.2)]) [] (cut_call (call_of (ws := []) (us := []) (by kernel_rfl) (by kernel_rfl) hc_4 (by kernel_rfl) (by kernel_rfl))) <| Rc 4 [⟨.d (Row.d r_4.1), []⟩, ⟨.d (.bool r_4.2), []⟩, ⟨.tup [], [([4], some (.cells [.d (.int .i64 r_4.1.Name), .d (.int .i64 r_4.1.A), .d (.int .i64 r_4.1.B), .d (.bool r_4.1.Mod)] 0))]⟩, ⟨.d (.bool r_4.2), []⟩] <| Rd <| kS_nrm <| Runs.ret <| kB_ret <| kS_ret ?_
     obtain rfl := Option.some.inj h
     exact ⟨Out.ret_ne, (by kernel_rfl)⟩
    | false =>
     replace h := ite_f hb_4 h
     refine Cf <| Sq <| Ro <| Rc 3 [⟨.d (.int .u8 op_), []⟩, ⟨.d (.bool (decide (op_ < 144))), []⟩, ⟨.d (.bool (decide (op_ < 144))), []⟩] <| Rd <| kS_nrm ?_
     cases hb_5 : ((decide (op_ < 144)) : Bool) with
     | true =>
      replace h := ite_t hb_5 h
      refine Ct <| Sq <| Ro <| Rc 2 [⟨.d (.int .u8 op_), []⟩, ⟨.d (.int .i64 (bitsOp .and .i64 reg_ 7)), []⟩] ?_
      obtain ⟨r_5, hr_5, h⟩ := bind_s h
      have hc_5 := isa_moves_L op_ (bitsOp .and .i64 reg_ 7) r_5 hr_5
      refine Rt (some 50) (.callf 40) [] none [.d (.int .u8 op_), .d (.int .i64 (bitsOp .and .i64 reg_ 7))] (.tup [.d (Row.d r_5.1), .d (.bool r_5.2)]) [] (cut_call (call_of (ws := []) (us := []) (by kernel_rfl) (by kernel_rfl) hc_5 (by kernel_rfl) (by kernel_rfl))) <| Rc 4 [⟨.d (Row.d r_5.1), []⟩, ⟨.d (.bool r_5.2), []⟩, ⟨.tup [], [([4], some (.cells [.d (.int .i64 r_5.1.Name), .d (.int .i64 r_5.1.A), .d (.int .i64 r_5.1.B), .d (.bool r_5.1.Mod)] 0))]⟩, ⟨.d (.bool r_5.2), []⟩] <| Rd <| kS_nrm <| Runs.ret <| kB_ret <| kS_ret ?_
      obtain rfl := Option.some.inj h
      exact ⟨Out.ret_ne, (by kernel_rfl)⟩
     | false =>
      replace h := ite_f hb_5 h
      refine Cf <| Sq <| Ro <| Rc 3 [⟨.d (.int .u8 op_), []⟩, ⟨.d (.bool (decide (op_ < 160))), []⟩, ⟨.d (.bool (decide (op_ < 160))), []⟩] <| Rd <| kS_nrm ?_
      cases hb_6 : ((decide (op_ < 160)) : Bool) with
      | true =>
       replace h := ite_t hb_6 h
       refine Ct <| Sq <| Ro <| Rc 1 [⟨.d (.int .u8 op_), []⟩] ?_
       obtain ⟨r_6, hr_6, h⟩ := bind_s h
       have hc_6 := isa_words_L op_ r_6 hr_6
       refine Rt (some 57) (.callf 41) [] none [.d (.int .u8 op_)] (.tup [.d (Row.d r_6.1), .d (.bool r_6.2)]) [] (cut_call (call_of (ws := []) (us := []) (by kernel_rfl) (by kernel_rfl) hc_6 (by kernel_rfl) (by kernel_rfl))) <| Rc 4 [⟨.d (Row.d r_6.1), []⟩, ⟨.d (.bool r_6.2), []⟩, ⟨.tup [], [([4], some (.cells [.d (.int .i64 r_6.1.Name), .d (.int .i64 r_6.1.A), .d (.int .i64 r_6.1.B), .d (.bool r_6.1.Mod)] 0))]⟩, ⟨.d (.bool r_6.2), []⟩] <| Rd <| kS_nrm <| Runs.ret <| kB_ret <| kS_ret ?_
       obtain rfl := Option.some.inj h
       exact ⟨Out.ret_ne, (by kernel_rfl)⟩
      | false =>
       replace h := ite_f hb_6 h
       refine Cf <| Sq <| Ro <| Rc 3 [⟨.d (.int .u8 op_), []⟩, ⟨.d (.bool (decide (op_ < 176))), []⟩, ⟨.d (.bool (decide (op_ < 176))), []⟩] <| Rd <| kS_nrm ?_
       cases hb_7 : ((decide (op_ < 176)) : Bool) with
       | true =>
        replace h := ite_t hb_7 h
        refine Ct <| Sq <| Ro <| Rc 1 [⟨.d (.int .u8 op_), []⟩] ?_
        obtain ⟨r_7, hr_7, h⟩ := bind_s h
        have hc_7 := isa_texts_L op_ r_7 hr_7
        refine Rt (some 64) (.callf 42) [] none [.d (.int .u8 op_)] (.tup [.d (Row.d r_7.1), .d (.bool r_7.2)]) [] (cut_call (call_of (ws := []) (us := []) (by kernel_rfl) (by kernel_rfl) hc_7 (by kernel_rfl) (by kernel_rfl))) <| Rc 4 [⟨.d (Row.d r_7.1), []⟩, ⟨.d (.bool r_7.2), []⟩, ⟨.tup [], [([4], some (.cells [.d (.int .i64 r_7.1.Name), .d (.int .i64 r_7.1.A), .d (.int .i64 r_7.1.B), .d (.bool r_7.1.Mod)] 0))]⟩, ⟨.d (.bool r_7.2), []⟩] <| Rd <| kS_nrm <| Runs.ret <| kB_ret <| kS_ret ?_
        obtain rfl := Option.some.inj h
        exact ⟨Out.ret_ne, (by kernel_rfl)⟩
       | false =>
        replace h := ite_f hb_7 h
        refine Cf <| Sq <| Ro <| Rc 3 [⟨.d (.int .u8 op_), []⟩, ⟨.d (.bool (decide (op_ < 184))), []⟩, ⟨.d (.bool (decide (op_ < 184))), []⟩] <| Rd <| kS_nrm ?_
        cases hb_8 : ((decide (op_ < 184)) : Bool) with
        | true =>
         replace h := ite_t hb_8 h
         refine Ct <| Sq <| Ro ?_
         obtain ⟨r_8, hr_8, h⟩ := bind_s h
         have hc_8 := isa_row_L 35 21 6 r_8 hr_8
         refine Rt (some 70) (.callf 38) [] none [.d (.int .i64 35), .d (.int .i64 21), .d (.int .i64 6)] (.tup [.d (Row.d r_8.1), .d (.bool r_8.2)]) [] (cut_call (call_of (ws := []) (us := []) (by kernel_rfl) (by kernel_rfl) hc_8 (by kernel_rfl) (by kernel_rfl))) <| Rc 4 [⟨.d (Row.d r_8.1), []⟩, ⟨.d (.bool r_8.2), []⟩, ⟨.tup [], [([4], some (.cells [.d (.int .i64 r_8.1.Name), .d (.int .i64 r_8.1.A), .d (.int .i64 r_8.1.B), .d (.bool r_8.1.Mod)] 0))]⟩, ⟨.d (.bool r_8.2), []⟩] <| Rd <| kS_nrm <| Runs.ret <| kB_ret <| kS_ret ?_
         obtain rfl := Option.some.inj h
         exact ⟨Out.ret_ne, (by kernel_rfl)⟩
        | false =>
         replace h := ite_f hb_8 h
         refine Cf <| Sq <| Ro <| Rc 3 [⟨.d (.int .u8 op_), []⟩, ⟨.d (.bool (decide (op_ < 192))), []⟩, ⟨.d (.bool (decide (op_ < 192))), []⟩] <| Rd <| kS_nrm ?_
         cases hb_9 : ((decide (op_ < 192)) : Bool) with
         | true =>
          replace h := ite_t hb_9 h
          refine Ct <| Sq <| Ro ?_
          obtain ⟨r_9, hr_9, h⟩ := bind_s h
          have hc_9 := isa_row_L 35 22 7 r_9 hr_9
          refine Rt (some 76) (.callf 38) [] none [.d (.int .i64 35), .d (.int .i64 22), .d (.int .i64 7)] (.tup [.d (Row.d r_9.1), .d (.bool r_9.2)]) [] (cut_call (call_of (ws := []) (us := []) (by kernel_rfl) (by kernel_rfl) hc_9 (by kernel_rfl) (by kernel_rfl))) <| Rc 4 [⟨.d (Row.d r_9.1), []⟩, ⟨.d (.bool r_9.2), []⟩, ⟨.tup [], [([4], some (.cells [.d (.int .i64 r_9.1.Name), .d (.int .i64 r_9.1.A), .d (.int .i64 r_9.1.B), .d (.bool r_9.1.Mod)] 0))]⟩, ⟨.d (.bool r_9.2), []⟩] <| Rd <| kS_nrm <| Runs.ret <| kB_ret <| kS_ret ?_
          obtain rfl := Option.some.inj h
          exact ⟨Out.ret_ne, (by kernel_rfl)⟩
         | false =>
          replace h := ite_f hb_9 h
          refine Cf <| Sq <| Ro <| Rc 3 [⟨.d (.int .u8 op_), []⟩, ⟨.d (.bool (decide (op_ < 208))), []⟩, ⟨.d (.bool (decide (op_ < 208))), []⟩] <| Rd <| kS_nrm ?_
          cases hb_10 : ((decide (op_ < 208)) : Bool) with
          | true =>
           replace h := ite_t hb_10 h
           refine Ct <| Sq <| Ro <| Rc 2 [⟨.d (.int .u8 op_), []⟩, ⟨.d (.int .i64 (bitsOp .and .i64 reg_ 7)), []⟩] ?_
           obtain ⟨r_10, hr_10, h⟩ := bind_s h
           have hc_10 := isa_backs_L op_ (bitsOp .and .i64 reg_ 7) r_10 hr_10
           refine Rt (some 84) (.callf 43) [] none [.d (.int .u8 op_), .d (.int .i64 (bitsOp .and .i64 reg_ 7))] (.tup [.d (Row.d r_10.1), .d (.bool r_10.2)]) [] (cut_call (call_of (ws := []) (us := []) (by kernel_rfl) (by kernel_rfl) hc_10 (by kernel_rfl) (by kernel_rfl))) <| Rc 4 [⟨.d (Row.d r_10.1), []⟩, ⟨.d (.bool r_10.2), []⟩, ⟨.tup [], [([4], some (.cells [.d (.int .i64 r_10.1.Name), .d (.int .i64 r_10.1.A), .d (.int .i64 r_10.1.B), .d (.bool r_10.1.Mod)] 0))]⟩, ⟨.d (.bool r_10.2), []⟩] <| Rd <| kS_nrm <| Runs.ret <| kB_ret <| kS_ret ?_
           obtain rfl := Option.some.inj h
           exact ⟨Out.ret_ne, (by kernel_rfl)⟩
          | false =>
           replace h := ite_f hb_10 h
           refine Cf <| Sq <| Ro <| Rc 3 [⟨.d (.int .u8 op_), []⟩, ⟨.d (.bool (decide (op_ < 224))), []⟩, ⟨.d (.bool (decide (op_ < 224))), []⟩] <| Rd <| kS_nrm ?_
           cases hb_11 : ((decide (op_ < 224)) : Bool) with
           | true =>
            replace h := ite_t hb_11 h
            refine Ct <| Sq <| Ro <| Rc 2 [⟨.d (.int .u8 op_), []⟩, ⟨.d (.int .i64 (bitsOp .and .i64 reg_ 7)), []⟩] ?_
            obtain ⟨r_11, hr_11, h⟩ := bind_s h
            have hc_11 := isa_turns_L op_ (bitsOp .and .i64 reg_ 7) r_11 hr_11
            refine Rt (some 92) (.callf 44) [] none [.d (.int .u8 op_), .d (.int .i64 (bitsOp .and .i64 reg_ 7))] (.tup [.d (Row.d r_11.1), .d (.bool r_11.2)]) [] (cut_call (call_of (ws := []) (us := []) (by kernel_rfl) (by kernel_rfl) hc_11 (by kernel_rfl) (by kernel_rfl))) <| Rc 4 [⟨.d (Row.d r_11.1), []⟩, ⟨.d (.bool r_11.2), []⟩, ⟨.tup [], [([4], some (.cells [.d (.int .i64 r_11.1.Name), .d (.int .i64 r_11.1.A), .d (.int .i64 r_11.1.B), .d (.bool r_11.1.Mod)] 0))]⟩, ⟨.d (.bool r_11.2), []⟩] <| Rd <| kS_nrm <| Runs.ret <| kB_ret <| kS_ret ?_
            obtain rfl := Option.some.inj h
            exact ⟨Out.ret_ne, (by kernel_rfl)⟩
           | false =>
            replace h := ite_f hb_11 h
            refine Cf <| Sq <| Ro <| Rc 3 [⟨.d (.int .u8 op_), []⟩, ⟨.d (.bool (decide (op_ < 240))), []⟩, ⟨.d (.bool (decide (op_ < 240))), []⟩] <| Rd <| kS_nrm ?_
            cases hb_12 : ((decide (op_ < 240)) : Bool) with
            | true =>
             replace h := ite_t hb_12 h
             refine Ct <| Sq <| Ro <| Rc 1 [⟨.d (.int .u8 op_), []⟩] ?_
             obtain ⟨r_12, hr_12, h⟩ := bind_s h
             have hc_12 := isa_goes_L op_ r_12 hr_12
             refine Rt (some 99) (.callf 45) [] none [.d (.int .u8 op_)] (.tup [.d (Row.d r_12.1), .d (.bool r_12.2)]) [] (cut_call (call_of (ws := []) (us := []) (by kernel_rfl) (by kernel_rfl) hc_12 (by kernel_rfl) (by kernel_rfl))) <| Rc 4 [⟨.d (Row.d r_12.1), []⟩, ⟨.d (.bool r_12.2), []⟩, ⟨.tup [], [([4], some (.cells [.d (.int .i64 r_12.1.Name), .d (.int .i64 r_12.1.A), .d (.int .i64 r_12.1.B), .d (.bool r_12.1.Mod)] 0))]⟩, ⟨.d (.bool r_12.2), []⟩] <| Rd <| kS_nrm <| Runs.ret <| kB_ret <| kS_ret ?_
             obtain rfl := Option.some.inj h
             exact ⟨Out.ret_ne, (by kernel_rfl)⟩
            | false =>
             replace h := ite_f hb_12 h
             refine Cf <| Runs.skip <| kB_nrm <| kS_nrm <| Sq <| Ro <| Rc 2 [⟨.d (.int .u8 op_), []⟩, ⟨.d (.int .i64 (bitsOp .and .i64 reg_ 7)), []⟩] ?_
             obtain ⟨r_13, hr_13, h⟩ := bind_s h
             have hc_13 := isa_rest_L op_ (bitsOp .and .i64 reg_ 7) r_13 hr_13
             refine Rt (some 104) (.callf 46) [] none [.d (.int .u8 op_), .d (.int .i64 (bitsOp .and .i64 reg_ 7))] (.tup [.d (Row.d r_13.1), .d (.bool r_13.2)]) [] (cut_call (call_of (ws := []) (us := []) (by kernel_rfl) (by kernel_rfl) hc_13 (by kernel_rfl) (by kernel_rfl))) <| Rc 4 [⟨.d (Row.d r_13.1), []⟩, ⟨.d (.bool r_13.2), []⟩, ⟨.tup [], [([4], some (.cells [.d (.int .i64 r_13.1.Name), .d (.int .i64 r_13.1.A), .d (.int .i64 r_13.1.B), .d (.bool r_13.1.Mod)] 0))]⟩, ⟨.d (.bool r_13.2), []⟩] <| Rd <| kS_nrm <| Runs.ret ?_
             obtain rfl := Option.some.inj h
             exact ⟨Out.ret_ne, (by kernel_rfl)⟩
theorem isa_Of_L (op_ : Int) (reg_ : Int) (r : (Row × Bool)) (h : isa_Of op_ reg_ = some r) : L 11 [.d (.int .u8 op_), .d (.int .i64 reg_)] = some (.tup [.d (Row.d r.1), .d (.bool r.2)], [.d (.int .u8 op_), .d (.int .i64 reg_)]) := by
 obtain ⟨p, ⟨hne, hf⟩, hr⟩ := isa_Of_ok op_ reg_ r h
 obtain ⟨k, hk⟩ := run_of (F := F11) (args := [.d (.int .u8 op_), .d (.int .i64 reg_)]) (ap := [.d (.int .u8 op_), .d (.int .i64 reg_)]) (bx0 := updW (fun _ => none) []) rfl rfl (by kernel_rfl) ⟨p, ⟨hne, hf⟩, hr⟩
 exact lim_run (k := k) rfl hk
def isa_Grouped_Q (op_ : Int) (r : Bool) (p : Out × St) : Prop := (∀ i, p.1 ≠ .exit i) ∧ finF F12 [.d (.int .u8 op_)] p.2 = some (.d (.bool r), [.d (.int .u8 op_)])
theorem isa_Grouped_ok (op_ : Int) (r : Bool) (h : isa_Grouped op_ = some r) : Runs L F12.body ⟨tmOf [.d (.int .u8 op_)] 0, updW (fun _ => none) []⟩ (isa_Grouped_Q op_ r) := by
 unfold isa_Grouped at h
 refine Sq <| Ro <| Rc 1 [⟨.d (.bool false), []⟩] <| Rd <| kS_nrm <| Sq <| Sq <| Ro <| Rc 1 [⟨.d (.int .u8 op_), []⟩] <| Rd <| kS_nrm <| Runs.block <| Sq <| Sq <| Ro <| Rc 2 [⟨.d (.bool (op_ == 128)), []⟩, ⟨.d (.bool (op_ == 128)), []⟩] <| Rd <| kS_nrm ?_
 cases hb_1 : ((op_ == 128) : Bool) with
 | true =>
  replace h := ite_t hb_1 h
  refine Ct <| Runs.skip <| kS_nrm <| Ct <| Sq <| Ro <| Rc 1 [⟨.d (.bool true), []⟩] <| Rd <| kS_nrm <| Runs.ret <| kB_ret <| kS_ret ?_
  obtain rfl := Option.some.inj h
  exact ⟨Out.ret_ne, (by kernel_rfl)⟩
 | false =>
  replace h := ite_f hb_1 h
  refine Cf <| Sq <| Ro <| Rc 2 [⟨.d (.bool (op_ == 129)), []⟩, ⟨.d (.bool (op_ == 129)), []⟩] <| Rd <| kS_nrm ?_
  cases hb_2 : ((op_ == 129) : Bool) with
  | true =>
   replace h := ite_t hb_2 h
   refine Ct <| Runs.skip <| kS_nrm <| Ct <| Sq <| Ro <| Rc 1 [⟨.d (.bool true), []⟩] <| Rd <| kS_nrm <| Runs.ret <| kB_ret <| kS_ret ?_
   obtain rfl := Option.some.inj h
   exact ⟨Out.ret_ne, (by kernel_rfl)⟩
  | false =>
   replace h := ite_f hb_2 h
   refine Cf <| Sq <| Ro <| Rc 2 [⟨.d (.bool (op_ == 131)), []⟩, ⟨.d (.bool (op_ == 131)), []⟩] <| Rd <| kS_nrm ?_
   cases hb_3 : ((op_ == 131) : Bool) with
   | true =>
    replace h := ite_t hb_3 h
    refine Ct <| Runs.skip <| kS_nrm <| Ct <| Sq <| Ro <| Rc 1 [⟨.d (.bool true), []⟩] <| Rd <| kS_nrm <| Runs.ret <| kB_ret <| kS_ret ?_
    obtain rfl := Option.some.inj h
    exact ⟨Out.ret_ne, (by kernel_rfl)⟩
   | false =>
    replace h := ite_f hb_3 h
    refine Cf <| Sq <| Ro <| Rc 2 [⟨.d (.bool (op_ == 143)), []⟩, ⟨.d (.bool (op_ == 143)), []⟩] <| Rd <| kS_nrm ?_
    cases hb_4 : ((op_ == 143) : Bool) with
    | true =>
     replace h := ite_t hb_4 h
     refine Ct <| Runs.skip <| kS_nrm <| Ct <| Sq <| Ro <| Rc 1 [⟨.d (.bool true), []⟩] <| Rd <| kS_nrm <| Runs.ret <| kB_ret <| kS_ret ?_
     obtain rfl := Option.some.inj h
     exact ⟨Out.ret_ne, (by kernel_rfl)⟩
    | false =>
     replace h := ite_f hb_4 h
     refine Cf <| Sq <| Ro <| Rc 2 [⟨.d (.bool (op_ == 198)), []⟩, ⟨.d (.bool (op_ == 198)), []⟩] <| Rd <| kS_nrm ?_
     cases hb_5 : ((op_ == 198) : Bool) with
     | true =>
      replace h := ite_t hb_5 h
      refine Ct <| Runs.skip <| kS_nrm <| Ct <| Sq <| Ro <| Rc 1 [⟨.d (.bool true), []⟩] <| Rd <| kS_nrm <| Runs.ret <| kB_ret <| kS_ret ?_
      obtain rfl := Option.some.inj h
      exact ⟨Out.ret_ne, (by kernel_rfl)⟩
     | false =>
      replace h := ite_f hb_5 h
      refine Cf <| Sq <| Ro <| Rc 2 [⟨.d (.bool (op_ == 199)), []⟩, ⟨.d (.bool (op_ == 199)), []⟩] <| Rd <| kS_nrm ?_
      cases hb_6 : ((op_ == 199) : Bool) with
      | true =>
       replace h := ite_t hb_6 h
       refine Ct <| Runs.skip <| kS_nrm <| Ct <| Sq <| Ro <| Rc 1 [⟨.d (.bool true), []⟩] <| Rd <| kS_nrm <| Runs.ret <| kB_ret <| kS_ret ?_
       obtain rfl := Option.some.inj h
       exact ⟨Out.ret_ne, (by kernel_rfl)⟩
      | false =>
       replace h := ite_f hb_6 h
       refine Cf <| Sq <| Ro <| Rc 2 [⟨.d (.bool (op_ == 208)), []⟩, ⟨.d (.bool (op_ == 208)), []⟩] <| Rd <| kS_nrm ?_
       cases hb_7 : ((op_ == 208) : Bool) with
       | true =>
        replace h := ite_t hb_7 h
        refine Ct <| Runs.skip <| kS_nrm <| Ct <| Sq <| Ro <| Rc 1 [⟨.d (.bool true), []⟩] <| Rd <| kS_nrm <| Runs.ret <| kB_ret <| kS_ret ?_
        obtain rfl := Option.some.inj h
        exact ⟨Out.ret_ne, (by kernel_rfl)⟩
       | false =>
        replace h := ite_f hb_7 h
        refine Cf <| Sq <| Ro <| Rc 2 [⟨.d (.bool (op_ == 209)), []⟩, ⟨.d (.bool (op_ == 209)), []⟩] <| Rd <| kS_nrm ?_
        cases hb_8 : ((op_ == 209) : Bool) with
        | true =>
         replace h := ite_t hb_8 h
         refine Ct <| Runs.skip <| kS_nrm <| Ct <| Sq <| Ro <| Rc 1 [⟨.d (.bool true), []⟩] <| Rd <| kS_nrm <| Runs.ret <| kB_ret <| kS_ret ?_
         obtain rfl := Option.some.inj h
         exact ⟨Out.ret_ne, (by kernel_rfl)⟩
        | false =>
         replace h := ite_f hb_8 h
         refine Cf <| Sq <| Ro <| Rc 2 [⟨.d (.bool (op_ == 210)), []⟩, ⟨.d (.bool (op_ == 210)), []⟩] <| Rd <| kS_nrm ?_
         cases hb_9 : ((op_ == 210) : Bool) with
         | true =>
          replace h := ite_t hb_9 h
          refine Ct <| Runs.skip <| kS_nrm <| Ct <| Sq <| Ro <| Rc 1 [⟨.d (.bool true), []⟩] <| Rd <| kS_nrm <| Runs.ret <| kB_ret <| kS_ret ?_
          obtain rfl := Option.some.inj h
          exact ⟨Out.ret_ne, (by kernel_rfl)⟩
         | false =>
          replace h := ite_f hb_9 h
          refine Cf <| Sq <| Ro <| Rc 2 [⟨.d (.bool (op_ == 211)), []⟩, ⟨.d (.bool (op_ == 211)), []⟩] <| Rd <| kS_nrm ?_
          cases hb_10 : ((op_ == 211) : Bool) with
          | true =>
           replace h := ite_t hb_10 h
           refine Ct <| Runs.skip <| kS_nrm <| Ct <| Sq <| Ro <| Rc 1 [⟨.d (.bool true), []⟩] <| Rd <| kS_nrm <| Runs.ret <| kB_ret <| kS_ret ?_
           obtain rfl := Option.some.inj h
           exact ⟨Out.ret_ne, (by kernel_rfl)⟩
          | false =>
           replace h := ite_f hb_10 h
           refine Cf <| Sq <| Ro <| Rc 2 [⟨.d (.bool (op_ == 246)), []⟩, ⟨.d (.bool (op_ == 246)), []⟩] <| Rd <| kS_nrm ?_
           cases hb_11 : ((op_ == 246) : Bool) with
           | true =>
            replace h := ite_t hb_11 h
            refine Ct <| Runs.skip <| kS_nrm <| Ct <| Sq <| Ro <| Rc 1 [⟨.d (.bool true), []⟩] <| Rd <| kS_nrm <| Runs.ret <| kB_ret <| kS_ret ?_
            obtain rfl := Option.some.inj h
            exact ⟨Out.ret_ne, (by kernel_rfl)⟩
           | false =>
            replace h := ite_f hb_11 h
            refine Cf <| Sq <| Ro <| Rc 2 [⟨.d (.bool (op_ == 247)), []⟩, ⟨.d (.bool (op_ == 247)), []⟩] <| Rd <| kS_nrm ?_
            cases hb_12 : ((op_ == 247) : Bool) with
            | true =>
             replace h := ite_t hb_12 h
             refine Ct <| Runs.skip <| kS_nrm <| Ct <| Sq <| Ro <| Rc 1 [⟨.d (.bool true), []⟩] <| Rd <| kS_nrm <| Runs.ret <| kB_ret <| kS_ret ?_
             obtain rfl := Option.some.inj h
             exact ⟨Out.ret_ne, (by kernel_rfl)⟩
            | false =>
             replace h := ite_f hb_12 h
             refine Cf <| Sq <| Ro <| Rc 2 [⟨.d (.bool (op_ == 254)), []⟩, ⟨.d (.bool (op_ == 254)), []⟩] <| Rd <| kS_nrm ?_
             cases hb_13 : ((op_ == 254) : Bool) with
             | true =>
              replace h := ite_t hb_13 h
              refine Ct <| Runs.skip <| kS_nrm <| Ct <| Sq <| Ro <| Rc 1 [⟨.d (.bool true), []⟩] <| Rd <| kS_nrm <| Runs.ret <| kB_ret <| kS_ret ?_
              obtain rfl := Option.some.inj h
              exact ⟨Out.ret_ne, (by kernel_rfl)⟩
             | false =>
              replace h := ite_f hb_13 h
              refine Cf <| Ro <| Rc 2 [⟨.d (.bool (op_ == 255)), []⟩, ⟨.d (.bool (op_ == 255)), []⟩] <| Rd <| kS_nrm ?_
              cases hb_14 : ((op_ == 255) : Bool) with
              | true =>
               replace h := ite_t hb_14 h
               refine Ct <| Sq <| Ro <| Rc 1 [⟨.d (.bool true), []⟩] <| Rd <| kS_nrm <| Runs.ret <| kB_ret <| kS_ret ?_
               obtain rfl := Option.some.inj h
               exact ⟨Out.ret_ne, (by kernel_rfl)⟩
              | false =>
               replace h := ite_f hb_14 h
               refine Cf <| Runs.skip <| kB_nrm <| kS_nrm <| Sq <| Ro <| Rc 1 [⟨.d (.bool false), []⟩] <| Rd <| kS_nrm <| Runs.ret ?_
               obtain rfl := Option.some.inj h
               exact ⟨Out.ret_ne, (by kernel_rfl)⟩
theorem isa_Grouped_L (op_ : Int) (r : Bool) (h : isa_Grouped op_ = some r) : L 12 [.d (.int .u8 op_)] = some (.d (.bool r), [.d (.int .u8 op_)]) := by
 obtain ⟨p, ⟨hne, hf⟩, hr⟩ := isa_Grouped_ok op_ r h
 obtain ⟨k, hk⟩ := run_of (F := F12) (args := [.d (.int .u8 op_)]) (ap := [.d (.int .u8 op_)]) (bx0 := updW (fun _ => none) []) rfl rfl (by kernel_rfl) ⟨p, ⟨hne, hf⟩, hr⟩
 exact lim_run (k := k) rfl hk
def isa_Prefix_Q (b_ : Int) (r : Bool) (p : Out × St) : Prop := (∀ i, p.1 ≠ .exit i) ∧ finF F20 [.d (.int .u8 b_)] p.2 = some (.d (.bool r), [.d (.int .u8 b_)])
theorem isa_Prefix_ok (b_ : Int) (r : Bool) (h : isa_Prefix b_ = some r) : Runs L F20.body ⟨tmOf [.d (.int .u8 b_)] 0, updW (fun _ => none) []⟩ (isa_Prefix_Q b_ r) := by
 unfold isa_Prefix at h
 refine Sq <| Ro <| Rc 1 [⟨.d (.bool false), []⟩] <| Rd <| kS_nrm <| Sq <| Sq <| Ro <| Rc 1 [⟨.d (.int .u8 b_), []⟩] <| Rd <| kS_nrm <| Runs.block <| Sq <| Sq <| Ro <| Rc 2 [⟨.d (.bool (b_ == 38)), []⟩, ⟨.d (.bool (b_ == 38)), []⟩] <| Rd <| kS_nrm ?_
 cases hb_1 : ((b_ == 38) : Bool) with
 | true =>
  replace h := ite_t hb_1 h
  refine Ct <| Runs.skip <| kS_nrm <| Ct <| Sq <| Ro <| Rc 1 [⟨.d (.bool true), []⟩] <| Rd <| kS_nrm <| Runs.ret <| kB_ret <| kS_ret ?_
  obtain rfl := Option.some.inj h
  exact ⟨Out.ret_ne, (by kernel_rfl)⟩
 | false =>
  replace h := ite_f hb_1 h
  refine Cf <| Sq <| Ro <| Rc 2 [⟨.d (.bool (b_ == 46)), []⟩, ⟨.d (.bool (b_ == 46)), []⟩] <| Rd <| kS_nrm ?_
  cases hb_2 : ((b_ == 46) : Bool) with
  | true =>
   replace h := ite_t hb_2 h
   refine Ct <| Runs.skip <| kS_nrm <| Ct <| Sq <| Ro <| Rc 1 [⟨.d (.bool true), []⟩] <| Rd <| kS_nrm <| Runs.ret <| kB_ret <| kS_ret ?_
   obtain rfl := Option.some.inj h
   exact ⟨Out.ret_ne, (by kernel_rfl)⟩
  | false =>
   replace h := ite_f hb_2 h
   refine Cf <| Sq <| Ro <| Rc 2 [⟨.d (.bool (b_ == 54)), []⟩, ⟨.d (.bool (b_ == 54)), []⟩] <| Rd <| kS_nrm ?_
   cases hb_3 : ((b_ == 54) : Bool) with
   | true =>
    replace h := ite_t hb_3 h
    refine Ct <| Runs.skip <| kS_nrm <| Ct <| Sq <| Ro <| Rc 1 [⟨.d (.bool true), []⟩] <| Rd <| kS_nrm <| Runs.ret <| kB_ret <| kS_ret ?_
    obtain rfl := Option.some.inj h
    exact ⟨Out.ret_ne, (by kernel_rfl)⟩
   | false =>
    replace h := ite_f hb_3 h
    refine Cf <| Sq <| Ro <| Rc 2 [⟨.d (.bool (b_ == 62)), []⟩, ⟨.d (.bool (b_ == 62)), []⟩] <| Rd <| kS_nrm ?_
    cases hb_4 : ((b_ == 62) : Bool) with
    | true =>
     replace h := ite_t hb_4 h
     refine Ct <| Runs.skip <| kS_nrm <| Ct <| Sq <| Ro <| Rc 1 [⟨.d (.bool true), []⟩] <| Rd <| kS_nrm <| Runs.ret <| kB_ret <| kS_ret ?_
     obtain rfl := Option.some.inj h
     exact ⟨Out.ret_ne, (by kernel_rfl)⟩
    | false =>
     replace h := ite_f hb_4 h
     refine Cf <| Sq <| Ro <| Rc 2 [⟨.d (.bool (b_ == 240)), []⟩, ⟨.d (.bool (b_ == 240)), []⟩] <| Rd <| kS_nrm ?_
     cases hb_5 : ((b_ == 240) : Bool) with
     | true =>
      replace h := ite_t hb_5 h
      refine Ct <| Runs.skip <| kS_nrm <| Ct <| Sq <| Ro <| Rc 1 [⟨.d (.bool true), []⟩] <| Rd <| kS_nrm <| Runs.ret <| kB_ret <| kS_ret ?_
      obtain rfl := Option.some.inj h
      exact ⟨Out.ret_ne, (by kernel_rfl)⟩
     | false =>
      replace h := ite_f hb_5 h
      refine Cf <| Sq <| Ro <| Rc 2 [⟨.d (.bool (b_ == 242)), []⟩, ⟨.d (.bool (b_ == 242)), []⟩] <| Rd <| kS_nrm ?_
      cases hb_6 : ((b_ == 242) : Bool) with
      | true =>
       replace h := ite_t hb_6 h
       refine Ct <| Runs.skip <| kS_nrm <| Ct <| Sq <| Ro <| Rc 1 [⟨.d (.bool true), []⟩] <| Rd <| kS_nrm <| Runs.ret <| kB_ret <| kS_ret ?_
       obtain rfl := Option.some.inj h
       exact ⟨Out.ret_ne, (by kernel_rfl)⟩
      | false =>
       replace h := ite_f hb_6 h
       refine Cf <| Ro <| Rc 2 [⟨.d (.bool (b_ == 243)), []⟩, ⟨.d (.bool (b_ == 243)), []⟩] <| Rd <| kS_nrm ?_
       cases hb_7 : ((b_ == 243) : Bool) with
       | true =>
        replace h := ite_t hb_7 h
        refine Ct <| Sq <| Ro <| Rc 1 [⟨.d (.bool true), []⟩] <| Rd <| kS_nrm <| Runs.ret <| kB_ret <| kS_ret ?_
        obtain rfl := Option.some.inj h
        exact ⟨Out.ret_ne, (by kernel_rfl)⟩
       | false =>
        replace h := ite_f hb_7 h
        refine Cf <| Runs.skip <| kB_nrm <| kS_nrm <| Sq <| Ro <| Rc 1 [⟨.d (.bool false), []⟩] <| Rd <| kS_nrm <| Runs.ret ?_
        obtain rfl := Option.some.inj h
        exact ⟨Out.ret_ne, (by kernel_rfl)⟩
theorem isa_Prefix_L (b_ : Int) (r : Bool) (h : isa_Prefix b_ = some r) : L 20 [.d (.int .u8 b_)] = some (.d (.bool r), [.d (.int .u8 b_)]) := by
 obtain ⟨p, ⟨hne, hf⟩, hr⟩ := isa_Prefix_ok b_ r h
 obtain ⟨k, hk⟩ := run_of (F := F20) (args := [.d (.int .u8 b_)]) (ap := [.d (.int .u8 b_)]) (bx0 := updW (fun _ => none) []) rfl rfl (by kernel_rfl) ⟨p, ⟨hne, hf⟩, hr⟩
 exact lim_run (k := k) rfl hk
def isa_Immediate_h16 (t3 : Int) (t4 : Bool) : St := ⟨tab [(3, .d (.int .i64 t3)), (4, .d (.bool t4))], tabB []⟩
def isa_Immediate_Q (op_ : Int) (r : Int) (p : Out × St) : Prop := (∀ i, p.1 ≠ .exit i) ∧ finF F17 [.d (.int .i64 op_)] p.2 = some (.d (.int .i64 r), [.d (.int .i64 op_)])
theorem isa_Immediate_j16_ok (op_ : Int) (t3 : Int) (t4 : Bool) (r : Int) (h : isa_Immediate_j16 t3 t4 = some r) : Runs L F17b16 (isa_Immediate_h16 t3 t4) (kB 0 (kS L F17c45 (isa_Immediate_Q op_ r))) := by
 unfold isa_Immediate_j16 at h
 cases hb_2 : (t4 : Bool) with
 | true =>
  replace h := ite_t hb_2 h
  refine Ct <| Sq <| Ro <| Rc 1 [⟨.d (.int .i64 1), []⟩] <| Rd <| kS_nrm <| Runs.ret <| kB_ret <| kS_ret ?_
  obtain rfl := Option.some.inj h
  exact ⟨Out.ret_ne, (by kernel_rfl)⟩
 | false =>
  replace h := ite_f hb_2 h
  refine Cf <| Sq <| Sq <| Ro <| Rc 2 [⟨.d (.bool (t3 == 7)), []⟩, ⟨.d (.bool (t3 == 7)), []⟩] <| Rd <| kS_nrm ?_
  cases hb_3 : ((t3 == 7) : Bool) with
  | true =>
   replace h := ite_t hb_3 h
   refine Ct <| Runs.skip <| kS_nrm <| Ct <| Sq <| Ro <| Rc 1 [⟨.d (.int .i64 2), []⟩] <| Rd <| kS_nrm <| Runs.ret <| kB_ret <| kS_ret ?_
   obtain rfl := Option.some.inj h
   exact ⟨Out.ret_ne, (by kernel_rfl)⟩
  | false =>
   replace h := ite_f hb_3 h
   refine Cf <| Sq <| Ro <| Rc 2 [⟨.d (.bool (t3 == 10)), []⟩, ⟨.d (.bool (t3 == 10)), []⟩] <| Rd <| kS_nrm ?_
   cases hb_4 : ((t3 == 10) : Bool) with
   | true =>
    replace h := ite_t hb_4 h
    refine Ct <| Runs.skip <| kS_nrm <| Ct <| Sq <| Ro <| Rc 1 [⟨.d (.int .i64 2), []⟩] <| Rd <| kS_nrm <| Runs.ret <| kB_ret <| kS_ret ?_
    obtain rfl := Option.some.inj h
    exact ⟨Out.ret_ne, (by kernel_rfl)⟩
   | false =>
    replace h := ite_f hb_4 h
    refine Cf <| Sq <| Ro <| Rc 2 [⟨.d (.bool (t3 == 12)), []⟩, ⟨.d (.bool (t3 == 12)), []⟩] <| Rd <| kS_nrm ?_
    cases hb_5 : ((t3 == 12) : Bool) with
    | true =>
     replace h := ite_t hb_5 h
     refine Ct <| Runs.skip <| kS_nrm <| Ct <| Sq <| Ro <| Rc 1 [⟨.d (.int .i64 2), []⟩] <| Rd <| kS_nrm <| Runs.ret <| kB_ret <| kS_ret ?_
     obtain rfl := Option.some.inj h
     exact ⟨Out.ret_ne, (by kernel_rfl)⟩
    | false =>
     replace h := ite_f hb_5 h
     refine Cf <| Ro <| Rc 2 [⟨.d (.bool (t3 == 13)), []⟩, ⟨.d (.bool (t3 == 13)), []⟩] <| Rd <| kS_nrm ?_
     cases hb_6 : ((t3 == 13) : Bool) with
     | true =>
      replace h := ite_t hb_6 h
      refine Ct <| Sq <| Ro <| Rc 1 [⟨.d (.int .i64 2), []⟩] <| Rd <| kS_nrm <| Runs.ret <| kB_ret <| kS_ret ?_
      obtain rfl := Option.some.inj h
      exact ⟨Out.ret_ne, (by kernel_rfl)⟩
     | false =>
      replace h := ite_f hb_6 h
      refine Cf <| Sq <| Ro <| Rc 2 [⟨.d (.bool (t3 == 11)), []⟩, ⟨.d (.bool (t3 == 11)), []⟩] <| Rd <| kS_nrm ?_
      cases hb_7 : ((t3 == 11) : Bool) with
      | true =>
       replace h := ite_t hb_7 h
       refine Ct <| Sq <| Ro <| Rc 1 [⟨.d (.int .i64 4), []⟩] <| Rd <| kS_nrm <| Runs.ret <| kB_ret <| kS_ret ?_
       obtain rfl := Option.some.inj h
       exact ⟨Out.ret_ne, (by kernel_rfl)⟩
      | false =>
       replace h := ite_f hb_7 h
       refine Cf <| Runs.skip <| kB_nrm <| kS_nrm <| Sq <| Ro <| Rc 1 [⟨.d (.int .i64 0), []⟩] <| Rd <| kS_nrm <| Runs.ret ?_
       obtain rfl := Option.some.inj h
       exact ⟨Out.ret_ne, (by kernel_rfl)⟩
theorem isa_Immediate_ok (op_ : Int) (r : Int) (h : isa_Immediate op_ = some r) : Runs L F17.body ⟨tmOf [.d (.int .i64 op_)] 0, updW (fun _ => none) []⟩ (isa_Immediate_Q op_ r) := by
 unfold isa_Immediate at h
 refine Sq <| Ro <| Rc 1 [⟨.d (.int .i64 0), []⟩] <| Rd <| kS_nrm <| Sq <| Sq <| Ro <| Rc 1 [⟨.d (.int .i64 op_), []⟩] <| Rd <| kS_nrm <| Runs.block <| Sq <| Sq <| Ro <| Rc 2 [⟨.d (.bool (op_ == 6)), []⟩, ⟨.d (.bool (op_ == 6)), []⟩] <| Rd <| kS_nrm ?_
 cases hb_1 : ((op_ == 6) : Bool) with
 | true =>
  replace h := ite_t hb_1 h
  refine Ct <| Runs.skip <| kS_nrm <| Runs.canon (isa_Immediate_h16 op_ true) (Canon.nil (by kernel_rfl)) ?_
  exact isa_Immediate_j16_ok op_ op_ true r h
 | false =>
  replace h := ite_f hb_1 h
  refine Cf <| Sq <| Ro <| Rc 2 [⟨.d (.bool (op_ == 8)), []⟩, ⟨.d (.bool (op_ == 8)), []⟩] <| Rd <| kS_nrm ?_
  cases hb_8 : ((op_ == 8) : Bool) with
  | true =>
   replace h := ite_t hb_8 h
   refine Ct <| Runs.skip <| kS_nrm <| Runs.canon (isa_Immediate_h16 op_ true) (Canon.nil (by kernel_rfl)) ?_
   exact isa_Immediate_j16_ok op_ op_ true r h
  | false =>
   replace h := ite_f hb_8 h
   refine Cf <| Ro <| Rc 2 [⟨.d (.bool (op_ == 9)), []⟩, ⟨.d (.bool (op_ == 9)), []⟩] <| Rd <| kS_nrm <| Runs.canon (isa_Immediate_h16 op_ (op_ == 9)) (Canon.nil (by kernel_rfl)) ?_
   exact isa_Immediate_j16_ok op_ op_ (op_ == 9) r h
theorem isa_Immediate_L (op_ : Int) (r : Int) (h : isa_Immediate op_ = some r) : L 17 [.d (.int .i64 op_)] = some (.d (.int .i64 r), [.d (.int .i64 op_)]) := by
 obtain ⟨p, ⟨hne, hf⟩, hr⟩ := isa_Immediate_ok op_ r h
 obtain ⟨k, hk⟩ := run_of (F := F17) (args := [.d (.int .i64 op_)]) (ap := [.d (.int .i64 op_)]) (bx0 := updW (fun _ => none) []) rfl rfl (by kernel_rfl) ⟨p, ⟨hne, hf⟩, hr⟩
 exact lim_run (k := k) rfl hk
def hansomlaw04_awake_Q  (r : Bool) (p : Out × St) : Prop := (∀ i, p.1 ≠ .exit i) ∧ finF F13 [] p.2 = some (.d (.bool r), [])
theorem hansomlaw04_awake_ok  (r : Bool) (h : hansomlaw04_awake = some r) : Runs L F13.body ⟨tmOf [] 0, updW (fun _ => none) []⟩ (hansomlaw04_awake_Q  r) := by
 unfold hansomlaw04_awake at h
 refine Sq <| Ro <| Rc 1 [⟨.d (.bool false), []⟩] <| Rd <| kS_nrm <| Sq <| Ro ?_
 obtain ⟨r_1, hr_1, h⟩ := bind_s h
 have hc_1 := isa_Of_L 144 0 r_1 hr_1
 refine Rt (some 6) (.callf 11) [] none [.d (.int .u8 144), .d (.int .i64 0)] (.tup [.d (Row.d r_1.1), .d (.bool r_1.2)]) [] (cut_call (call_of (ws := []) (us := []) (by kernel_rfl) (by kernel_rfl) hc_1 (by kernel_rfl) (by kernel_rfl))) <| Rc 6 [⟨.tup [.d (Row.d r_1.1), .d (.bool r_1.2)], []⟩, ⟨.d (Row.d r_1.1), []⟩, ⟨.d (.bool r_1.2), []⟩, ⟨.ptr [1] 0 0, [([1], some (.cells [.d (.int .i64 0), .d (.int .i64 0), .d (.int .i64 0), .d (.bool false)] 0))]⟩, ⟨.tup [], [([1], some (.cells [.d (.int .i64 r_1.1.Name), .d (.int .i64 r_1.1.A), .d (.int .i64 r_1.1.B), .d (.bool r_1.1.Mod)] 0))]⟩, ⟨.d (.bool r_1.2), []⟩] <| Rd <| kS_nrm <| Sq <| Ro ?_
 obtain ⟨r_2, hr_2, h⟩ := bind_s h
 have hc_2 := isa_Of_L 15 0 r_2 hr_2
 refine Rt (some 10) (.callf 11) [] none [.d (.int .u8 15), .d (.int .i64 0)] (.tup [.d (Row.d r_2.1), .d (.bool r_2.2)]) [] (cut_call (call_of (ws := []) (us := []) (by kernel_rfl) (by kernel_rfl) hc_2 (by kernel_rfl) (by kernel_rfl))) <| Rc 6 [⟨.tup [.d (Row.d r_2.1), .d (.bool r_2.2)], []⟩, ⟨.d (Row.d r_2.1), []⟩, ⟨.d (.bool r_2.2), []⟩, ⟨.ptr [3] 0 0, [([3], some (.cells [.d (.int .i64 0), .d (.int .i64 0), .d (.int .i64 0), .d (.bool false)] 0))]⟩, ⟨.tup [], [([3], some (.cells [.d (.int .i64 r_2.1.Name), .d (.int .i64 r_2.1.A), .d (.int .i64 r_2.1.B), .d (.bool r_2.1.Mod)] 0))]⟩, ⟨.d (.bool r_2.2), []⟩] <| Rd <| kS_nrm <| Sq <| Ro <| Rc 2 [⟨.d (.bool r_1.2), []⟩, ⟨.d (.bool r_1.2), []⟩] ?_
 cases hb_1 : (r_1.2 : Bool) with
 | true =>
  replace h := ite_t hb_1 h
  refine Rc 5 [⟨.ptr [1] 0 0, []⟩, ⟨.d (.int .i64 r_1.1.Name), []⟩, ⟨.d (.bool (r_1.1.Name == 34)), []⟩, ⟨.d (.bool (r_1.1.Name == 34)), []⟩, ⟨.d (.bool (r_1.1.Name == 34)), []⟩] ?_
  cases hb_2 : ((r_1.1.Name == 34) : Bool) with
  | true =>
   replace h := ite_t hb_2 h
   refine Rc 5 [⟨.ptr [1] 0 1, []⟩, ⟨.d (.int .i64 r_1.1.A), []⟩, ⟨.d (.bool (r_1.1.A == 16)), []⟩, ⟨.d (.bool (r_1.1.A == 16)), []⟩, ⟨.d (.bool (r_1.1.A == 16)), []⟩] ?_
   cases hb_3 : ((r_1.1.A == 16) : Bool) with
   | true =>
    replace h := ite_t hb_3 h
    refine Rc 5 [⟨.ptr [1] 0 2, []⟩, ⟨.d (.int .i64 r_1.1.B), []⟩, ⟨.d (.bool (r_1.1.B == 22)), []⟩, ⟨.d (.bool (r_1.1.B == 22)), []⟩, ⟨.d (.bool (r_1.1.B == 22)), []⟩] ?_
    cases hb_4 : ((r_1.1.B == 22) : Bool) with
    | true =>
     replace h := ite_t hb_4 h
     refine Rc 4 [⟨.d (.bool r_2.2), []⟩, ⟨.d (.bool (!r_2.2)), []⟩, ⟨.d (.bool (!r_2.2)), []⟩, ⟨.d (.bool (!r_2.2)), []⟩] ?_
     cases hb_5 : ((!r_2.2) : Bool) with
     | true =>
      replace h := ite_t hb_5 h
      obtain ⟨r_3, hr_3, h⟩ := bind_s h
      have hc_3 := isa_Prefix_L 243 r_3 hr_3
      refine Rt (some 34) (.callf 20) [] none [.d (.int .u8 243)] (.d (.bool r_3)) [] (cut_call (call_of (ws := []) (us := []) (by kernel_rfl) (by kernel_rfl) hc_3 (by kernel_rfl) (by kernel_rfl))) <| Rc 2 [⟨.d (.bool r_3), []⟩, ⟨.d (.bool r_3), []⟩] ?_
      cases hb_6 : (r_3 : Bool) with
      | true =>
       replace h := ite_t hb_6 h
       obtain ⟨r_4, hr_4, h⟩ := bind_s h
       have hc_4 := isa_Immediate_L 11 r_4 hr_4
       refine Rt (some 37) (.callf 17) [] none [.d (.int .i64 11)] (.d (.int .i64 r_4)) [] (cut_call (call_of (ws := []) (us := []) (by kernel_rfl) (by kernel_rfl) hc_4 (by kernel_rfl) (by kernel_rfl))) <| Rc 3 [⟨.d (.bool (r_4 == 4)), []⟩, ⟨.d (.bool (r_4 == 4)), []⟩, ⟨.d (.bool (r_4 == 4)), []⟩] <| Rd <| kS_nrm <| Runs.ret ?_
       obtain rfl := Option.some.inj h
       exact ⟨Out.ret_ne, (by kernel_rfl)⟩
      | false =>
       replace h := ite_f hb_6 h
       refine Rc 4 [⟨.tup [], []⟩, ⟨.tup [], []⟩, ⟨.d (.bool false), []⟩, ⟨.d (.bool false), []⟩] <| Rd <| kS_nrm <| Runs.ret ?_
       obtain rfl := Option.some.inj h
       exact ⟨Out.ret_ne, (by kernel_rfl)⟩
     | false =>
      replace h := ite_f hb_5 h
      refine Rc 7 [⟨.tup [], []⟩, ⟨.d (.bool false), []⟩, ⟨.d (.bool false), []⟩, ⟨.tup [], []⟩, ⟨.tup [], []⟩, ⟨.d (.bool false), []⟩, ⟨.d (.bool false), []⟩] <| Rd <| kS_nrm <| Runs.ret ?_
      obtain rfl := Option.some.inj h
      exact ⟨Out.ret_ne, (by kernel_rfl)⟩
    | false =>
     replace h := ite_f hb_4 h
     refine Rc 11 [⟨.tup [], []⟩, ⟨.tup [], []⟩, ⟨.d (.bool false), []⟩, ⟨.d (.bool false), []⟩, ⟨.tup [], []⟩, ⟨.d (.bool false), []⟩, ⟨.d (.bool false), []⟩, ⟨.tup [], []⟩, ⟨.tup [], []⟩, ⟨.d (.bool false), []⟩, ⟨.d (.bool false), []⟩] <| Rd <| kS_nrm <| Runs.ret ?_
     obtain rfl := Option.some.inj h
     exact ⟨Out.ret_ne, (by kernel_rfl)⟩
   | false =>
    replace h := ite_f hb_3 h
    refine Rc 16 [⟨.tup [], []⟩, ⟨.tup [], []⟩, ⟨.tup [], []⟩, ⟨.d (.bool false), []⟩, ⟨.d (.bool false), []⟩, ⟨.tup [], []⟩, ⟨.tup [], []⟩, ⟨.d (.bool false), []⟩, ⟨.d (.bool false), []⟩, ⟨.tup [], []⟩, ⟨.d (.bool false), []⟩, ⟨.d (.bool false), []⟩, ⟨.tup [], []⟩, ⟨.tup [], []⟩, ⟨.d (.bool false), []⟩, ⟨.d (.bool false), []⟩] <| Rd <| kS_nrm <| Runs.ret ?_
    obtain rfl := Option.some.inj h
    exact ⟨Out.ret_ne, (by kernel_rfl)⟩
  | false =>
   replace h := ite_f hb_2 h
   refine Rc 21 [⟨.tup [], []⟩, ⟨.tup [], []⟩, ⟨.tup [], []⟩, ⟨.d (.bool false), []⟩, ⟨.d (.bool false), []⟩, ⟨.tup [], []⟩, ⟨.tup [], []⟩, ⟨.tup [], []⟩, ⟨.d (.bool false), []⟩, ⟨.d (.bool false), []⟩, ⟨.tup [], []⟩, ⟨.tup [], []⟩, ⟨.d (.bool false), []⟩, ⟨.d (.bool false), []⟩, ⟨.tup [], []⟩, ⟨.d (.bool false), []⟩, ⟨.d (.bool false), []⟩, ⟨.tup [], []⟩, ⟨.tup [], []⟩, ⟨.d (.bool false), []⟩, ⟨.d (.bool false), []⟩] <| Rd <| kS_nrm <| Runs.ret ?_
   obtain rfl := Option.some.inj h
   exact ⟨Out.ret_ne, (by kernel_rfl)⟩
 | false =>
  replace h := ite_f hb_1 h
  refine Rc 26 [⟨.tup [], []⟩, ⟨.tup [], []⟩, ⟨.tup [], []⟩, ⟨.d (.bool false), []⟩, ⟨.d (.bool false), []⟩, ⟨.tup [], []⟩, ⟨.tup [], []⟩, ⟨.tup [], []⟩, ⟨.d (.bool false), []⟩, ⟨.d (.bool false), []⟩, ⟨.tup [], []⟩, ⟨.tup [], []⟩, ⟨.tup [], []⟩, ⟨.d (.bool false), []⟩, ⟨.d (.bool false), []⟩, ⟨.tup [], []⟩, ⟨.tup [], []⟩, ⟨.d (.bool false), []⟩, ⟨.d (.bool false), []⟩, ⟨.tup [], []⟩, ⟨.d (.bool false), []⟩, ⟨.d (.bool false), []⟩, ⟨.tup [], []⟩, ⟨.tup [], []⟩, ⟨.d (.bool false), []⟩, ⟨.d (.bool false), []⟩] <| Rd <| kS_nrm <| Runs.ret ?_
  obtain rfl := Option.some.inj h
  exact ⟨Out.ret_ne, (by kernel_rfl)⟩
theorem hansomlaw04_awake_L  (r : Bool) (h : hansomlaw04_awake = some r) : L 13 [] = some (.d (.bool r), []) := by
 obtain ⟨p, ⟨hne, hf⟩, hr⟩ := hansomlaw04_awake_ok  r h
 obtain ⟨k, hk⟩ := run_of (F := F13) (args := []) (ap := []) (bx0 := updW (fun _ => none) []) rfl rfl (by kernel_rfl) ⟨p, ⟨hne, hf⟩, hr⟩
 exact lim_run (k := k) rfl hk
def hansomref04_word_h8 (s0 : (List UInt8)) (n1 : Int) (at5 : Int) (k6 : Int) : St := ⟨tab [(0, .d (.str s0)), (1, .d (.int .i64 n1)), (5, .d (.int .i64 at5)), (6, .d (.int .i64 k6))], tabB []⟩
def hansomref04_word_h19 (s0 : (List UInt8)) (n1 : Int) (at5 : Int) (k6 : Int) : St := ⟨tab [(0, .d (.str s0)), (1, .d (.int .i64 n1)), (5, .d (.int .i64 at5)), (6, .d (.int .i64 k6))], tabB []⟩
def hansomref04_word_h28 (s0 : (List UInt8)) (n1 : Int) (at5 : Int) (k6 : Int) : St := ⟨tab [(0, .d (.str s0)), (1, .d (.int .i64 n1)), (5, .d (.int .i64 at5)), (6, .d (.int .i64 k6))], tabB []⟩
def hansomref04_word_h30 (s0 : (List UInt8)) (at5 : Int) : St := ⟨tab [(0, .d (.str s0)), (5, .d (.int .i64 at5))], tabB []⟩
def hansomref04_word_h34 (s0 : (List UInt8)) (at5 : Int) (end7 : Int) : St := ⟨tab [(0, .d (.str s0)), (5, .d (.int .i64 at5)), (7, .d (.int .i64 end7))], tabB []⟩
def hansomref04_word_h43 (s0 : (List UInt8)) (at5 : Int) (end7 : Int) : St := ⟨tab [(0, .d (.str s0)), (5, .d (.int .i64 at5)), (7, .d (.int .i64 end7))], tabB []⟩
def hansomref04_word_Q (s_ : (List UInt8)) (n_ : Int) (r : (List UInt8)) (p : Out × St) : Prop := (∀ i, p.1 ≠ .exit i) ∧ finF F53 [.d (.str s_), .d (.int .i64 n_)] p.2 = some (.d (.str r), [.d (.str s_), .d (.int .i64 n_)])
def hansomref04_word_P19 (s_ : (List UInt8)) (n_ : Int) (s0 : (List UInt8)) (n1 : Int) (k6 : Int) (e : Int) (p : Out × St) : Prop := p.1 = .exit 2 ∧ ∃ g : Unit, Canon [] [0, 1, 5, 6] [] p.2 (hansomref04_word_h28 s0 n1 e k6)
def hansomref04_word_P8 (s_ : (List UInt8)) (n_ : Int) (s0 : (List UInt8)) (n1 : Int) (e : Int) (p : Out × St) : Prop := p.1 = .exit 0 ∧ ∃ g : Unit, Canon [] [0, 5] [] p.2 (hansomref04_word_h30 s0 e)
def hansomref04_word_P34 (s_ : (List UInt8)) (n_ : Int) (s0 : (List UInt8)) (at5 : Int) (e : Int) (p : Out × St) : Prop := p.1 = .exit 4 ∧ ∃ g : Unit, Canon [] [0, 5, 7] [] p.2 (hansomref04_word_h43 s0 at5 e)
theorem hansomref04_word_l19_ok (s_ : (List UInt8)) (n_ : Int) (s0 : (List UInt8)) (n1 : Int) (at5 : Int) (k6 : Int) (r : (Lp Int Int)) (h : hansomref04_word_l19 s0 n1 at5 k6 = some r) : Runs L F53l19 (hansomref04_word_h19 s0 n1 at5 k6) (LQ [] [0, 1, 5, 6] [] (fun (x : Int) (g : Unit) => hansomref04_word_h19 s0 n1 x k6) (hansomref04_word_P19 s_ n_ s0 n1 k6) r) := by
 unfold hansomref04_word_l19 at h
 refine Sq <| Sq <| Ro <| Rc 2 [⟨.d (.int .i64 at5), []⟩, ⟨.d (.str s0), []⟩] <| Rt (some 21) .lenS [] none [.d (.str s0)] (.d (.int .i64 (s0.length : Int))) [] (cut_lenS _) <| Rc 2 [⟨.d (.bool (decide (at5 < (s0.length : Int)))), []⟩, ⟨.d (.bool (decide (at5 < (s0.length : Int)))), []⟩] ?_
 cases hb_3 : ((decide (at5 < (s0.length : Int))) : Bool) with
 | true =>
  replace h := ite_t hb_3 h
  refine Rc 2 [⟨.d (.str s0), []⟩, ⟨.d (.int .i64 at5), []⟩] ?_
  obtain ⟨z_1, hz_1, h⟩ := bind_s h
  refine Rt (some 26) .indexS [] none [.d (.str s0), .d (.int .i64 at5)] (.d (.int .u8 (z_1.toNat : Int))) [] (cut_ixS hz_1) <| Rc 2 [⟨.d (.bool ((z_1.toNat : Int) != 32)), []⟩, ⟨.d (.bool ((z_1.toNat : Int) != 32)), []⟩] <| Rd <| kS_nrm ?_
  cases hb_4 : (((z_1.toNat : Int) != 32) : Bool) with
  | true =>
   replace h := ite_t hb_4 h
   refine Ct <| Runs.skip <| kS_nrm <| Runs.block <| Ro <| Rc 3 [⟨.d (.int .i64 at5), []⟩, ⟨.d (.int .i64 (IntKind.wrap .i64 (at5 + 1))), []⟩, ⟨.d (.int .i64 (IntKind.wrap .i64 (at5 + 1))), []⟩] <| Rd <| kB_nrm ?_
   obtain rfl := Option.some.inj h
   exact ⟨rfl, (), (Canon.nil (by kernel_rfl))⟩
  | false =>
   replace h := ite_f hb_4 h
   refine Cf <| Runs.exit <| kS_exit ?_
   obtain rfl := Option.some.inj h
   exact ⟨nofun, rfl, (), (Canon.nil (by kernel_rfl))⟩
 | false =>
  replace h := ite_f hb_3 h
  refine Rc 5 [⟨.tup [], []⟩, ⟨.tup [], []⟩, ⟨.tup [], []⟩, ⟨.tup [], []⟩, ⟨.d (.bool false), []⟩] <| Rd <| kS_nrm <| Cf <| Runs.exit <| kS_exit ?_
  obtain rfl := Option.some.inj h
  exact ⟨nofun, rfl, (), (Canon.nil (by kernel_rfl))⟩
theorem hansomref04_word_l8_ok (s_ : (List UInt8)) (n_ : Int) (s0 : (List UInt8)) (n1 : Int) (at5 : Int) (k6 : Int) (r : (Lp (Int × Int) Int)) (h : hansomref04_word_l8 s0 n1 at5 k6 = some r) : Runs L F53l8 (hansomref04_word_h8 s0 n1 at5 k6) (LQ [] [0, 1, 5, 6] [] (fun (x : (Int × Int)) (g : Unit) => hansomref04_word_h8 s0 n1 x.1 x.2) (hansomref04_word_P8 s_ n_ s0 n1) r) := by
 unfold hansomref04_word_l8 at h
 refine Sq <| Sq <| Ro <| Rc 4 [⟨.d (.int .i64 k6), []⟩, ⟨.d (.int .i64 n1), []⟩, ⟨.d (.bool (decide (k6 < n1))), []⟩, ⟨.d (.bool (decide (k6 < n1))), []⟩] ?_
 cases hb_1 : ((decide (k6 < n1)) : Bool) with
 | true =>
  replace h := ite_t hb_1 h
  refine Rc 2 [⟨.d (.int .i64 at5), []⟩, ⟨.d (.str s0), []⟩] <| Rt (some 14) .lenS [] none [.d (.str s0)] (.d (.int .i64 (s0.length : Int))) [] (cut_lenS _) <| Rc 2 [⟨.d (.bool (decide (at5 < (s0.length : Int)))), []⟩, ⟨.d (.bool (decide (at5 < (s0.length : Int)))), []⟩] <| Rd <| kS_nrm ?_
  cases hb_2 : ((decide (at5 < (s0.length : Int))) : Bool) with
  | true =>
   replace h := ite_t hb_2 h
   refine Ct <| Runs.skip <| kS_nrm <| Sq <| Runs.block <| Sq <| Runs.block ?_
   obtain ⟨e_1, he_1, h⟩ := bind_s h
   refine Runs.loop (fun x : Int => hansomref04_word_l19 s0 n1 x k6) (fun (x : Int) (g : Unit) => hansomref04_word_h19 s0 n1 x k6) (hansomref04_word_P19 s_ n_ s0 n1 k6) (fun x g r hr => hansomref04_word_l19_ok s_ n_ s0 n1 x k6  r hr) () he_1 (Canon.nil (by kernel_rfl)) ?_
   rintro ⟨o, s⟩ hp
   obtain ⟨ho, g_1, hk_1⟩ := hp
   have ho' : o = .exit 2 := ho
   subst ho'
   refine kB_hit <| kS_nrm <| Runs.canon _ hk_1 <| Ro <| Rc 3 [⟨.d (.int .i64 e_1), []⟩, ⟨.d (.int .i64 (IntKind.wrap .i64 (e_1 + 1))), []⟩, ⟨.d (.int .i64 (IntKind.wrap .i64 (e_1 + 1))), []⟩] <| Rd <| kB_nrm <| kS_nrm <| Ro <| Rc 3 [⟨.d (.int .i64 k6), []⟩, ⟨.d (.int .i64 (IntKind.wrap .i64 (k6 + 1))), []⟩, ⟨.d (.int .i64 (IntKind.wrap .i64 (k6 + 1))), []⟩] <| Rd ?_
   obtain rfl := Option.some.inj h
   exact ⟨rfl, (), (Canon.nil (by kernel_rfl))⟩
  | false =>
   replace h := ite_f hb_2 h
   refine Cf <| Runs.exit <| kS_exit ?_
   obtain rfl := Option.some.inj h
   exact ⟨nofun, rfl, (), (Canon.nil (by kernel_rfl))⟩
 | false =>
  replace h := ite_f hb_1 h
  refine Rc 5 [⟨.tup [], []⟩, ⟨.tup [], []⟩, ⟨.tup [], []⟩, ⟨.tup [], []⟩, ⟨.d (.bool false), []⟩] <| Rd <| kS_nrm <| Cf <| Runs.exit <| kS_exit ?_
  obtain rfl := Option.some.inj h
  exact ⟨nofun, rfl, (), (Canon.nil (by kernel_rfl))⟩
theorem hansomref04_word_l34_ok (s_ : (List UInt8)) (n_ : Int) (s0 : (List UInt8)) (at5 : Int) (end7 : Int) (r : (Lp Int Int)) (h : hansomref04_word_l34 s0 at5 end7 = some r) : Runs L F53l34 (hansomref04_word_h34 s0 at5 end7) (LQ [] [0, 5, 7] [] (fun (x : Int) (g : Unit) => hansomref04_word_h34 s0 at5 x) (hansomref04_word_P34 s_ n_ s0 at5) r) := by
 unfold hansomref04_word_l34 at h
 refine Sq <| Sq <| Ro <| Rc 2 [⟨.d (.int .i64 end7), []⟩, ⟨.d (.str s0), []⟩] <| Rt (some 36) .lenS [] none [.d (.str s0)] (.d (.int .i64 (s0.length : Int))) [] (cut_lenS _) <| Rc 2 [⟨.d (.bool (decide (end7 < (s0.length : Int)))), []⟩, ⟨.d (.bool (decide (end7 < (s0.length : Int)))), []⟩] ?_
 cases hb_1 : ((decide (end7 < (s0.length : Int))) : Bool) with
 | true =>
  replace h := ite_t hb_1 h
  refine Rc 2 [⟨.d (.str s0), []⟩, ⟨.d (.int .i64 end7), []⟩] ?_
  obtain ⟨z_1, hz_1, h⟩ := bind_s h
  refine Rt (some 41) .indexS [] none [.d (.str s0), .d (.int .i64 end7)] (.d (.int .u8 (z_1.toNat : Int))) [] (cut_ixS hz_1) <| Rc 2 [⟨.d (.bool ((z_1.toNat : Int) != 32)), []⟩, ⟨.d (.bool ((z_1.toNat : Int) != 32)), []⟩] <| Rd <| kS_nrm ?_
  cases hb_2 : (((z_1.toNat : Int) != 32) : Bool) with
  | true =>
   replace h := ite_t hb_2 h
   refine Ct <| Runs.skip <| kS_nrm <| Runs.block <| Ro <| Rc 3 [⟨.d (.int .i64 end7), []⟩, ⟨.d (.int .i64 (IntKind.wrap .i64 (end7 + 1))), []⟩, ⟨.d (.int .i64 (IntKind.wrap .i64 (end7 + 1))), []⟩] <| Rd <| kB_nrm ?_
   obtain rfl := Option.some.inj h
   exact ⟨rfl, (), (Canon.nil (by kernel_rfl))⟩
  | false =>
   replace h := ite_f hb_2 h
   refine Cf <| Runs.exit <| kS_exit ?_
   obtain rfl := Option.some.inj h
   exact ⟨nofun, rfl, (), (Canon.nil (by kernel_rfl))⟩
 | false =>
  replace h := ite_f hb_1 h
  refine Rc 5 [⟨.tup [], []⟩, ⟨.tup [], []⟩, ⟨.tup [], []⟩, ⟨.tup [], []⟩, ⟨.d (.bool false), []⟩] <| Rd <| kS_nrm <| Cf <| Runs.exit <| kS_exit ?_
  obtain rfl := Option.some.inj h
  exact ⟨nofun, rfl, (), (Canon.nil (by kernel_rfl))⟩
theorem hansomref04_word_ok (s_ : (List UInt8)) (n_ : Int) (r : (List UInt8)) (h : hansomref04_word s_ n_ = some r) : Runs L F53.body ⟨tmOf [.d (.str s_), .d (.int .i64 n_)] 0, updW (fun _ => none) []⟩ (hansomref04_word_Q s_ n_ r) := by
 unfold hansomref04_word at h
 refine Sq <| Ro <| Rc 1 [⟨.d (.str ([] : List UInt8)), []⟩] <| Rd <| kS_nrm <| Sq <| Ro <| Rc 1 [⟨.d (.int .i64 0), []⟩] <| Rd <| kS_nrm <| Sq <| Sq <| Ro <| Rc 1 [⟨.d (.int .i64 0), []⟩] <| Rd <| kS_nrm <| Runs.block ?_
 obtain ⟨e_1, he_1, h⟩ := bind_s h
 refine Runs.loop (fun x : (Int × Int) => hansomref04_word_l8 s_ n_ x.1 x.2) (fun (x : (Int × Int)) (g : Unit) => hansomref04_word_h8 s_ n_ x.1 x.2) (hansomref04_word_P8 s_ n_ s_ n_) (fun x g r hr => hansomref04_word_l8_ok s_ n_ s_ n_ x.1 x.2  r hr) () he_1 (Canon.nil (by kernel_rfl)) ?_
 rintro ⟨o, s⟩ hp
 obtain ⟨ho, g_1, hk_1⟩ := hp
 have ho' : o = .exit 0 := ho
 subst ho'
 refine kB_hit <| kS_nrm <| Runs.canon _ hk_1 <| Sq <| Ro <| Rc 2 [⟨.d (.int .i64 e_1), []⟩, ⟨.d (.int .i64 e_1), []⟩] <| Rd <| kS_nrm <| Sq <| Runs.block ?_
 obtain ⟨e_2, he_2, h⟩ := bind_s h
 refine Runs.loop (fun x : Int => hansomref04_word_l34 s_ e_1 x) (fun (x : Int) (g : Unit) => hansomref04_word_h34 s_ e_1 x) (hansomref04_word_P34 s_ n_ s_ e_1) (fun x g r hr => hansomref04_word_l34_ok s_ n_ s_ e_1 x  r hr) () he_2 (Canon.nil (by kernel_rfl)) ?_
 rintro ⟨o, s⟩ hp
 obtain ⟨ho, g_2, hk_2⟩ := hp
 have ho' : o = .exit 4 := ho
 subst ho'
 refine kB_hit <| kS_nrm <| Runs.canon _ hk_2 <| Sq <| Sq <| Ro <| Rc 2 [⟨.d (.int .i64 e_1), []⟩, ⟨.d (.str s_), []⟩] <| Rt (some 48) .lenS [] none [.d (.str s_)] (.d (.int .i64 (s_.length : Int))) [] (cut_lenS _) <| Rc 1 [⟨.d (.bool (decide (e_1 ≥ (s_.length : Int)))), []⟩] <| Rd <| kS_nrm ?_
 cases hb_1 : ((decide (e_1 ≥ (s_.length : Int))) : Bool) with
 | true =>
  replace h := ite_t hb_1 h
  refine Ct <| Sq <| Ro <| Rc 1 [⟨.d (.str ([] : List UInt8)), []⟩] <| Rd <| kS_nrm <| Runs.ret <| kS_ret ?_
  obtain rfl := Option.some.inj h
  exact ⟨Out.ret_ne, (by kernel_rfl)⟩
 | false =>
  replace h := ite_f hb_1 h
  refine Cf <| Runs.skip <| kS_nrm <| Sq <| Ro <| Rc 3 [⟨.d (.str s_), []⟩, ⟨.d (.int .i64 e_1), []⟩, ⟨.d (.int .i64 e_2), []⟩] ?_
  obtain ⟨z_1, hz_1, h⟩ := bind_s h
  refine Rt (some 53) (.substr true true) [] none [.d (.str s_), .d (.int .i64 e_1), .d (.int .i64 e_2)] (.d (.str z_1)) [] (cut_strTT hz_1) <| Rc 1 [⟨.d (.str z_1), []⟩] <| Rd <| kS_nrm <| Runs.ret ?_
  obtain rfl := Option.some.inj h
  exact ⟨Out.ret_ne, (by kernel_rfl)⟩
theorem hansomref04_word_L (s_ : (List UInt8)) (n_ : Int) (r : (List UInt8)) (h : hansomref04_word s_ n_ = some r) : L 53 [.d (.str s_), .d (.int .i64 n_)] = some (.d (.str r), [.d (.str s_), .d (.int .i64 n_)]) := by
 obtain ⟨p, ⟨hne, hf⟩, hr⟩ := hansomref04_word_ok s_ n_ r h
 obtain ⟨k, hk⟩ := run_of (F := F53) (args := [.d (.str s_), .d (.int .i64 n_)]) (ap := [.d (.str s_), .d (.int .i64 n_)]) (bx0 := updW (fun _ => none) []) rfl rfl (by kernel_rfl) ⟨p, ⟨hne, hf⟩, hr⟩
 exact lim_run (k := k) rfl hk
def hansomref04_part_h8 (s0 : (List UInt8)) (mark1 : Int) (n2 : Int) (from7 : Int) (i8 : Int) : St := ⟨tab [(0, .d (.str s0)), (1, .d (.int .u8 mark1)), (2, .d (.int .i64 n2)), (7, .d (.int .i64 from7)), (8, .d (.int .i64 i8))], tabB []⟩
def hansomref04_part_h35  : St := ⟨tab [], tabB []⟩
def hansomref04_part_Q (s_ : (List UInt8)) (mark_ : Int) (n_ : Int) (r : (List UInt8)) (p : Out × St) : Prop := (∀ i, p.1 ≠ .exit i) ∧ finF F50 [.d (.str s_), .d (.int .u8 mark_), .d (.int .i64 n_)] p.2 = some (.d (.str r), [.d (.str s_), .d (.int .u8 mark_), .d (.int .i64 n_)])
def hansomref04_part_P8 (s_ : (List UInt8)) (mark_ : Int) (n_ : Int) (s0 : (List UInt8)) (mark1 : Int) (e : ((List UInt8) ⊕ Unit)) (p : Out × St) : Prop := match e with
 | .inl x => p.1 = .ret ∧ finF F50 [.d (.str s_), .d (.int .u8 mark_), .d (.int .i64 n_)] p.2 = some (.d (.str x), [.d (.str s_), .d (.int .u8 mark_), .d (.int .i64 n_)])
 | .inr x => p.1 = .exit 0 ∧ ∃ g : Unit, Canon [] [] [] p.2 (hansomref04_part_h35)
theorem hansomref04_part_l8_ok (s_ : (List UInt8)) (mark_ : Int) (n_ : Int) (s0 : (List UInt8)) (mark1 : Int) (n2 : Int) (from7 : Int) (i8 : Int) (r : (Lp (Int × Int × Int) ((List UInt8) ⊕ Unit))) (h : hansomref04_part_l8 s0 mark1 n2 from7 i8 = some r) : Runs L F50l8 (hansomref04_part_h8 s0 mark1 n2 from7 i8) (LQ [] [0, 1, 2, 7, 8] [] (fun (x : (Int × Int × Int)) (g : Unit) => hansomref04_part_h8 s0 mark1 x.1 x.2.1 x.2.2) (hansomref04_part_P8 s_ mark_ n_ s0 mark1) r) := by
 unfold hansomref04_part_l8 at h
 refine Sq <| Sq <| Ro <| Rc 2 [⟨.d (.int .i64 i8), []⟩, ⟨.d (.str s0), []⟩] <| Rt (some 11) .lenS [] none [.d (.str s0)] (.d (.int .i64 (s0.length : Int))) [] (cut_lenS _) <| Rc 1 [⟨.d (.bool (decide (i8 ≤ (s0.length : Int)))), []⟩] <| Rd <| kS_nrm ?_
 cases hb_1 : ((decide (i8 ≤ (s0.length : Int))) : Bool) with
 | true =>
  replace h := ite_t hb_1 h
  refine Ct <| Runs.skip <| kS_nrm <| Sq <| Runs.block <| Sq <| Sq <| Ro <| Rc 2 [⟨.d (.int .i64 i8), []⟩, ⟨.d (.str s0), []⟩] <| Rt (some 17) .lenS [] none [.d (.str s0)] (.d (.int .i64 (s0.length : Int))) [] (cut_lenS _) <| Rc 2 [⟨.d (.bool (decide (i8 < (s0.length : Int)))), []⟩, ⟨.d (.bool (decide (i8 < (s0.length : Int)))), []⟩] ?_
  cases hb_2 : ((decide (i8 < (s0.length : Int))) : Bool) with
  | true =>
   replace h := ite_t hb_2 h
   refine Rc 2 [⟨.d (.str s0), []⟩, ⟨.d (.int .i64 i8), []⟩] ?_
   obtain ⟨z_1, hz_1, h⟩ := bind_s h
   refine Rt (some 22) .indexS [] none [.d (.str s0), .d (.int .i64 i8)] (.d (.int .u8 (z_1.toNat : Int))) [] (cut_ixS hz_1) <| Rc 3 [⟨.d (.int .u8 mark1), []⟩, ⟨.d (.bool ((z_1.toNat : Int) != mark1)), []⟩, ⟨.d (.bool ((z_1.toNat : Int) != mark1)), []⟩] <| Rd <| kS_nrm ?_
   cases hb_3 : (((z_1.toNat : Int) != mark1) : Bool) with
   | true =>
    replace h := ite_t hb_3 h
    refine Ct <| Runs.exit <| kS_exit <| kB_hit <| kS_nrm <| Ro <| Rc 3 [⟨.d (.int .i64 i8), []⟩, ⟨.d (.int .i64 (IntKind.wrap .i64 (i8 + 1))), []⟩, ⟨.d (.int .i64 (IntKind.wrap .i64 (i8 + 1))), []⟩] <| Rd ?_
    obtain rfl := Option.some.inj h
    exact ⟨rfl, (), (Canon.nil (by kernel_rfl))⟩
   | false =>
    replace h := ite_f hb_3 h
    refine Cf <| Runs.skip <| kS_nrm <| Sq <| Sq <| Ro <| Rc 2 [⟨.d (.int .i64 n2), []⟩, ⟨.d (.bool (n2 == 0)), []⟩] <| Rd <| kS_nrm ?_
    cases hb_4 : ((n2 == 0) : Bool) with
    | true =>
     replace h := ite_t hb_4 h
     refine Ct <| Sq <| Ro <| Rc 3 [⟨.d (.str s0), []⟩, ⟨.d (.int .i64 from7), []⟩, ⟨.d (.int .i64 i8), []⟩] ?_
     obtain ⟨z_2, hz_2, h⟩ := bind_s h
     refine Rt (some 31) (.substr true true) [] none [.d (.str s0), .d (.int .i64 from7), .d (.int .i64 i8)] (.d (.str z_2)) [] (cut_strTT hz_2) <| Rc 1 [⟨.d (.str z_2), []⟩] <| Rd <| kS_nrm <| Runs.ret <| kS_ret <| kB_ret <| kS_ret ?_
     obtain rfl := Option.some.inj h
     exact ⟨nofun, rfl, (by kernel_rfl)⟩
    | false =>
     replace h := ite_f hb_4 h
     refine Cf <| Runs.skip <| kS_nrm <| Sq <| Ro <| Rc 3 [⟨.d (.int .i64 n2), []⟩, ⟨.d (.int .i64 (IntKind.wrap .i64 (n2 - 1))), []⟩, ⟨.d (.int .i64 (IntKind.wrap .i64 (n2 - 1))), []⟩] <| Rd <| kS_nrm <| Ro <| Rc 3 [⟨.d (.int .i64 i8), []⟩, ⟨.d (.int .i64 (IntKind.wrap .i64 (i8 + 1))), []⟩, ⟨.d (.int .i64 (IntKind.wrap .i64 (i8 + 1))), []⟩] <| Rd <| kB_nrm <| kS_nrm <| Ro <| Rc 3 [⟨.d (.int .i64 i8), []⟩, ⟨.d (.int .i64 (IntKind.wrap .i64 (i8 + 1))), []⟩, ⟨.d (.int .i64 (IntKind.wrap .i64 (i8 + 1))), []⟩] <| Rd ?_
     obtain rfl := Option.some.inj h
     exact ⟨rfl, (), (Canon.nil (by kernel_rfl))⟩
  | false =>
   replace h := ite_f hb_2 h
   refine Rc 6 [⟨.tup [], []⟩, ⟨.tup [], []⟩, ⟨.tup [], []⟩, ⟨.tup [], []⟩, ⟨.tup [], []⟩, ⟨.d (.bool false), []⟩] <| Rd <| kS_nrm <| Cf <| Runs.skip <| kS_nrm <| Sq <| Sq <| Ro <| Rc 2 [⟨.d (.int .i64 n2), []⟩, ⟨.d (.bool (n2 == 0)), []⟩] <| Rd <| kS_nrm ?_
   cases hb_5 : ((n2 == 0) : Bool) with
   | true =>
    replace h := ite_t hb_5 h
    refine Ct <| Sq <| Ro <| Rc 3 [⟨.d (.str s0), []⟩, ⟨.d (.int .i64 from7), []⟩, ⟨.d (.int .i64 i8), []⟩] ?_
    obtain ⟨z_3, hz_3, h⟩ := bind_s h
    refine Rt (some 31) (.substr true true) [] none [.d (.str s0), .d (.int .i64 from7), .d (.int .i64 i8)] (.d (.str z_3)) [] (cut_strTT hz_3) <| Rc 1 [⟨.d (.str z_3), []⟩] <| Rd <| kS_nrm <| Runs.ret <| kS_ret <| kB_ret <| kS_ret ?_
    obtain rfl := Option.some.inj h
    exact ⟨nofun, rfl, (by kernel_rfl)⟩
   | false =>
    replace h := ite_f hb_5 h
    refine Cf <| Runs.skip <| kS_nrm <| Sq <| Ro <| Rc 3 [⟨.d (.int .i64 n2), []⟩, ⟨.d (.int .i64 (IntKind.wrap .i64 (n2 - 1))), []⟩, ⟨.d (.int .i64 (IntKind.wrap .i64 (n2 - 1))), []⟩] <| Rd <| kS_nrm <| Ro <| Rc 3 [⟨.d (.int .i64 i8), []⟩, ⟨.d (.int .i64 (IntKind.wrap .i64 (i8 + 1))), []⟩, ⟨.d (.int .i64 (IntKind.wrap .i64 (i8 + 1))), []⟩] <| Rd <| kB_nrm <| kS_nrm <| Ro <| Rc 3 [⟨.d (.int .i64 i8), []⟩, ⟨.d (.int .i64 (IntKind.wrap .i64 (i8 + 1))), []⟩, ⟨.d (.int .i64 (IntKind.wrap .i64 (i8 + 1))), []⟩] <| Rd ?_
    obtain rfl := Option.some.inj h
    exact ⟨rfl, (), (Canon.nil (by kernel_rfl))⟩
 | false =>
  replace h := ite_f hb_1 h
  refine Cf <| Runs.exit <| kS_exit ?_
  obtain rfl := Option.some.inj h
  exact ⟨nofun, rfl, (), (Canon.nil (by kernel_rfl))⟩
theorem hansomref04_part_ok (s_ : (List UInt8)) (mark_ : Int) (n_ : Int) (r : (List UInt8)) (h : hansomref04_part s_ mark_ n_ = some r) : Runs L F50.body ⟨tmOf [.d (.str s_), .d (.int .u8 mark_), .d (.int .i64 n_)] 0, updW (fun _ => none) []⟩ (hansomref04_part_Q s_ mark_ n_ r) := by
 unfold hansomref04_part at h
 refine Sq <| Ro <| Rc 1 [⟨.d (.str ([] : List UInt8)), []⟩] <| Rd <| kS_nrm <| Sq <| Ro <| Rc 1 [⟨.d (.int .i64 0), []⟩] <| Rd <| kS_nrm <| Sq <| Sq <| Ro <| Rc 1 [⟨.d (.int .i64 0), []⟩] <| Rd <| kS_nrm <| Runs.block ?_
 obtain ⟨e_1, he_1, h⟩ := bind_s h
 refine Runs.loop (fun x : (Int × Int × Int) => hansomref04_part_l8 s_ mark_ x.1 x.2.1 x.2.2) (fun (x : (Int × Int × Int)) (g : Unit) => hansomref04_part_h8 s_ mark_ x.1 x.2.1 x.2.2) (hansomref04_part_P8 s_ mark_ n_ s_ mark_) (fun x g r hr => hansomref04_part_l8_ok s_ mark_ n_ s_ mark_ x.1 x.2.1 x.2.2  r hr) () he_1 (Canon.nil (by kernel_rfl)) ?_
 rintro ⟨o, s⟩ hp
 cases e_1 with
 | inl e_2 =>
  obtain ⟨ho, hf⟩ := hp
  have ho' : o = .ret := ho
  subst ho'
  refine kB_ret <| kS_ret ?_
  obtain rfl := Option.some.inj h
  exact ⟨Out.ret_ne, hf⟩
 | inr e_3 =>
  obtain ⟨ho, g_1, hk_1⟩ := hp
  have ho' : o = .exit 0 := ho
  subst ho'
  refine kB_hit <| kS_nrm <| Runs.canon _ hk_1 <| Sq <| Ro <| Rc 1 [⟨.d (.str ([] : List UInt8)), []⟩] <| Rd <| kS_nrm <| Runs.ret ?_
  obtain rfl := Option.some.inj h
  exact ⟨Out.ret_ne, (by kernel_rfl)⟩
theorem hansomref04_part_L (s_ : (List UInt8)) (mark_ : Int) (n_ : Int) (r : (List UInt8)) (h : hansomref04_part s_ mark_ n_ = some r) : L 50 [.d (.str s_), .d (.int .u8 mark_), .d (.int .i64 n_)] = some (.d (.str r), [.d (.str s_), .d (.int .u8 mark_), .d (.int .i64 n_)]) := by
 obtain ⟨p, ⟨hne, hf⟩, hr⟩ := hansomref04_part_ok s_ mark_ n_ r h
 obtain ⟨k, hk⟩ := run_of (F := F50) (args := [.d (.str s_), .d (.int .u8 mark_), .d (.int .i64 n_)]) (ap := [.d (.str s_), .d (.int .u8 mark_), .d (.int .i64 n_)]) (bx0 := updW (fun _ => none) []) rfl rfl (by kernel_rfl) ⟨p, ⟨hne, hf⟩, hr⟩
 exact lim_run (k := k) rfl hk
def hansomref04_Entry_Q (op_ : Int) (reg_ : Int) (r : (List UInt8)) (p : Out × St) : Prop := (∀ i, p.1 ≠ .exit i) ∧ finF F48 [.d (.int .u8 op_), .d (.int .i64 reg_)] p.2 = some (.d (.str r), [.d (.int .u8 op_), .d (.int .i64 reg_)])
theorem hansomref04_Entry_ok (op_ : Int) (reg_ : Int) (r : (List UInt8)) (h : hansomref04_Entry op_ reg_ = some r) : Runs L F48.body ⟨tmOf [.d (.int .u8 op_), .d (.int .i64 reg_)] 0, updW (fun _ => none) []⟩ (hansomref04_Entry_Q op_ reg_ r) := by
 unfold hansomref04_Entry at h
 refine Sq <| Ro <| Rc 1 [⟨.d (.str ([] : List UInt8)), []⟩] <| Rd <| kS_nrm <| Sq <| Ro <| Rc 2 [⟨.d (.int .u8 op_), []⟩, ⟨.d (.int .i64 (IntKind.wrap .i64 op_)), []⟩] ?_
 obtain ⟨r_1, hr_1, h⟩ := bind_s h
 have hc_1 := hansomref04_word_L ([65, 68, 68, 58, 69, 98, 58, 71, 98, 32, 65, 68, 68, 58, 69, 118, 58, 71, 118, 32, 65, 68, 68, 58, 71, 98, 58, 69, 98, 32, 65, 68, 68, 58, 71, 118, 58, 69, 118, 32, 65, 68, 68, 58, 65, 76, 58, 73, 98, 32, 65, 68, 68, 58, 65, 88, 58, 73, 118, 32, 80, 85, 83, 72, 58, 90, 115, 32, 80, 79, 80, 58, 90, 115, 32, 79, 82, 58, 69, 98, 58, 71, 98, 32, 79, 82, 58, 69, 118, 58, 71, 118, 32, 79, 82, 58, 71, 98, 58, 69, 98, 32, 79, 82, 58, 71, 118, 58, 69, 118, 32, 79, 82, 58, 65, 76, 58, 73, 98, 32, 79, 82, 58, 65, 88, 58, 73, 118, 32, 80, 85, 83, 72, 58, 90, 115, 32, 45, 32, 65, 68, 67, 58, 69, 98, 58, 71, 98, 32, 65, 68, 67, 58, 69, 118, 58, 71, 118, 32, 65, 68, 67, 58, 71, 98, 58, 69, 98, 32, 65, 68, 67, 58, 71, 118, 58, 69, 118, 32, 65, 68, 67, 58, 65, 76, 58, 73, 98, 32, 65, 68, 67, 58, 65, 88, 58, 73, 118, 32, 80, 85, 83, 72, 58, 90, 115, 32, 80, 79, 80, 58, 90, 115, 32, 83, 66, 66, 58, 69, 98, 58, 71, 98, 32, 83, 66, 66, 58, 69, 118, 58, 71, 118, 32, 83, 66, 66, 58, 71, 98, 58, 69, 98, 32, 83, 66, 66, 58, 71, 118, 58, 69, 118, 32, 83, 66, 66, 58, 65, 76, 58, 73, 98, 32, 83, 66, 66, 58, 65, 88, 58, 73, 118, 32, 80, 85, 83, 72, 58, 90, 115, 32, 80, 79, 80, 58, 90, 115, 32, 65, 78, 68, 58, 69, 98, 58, 71, 98, 32, 65, 78, 68, 58, 69, 118, 58, 71, 118, 32, 65, 78, 68, 58, 71, 98, 58, 69, 98, 32, 65, 78, 68, 58, 71, 118, 58, 69, 118, 32, 65, 78, 68, 58, 65, 76, 58, 73, 98, 32, 65, 78, 68, 58, 65, 88, 58, 73, 118, 32, 45, 32, 68, 65, 65, 32, 83, 85, 66, 58, 69, 98, 58, 71, 98, 32, 83, 85, 66, 58, 69, 118, 58, 71, 118, 32, 83, 85, 66, 58, 71, 98, 58, 69, 98, 32, 83, 85, 66, 58, 71, 118, 58, 69, 118, 32, 83, 85, 66, 58, 65, 76, 58, 73, 98, 32, 83, 85, 66, 58, 65, 88, 58, 73, 118, 32, 45, 32, 68, 65, 83, 32, 88, 79, 82, 58, 69, 98, 58, 71, 98, 32, 88, 79, 82, 58, 69, 118, 58, 71, 118, 32, 88, 79, 82, 58, 71, 98, 58, 69, 98, 32, 88, 79, 82, 58, 71, 118, 58, 69, 118, 32, 88, 79, 82, 58, 65, 76, 58, 73, 98, 32, 88, 79, 82, 58, 65, 88, 58, 73, 118, 32, 45, 32, 65, 65, 65, 32, 67, 77, 80, 58, 69, 98, 58, 71, 98, 32, 67, 77, 80, 58, 69, 118, 58, 71, 118, 32, 67, 77, 80, 58, 71, 98, 58, 69, 98, 32, 67, 77, 80, 58, 71, 118, 58, 69, 118, 32, 67, 77, 80, 58, 65, 76, 58, 73, 98, 32, 67, 77, 80, 58, 65, 88, 58, 73, 118, 32, 45, 32, 65, 65, 83, 32, 73, 78, 67, 58, 90, 118, 32, 73, 78, 67, 58, 90, 118, 32, 73, 78, 67, 58, 90, 118, 32, 73, 78, 67, 58, 90, 118, 32, 73, 78, 67, 58, 90, 118, 32, 73, 78, 67, 58, 90, 118, 32, 73, 78, 67, 58, 90, 118, 32, 73, 78, 67, 58, 90, 118, 32, 68, 69, 67, 58, 90, 118, 32, 68, 69, 67, 58, 90, 118, 32, 68, 69, 67, 58, 90, 118, 32, 68, 69, 67, 58, 90, 118, 32, 68, 69, 67, 58, 90, 118, 32, 68, 69, 67, 58, 90, 118, 32, 68, 69, 67, 58, 90, 118, 32, 68, 69, 67, 58, 90, 118, 32, 80, 85, 83, 72, 58, 90, 118, 32, 80, 85, 83, 72, 58, 90, 118, 32, 80, 85, 83, 72, 58, 90, 118, 32, 80, 85, 83, 72, 58, 90, 118, 32, 80, 85, 83, 72, 58, 90, 118, 32, 80, 85, 83, 72, 58, 90, 118, 32, 80, 85, 83, 72, 58, 90, 118, 32, 80, 85, 83, 72, 58, 90, 118, 32, 80, 79, 80, 58, 90, 118, 32, 80, 79, 80, 58, 90, 118, 32, 80, 79, 80, 58, 90, 118, 32, 80, 79, 80, 58, 90, 118, 32, 80, 79, 80, 58, 90, 118, 32, 80, 79, 80, 58, 90, 118, 32, 80, 79, 80, 58, 90, 118, 32, 80, 79, 80, 58, 90, 118, 32, 45, 32, 45, 32, 45, 32, 45, 32, 45, 32, 45, 32, 45, 32, 45, 32, 45, 32, 45, 32, 45, 32, 45, 32, 45, 32, 45, 32, 45, 32, 45, 32, 74, 79, 58, 74, 98, 32, 74, 78, 79, 58, 74, 98, 32, 74, 66, 58, 74, 98, 32, 74, 78, 66, 58, 74, 98, 32, 74, 90, 58, 74, 98, 32, 74, 78, 90, 58, 74, 98, 32, 74, 66, 69, 58, 74, 98, 32, 74, 65, 58, 74, 98, 32, 74, 83, 58, 74, 98, 32, 74, 78, 83, 58, 74, 98, 32, 74, 80, 58, 74, 98, 32, 74, 78, 80, 58, 74, 98, 32, 74, 76, 58, 74, 98, 32, 74, 71, 69, 58, 74, 98, 32, 74, 76, 69, 58, 74, 98, 32, 74, 71, 58, 74, 98, 32, 47, 65, 68, 68, 58, 69, 98, 58, 73, 98, 47, 79, 82, 58, 69, 98, 58, 73, 98, 47, 65, 68, 67, 58, 69, 98, 58, 73, 98, 47, 83, 66, 66, 58, 69, 98, 58, 73, 98, 47, 65, 78, 68, 58, 69, 98, 58, 73, 98, 47, 83, 85, 66, 58, 69, 98, 58, 73, 98, 47, 88, 79, 82, 58, 69, 98, 58, 73, 98, 47, 67, 77, 80, 58, 69, 98, 58, 73, 98, 32, 47, 65, 68, 68, 58, 69, 118, 58, 73, 118, 47, 79, 82, 58, 69, 118, 58, 73, 118, 47, 65, 68, 67, 58, 69, 118, 58, 73, 118, 47, 83, 66, 66, 58, 69, 118, 58, 73, 118, 47, 65, 78, 68, 58, 69, 118, 58, 73, 118, 47, 83, 85, 66, 58, 69, 118, 58, 73, 118, 47, 88, 79, 82, 58, 69, 118, 58, 73, 118, 47, 67, 77, 80, 58, 69, 118, 58, 73, 118, 32, 45, 32, 47, 65, 68, 68, 58, 69, 118, 58, 73, 115, 47, 45, 47, 65, 68, 67, 58, 69, 118, 58, 73, 115, 47, 83, 66, 66, 58, 69, 118, 58, 73, 115, 47, 45, 47, 83, 85, 66, 58, 69, 118, 58, 73, 115, 47, 45, 47, 67, 77, 80, 58, 69, 118, 58, 73, 115, 32, 84, 69, 83, 84, 58, 69, 98, 58, 71, 98, 32, 84, 69, 83, 84, 58, 69, 118, 58, 71, 118, 32, 88, 67, 72, 71, 58, 69, 98, 58, 71, 98, 32, 88, 67, 72, 71, 58, 69, 118, 58, 71, 118, 32, 77, 79, 86, 58, 69, 98, 58, 71, 98, 32, 77, 79, 86, 58, 69, 118, 58, 71, 118, 32, 77, 79, 86, 58, 71, 98, 58, 69, 98, 32, 77, 79, 86, 58, 71, 118, 58, 69, 118, 32, 47, 77, 79, 86, 58, 69, 118, 58, 83, 119, 47, 77, 79, 86, 58, 69, 118, 58, 83, 119, 47, 77, 79, 86, 58, 69, 118, 58, 83, 119, 47, 77, 79, 86, 58, 69, 118, 58, 83, 119, 47, 45, 47, 45, 47, 45, 47, 45, 32, 76, 69, 65, 58, 71, 118, 58, 77, 32, 47, 77, 79, 86, 58, 83, 119, 58, 69, 118, 47, 45, 47, 77, 79, 86, 58, 83, 119, 58, 69, 118, 47, 77, 79, 86, 58, 83, 119, 58, 69, 118, 47, 45, 47, 45, 47, 45, 47, 45, 32, 47, 80, 79, 80, 58, 69, 118, 47, 45, 47, 45, 47, 45, 47, 45, 47, 45, 47, 45, 47, 45, 32, 88, 67, 72, 71, 58, 65, 88, 58, 90, 118, 32, 88, 67, 72, 71, 58, 65, 88, 58, 90, 118, 32, 88, 67, 72, 71, 58, 65, 88, 58, 90, 118, 32, 88, 67, 72, 71, 58, 65, 88, 58, 90, 118, 32, 88, 67, 72, 71, 58, 65, 88, 58, 90, 118, 32, 88, 67, 72, 71, 58, 65, 88, 58, 90, 118, 32, 88, 67, 72, 71, 58, 65, 88, 58, 90, 118, 32, 88, 67, 72, 71, 58, 65, 88, 58, 90, 118, 32, 67, 66, 87, 32, 67, 87, 68, 32, 67, 65, 76, 76, 70, 58, 65, 112, 32, 87, 65, 73, 84, 32, 80, 85, 83, 72, 70, 32, 80, 79, 80, 70, 32, 83, 65, 72, 70, 32, 76, 65, 72, 70, 32, 77, 79, 86, 58, 65, 76, 58, 79, 98, 32, 77, 79, 86, 58, 65, 88, 58, 79, 118, 32, 77, 79, 86, 58, 79, 98, 58, 65, 76, 32, 77, 79, 86, 58, 79, 118, 58, 65, 88, 32, 77, 79, 86, 83, 66, 32, 77, 79, 86, 83, 87, 32, 67, 77, 80, 83, 66, 32, 67, 77, 80, 83, 87, 32, 84, 69, 83, 84, 58, 65, 76, 58, 73, 98, 32, 84, 69, 83, 84, 58, 65, 88, 58, 73, 118, 32, 83, 84, 79, 83, 66, 32, 83, 84, 79, 83, 87, 32, 76, 79, 68, 83, 66, 32, 76, 79, 68, 83, 87, 32, 83, 67, 65, 83, 66, 32, 83, 67, 65, 83, 87, 32, 77, 79, 86, 58, 90, 98, 58, 73, 98, 32, 77, 79, 86, 58, 90, 98, 58, 73, 98, 32, 77, 79, 86, 58, 90, 98, 58, 73, 98, 32, 77, 79, 86, 58, 90, 98, 58, 73, 98, 32, 77, 79, 86, 58, 90, 98, 58, 73, 98, 32, 77, 79, 86, 58, 90, 98, 58, 73, 98, 32, 77, 79, 86, 58, 90, 98, 58, 73, 98, 32, 77, 79, 86, 58, 90, 98, 58, 73, 98, 32, 77, 79, 86, 58, 90, 118, 58, 73, 118, 32, 77, 79, 86, 58, 90, 118, 58, 73, 118, 32, 77, 79, 86, 58, 90, 118, 58, 73, 118, 32, 77, 79, 86, 58, 90, 118, 58, 73, 118, 32, 77, 79, 86, 58, 90, 118, 58, 73, 118, 32, 77, 79, 86, 58, 90, 118, 58, 73, 118, 32, 77, 79, 86, 58, 90, 118, 58, 73, 118, 32, 77, 79, 86, 58, 90, 118, 58, 73, 118, 32, 45, 32, 45, 32, 82, 69, 84, 58, 73, 118, 32, 82, 69, 84, 32, 76, 69, 83, 58, 71, 118, 58, 77, 112, 32, 76, 68, 83, 58, 71, 118, 58, 77, 112, 32, 47, 77, 79, 86, 58, 69, 98, 58, 73, 98, 47, 45, 47, 45, 47, 45, 47, 45, 47, 45, 47, 45, 47, 45, 32, 47, 77, 79, 86, 58, 69, 118, 58, 73, 118, 47, 45, 47, 45, 47, 45, 47, 45, 47, 45, 47, 45, 47, 45, 32, 45, 32, 45, 32, 82, 69, 84, 70, 58, 73, 118, 32, 82, 69, 84, 70, 32, 73, 78, 84, 58, 84, 104, 114, 101, 101, 32, 73, 78, 84, 58, 73, 98, 32, 73, 78, 84, 79, 32, 73, 82, 69, 84, 32, 47, 82, 79, 76, 58, 69, 98, 58, 79, 110, 101, 47, 82, 79, 82, 58, 69, 98, 58, 79, 110, 101, 47, 82, 67, 76, 58, 69, 98, 58, 79, 110, 101, 47, 82, 67, 82, 58, 69, 98, 58, 79, 110, 101, 47, 83, 72, 76, 58, 69, 98, 58, 79, 110, 101, 47, 83, 72, 82, 58, 69, 98, 58, 79, 110, 101, 47, 45, 47, 83, 65, 82, 58, 69, 98, 58, 79, 110, 101, 32, 47, 82, 79, 76, 58, 69, 118, 58, 79, 110, 101, 47, 82, 79, 82, 58, 69, 118, 58, 79, 110, 101, 47, 82, 67, 76, 58, 69, 118, 58, 79, 110, 101, 47, 82, 67, 82, 58, 69, 118, 58, 79, 110, 101, 47, 83, 72, 76, 58, 69, 118, 58, 79, 110, 101, 47, 83, 72, 82, 58, 69, 118, 58, 79, 110, 101, 47, 45, 47, 83, 65, 82, 58, 69, 118, 58, 79, 110, 101, 32, 47, 82, 79, 76, 58, 69, 98, 58, 67, 76, 47, 82, 79, 82, 58, 69, 98, 58, 67, 76, 47, 82, 67, 76, 58, 69, 98, 58, 67, 76, 47, 82, 67, 82, 58, 69, 98, 58, 67, 76, 47, 83, 72, 76, 58, 69, 98, 58, 67, 76, 47, 83, 72, 82, 58, 69, 98, 58, 67, 76, 47, 45, 47, 83, 65, 82, 58, 69, 98, 58, 67, 76, 32, 47, 82, 79, 76, 58, 69, 118, 58, 67, 76, 47, 82, 79, 82, 58, 69, 118, 58, 67, 76, 47, 82, 67, 76, 58, 69, 118, 58, 67, 76, 47, 82, 67, 82, 58, 69, 118, 58, 67, 76, 47, 83, 72, 76, 58, 69, 118, 58, 67, 76, 47, 83, 72, 82, 58, 69, 118, 58, 67, 76, 47, 45, 47, 83, 65, 82, 58, 69, 118, 58, 67, 76, 32, 65, 65, 77, 58, 73, 98, 32, 65, 65, 68, 58, 73, 98, 32, 45, 32, 88, 76, 65, 84, 32, 69, 83, 67, 58, 69, 118, 32, 69, 83, 67, 58, 69, 118, 32, 69, 83, 67, 58, 69, 118, 32, 69, 83, 67, 58, 69, 118, 32, 69, 83, 67, 58, 69, 118, 32, 69, 83, 67, 58, 69, 118, 32, 69, 83, 67, 58, 69, 118, 32, 69, 83, 67, 58, 69, 118, 32, 76, 79, 79, 80, 78, 90, 58, 74, 98, 32, 76, 79, 79, 80, 90, 58, 74, 98, 32, 76, 79, 79, 80, 58, 74, 98, 32, 74, 67, 88, 90, 58, 74, 98, 32, 73, 78, 58, 65, 76, 58, 73, 98, 32, 73, 78, 58, 65, 88, 58, 73, 98, 32, 79, 85, 84, 58, 73, 98, 58, 65, 76, 32, 79, 85, 84, 58, 73, 98, 58, 65, 88, 32, 67, 65, 76, 76, 58, 74, 118, 32, 74, 77, 80, 58, 74, 118, 32, 74, 77, 80, 70, 58, 65, 112, 32, 74, 77, 80, 58, 74, 98, 32, 73, 78, 58, 65, 76, 58, 68, 88, 32, 73, 78, 58, 65, 88, 58, 68, 88, 32, 79, 85, 84, 58, 68, 88, 58, 65, 76, 32, 79, 85, 84, 58, 68, 88, 58, 65, 88, 32, 45, 32, 45, 32, 45, 32, 45, 32, 72, 76, 84, 32, 67, 77, 67, 32, 47, 84, 69, 83, 84, 58, 69, 98, 58, 73, 98, 47, 45, 47, 78, 79, 84, 58, 69, 98, 47, 78, 69, 71, 58, 69, 98, 47, 77, 85, 76, 58, 69, 98, 47, 73, 77, 85, 76, 58, 69, 98, 47, 68, 73, 86, 58, 69, 98, 47, 73, 68, 73, 86, 58, 69, 98, 32, 47, 84, 69, 83, 84, 58, 69, 118, 58, 73, 118, 47, 45, 47, 78, 79, 84, 58, 69, 118, 47, 78, 69, 71, 58, 69, 118, 47, 77, 85, 76, 58, 69, 118, 47, 73, 77, 85, 76, 58, 69, 118, 47, 68, 73, 86, 58, 69, 118, 47, 73, 68, 73, 86, 58, 69, 118, 32, 67, 76, 67, 32, 83, 84, 67, 32, 67, 76, 73, 32, 83, 84, 73, 32, 67, 76, 68, 32, 83, 84, 68, 32, 47, 73, 78, 67, 58, 69, 98, 47, 68, 69, 67, 58, 69, 98, 47, 45, 47, 45, 47, 45, 47, 45, 47, 45, 47, 45, 32, 47, 73, 78, 67, 58, 69, 118, 47, 68, 69, 67, 58, 69, 118, 47, 67, 65, 76, 76, 58, 69, 118, 47, 67, 65, 76, 76, 70, 58, 77, 112, 47, 74, 77, 80, 58, 69, 118, 47, 74, 77, 80, 70, 58, 77, 112, 47, 80, 85, 83, 72, 58, 69, 118, 47, 45, 32] : List UInt8) (IntKind.wrap .i64 op_) r_1 hr_1
 refine Rt (some 8) (.callf 53) [] none [.d (.str ([65, 68, 68, 58, 69, 98, 58, 71, 98, 32, 65, 68, 68, 58, 69, 118, 58, 71, 118, 32, 65, 68, 68, 58, 71, 98, 58, 69, 98, 32, 65, 68, 68, 58, 71, 118, 58, 69, 118, 32, 65, 68, 68, 58, 65, 76, 58, 73, 98, 32, 65, 68, 68, 58, 65, 88, 58, 73, 118, 32, 80, 85, 83, 72, 58, 90, 115, 32, 80, 79, 80, 58, 90, 115, 32, 79, 82, 58, 69, 98, 58, 71, 98, 32, 79, 82, 58, 69, 118, 58, 71, 118, 32, 79, 82, 58, 71, 98, 58, 69, 98, 32, 79, 82, 58, 71, 118, 58, 69, 118, 32, 79, 82, 58, 65, 76, 58, 73, 98, 32, 79, 82, 58, 65, 88, 58, 73, 118, 32, 80, 85, 83, 72, 58, 90, 115, 32, 45, 32, 65, 68, 67, 58, 69, 98, 58, 71, 98, 32, 65, 68, 67, 58, 69, 118, 58, 71, 118, 32, 65, 68, 67, 58, 71, 98, 58, 69, 98, 32, 65, 68, 67, 58, 71, 118, 58, 69, 118, 32, 65, 68, 67, 58, 65, 76, 58, 73, 98, 32, 65, 68, 67, 58, 65, 88, 58, 73, 118, 32, 80, 85, 83, 72, 58, 90, 115, 32, 80, 79, 80, 58, 90, 115, 32, 83, 66, 66, 58, 69, 98, 58, 71, 98, 32, 83, 66, 66, 58, 69, 118, 58, 71, 118, 32, 83, 66, 66, 58, 71, 98, 58, 69, 98, 32, 83, 66, 66, 58, 71, 118, 58, 69, 118, 32, 83, 66, 66, 58, 65, 76, 58, 73, 98, 32, 83, 66, 66, 58, 65, 88, 58, 73, 118, 32, 80, 85, 83, 72, 58, 90, 115, 32, 80, 79, 80, 58, 90, 115, 32, 65, 78, 68, 58, 69, 98, 58, 71, 98, 32, 65, 78, 68, 58, 69, 118, 58, 71, 118, 32, 65, 78, 68, 58, 71, 98, 58, 69, 98, 32, 65, 78, 68, 58, 71, 118, 58, 69, 118, 32, 65, 78, 68, 58, 65, 76, 58, 73, 98, 32, 65, 78, 68, 58, 65, 88, 58, 73, 118, 32, 45, 32, 68, 65, 65, 32, 83, 85, 66, 58, 69, 98, 58, 71, 98, 32, 83, 85, 66, 58, 69, 118, 58, 71, 118, 32, 83, 85, 66, 58, 71, 98, 58, 69, 98, 32, 83, 85, 66, 58, 71, 118, 58, 69, 118, 32, 83, 85, 66, 58, 65, 76, 58, 73, 98, 32, 83, 85, 66, 58, 65, 88, 58, 73, 118, 32, 45, 32, 68, 65, 83, 32, 88, 79, 82, 58, 69, 98, 58, 71, 98, 32, 88, 79, 82, 58, 69, 118, 58, 71, 118, 32, 88, 79, 82, 58, 71, 98, 58, 69, 98, 32, 88, 79, 82, 58, 71, 118, 58, 69, 118, 32, 88, 79, 82, 58, 65, 76, 58, 73, 98, 32, 88, 79, 82, 58, 65, 88, 58, 73, 118, 32, 45, 32, 65, 65, 65, 32, 67, 77, 80, 58, 69, 98, 58, 71, 98, 32, 67, 77, 80, 58, 69, 118, 58, 71, 118, 32, 67, 77, 80, 58, 71, 98, 58, 69, 98, 32, 67, 77, 80, 58, 71, 118, 58, 69, 118, 32, 67, 77, 80, 58, 65, 76, 58, 73, 98, 32, 67, 77, 80, 58, 65, 88, 58, 73, 118, 32, 45, 32, 65, 65, 83, 32, 73, 78, 67, 58, 90, 118, 32, 73, 78, 67, 58, 90, 118, 32, 73, 78, 67, 58, 90, 118, 32, 73, 78, 67, 58, 90, 118, 32, 73, 78, 67, 58, 90, 118, 32, 73, 78, 67, 58, 90, 118, 32, 73, 78, 67, 58, 90, 118, 32, 73, 78, 67, 58, 90, 118, 32, 68, 69, 67, 58, 90, 118, 32, 68, 69, 67, 58, 90, 118, 32, 68, 69, 67, 58, 90, 118, 32, 68, 69, 67, 58, 90, 118, 32, 68, 69, 67, 58, 90, 118, 32, 68, 69, 67, 58, 90, 118, 32, 68, 69, 67, 58, 90, 118, 32, 68, 69, 67, 58, 90, 118, 32, 80, 85, 83, 72, 58, 90, 118, 32, 80, 85, 83, 72, 58, 90, 118, 32, 80, 85, 83, 72, 58, 90, 118, 32, 80, 85, 83, 72, 58, 90, 118, 32, 80, 85, 83, 72, 58, 90, 118, 32, 80, 85, 83, 72, 58, 90, 118, 32, 80, 85, 83, 72, 58, 90, 118, 32, 80, 85, 83, 72, 58, 90, 118, 32, 80, 79, 80, 58, 90, 118, 32, 80, 79, 80, 58, 90, 118, 32, 80, 79, 80, 58, 90, 118, 32, 80, 79, 80, 58, 90, 118, 32, 80, 79, 80, 58, 90, 118, 32, 80, 79, 80, 58, 90, 118, 32, 80, 79, 80, 58, 90, 118, 32, 80, 79, 80, 58, 90, 118, 32, 45, 32, 45, 32, 45, 32, 45, 32, 45, 32, 45, 32, 45, 32, 45, 32, 45, 32, 45, 32, 45, 32, 45, 32, 45, 32, 45, 32, 45, 32, 45, 32, 74, 79, 58, 74, 98, 32, 74, 78, 79, 58, 74, 98, 32, 74, 66, 58, 74, 98, 32, 74, 78, 66, 58, 74, 98, 32, 74, 90, 58, 74, 98, 32, 74, 78, 90, 58, 74, 98, 32, 74, 66, 69, 58, 74, 98, 32, 74, 65, 58, 74, 98, 32, 74, 83, 58, 74, 98, 32, 74, 78, 83, 58, 74, 98, 32, 74, 80, 58, 74, 98, 32, 74, 78, 80, 58, 74, 98, 32, 74, 76, 58, 74, 98, 32, 74, 71, 69, 58, 74, 98, 32, 74, 76, 69, 58, 74, 98, 32, 74, 71, 58, 74, 98, 32, 47, 65, 68, 68, 58, 69, 98, 58, 73, 98, 47, 79, 82, 58, 69, 98, 58, 73, 98, 47, 65, 68, 67, 58, 69, 98, 58, 73, 98, 47, 83, 66, 66, 58, 69, 98, 58, 73, 98, 47, 65, 78, 68, 58, 69, 98, 58, 73, 98, 47, 83, 85, 66, 58, 69, 98, 58, 73, 98, 47, 88, 79, 82, 58, 69, 98, 58, 73, 98, 47, 67, 77, 80, 58, 69, 98, 58, 73, 98, 32, 47, 65, 68, 68, 58, 69, 118, 58, 73, 118, 47, 79, 82, 58, 69, 118, 58, 73, 118, 47, 65, 68, 67, 58, 69, 118, 58, 73, 118, 47, 83, 66, 66, 58, 69, 118, 58, 73, 118, 47, 65, 78, 68, 58, 69, 118, 58, 73, 118, 47, 83, 85, 66, 58, 69, 118, 58, 73, 118, 47, 88, 79, 82, 58, 69, 118, 58, 73, 118, 47, 67, 77, 80, 58, 69, 118, 58, 73, 118, 32, 45, 32, 47, 65, 68, 68, 58, 69, 118, 58, 73, 115, 47, 45, 47, 65, 68, 67, 58, 69, 118, 58, 73, 115, 47, 83, 66, 66, 58, 69, 118, 58, 73, 115, 47, 45, 47, 83, 85, 66, 58, 69, 118, 58, 73, 115, 47, 45, 47, 67, 77, 80, 58, 69, 118, 58, 73, 115, 32, 84, 69, 83, 84, 58, 69, 98, 58, 71, 98, 32, 84, 69, 83, 84, 58, 69, 118, 58, 71, 118, 32, 88, 67, 72, 71, 58, 69, 98, 58, 71, 98, 32, 88, 67, 72, 71, 58, 69, 118, 58, 71, 118, 32, 77, 79, 86, 58, 69, 98, 58, 71, 98, 32, 77, 79, 86, 58, 69, 118, 58, 71, 118, 32, 77, 79, 86, 58, 71, 98, 58, 69, 98, 32, 77, 79, 86, 58, 71, 118, 58, 69, 118, 32, 47, 77, 79, 86, 58, 69, 118, 58, 83, 119, 47, 77, 79, 86, 58, 69, 118, 58, 83, 119, 47, 77, 79, 86, 58, 69, 118, 58, 83, 119, 47, 77, 79, 86, 58, 69, 118, 58, 83, 119, 47, 45, 47, 45, 47, 45, 47, 45, 32, 76, 69, 65, 58, 71, 118, 58, 77, 32, 47, 77, 79, 86, 58, 83, 119, 58, 69, 118, 47, 45, 47, 77, 79, 86, 58, 83, 119, 58, 69, 118, 47, 77, 79, 86, 58, 83, 119, 58, 69, 118, 47, 45, 47, 45, 47, 45, 47, 45, 32, 47, 80, 79, 80, 58, 69, 118, 47, 45, 47, 45, 47, 45, 47, 45, 47, 45, 47, 45, 47, 45, 32, 88, 67, 72, 71, 58, 65, 88, 58, 90, 118, 32, 88, 67, 72, 71, 58, 65, 88, 58, 90, 118, 32, 88, 67, 72, 71, 58, 65, 88, 58, 90, 118, 32, 88, 67, 72, 71, 58, 65, 88, 58, 90, 118, 32, 88, 67, 72, 71, 58, 65, 88, 58, 90, 118, 32, 88, 67, 72, 71, 58, 65, 88, 58, 90, 118, 32, 88, 67, 72, 71, 58, 65, 88, 58, 90, 118, 32, 88, 67, 72, 71, 58, 65, 88, 58, 90, 118, 32, 67, 66, 87, 32, 67, 87, 68, 32, 67, 65, 76, 76, 70, 58, 65, 112, 32, 87, 65, 73, 84, 32, 80, 85, 83, 72, 70, 32, 80, 79, 80, 70, 32, 83, 65, 72, 70, 32, 76, 65, 72, 70, 32, 77, 79, 86, 58, 65, 76, 58, 79, 98, 32, 77, 79, 86, 58, 65, 88, 58, 79, 118, 32, 77, 79, 86, 58, 79, 98, 58, 65, 76, 32, 77, 79, 86, 58, 79, 118, 58, 65, 88, 32, 77, 79, 86, 83, 66, 32, 77, 79, 86, 83, 87, 32, 67, 77, 80, 83, 66, 32, 67, 77, 80, 83, 87, 32, 84, 69, 83, 84, 58, 65, 76, 58, 73, 98, 32, 84, 69, 83, 84, 58, 65, 88, 58, 73, 118, 32, 83, 84, 79, 83, 66, 32, 83, 84, 79, 83, 87, 32, 76, 79, 68, 83, 66, 32, 76, 79, 68, 83, 87, 32, 83, 67, 65, 83, 66, 32, 83, 67, 65, 83, 87, 32, 77, 79, 86, 58, 90, 98, 58, 73, 98, 32, 77, 79, 86, 58, 90, 98, 58, 73, 98, 32, 77, 79, 86, 58, 90, 98, 58, 73, 98, 32, 77, 79, 86, 58, 90, 98, 58, 73, 98, 32, 77, 79, 86, 58, 90, 98, 58, 73, 98, 32, 77, 79, 86, 58, 90, 98, 58, 73, 98, 32, 77, 79, 86, 58, 90, 98, 58, 73, 98, 32, 77, 79, 86, 58, 90, 98, 58, 73, 98, 32, 77, 79, 86, 58, 90, 118, 58, 73, 118, 32, 77, 79, 86, 58, 90, 118, 58, 73, 118, 32, 77, 79, 86, 58, 90, 118, 58, 73, 118, 32, 77, 79, 86, 58, 90, 118, 58, 73, 118, 32, 77, 79, 86, 58, 90, 118, 58, 73, 118, 32, 77, 79, 86, 58, 90, 118, 58, 73, 118, 32, 77, 79, 86, 58, 90, 118, 58, 73, 118, 32, 77, 79, 86, 58, 90, 118, 58, 73, 118, 32, 45, 32, 45, 32, 82, 69, 84, 58, 73, 118, 32, 82, 69, 84, 32, 76, 69, 83, 58, 71, 118, 58, 77, 112, 32, 76, 68, 83, 58, 71, 118, 58, 77, 112, 32, 47, 77, 79, 86, 58, 69, 98, 58, 73, 98, 47, 45, 47, 45, 47, 45, 47, 45, 47, 45, 47, 45, 47, 45, 32, 47, 77, 79, 86, 58, 69, 118, 58, 73, 118, 47, 45, 47, 45, 47, 45, 47, 45, 47, 45, 47, 45, 47, 45, 32, 45, 32, 45, 32, 82, 69, 84, 70, 58, 73, 118, 32, 82, 69, 84, 70, 32, 73, 78, 84, 58, 84, 104, 114, 101, 101, 32, 73, 78, 84, 58, 73, 98, 32, 73, 78, 84, 79, 32, 73, 82, 69, 84, 32, 47, 82, 79, 76, 58, 69, 98, 58, 79, 110, 101, 47, 82, 79, 82, 58, 69, 98, 58, 79, 110, 101, 47, 82, 67, 76, 58, 69, 98, 58, 79, 110, 101, 47, 82, 67, 82, 58, 69, 98, 58, 79, 110, 101, 47, 83, 72, 76, 58, 69, 98, 58, 79, 110, 101, 47, 83, 72, 82, 58, 69, 98, 58, 79, 110, 101, 47, 45, 47, 83, 65, 82, 58, 69, 98, 58, 79, 110, 101, 32, 47, 82, 79, 76, 58, 69, 118, 58, 79, 110, 101, 47, 82, 79, 82, 58, 69, 118, 58, 79, 110, 101, 47, 82, 67, 76, 58, 69, 118, 58, 79, 110, 101, 47, 82, 67, 82, 58, 69, 118, 58, 79, 110, 101, 47, 83, 72, 76, 58, 69, 118, 58, 79, 110, 101, 47, 83, 72, 82, 58, 69, 118, 58, 79, 110, 101, 47, 45, 47, 83, 65, 82, 58, 69, 118, 58, 79, 110, 101, 32, 47, 82, 79, 76, 58, 69, 98, 58, 67, 76, 47, 82, 79, 82, 58, 69, 98, 58, 67, 76, 47, 82, 67, 76, 58, 69, 98, 58, 67, 76, 47, 82, 67, 82, 58, 69, 98, 58, 67, 76, 47, 83, 72, 76, 58, 69, 98, 58, 67, 76, 47, 83, 72, 82, 58, 69, 98, 58, 67, 76, 47, 45, 47, 83, 65, 82, 58, 69, 98, 58, 67, 76, 32, 47, 82, 79, 76, 58, 69, 118, 58, 67, 76, 47, 82, 79, 82, 58, 69, 118, 58, 67, 76, 47, 82, 67, 76, 58, 69, 118, 58, 67, 76, 47, 82, 67, 82, 58, 69, 118, 58, 67, 76, 47, 83, 72, 76, 58, 69, 118, 58, 67, 76, 47, 83, 72, 82, 58, 69, 118, 58, 67, 76, 47, 45, 47, 83, 65, 82, 58, 69, 118, 58, 67, 76, 32, 65, 65, 77, 58, 73, 98, 32, 65, 65, 68, 58, 73, 98, 32, 45, 32, 88, 76, 65, 84, 32, 69, 83, 67, 58, 69, 118, 32, 69, 83, 67, 58, 69, 118, 32, 69, 83, 67, 58, 69, 118, 32, 69, 83, 67, 58, 69, 118, 32, 69, 83, 67, 58, 69, 118, 32, 69, 83, 67, 58, 69, 118, 32, 69, 83, 67, 58, 69, 118, 32, 69, 83, 67, 58, 69, 118, 32, 76, 79, 79, 80, 78, 90, 58, 74, 98, 32, 76, 79, 79, 80, 90, 58, 74, 98, 32, 76, 79, 79, 80, 58, 74, 98, 32, 74, 67, 88, 90, 58, 74, 98, 32, 73, 78, 58, 65, 76, 58, 73, 98, 32, 73, 78, 58, 65, 88, 58, 73, 98, 32, 79, 85, 84, 58, 73, 98, 58, 65, 76, 32, 79, 85, 84, 58, 73, 98, 58, 65, 88, 32, 67, 65, 76, 76, 58, 74, 118, 32, 74, 77, 80, 58, 74, 118, 32, 74, 77, 80, 70, 58, 65, 112, 32, 74, 77, 80, 58, 74, 98, 32, 73, 78, 58, 65, 76, 58, 68, 88, 32, 73, 78, 58, 65, 88, 58, 68, 88, 32, 79, 85, 84, 58, 68, 88, 58, 65, 76, 32, 79, 85, 84, 58, 68, 88, 58, 65, 88, 32, 45, 32, 45, 32, 45, 32, 45, 32, 72, 76, 84, 32, 67, 77, 67, 32, 47, 84, 69, 83, 84, 58, 69, 98, 58, 73, 98, 47, 45, 47, 78, 79, 84, 58, 69, 98, 47, 78, 69, 71, 58, 69, 98, 47, 77, 85, 76, 58, 69, 98, 47, 73, 77, 85, 76, 58, 69, 98, 47, 68, 73, 86, 58, 69, 98, 47, 73, 68, 73, 86, 58, 69, 98, 32, 47, 84, 69, 83, 84, 58, 69, 118, 58, 73, 118, 47, 45, 47, 78, 79, 84, 58, 69, 118, 47, 78, 69, 71, 58, 69, 118, 47, 77, 85, 76, 58, 69, 118, 47, 73, 77, 85, 76, 58, 69, 118, 47, 68, 73, 86, 58, 69, 118, 47, 73, 68, 73, 86, 58, 69, 118, 32, 67, 76, 67, 32, 83, 84, 67, 32, 67, 76, 73, 32, 83, 84, 73, 32, 67, 76, 68, 32, 83, 84, 68, 32, 47, 73, 78, 67, 58, 69, 98, 47, 68, 69, 67, 58, 69, 98, 47, 45, 47, 45, 47, 45, 47, 45, 47, 45, 47, 45, 32, 47, 73, 78, 67, 58, 69, 118, 47, 68, 69, 67, 58, 69, 118, 47, 67, 65, 76, 76, 58, 69, 118, 47, 67, 65, 76, 76, 70, 58, 77, 112, 47, 74, 77, 80, 58, 69, 118, 47, 74, 77, 80, 70, 58, 77, 112, 47, 80, 85, 83, 72, 58, 69, 118, 47, 45, 32] : List UInt8)), .d (.int .i64 (IntKind.wrap .i64 op_))] (.d (.str r_1)) [] (cut_call (call_of (ws := []) (us := []) (by kernel_rfl) (by kernel_rfl) hc_1 (by kernel_rfl) (by kernel_rfl))) ?_
 refine Rc 1 [⟨.d (.str r_1), []⟩] <| Rd <| kS_nrm <| Sq <| Sq <| Ro <| Rc 1 [⟨.d (.str r_1), []⟩] <| Rt (some 10) .lenS [] none [.d (.str r_1)] (.d (.int .i64 (r_1.length : Int))) [] (cut_lenS _) <| Rc 2 [⟨.d (.bool (decide ((r_1.length : Int) > 0))), []⟩, ⟨.d (.bool (decide ((r_1.length : Int) > 0))), []⟩] ?_
 cases hb_1 : ((decide ((r_1.length : Int) > 0)) : Bool) with
 | true =>
  replace h := ite_t hb_1 h
  refine Rc 1 [⟨.d (.str r_1), []⟩] ?_
  obtain ⟨z_1, hz_1, h⟩ := bind_s h
  refine Rt (some 14) .indexS [] none [.d (.str r_1), .d (.int .i64 0)] (.d (.int .u8 (z_1.toNat : Int))) [] (cut_ixS hz_1) <| Rc 2 [⟨.d (.bool ((z_1.toNat : Int) == 47)), []⟩, ⟨.d (.bool ((z_1.toNat : Int) == 47)), []⟩] <| Rd <| kS_nrm ?_
  cases hb_2 : (((z_1.toNat : Int) == 47) : Bool) with
  | true =>
   replace h := ite_t hb_2 h
   refine Ct <| Sq <| Ro <| Rc 4 [⟨.d (.str r_1), []⟩, ⟨.d (.int .i64 reg_), []⟩, ⟨.d (.int .i64 (bitsOp .and .i64 reg_ 7)), []⟩, ⟨.d (.int .i64 (IntKind.wrap .i64 ((bitsOp .and .i64 reg_ 7) + 1))), []⟩] ?_
   obtain ⟨r_2, hr_2, h⟩ := bind_s h
   have hc_2 := hansomref04_part_L r_1 47 (IntKind.wrap .i64 ((bitsOp .and .i64 reg_ 7) + 1)) r_2 hr_2
   refine Rt (some 21) (.callf 50) [] none [.d (.str r_1), .d (.int .u8 47), .d (.int .i64 (IntKind.wrap .i64 ((bitsOp .and .i64 reg_ 7) + 1)))] (.d (.str r_2)) [] (cut_call (call_of (ws := []) (us := []) (by kernel_rfl) (by kernel_rfl) hc_2 (by kernel_rfl) (by kernel_rfl))) <| Rc 1 [⟨.d (.str r_2), []⟩] <| Rd <| kS_nrm <| Runs.ret <| kS_ret ?_
   obtain rfl := Option.some.inj h
   exact ⟨Out.ret_ne, (by kernel_rfl)⟩
  | false =>
   replace h := ite_f hb_2 h
   refine Cf <| Runs.skip <| kS_nrm <| Sq <| Ro <| Rc 2 [⟨.d (.str r_1), []⟩, ⟨.d (.str r_1), []⟩] <| Rd <| kS_nrm <| Runs.ret ?_
   obtain rfl := Option.some.inj h
   exact ⟨Out.ret_ne, (by kernel_rfl)⟩
 | false =>
  replace h := ite_f hb_1 h
  refine Rc 4 [⟨.tup [], []⟩, ⟨.tup [], []⟩, ⟨.tup [], []⟩, ⟨.d (.bool false), []⟩] <| Rd <| kS_nrm <| Cf <| Runs.skip <| kS_nrm <| Sq <| Ro <| Rc 2 [⟨.d (.str r_1), []⟩, ⟨.d (.str r_1), []⟩] <| Rd <| kS_nrm <| Runs.ret ?_
  obtain rfl := Option.some.inj h
  exact ⟨Out.ret_ne, (by kernel_rfl)⟩
theorem hansomref04_Entry_L (op_ : Int) (reg_ : Int) (r : (List UInt8)) (h : hansomref04_Entry op_ reg_ = some r) : L 48 [.d (.int .u8 op_), .d (.int .i64 reg_)] = some (.d (.str r), [.d (.int .u8 op_), .d (.int .i64 reg_)]) := by
 obtain ⟨p, ⟨hne, hf⟩, hr⟩ := hansomref04_Entry_ok op_ reg_ r h
 obtain ⟨k, hk⟩ := run_of (F := F48) (args := [.d (.int .u8 op_), .d (.int .i64 reg_)]) (ap := [.d (.int .u8 op_), .d (.int .i64 reg_)]) (bx0 := updW (fun _ => none) []) rfl rfl (by kernel_rfl) ⟨p, ⟨hne, hf⟩, hr⟩
 exact lim_run (k := k) rfl hk
def hansomref04_find_h8 (s0 : (List UInt8)) (w1 : (List UInt8)) (n5 : Int) (from6 : Int) (i7 : Int) : St := ⟨tab [(0, .d (.str s0)), (1, .d (.str w1)), (5, .d (.int .i64 n5)), (6, .d (.int .i64 from6)), (7, .d (.int .i64 i7))], tabB []⟩
def hansomref04_find_h35  : St := ⟨tab [], tabB []⟩
def hansomref04_find_Q (s_ : (List UInt8)) (w_ : (List UInt8)) (r : Int) (p : Out × St) : Prop := (∀ i, p.1 ≠ .exit i) ∧ finF F51 [.d (.str s_), .d (.str w_)] p.2 = some (.d (.int .i64 r), [.d (.str s_), .d (.str w_)])
def hansomref04_find_P8 (s_ : (List UInt8)) (w_ : (List UInt8)) (s0 : (List UInt8)) (w1 : (List UInt8)) (e : (Int ⊕ Unit)) (p : Out × St) : Prop := match e with
 | .inl x => p.1 = .ret ∧ finF F51 [.d (.str s_), .d (.str w_)] p.2 = some (.d (.int .i64 x), [.d (.str s_), .d (.str w_)])
 | .inr x => p.1 = .exit 0 ∧ ∃ g : Unit, Canon [] [] [] p.2 (hansomref04_find_h35)
theorem hansomref04_find_l8_ok (s_ : (List UInt8)) (w_ : (List UInt8)) (s0 : (List UInt8)) (w1 : (List UInt8)) (n5 : Int) (from6 : Int) (i7 : Int) (r : (Lp (Int × Int × Int) (Int ⊕ Unit))) (h : hansomref04_find_l8 s0 w1 n5 from6 i7 = some r) : Runs L F51l8 (hansomref04_find_h8 s0 w1 n5 from6 i7) (LQ [] [0, 1, 5, 6, 7] [] (fun (x : (Int × Int × Int)) (g : Unit) => hansomref04_find_h8 s0 w1 x.1 x.2.1 x.2.2) (hansomref04_find_P8 s_ w_ s0 w1) r) := by
 unfold hansomref04_find_l8 at h
 refine Sq <| Sq <| Ro <| Rc 2 [⟨.d (.int .i64 i7), []⟩, ⟨.d (.str s0), []⟩] <| Rt (some 10) .lenS [] none [.d (.str s0)] (.d (.int .i64 (s0.length : Int))) [] (cut_lenS _) <| Rc 1 [⟨.d (.bool (decide (i7 < (s0.length : Int)))), []⟩] <| Rd <| kS_nrm ?_
 cases hb_1 : ((decide (i7 < (s0.length : Int))) : Bool) with
 | true =>
  replace h := ite_t hb_1 h
  refine Ct <| Runs.skip <| kS_nrm <| Sq <| Runs.block <| Sq <| Sq <| Ro <| Rc 2 [⟨.d (.str s0), []⟩, ⟨.d (.int .i64 i7), []⟩] ?_
  obtain ⟨z_1, hz_1, h⟩ := bind_s h
  refine Rt (some 16) .indexS [] none [.d (.str s0), .d (.int .i64 i7)] (.d (.int .u8 (z_1.toNat : Int))) [] (cut_ixS hz_1) <| Rc 1 [⟨.d (.bool ((z_1.toNat : Int) != 32)), []⟩] <| Rd <| kS_nrm ?_
  cases hb_2 : (((z_1.toNat : Int) != 32) : Bool) with
  | true =>
   replace h := ite_t hb_2 h
   refine Ct <| Runs.exit <| kS_exit <| kB_hit <| kS_nrm <| Ro <| Rc 3 [⟨.d (.int .i64 i7), []⟩, ⟨.d (.int .i64 (IntKind.wrap .i64 (i7 + 1))), []⟩, ⟨.d (.int .i64 (IntKind.wrap .i64 (i7 + 1))), []⟩] <| Rd ?_
   obtain rfl := Option.some.inj h
   exact ⟨rfl, (), (Canon.nil (by kernel_rfl))⟩
  | false =>
   replace h := ite_f hb_2 h
   refine Cf <| Runs.skip <| kS_nrm <| Sq <| Sq <| Ro <| Rc 3 [⟨.d (.str s0), []⟩, ⟨.d (.int .i64 from6), []⟩, ⟨.d (.int .i64 i7), []⟩] ?_
   obtain ⟨z_2, hz_2, h⟩ := bind_s h
   refine Rt (some 21) (.substr true true) [] none [.d (.str s0), .d (.int .i64 from6), .d (.int .i64 i7)] (.d (.str z_2)) [] (cut_strTT hz_2) <| Rc 2 [⟨.d (.str w1), []⟩, ⟨.d (.bool (z_2 == w1)), []⟩] <| Rd <| kS_nrm ?_
   cases hb_3 : ((z_2 == w1) : Bool) with
   | true =>
    replace h := ite_t hb_3 h
    refine Ct <| Sq <| Ro <| Rc 2 [⟨.d (.int .i64 n5), []⟩, ⟨.d (.int .i64 n5), []⟩] <| Rd <| kS_nrm <| Runs.ret <| kS_ret <| kB_ret <| kS_ret ?_
    obtain rfl := Option.some.inj h
    exact ⟨nofun, rfl, (by kernel_rfl)⟩
   | false =>
    replace h := ite_f hb_3 h
    refine Cf <| Runs.skip <| kS_nrm <| Sq <| Ro <| Rc 3 [⟨.d (.int .i64 n5), []⟩, ⟨.d (.int .i64 (IntKind.wrap .i64 (n5 + 1))), []⟩, ⟨.d (.int .i64 (IntKind.wrap .i64 (n5 + 1))), []⟩] <| Rd <| kS_nrm <| Ro <| Rc 3 [⟨.d (.int .i64 i7), []⟩, ⟨.d (.int .i64 (IntKind.wrap .i64 (i7 + 1))), []⟩, ⟨.d (.int .i64 (IntKind.wrap .i64 (i7 + 1))), []⟩] <| Rd <| kB_nrm <| kS_nrm <| Ro <| Rc 3 [⟨.d (.int .i64 i7), []⟩, ⟨.d (.int .i64 (IntKind.wrap .i64 (i7 + 1))), []⟩, ⟨.d (.int .i64 (IntKind.wrap .i64 (i7 + 1))), []⟩] <| Rd ?_
    obtain rfl := Option.some.inj h
    exact ⟨rfl, (), (Canon.nil (by kernel_rfl))⟩
 | false =>
  replace h := ite_f hb_1 h
  refine Cf <| Runs.exit <| kS_exit ?_
  obtain rfl := Option.some.inj h
  exact ⟨nofun, rfl, (), (Canon.nil (by kernel_rfl))⟩
theorem hansomref04_find_ok (s_ : (List UInt8)) (w_ : (List UInt8)) (r : Int) (h : hansomref04_find s_ w_ = some r) : Runs L F51.body ⟨tmOf [.d (.str s_), .d (.str w_)] 0, updW (fun _ => none) []⟩ (hansomref04_find_Q s_ w_ r) := by
 unfold hansomref04_find at h
 refine Sq <| Ro <| Rc 1 [⟨.d (.int .i64 0), []⟩] <| Rd <| kS_nrm <| Sq <| Ro <| Rc 2 [⟨.d (.int .i64 1), []⟩, ⟨.d (.int .i64 0), []⟩] <| Rd <| kS_nrm <| Sq <| Sq <| Ro <| Rc 1 [⟨.d (.int .i64 0), []⟩] <| Rd <| kS_nrm <| Runs.block ?_
 obtain ⟨e_1, he_1, h⟩ := bind_s h
 refine Runs.loop (fun x : (Int × Int × Int) => hansomref04_find_l8 s_ w_ x.1 x.2.1 x.2.2) (fun (x : (Int × Int × Int)) (g : Unit) => hansomref04_find_h8 s_ w_ x.1 x.2.1 x.2.2) (hansomref04_find_P8 s_ w_ s_ w_) (fun x g r hr => hansomref04_find_l8_ok s_ w_ s_ w_ x.1 x.2.1 x.2.2  r hr) () he_1 (Canon.nil (by kernel_rfl)) ?_
 rintro ⟨o, s⟩ hp
 cases e_1 with
 | inl e_2 =>
  obtain ⟨ho, hf⟩ := hp
  have ho' : o = .ret := ho
  subst ho'
  refine kB_ret <| kS_ret ?_
  obtain rfl := Option.some.inj h
  exact ⟨Out.ret_ne, hf⟩
 | inr e_3 =>
  obtain ⟨ho, g_1, hk_1⟩ := hp
  have ho' : o = .exit 0 := ho
  subst ho'
  refine kB_hit <| kS_nrm <| Runs.canon _ hk_1 <| Sq <| Ro <| Rc 1 [⟨.d (.int .i64 0), []⟩] <| Rd <| kS_nrm <| Runs.ret ?_
  obtain rfl := Option.some.inj h
  exact ⟨Out.ret_ne, (by kernel_rfl)⟩
theorem hansomref04_find_L (s_ : (List UInt8)) (w_ : (List UInt8)) (r : Int) (h : hansomref04_find s_ w_ = some r) : L 51 [.d (.str s_), .d (.str w_)] = some (.d (.int .i64 r), [.d (.str s_), .d (.str w_)]) := by
 obtain ⟨p, ⟨hne, hf⟩, hr⟩ := hansomref04_find_ok s_ w_ r h
 obtain ⟨k, hk⟩ := run_of (F := F51) (args := [.d (.str s_), .d (.str w_)]) (ap := [.d (.str s_), .d (.str w_)]) (bx0 := updW (fun _ => none) []) rfl rfl (by kernel_rfl) ⟨p, ⟨hne, hf⟩, hr⟩
 exact lim_run (k := k) rfl hk
def hansomref04_Find_Q (s_ : (List UInt8)) (r : Int) (p : Out × St) : Prop := (∀ i, p.1 ≠ .exit i) ∧ finF F49 [.d (.str s_)] p.2 = some (.d (.int .i64 r), [.d (.str s_)])
theorem hansomref04_Find_ok (s_ : (List UInt8)) (r : Int) (h : hansomref04_Find s_ = some r) : Runs L F49.body ⟨tmOf [.d (.str s_)] 0, updW (fun _ => none) []⟩ (hansomref04_Find_Q s_ r) := by
 unfold hansomref04_Find at h
 refine Sq <| Ro <| Rc 1 [⟨.d (.int .i64 0), []⟩] <| Rd <| kS_nrm <| Sq <| Ro <| Rc 1 [⟨.d (.str s_), []⟩] ?_
 obtain ⟨r_1, hr_1, h⟩ := bind_s h
 have hc_1 := hansomref04_find_L ([65, 68, 68, 32, 79, 82, 32, 65, 68, 67, 32, 83, 66, 66, 32, 65, 78, 68, 32, 83, 85, 66, 32, 88, 79, 82, 32, 67, 77, 80, 32, 80, 85, 83, 72, 32, 80, 79, 80, 32, 68, 65, 65, 32, 68, 65, 83, 32, 65, 65, 65, 32, 65, 65, 83, 32, 73, 78, 67, 32, 68, 69, 67, 32, 74, 79, 32, 74, 78, 79, 32, 74, 66, 32, 74, 78, 66, 32, 74, 90, 32, 74, 78, 90, 32, 74, 66, 69, 32, 74, 65, 32, 74, 83, 32, 74, 78, 83, 32, 74, 80, 32, 74, 78, 80, 32, 74, 76, 32, 74, 71, 69, 32, 74, 76, 69, 32, 74, 71, 32, 84, 69, 83, 84, 32, 88, 67, 72, 71, 32, 77, 79, 86, 32, 76, 69, 65, 32, 67, 66, 87, 32, 67, 87, 68, 32, 67, 65, 76, 76, 32, 67, 65, 76, 76, 70, 32, 87, 65, 73, 84, 32, 80, 85, 83, 72, 70, 32, 80, 79, 80, 70, 32, 83, 65, 72, 70, 32, 76, 65, 72, 70, 32, 77, 79, 86, 83, 66, 32, 77, 79, 86, 83, 87, 32, 67, 77, 80, 83, 66, 32, 67, 77, 80, 83, 87, 32, 83, 84, 79, 83, 66, 32, 83, 84, 79, 83, 87, 32, 76, 79, 68, 83, 66, 32, 76, 79, 68, 83, 87, 32, 83, 67, 65, 83, 66, 32, 83, 67, 65, 83, 87, 32, 82, 69, 84, 32, 82, 69, 84, 70, 32, 76, 69, 83, 32, 76, 68, 83, 32, 73, 78, 84, 32, 73, 78, 84, 79, 32, 73, 82, 69, 84, 32, 82, 79, 76, 32, 82, 79, 82, 32, 82, 67, 76, 32, 82, 67, 82, 32, 83, 72, 76, 32, 83, 72, 82, 32, 83, 65, 82, 32, 65, 65, 77, 32, 65, 65, 68, 32, 88, 76, 65, 84, 32, 69, 83, 67, 32, 76, 79, 79, 80, 78, 90, 32, 76, 79, 79, 80, 90, 32, 76, 79, 79, 80, 32, 74, 67, 88, 90, 32, 73, 78, 32, 79, 85, 84, 32, 74, 77, 80, 32, 74, 77, 80, 70, 32, 72, 76, 84, 32, 67, 77, 67, 32, 78, 79, 84, 32, 78, 69, 71, 32, 77, 85, 76, 32, 73, 77, 85, 76, 32, 68, 73, 86, 32, 73, 68, 73, 86, 32, 67, 76, 67, 32, 83, 84, 67, 32, 67, 76, 73, 32, 83, 84, 73, 32, 67, 76, 68, 32, 83, 84, 68, 32] : List UInt8) s_ r_1 hr_1
 refine Rt (some 4) (.callf 51) [] none [.d (.str ([65, 68, 68, 32, 79, 82, 32, 65, 68, 67, 32, 83, 66, 66, 32, 65, 78, 68, 32, 83, 85, 66, 32, 88, 79, 82, 32, 67, 77, 80, 32, 80, 85, 83, 72, 32, 80, 79, 80, 32, 68, 65, 65, 32, 68, 65, 83, 32, 65, 65, 65, 32, 65, 65, 83, 32, 73, 78, 67, 32, 68, 69, 67, 32, 74, 79, 32, 74, 78, 79, 32, 74, 66, 32, 74, 78, 66, 32, 74, 90, 32, 74, 78, 90, 32, 74, 66, 69, 32, 74, 65, 32, 74, 83, 32, 74, 78, 83, 32, 74, 80, 32, 74, 78, 80, 32, 74, 76, 32, 74, 71, 69, 32, 74, 76, 69, 32, 74, 71, 32, 84, 69, 83, 84, 32, 88, 67, 72, 71, 32, 77, 79, 86, 32, 76, 69, 65, 32, 67, 66, 87, 32, 67, 87, 68, 32, 67, 65, 76, 76, 32, 67, 65, 76, 76, 70, 32, 87, 65, 73, 84, 32, 80, 85, 83, 72, 70, 32, 80, 79, 80, 70, 32, 83, 65, 72, 70, 32, 76, 65, 72, 70, 32, 77, 79, 86, 83, 66, 32, 77, 79, 86, 83, 87, 32, 67, 77, 80, 83, 66, 32, 67, 77, 80, 83, 87, 32, 83, 84, 79, 83, 66, 32, 83, 84, 79, 83, 87, 32, 76, 79, 68, 83, 66, 32, 76, 79, 68, 83, 87, 32, 83, 67, 65, 83, 66, 32, 83, 67, 65, 83, 87, 32, 82, 69, 84, 32, 82, 69, 84, 70, 32, 76, 69, 83, 32, 76, 68, 83, 32, 73, 78, 84, 32, 73, 78, 84, 79, 32, 73, 82, 69, 84, 32, 82, 79, 76, 32, 82, 79, 82, 32, 82, 67, 76, 32, 82, 67, 82, 32, 83, 72, 76, 32, 83, 72, 82, 32, 83, 65, 82, 32, 65, 65, 77, 32, 65, 65, 68, 32, 88, 76, 65, 84, 32, 69, 83, 67, 32, 76, 79, 79, 80, 78, 90, 32, 76, 79, 79, 80, 90, 32, 76, 79, 79, 80, 32, 74, 67, 88, 90, 32, 73, 78, 32, 79, 85, 84, 32, 74, 77, 80, 32, 74, 77, 80, 70, 32, 72, 76, 84, 32, 67, 77, 67, 32, 78, 79, 84, 32, 78, 69, 71, 32, 77, 85, 76, 32, 73, 77, 85, 76, 32, 68, 73, 86, 32, 73, 68, 73, 86, 32, 67, 76, 67, 32, 83, 84, 67, 32, 67, 76, 73, 32, 83, 84, 73, 32, 67, 76, 68, 32, 83, 84, 68, 32] : List UInt8)), .d (.str s_)] (.d (.int .i64 r_1)) [] (cut_call (call_of (ws := []) (us := []) (by kernel_rfl) (by kernel_rfl) hc_1 (by kernel_rfl) (by kernel_rfl))) ?_
 refine Rc 1 [⟨.d (.int .i64 r_1), []⟩] <| Rd <| kS_nrm <| Runs.ret ?_
 obtain rfl := Option.some.inj h
 exact ⟨Out.ret_ne, (by kernel_rfl)⟩
theorem hansomref04_Find_L (s_ : (List UInt8)) (r : Int) (h : hansomref04_Find s_ = some r) : L 49 [.d (.str s_)] = some (.d (.int .i64 r), [.d (.str s_)]) := by
 obtain ⟨p, ⟨hne, hf⟩, hr⟩ := hansomref04_Find_ok s_ r h
 obtain ⟨k, hk⟩ := run_of (F := F49) (args := [.d (.str s_)]) (ap := [.d (.str s_)]) (bx0 := updW (fun _ => none) []) rfl rfl (by kernel_rfl) ⟨p, ⟨hne, hf⟩, hr⟩
 exact lim_run (k := k) rfl hk
def hansomref04_second_Q (k_ : Int) (r : Bool) (p : Out × St) : Prop := (∀ i, p.1 ≠ .exit i) ∧ finF F52 [.d (.int .i64 k_)] p.2 = some (.d (.bool r), [.d (.int .i64 k_)])
theorem hansomref04_second_ok (k_ : Int) (r : Bool) (h : hansomref04_second k_ = some r) : Runs L F52.body ⟨tmOf [.d (.int .i64 k_)] 0, updW (fun _ => none) []⟩ (hansomref04_second_Q k_ r) := by
 unfold hansomref04_second at h
 refine Sq <| Ro <| Rc 1 [⟨.d (.bool false), []⟩] <| Rd <| kS_nrm <| Sq <| Ro <| Rc 3 [⟨.d (.int .i64 k_), []⟩, ⟨.d (.bool (decide (k_ ≥ 1))), []⟩, ⟨.d (.bool (decide (k_ ≥ 1))), []⟩] ?_
 cases hb_1 : ((decide (k_ ≥ 1)) : Bool) with
 | true =>
  replace h := ite_t hb_1 h
  refine Rc 4 [⟨.d (.int .i64 k_), []⟩, ⟨.d (.bool (decide (k_ ≤ 5))), []⟩, ⟨.d (.bool (decide (k_ ≤ 5))), []⟩, ⟨.d (.bool (decide (k_ ≤ 5))), []⟩] ?_
  cases hb_2 : ((decide (k_ ≤ 5)) : Bool) with
  | true =>
   replace h := ite_t hb_2 h
   refine Rc 8 [⟨.tup [], []⟩, ⟨.tup [], []⟩, ⟨.d (.bool true), []⟩, ⟨.d (.bool true), []⟩, ⟨.tup [], []⟩, ⟨.tup [], []⟩, ⟨.d (.bool true), []⟩, ⟨.d (.bool true), []⟩] <| Rd <| kS_nrm <| Runs.ret ?_
   obtain rfl := Option.some.inj h
   exact ⟨Out.ret_ne, (by kernel_rfl)⟩
  | false =>
   replace h := ite_f hb_2 h
   refine Rc 4 [⟨.d (.int .i64 k_), []⟩, ⟨.d (.bool (k_ == 19)), []⟩, ⟨.d (.bool (k_ == 19)), []⟩, ⟨.d (.bool (k_ == 19)), []⟩] ?_
   cases hb_3 : ((k_ == 19) : Bool) with
   | true =>
    replace h := ite_t hb_3 h
    refine Rc 4 [⟨.tup [], []⟩, ⟨.tup [], []⟩, ⟨.d (.bool true), []⟩, ⟨.d (.bool true), []⟩] <| Rd <| kS_nrm <| Runs.ret ?_
    obtain rfl := Option.some.inj h
    exact ⟨Out.ret_ne, (by kernel_rfl)⟩
   | false =>
    replace h := ite_f hb_3 h
    refine Rc 4 [⟨.d (.int .i64 k_), []⟩, ⟨.d (.bool (k_ == 20)), []⟩, ⟨.d (.bool (k_ == 20)), []⟩, ⟨.d (.bool (k_ == 20)), []⟩] <| Rd <| kS_nrm <| Runs.ret ?_
    obtain rfl := Option.some.inj h
    exact ⟨Out.ret_ne, (by kernel_rfl)⟩
 | false =>
  replace h := ite_f hb_1 h
  refine Rc 8 [⟨.tup [], []⟩, ⟨.tup [], []⟩, ⟨.d (.bool false), []⟩, ⟨.d (.bool false), []⟩, ⟨.d (.int .i64 k_), []⟩, ⟨.d (.bool (k_ == 19)), []⟩, ⟨.d (.bool (k_ == 19)), []⟩, ⟨.d (.bool (k_ == 19)), []⟩] ?_
  cases hb_4 : ((k_ == 19) : Bool) with
  | true =>
   replace h := ite_t hb_4 h
   refine Rc 4 [⟨.tup [], []⟩, ⟨.tup [], []⟩, ⟨.d (.bool true), []⟩, ⟨.d (.bool true), []⟩] <| Rd <| kS_nrm <| Runs.ret ?_
   obtain rfl := Option.some.inj h
   exact ⟨Out.ret_ne, (by kernel_rfl)⟩
  | false =>
   replace h := ite_f hb_4 h
   refine Rc 4 [⟨.d (.int .i64 k_), []⟩, ⟨.d (.bool (k_ == 20)), []⟩, ⟨.d (.bool (k_ == 20)), []⟩, ⟨.d (.bool (k_ == 20)), []⟩] <| Rd <| kS_nrm <| Runs.ret ?_
   obtain rfl := Option.some.inj h
   exact ⟨Out.ret_ne, (by kernel_rfl)⟩
theorem hansomref04_second_L (k_ : Int) (r : Bool) (h : hansomref04_second k_ = some r) : L 52 [.d (.int .i64 k_)] = some (.d (.bool r), [.d (.int .i64 k_)]) := by
 obtain ⟨p, ⟨hne, hf⟩, hr⟩ := hansomref04_second_ok k_ r h
 obtain ⟨k, hk⟩ := run_of (F := F52) (args := [.d (.int .i64 k_)]) (ap := [.d (.int .i64 k_)]) (bx0 := updW (fun _ => none) []) rfl rfl (by kernel_rfl) ⟨p, ⟨hne, hf⟩, hr⟩
 exact lim_run (k := k) rfl hk
def hansomref04_Row_Q (op_ : Int) (reg_ : Int) (r : (Row × Bool)) (p : Out × St) : Prop := (∀ i, p.1 ≠ .exit i) ∧ finF F21 [.d (.int .u8 op_), .d (.int .i64 reg_)] p.2 = some (.tup [.d (Row.d r.1), .d (.bool r.2)], [.d (.int .u8 op_), .d (.int .i64 reg_)])
theorem hansomref04_Row_ok (op_ : Int) (reg_ : Int) (r : (Row × Bool)) (h : hansomref04_Row op_ reg_ = some r) : Runs L F21.body ⟨tmOf [.d (.int .u8 op_), .d (.int .i64 reg_)] 0, updW (fun _ => none) []⟩ (hansomref04_Row_Q op_ reg_ r) := by
 unfold hansomref04_Row at h
 refine Sq <| Ro <| Rc 2 [⟨.ptr [4] 0 0, [([4], some (.cells [.d (.int .i64 0), .d (.int .i64 0), .d (.int .i64 0), .d (.bool false)] 0))]⟩, ⟨.d (.bool false), []⟩] <| Rd <| kS_nrm <| Sq <| Ro <| Rc 2 [⟨.d (.int .u8 op_), []⟩, ⟨.d (.int .i64 reg_), []⟩] ?_
 obtain ⟨r_1, hr_1, h⟩ := bind_s h
 have hc_1 := hansomref04_Entry_L op_ reg_ r_1 hr_1
 refine Rt (some 10) (.callf 48) [] none [.d (.int .u8 op_), .d (.int .i64 reg_)] (.d (.str r_1)) [] (cut_call (call_of (ws := []) (us := []) (by kernel_rfl) (by kernel_rfl) hc_1 (by kernel_rfl) (by kernel_rfl))) <| Rc 1 [⟨.d (.str r_1), []⟩] <| Rd <| kS_nrm <| Sq <| Sq <| Ro <| Rc 3 [⟨.d (.str r_1), []⟩, ⟨.d (.bool (r_1 == ([45] : List UInt8))), []⟩, ⟨.d (.bool (r_1 == ([45] : List UInt8))), []⟩] ?_
 cases hb_1 : ((r_1 == ([45] : List UInt8)) : Bool) with
 | true =>
  replace h := ite_t hb_1 h
  refine Rc 3 [⟨.tup [], []⟩, ⟨.tup [], []⟩, ⟨.d (.bool true), []⟩] <| Rd <| kS_nrm <| Ct <| Sq <| Ro <| Rc 3 [⟨.d (.agg [.int .i64 0, .int .i64 0, .int .i64 0, .bool false]), []⟩, ⟨.tup [], [([4], some (.cells [.d (.int .i64 0), .d (.int .i64 0), .d (.int .i64 0), .d (.bool false)] 0))]⟩, ⟨.d (.bool false), []⟩] <| Rd <| kS_nrm <| Runs.ret <| kS_ret ?_
  obtain rfl := Option.some.inj h
  exact ⟨Out.ret_ne, (by kernel_rfl)⟩
 | false =>
  replace h := ite_f hb_1 h
  refine Rc 3 [⟨.d (.str r_1), []⟩, ⟨.d (.bool (r_1 == ([] : List UInt8))), []⟩, ⟨.d (.bool (r_1 == ([] : List UInt8))), []⟩] <| Rd <| kS_nrm ?_
  cases hb_2 : ((r_1 == ([] : List UInt8)) : Bool) with
  | true =>
   replace h := ite_t hb_2 h
   refine Ct <| Sq <| Ro <| Rc 3 [⟨.d (.agg [.int .i64 0, .int .i64 0, .int .i64 0, .bool false]), []⟩, ⟨.tup [], [([4], some (.cells [.d (.int .i64 0), .d (.int .i64 0), .d (.int .i64 0), .d (.bool false)] 0))]⟩, ⟨.d (.bool false), []⟩] <| Rd <| kS_nrm <| Runs.ret <| kS_ret ?_
   obtain rfl := Option.some.inj h
   exact ⟨Out.ret_ne, (by kernel_rfl)⟩
  | false =>
   replace h := ite_f hb_2 h
   refine Cf <| Runs.skip <| kS_nrm <| Sq <| Ro <| Rc 1 [⟨.d (.str r_1), []⟩] ?_
   obtain ⟨r_2, hr_2, h⟩ := bind_s h
   have hc_2 := hansomref04_part_L r_1 58 0 r_2 hr_2
   refine Rt (some 19) (.callf 50) [] none [.d (.str r_1), .d (.int .u8 58), .d (.int .i64 0)] (.d (.str r_2)) [] (cut_call (call_of (ws := []) (us := []) (by kernel_rfl) (by kernel_rfl) hc_2 (by kernel_rfl) (by kernel_rfl))) ?_
   obtain ⟨r_3, hr_3, h⟩ := bind_s h
   have hc_3 := hansomref04_Find_L r_2 r_3 hr_3
   refine Rt (some 20) (.callf 49) [] none [.d (.str r_2)] (.d (.int .i64 r_3)) [] (cut_call (call_of (ws := []) (us := []) (by kernel_rfl) (by kernel_rfl) hc_3 (by kernel_rfl) (by kernel_rfl))) <| Rc 1 [⟨.d (.str r_1), []⟩] ?_
   obtain ⟨r_4, hr_4, h⟩ := bind_s h
   have hc_4 := hansomref04_part_L r_1 58 1 r_4 hr_4
   refine Rt (some 22) (.callf 50) [] none [.d (.str r_1), .d (.int .u8 58), .d (.int .i64 1)] (.d (.str r_4)) [] (cut_call (call_of (ws := []) (us := []) (by kernel_rfl) (by kernel_rfl) hc_4 (by kernel_rfl) (by kernel_rfl))) ?_
   obtain ⟨r_5, hr_5, h⟩ := bind_s h
   have hc_5 := hansomref04_find_L ([69, 98, 32, 69, 118, 32, 71, 98, 32, 71, 118, 32, 83, 119, 32, 73, 98, 32, 73, 118, 32, 73, 115, 32, 74, 98, 32, 74, 118, 32, 65, 112, 32, 79, 98, 32, 79, 118, 32, 65, 76, 32, 67, 76, 32, 65, 88, 32, 68, 88, 32, 79, 110, 101, 32, 77, 112, 32, 77, 32, 90, 98, 32, 90, 118, 32, 90, 115, 32, 84, 104, 114, 101, 101, 32] : List UInt8) r_4 r_5 hr_5
   refine Rt (some 23) (.callf 51) [] none [.d (.str ([69, 98, 32, 69, 118, 32, 71, 98, 32, 71, 118, 32, 83, 119, 32, 73, 98, 32, 73, 118, 32, 73, 115, 32, 74, 98, 32, 74, 118, 32, 65, 112, 32, 79, 98, 32, 79, 118, 32, 65, 76, 32, 67, 76, 32, 65, 88, 32, 68, 88, 32, 79, 110, 101, 32, 77, 112, 32, 77, 32, 90, 98, 32, 90, 118, 32, 90, 115, 32, 84, 104, 114, 101, 101, 32] : List UInt8)), .d (.str r_4)] (.d (.int .i64 r_5)) [] (cut_call (call_of (ws := []) (us := []) (by kernel_rfl) (by kernel_rfl) hc_5 (by kernel_rfl) (by kernel_rfl))) <| Rc 1 [⟨.d (.str r_1), []⟩] ?_
   obtain ⟨r_6, hr_6, h⟩ := bind_s h
   have hc_6 := hansomref04_part_L r_1 58 2 r_6 hr_6
   refine Rt (some 25) (.callf 50) [] none [.d (.str r_1), .d (.int .u8 58), .d (.int .i64 2)] (.d (.str r_6)) [] (cut_call (call_of (ws := []) (us := []) (by kernel_rfl) (by kernel_rfl) hc_6 (by kernel_rfl) (by kernel_rfl))) ?_
   obtain ⟨r_7, hr_7, h⟩ := bind_s h
   have hc_7 := hansomref04_find_L ([69, 98, 32, 69, 118, 32, 71, 98, 32, 71, 118, 32, 83, 119, 32, 73, 98, 32, 73, 118, 32, 73, 115, 32, 74, 98, 32, 74, 118, 32, 65, 112, 32, 79, 98, 32, 79, 118, 32, 65, 76, 32, 67, 76, 32, 65, 88, 32, 68, 88, 32, 79, 110, 101, 32, 77, 112, 32, 77, 32, 90, 98, 32, 90, 118, 32, 90, 115, 32, 84, 104, 114, 101, 101, 32] : List UInt8) r_6 r_7 hr_7
   refine Rt (some 26) (.callf 51) [] none [.d (.str ([69, 98, 32, 69, 118, 32, 71, 98, 32, 71, 118, 32, 83, 119, 32, 73, 98, 32, 73, 118, 32, 73, 115, 32, 74, 98, 32, 74, 118, 32, 65, 112, 32, 79, 98, 32, 79, 118, 32, 65, 76, 32, 67, 76, 32, 65, 88, 32, 68, 88, 32, 79, 110, 101, 32, 77, 112, 32, 77, 32, 90, 98, 32, 90, 118, 32, 90, 115, 32, 84, 104, 114, 101, 101, 32] : List UInt8)), .d (.str r_6)] (.d (.int .i64 r_7)) [] (cut_call (call_of (ws := []) (us := []) (by kernel_rfl) (by kernel_rfl) hc_7 (by kernel_rfl) (by kernel_rfl))) <| Rc 3 [⟨.d (.agg [.int .i64 r_3, .int .i64 r_5, .int .i64 r_7, .bool false]), []⟩, ⟨.ptr [7] 0 0, [([7], some (.cells [.d (.int .i64 0), .d (.int .i64 0), .d (.int .i64 0), .d (.bool false)] 0))]⟩, ⟨.tup [], [([7], some (.cells [.d (.int .i64 r_3), .d (.int .i64 r_5), .d (.int .i64 r_7), .d (.bool false)] 0))]⟩] <| Rd <| kS_nrm <| Sq <| Ro <| Rc 2 [⟨.ptr [7] 0 1, []⟩, ⟨.d (.int .i64 r_5), []⟩] ?_
   obtain ⟨r_8, hr_8, h⟩ := bind_s h
   have hc_8 := hansomref04_second_L r_5 r_8 hr_8
   refine Rt (some 30) (.callf 52) [] none [.d (.int .i64 r_5)] (.d (.bool r_8)) [] (cut_call (call_of (ws := []) (us := []) (by kernel_rfl) (by kernel_rfl) hc_8 (by kernel_rfl) (by kernel_rfl))) <| Rc 1 [⟨.d (.bool r_8), []⟩] ?_
   cases hb_3 : (r_8 : Bool) with
   | true =>
    replace h := ite_t hb_3 h
    refine Rc 6 [⟨.tup [], []⟩, ⟨.tup [], []⟩, ⟨.tup [], []⟩, ⟨.d (.bool true), []⟩, ⟨.ptr [7] 0 3, []⟩, ⟨.tup [], [([7], some (.cells [.d (.int .i64 r_3), .d (.int .i64 r_5), .d (.int .i64 r_7), .d (.bool true)] 0))]⟩] <| Rd <| kS_nrm <| Sq <| Ro <| Rc 3 [⟨.d (.agg [.int .i64 r_3, .int .i64 r_5, .int .i64 r_7, .bool true]), []⟩, ⟨.tup [], [([4], some (.cells [.d (.int .i64 r_3), .d (.int .i64 r_5), .d (.int .i64 r_7), .d (.bool true)] 0))]⟩, ⟨.d (.bool true), []⟩] <| Rd <| kS_nrm <| Runs.ret ?_
    obtain rfl := Option.some.inj h
    exact ⟨Out.ret_ne, (by kernel_rfl)⟩
   | false =>
    replace h := ite_f hb_3 h
    refine Rc 2 [⟨.ptr [7] 0 2, []⟩, ⟨.d (.int .i64 r_7), []⟩] ?_
    obtain ⟨r_9, hr_9, h⟩ := bind_s h
    have hc_9 := hansomref04_second_L r_7 r_9 hr_9
    refine Rt (some 34) (.callf 52) [] none [.d (.int .i64 r_7)] (.d (.bool r_9)) [] (cut_call (call_of (ws := []) (us := []) (by kernel_rfl) (by kernel_rfl) hc_9 (by kernel_rfl) (by kernel_rfl))) <| Rc 3 [⟨.d (.bool r_9), []⟩, ⟨.ptr [7] 0 3, []⟩, ⟨.tup [], [([7], some (.cells [.d (.int .i64 r_3), .d (.int .i64 r_5), .d (.int .i64 r_7), .d (.bool r_9)] 0))]⟩] <| Rd <| kS_nrm <| Sq <| Ro <| Rc 3 [⟨.d (.agg [.int .i64 r_3, .int .i64 r_5, .int .i64 r_7, .bool r_9]), []⟩, ⟨.tup [], [([4], some (.cells [.d (.int .i64 r_3), .d (.int .i64 r_5), .d (.int .i64 r_7), .d (.bool r_9)] 0))]⟩, ⟨.d (.bool true), []⟩] <| Rd <| kS_nrm <| Runs.ret ?_
    obtain rfl := Option.some.inj h
    exact ⟨Out.ret_ne, (by kernel_rfl)⟩
theorem hansomref04_Row_L (op_ : Int) (reg_ : Int) (r : (Row × Bool)) (h : hansomref04_Row op_ reg_ = some r) : L 21 [.d (.int .u8 op_), .d (.int .i64 reg_)] = some (.tup [.d (Row.d r.1), .d (.bool r.2)], [.d (.int .u8 op_), .d (.int .i64 reg_)]) := by
 obtain ⟨p, ⟨hne, hf⟩, hr⟩ := hansomref04_Row_ok op_ reg_ r h
 obtain ⟨k, hk⟩ := run_of (F := F21) (args := [.d (.int .u8 op_), .d (.int .i64 reg_)]) (ap := [.d (.int .u8 op_), .d (.int .i64 reg_)]) (bx0 := updW (fun _ => none) []) rfl rfl (by kernel_rfl) ⟨p, ⟨hne, hf⟩, hr⟩
 exact lim_run (k := k) rfl hk
def hansomref04_Grouped_Q (op_ : Int) (r : Bool) (p : Out × St) : Prop := (∀ i, p.1 ≠ .exit i) ∧ finF F22 [.d (.int .u8 op_)] p.2 = some (.d (.bool r), [.d (.int .u8 op_)])
theorem hansomref04_Grouped_ok (op_ : Int) (r : Bool) (h : hansomref04_Grouped op_ = some r) : Runs L F22.body ⟨tmOf [.d (.int .u8 op_)] 0, updW (fun _ => none) []⟩ (hansomref04_Grouped_Q op_ r) := by
 unfold hansomref04_Grouped at h
 refine Sq <| Ro <| Rc 1 [⟨.d (.bool false), []⟩] <| Rd <| kS_nrm <| Sq <| Ro <| Rc 2 [⟨.d (.int .u8 op_), []⟩, ⟨.d (.int .i64 (IntKind.wrap .i64 op_)), []⟩] ?_
 obtain ⟨r_1, hr_1, h⟩ := bind_s h
 have hc_1 := hansomref04_word_L ([65, 68, 68, 58, 69, 98, 58, 71, 98, 32, 65, 68, 68, 58, 69, 118, 58, 71, 118, 32, 65, 68, 68, 58, 71, 98, 58, 69, 98, 32, 65, 68, 68, 58, 71, 118, 58, 69, 118, 32, 65, 68, 68, 58, 65, 76, 58, 73, 98, 32, 65, 68, 68, 58, 65, 88, 58, 73, 118, 32, 80, 85, 83, 72, 58, 90, 115, 32, 80, 79, 80, 58, 90, 115, 32, 79, 82, 58, 69, 98, 58, 71, 98, 32, 79, 82, 58, 69, 118, 58, 71, 118, 32, 79, 82, 58, 71, 98, 58, 69, 98, 32, 79, 82, 58, 71, 118, 58, 69, 118, 32, 79, 82, 58, 65, 76, 58, 73, 98, 32, 79, 82, 58, 65, 88, 58, 73, 118, 32, 80, 85, 83, 72, 58, 90, 115, 32, 45, 32, 65, 68, 67, 58, 69, 98, 58, 71, 98, 32, 65, 68, 67, 58, 69, 118, 58, 71, 118, 32, 65, 68, 67, 58, 71, 98, 58, 69, 98, 32, 65, 68, 67, 58, 71, 118, 58, 69, 118, 32, 65, 68, 67, 58, 65, 76, 58, 73, 98, 32, 65, 68, 67, 58, 65, 88, 58, 73, 118, 32, 80, 85, 83, 72, 58, 90, 115, 32, 80, 79, 80, 58, 90, 115, 32, 83, 66, 66, 58, 69, 98, 58, 71, 98, 32, 83, 66, 66, 58, 69, 118, 58, 71, 118, 32, 83, 66, 66, 58, 71, 98, 58, 69, 98, 32, 83, 66, 66, 58, 71, 118, 58, 69, 118, 32, 83, 66, 66, 58, 65, 76, 58, 73, 98, 32, 83, 66, 66, 58, 65, 88, 58, 73, 118, 32, 80, 85, 83, 72, 58, 90, 115, 32, 80, 79, 80, 58, 90, 115, 32, 65, 78, 68, 58, 69, 98, 58, 71, 98, 32, 65, 78, 68, 58, 69, 118, 58, 71, 118, 32, 65, 78, 68, 58, 71, 98, 58, 69, 98, 32, 65, 78, 68, 58, 71, 118, 58, 69, 118, 32, 65, 78, 68, 58, 65, 76, 58, 73, 98, 32, 65, 78, 68, 58, 65, 88, 58, 73, 118, 32, 45, 32, 68, 65, 65, 32, 83, 85, 66, 58, 69, 98, 58, 71, 98, 32, 83, 85, 66, 58, 69, 118, 58, 71, 118, 32, 83, 85, 66, 58, 71, 98, 58, 69, 98, 32, 83, 85, 66, 58, 71, 118, 58, 69, 118, 32, 83, 85, 66, 58, 65, 76, 58, 73, 98, 32, 83, 85, 66, 58, 65, 88, 58, 73, 118, 32, 45, 32, 68, 65, 83, 32, 88, 79, 82, 58, 69, 98, 58, 71, 98, 32, 88, 79, 82, 58, 69, 118, 58, 71, 118, 32, 88, 79, 82, 58, 71, 98, 58, 69, 98, 32, 88, 79, 82, 58, 71, 118, 58, 69, 118, 32, 88, 79, 82, 58, 65, 76, 58, 73, 98, 32, 88, 79, 82, 58, 65, 88, 58, 73, 118, 32, 45, 32, 65, 65, 65, 32, 67, 77, 80, 58, 69, 98, 58, 71, 98, 32, 67, 77, 80, 58, 69, 118, 58, 71, 118, 32, 67, 77, 80, 58, 71, 98, 58, 69, 98, 32, 67, 77, 80, 58, 71, 118, 58, 69, 118, 32, 67, 77, 80, 58, 65, 76, 58, 73, 98, 32, 67, 77, 80, 58, 65, 88, 58, 73, 118, 32, 45, 32, 65, 65, 83, 32, 73, 78, 67, 58, 90, 118, 32, 73, 78, 67, 58, 90, 118, 32, 73, 78, 67, 58, 90, 118, 32, 73, 78, 67, 58, 90, 118, 32, 73, 78, 67, 58, 90, 118, 32, 73, 78, 67, 58, 90, 118, 32, 73, 78, 67, 58, 90, 118, 32, 73, 78, 67, 58, 90, 118, 32, 68, 69, 67, 58, 90, 118, 32, 68, 69, 67, 58, 90, 118, 32, 68, 69, 67, 58, 90, 118, 32, 68, 69, 67, 58, 90, 118, 32, 68, 69, 67, 58, 90, 118, 32, 68, 69, 67, 58, 90, 118, 32, 68, 69, 67, 58, 90, 118, 32, 68, 69, 67, 58, 90, 118, 32, 80, 85, 83, 72, 58, 90, 118, 32, 80, 85, 83, 72, 58, 90, 118, 32, 80, 85, 83, 72, 58, 90, 118, 32, 80, 85, 83, 72, 58, 90, 118, 32, 80, 85, 83, 72, 58, 90, 118, 32, 80, 85, 83, 72, 58, 90, 118, 32, 80, 85, 83, 72, 58, 90, 118, 32, 80, 85, 83, 72, 58, 90, 118, 32, 80, 79, 80, 58, 90, 118, 32, 80, 79, 80, 58, 90, 118, 32, 80, 79, 80, 58, 90, 118, 32, 80, 79, 80, 58, 90, 118, 32, 80, 79, 80, 58, 90, 118, 32, 80, 79, 80, 58, 90, 118, 32, 80, 79, 80, 58, 90, 118, 32, 80, 79, 80, 58, 90, 118, 32, 45, 32, 45, 32, 45, 32, 45, 32, 45, 32, 45, 32, 45, 32, 45, 32, 45, 32, 45, 32, 45, 32, 45, 32, 45, 32, 45, 32, 45, 32, 45, 32, 74, 79, 58, 74, 98, 32, 74, 78, 79, 58, 74, 98, 32, 74, 66, 58, 74, 98, 32, 74, 78, 66, 58, 74, 98, 32, 74, 90, 58, 74, 98, 32, 74, 78, 90, 58, 74, 98, 32, 74, 66, 69, 58, 74, 98, 32, 74, 65, 58, 74, 98, 32, 74, 83, 58, 74, 98, 32, 74, 78, 83, 58, 74, 98, 32, 74, 80, 58, 74, 98, 32, 74, 78, 80, 58, 74, 98, 32, 74, 76, 58, 74, 98, 32, 74, 71, 69, 58, 74, 98, 32, 74, 76, 69, 58, 74, 98, 32, 74, 71, 58, 74, 98, 32, 47, 65, 68, 68, 58, 69, 98, 58, 73, 98, 47, 79, 82, 58, 69, 98, 58, 73, 98, 47, 65, 68, 67, 58, 69, 98, 58, 73, 98, 47, 83, 66, 66, 58, 69, 98, 58, 73, 98, 47, 65, 78, 68, 58, 69, 98, 58, 73, 98, 47, 83, 85, 66, 58, 69, 98, 58, 73, 98, 47, 88, 79, 82, 58, 69, 98, 58, 73, 98, 47, 67, 77, 80, 58, 69, 98, 58, 73, 98, 32, 47, 65, 68, 68, 58, 69, 118, 58, 73, 118, 47, 79, 82, 58, 69, 118, 58, 73, 118, 47, 65, 68, 67, 58, 69, 118, 58, 73, 118, 47, 83, 66, 66, 58, 69, 118, 58, 73, 118, 47, 65, 78, 68, 58, 69, 118, 58, 73, 118, 47, 83, 85, 66, 58, 69, 118, 58, 73, 118, 47, 88, 79, 82, 58, 69, 118, 58, 73, 118, 47, 67, 77, 80, 58, 69, 118, 58, 73, 118, 32, 45, 32, 47, 65, 68, 68, 58, 69, 118, 58, 73, 115, 47, 45, 47, 65, 68, 67, 58, 69, 118, 58, 73, 115, 47, 83, 66, 66, 58, 69, 118, 58, 73, 115, 47, 45, 47, 83, 85, 66, 58, 69, 118, 58, 73, 115, 47, 45, 47, 67, 77, 80, 58, 69, 118, 58, 73, 115, 32, 84, 69, 83, 84, 58, 69, 98, 58, 71, 98, 32, 84, 69, 83, 84, 58, 69, 118, 58, 71, 118, 32, 88, 67, 72, 71, 58, 69, 98, 58, 71, 98, 32, 88, 67, 72, 71, 58, 69, 118, 58, 71, 118, 32, 77, 79, 86, 58, 69, 98, 58, 71, 98, 32, 77, 79, 86, 58, 69, 118, 58, 71, 118, 32, 77, 79, 86, 58, 71, 98, 58, 69, 98, 32, 77, 79, 86, 58, 71, 118, 58, 69, 118, 32, 47, 77, 79, 86, 58, 69, 118, 58, 83, 119, 47, 77, 79, 86, 58, 69, 118, 58, 83, 119, 47, 77, 79, 86, 58, 69, 118, 58, 83, 119, 47, 77, 79, 86, 58, 69, 118, 58, 83, 119, 47, 45, 47, 45, 47, 45, 47, 45, 32, 76, 69, 65, 58, 71, 118, 58, 77, 32, 47, 77, 79, 86, 58, 83, 119, 58, 69, 118, 47, 45, 47, 77, 79, 86, 58, 83, 119, 58, 69, 118, 47, 77, 79, 86, 58, 83, 119, 58, 69, 118, 47, 45, 47, 45, 47, 45, 47, 45, 32, 47, 80, 79, 80, 58, 69, 118, 47, 45, 47, 45, 47, 45, 47, 45, 47, 45, 47, 45, 47, 45, 32, 88, 67, 72, 71, 58, 65, 88, 58, 90, 118, 32, 88, 67, 72, 71, 58, 65, 88, 58, 90, 118, 32, 88, 67, 72, 71, 58, 65, 88, 58, 90, 118, 32, 88, 67, 72, 71, 58, 65, 88, 58, 90, 118, 32, 88, 67, 72, 71, 58, 65, 88, 58, 90, 118, 32, 88, 67, 72, 71, 58, 65, 88, 58, 90, 118, 32, 88, 67, 72, 71, 58, 65, 88, 58, 90, 118, 32, 88, 67, 72, 71, 58, 65, 88, 58, 90, 118, 32, 67, 66, 87, 32, 67, 87, 68, 32, 67, 65, 76, 76, 70, 58, 65, 112, 32, 87, 65, 73, 84, 32, 80, 85, 83, 72, 70, 32, 80, 79, 80, 70, 32, 83, 65, 72, 70, 32, 76, 65, 72, 70, 32, 77, 79, 86, 58, 65, 76, 58, 79, 98, 32, 77, 79, 86, 58, 65, 88, 58, 79, 118, 32, 77, 79, 86, 58, 79, 98, 58, 65, 76, 32, 77, 79, 86, 58, 79, 118, 58, 65, 88, 32, 77, 79, 86, 83, 66, 32, 77, 79, 86, 83, 87, 32, 67, 77, 80, 83, 66, 32, 67, 77, 80, 83, 87, 32, 84, 69, 83, 84, 58, 65, 76, 58, 73, 98, 32, 84, 69, 83, 84, 58, 65, 88, 58, 73, 118, 32, 83, 84, 79, 83, 66, 32, 83, 84, 79, 83, 87, 32, 76, 79, 68, 83, 66, 32, 76, 79, 68, 83, 87, 32, 83, 67, 65, 83, 66, 32, 83, 67, 65, 83, 87, 32, 77, 79, 86, 58, 90, 98, 58, 73, 98, 32, 77, 79, 86, 58, 90, 98, 58, 73, 98, 32, 77, 79, 86, 58, 90, 98, 58, 73, 98, 32, 77, 79, 86, 58, 90, 98, 58, 73, 98, 32, 77, 79, 86, 58, 90, 98, 58, 73, 98, 32, 77, 79, 86, 58, 90, 98, 58, 73, 98, 32, 77, 79, 86, 58, 90, 98, 58, 73, 98, 32, 77, 79, 86, 58, 90, 98, 58, 73, 98, 32, 77, 79, 86, 58, 90, 118, 58, 73, 118, 32, 77, 79, 86, 58, 90, 118, 58, 73, 118, 32, 77, 79, 86, 58, 90, 118, 58, 73, 118, 32, 77, 79, 86, 58, 90, 118, 58, 73, 118, 32, 77, 79, 86, 58, 90, 118, 58, 73, 118, 32, 77, 79, 86, 58, 90, 118, 58, 73, 118, 32, 77, 79, 86, 58, 90, 118, 58, 73, 118, 32, 77, 79, 86, 58, 90, 118, 58, 73, 118, 32, 45, 32, 45, 32, 82, 69, 84, 58, 73, 118, 32, 82, 69, 84, 32, 76, 69, 83, 58, 71, 118, 58, 77, 112, 32, 76, 68, 83, 58, 71, 118, 58, 77, 112, 32, 47, 77, 79, 86, 58, 69, 98, 58, 73, 98, 47, 45, 47, 45, 47, 45, 47, 45, 47, 45, 47, 45, 47, 45, 32, 47, 77, 79, 86, 58, 69, 118, 58, 73, 118, 47, 45, 47, 45, 47, 45, 47, 45, 47, 45, 47, 45, 47, 45, 32, 45, 32, 45, 32, 82, 69, 84, 70, 58, 73, 118, 32, 82, 69, 84, 70, 32, 73, 78, 84, 58, 84, 104, 114, 101, 101, 32, 73, 78, 84, 58, 73, 98, 32, 73, 78, 84, 79, 32, 73, 82, 69, 84, 32, 47, 82, 79, 76, 58, 69, 98, 58, 79, 110, 101, 47, 82, 79, 82, 58, 69, 98, 58, 79, 110, 101, 47, 82, 67, 76, 58, 69, 98, 58, 79, 110, 101, 47, 82, 67, 82, 58, 69, 98, 58, 79, 110, 101, 47, 83, 72, 76, 58, 69, 98, 58, 79, 110, 101, 47, 83, 72, 82, 58, 69, 98, 58, 79, 110, 101, 47, 45, 47, 83, 65, 82, 58, 69, 98, 58, 79, 110, 101, 32, 47, 82, 79, 76, 58, 69, 118, 58, 79, 110, 101, 47, 82, 79, 82, 58, 69, 118, 58, 79, 110, 101, 47, 82, 67, 76, 58, 69, 118, 58, 79, 110, 101, 47, 82, 67, 82, 58, 69, 118, 58, 79, 110, 101, 47, 83, 72, 76, 58, 69, 118, 58, 79, 110, 101, 47, 83, 72, 82, 58, 69, 118, 58, 79, 110, 101, 47, 45, 47, 83, 65, 82, 58, 69, 118, 58, 79, 110, 101, 32, 47, 82, 79, 76, 58, 69, 98, 58, 67, 76, 47, 82, 79, 82, 58, 69, 98, 58, 67, 76, 47, 82, 67, 76, 58, 69, 98, 58, 67, 76, 47, 82, 67, 82, 58, 69, 98, 58, 67, 76, 47, 83, 72, 76, 58, 69, 98, 58, 67, 76, 47, 83, 72, 82, 58, 69, 98, 58, 67, 76, 47, 45, 47, 83, 65, 82, 58, 69, 98, 58, 67, 76, 32, 47, 82, 79, 76, 58, 69, 118, 58, 67, 76, 47, 82, 79, 82, 58, 69, 118, 58, 67, 76, 47, 82, 67, 76, 58, 69, 118, 58, 67, 76, 47, 82, 67, 82, 58, 69, 118, 58, 67, 76, 47, 83, 72, 76, 58, 69, 118, 58, 67, 76, 47, 83, 72, 82, 58, 69, 118, 58, 67, 76, 47, 45, 47, 83, 65, 82, 58, 69, 118, 58, 67, 76, 32, 65, 65, 77, 58, 73, 98, 32, 65, 65, 68, 58, 73, 98, 32, 45, 32, 88, 76, 65, 84, 32, 69, 83, 67, 58, 69, 118, 32, 69, 83, 67, 58, 69, 118, 32, 69, 83, 67, 58, 69, 118, 32, 69, 83, 67, 58, 69, 118, 32, 69, 83, 67, 58, 69, 118, 32, 69, 83, 67, 58, 69, 118, 32, 69, 83, 67, 58, 69, 118, 32, 69, 83, 67, 58, 69, 118, 32, 76, 79, 79, 80, 78, 90, 58, 74, 98, 32, 76, 79, 79, 80, 90, 58, 74, 98, 32, 76, 79, 79, 80, 58, 74, 98, 32, 74, 67, 88, 90, 58, 74, 98, 32, 73, 78, 58, 65, 76, 58, 73, 98, 32, 73, 78, 58, 65, 88, 58, 73, 98, 32, 79, 85, 84, 58, 73, 98, 58, 65, 76, 32, 79, 85, 84, 58, 73, 98, 58, 65, 88, 32, 67, 65, 76, 76, 58, 74, 118, 32, 74, 77, 80, 58, 74, 118, 32, 74, 77, 80, 70, 58, 65, 112, 32, 74, 77, 80, 58, 74, 98, 32, 73, 78, 58, 65, 76, 58, 68, 88, 32, 73, 78, 58, 65, 88, 58, 68, 88, 32, 79, 85, 84, 58, 68, 88, 58, 65, 76, 32, 79, 85, 84, 58, 68, 88, 58, 65, 88, 32, 45, 32, 45, 32, 45, 32, 45, 32, 72, 76, 84, 32, 67, 77, 67, 32, 47, 84, 69, 83, 84, 58, 69, 98, 58, 73, 98, 47, 45, 47, 78, 79, 84, 58, 69, 98, 47, 78, 69, 71, 58, 69, 98, 47, 77, 85, 76, 58, 69, 98, 47, 73, 77, 85, 76, 58, 69, 98, 47, 68, 73, 86, 58, 69, 98, 47, 73, 68, 73, 86, 58, 69, 98, 32, 47, 84, 69, 83, 84, 58, 69, 118, 58, 73, 118, 47, 45, 47, 78, 79, 84, 58, 69, 118, 47, 78, 69, 71, 58, 69, 118, 47, 77, 85, 76, 58, 69, 118, 47, 73, 77, 85, 76, 58, 69, 118, 47, 68, 73, 86, 58, 69, 118, 47, 73, 68, 73, 86, 58, 69, 118, 32, 67, 76, 67, 32, 83, 84, 67, 32, 67, 76, 73, 32, 83, 84, 73, 32, 67, 76, 68, 32, 83, 84, 68, 32, 47, 73, 78, 67, 58, 69, 98, 47, 68, 69, 67, 58, 69, 98, 47, 45, 47, 45, 47, 45, 47, 45, 47, 45, 47, 45, 32, 47, 73, 78, 67, 58, 69, 118, 47, 68, 69, 67, 58, 69, 118, 47, 67, 65, 76, 76, 58, 69, 118, 47, 67, 65, 76, 76, 70, 58, 77, 112, 47, 74, 77, 80, 58, 69, 118, 47, 74, 77, 80, 70, 58, 77, 112, 47, 80, 85, 83, 72, 58, 69, 118, 47, 45, 32] : List UInt8) (IntKind.wrap .i64 op_) r_1 hr_1
 refine Rt (some 6) (.callf 53) [] none [.d (.str ([65, 68, 68, 58, 69, 98, 58, 71, 98, 32, 65, 68, 68, 58, 69, 118, 58, 71, 118, 32, 65, 68, 68, 58, 71, 98, 58, 69, 98, 32, 65, 68, 68, 58, 71, 118, 58, 69, 118, 32, 65, 68, 68, 58, 65, 76, 58, 73, 98, 32, 65, 68, 68, 58, 65, 88, 58, 73, 118, 32, 80, 85, 83, 72, 58, 90, 115, 32, 80, 79, 80, 58, 90, 115, 32, 79, 82, 58, 69, 98, 58, 71, 98, 32, 79, 82, 58, 69, 118, 58, 71, 118, 32, 79, 82, 58, 71, 98, 58, 69, 98, 32, 79, 82, 58, 71, 118, 58, 69, 118, 32, 79, 82, 58, 65, 76, 58, 73, 98, 32, 79, 82, 58, 65, 88, 58, 73, 118, 32, 80, 85, 83, 72, 58, 90, 115, 32, 45, 32, 65, 68, 67, 58, 69, 98, 58, 71, 98, 32, 65, 68, 67, 58, 69, 118, 58, 71, 118, 32, 65, 68, 67, 58, 71, 98, 58, 69, 98, 32, 65, 68, 67, 58, 71, 118, 58, 69, 118, 32, 65, 68, 67, 58, 65, 76, 58, 73, 98, 32, 65, 68, 67, 58, 65, 88, 58, 73, 118, 32, 80, 85, 83, 72, 58, 90, 115, 32, 80, 79, 80, 58, 90, 115, 32, 83, 66, 66, 58, 69, 98, 58, 71, 98, 32, 83, 66, 66, 58, 69, 118, 58, 71, 118, 32, 83, 66, 66, 58, 71, 98, 58, 69, 98, 32, 83, 66, 66, 58, 71, 118, 58, 69, 118, 32, 83, 66, 66, 58, 65, 76, 58, 73, 98, 32, 83, 66, 66, 58, 65, 88, 58, 73, 118, 32, 80, 85, 83, 72, 58, 90, 115, 32, 80, 79, 80, 58, 90, 115, 32, 65, 78, 68, 58, 69, 98, 58, 71, 98, 32, 65, 78, 68, 58, 69, 118, 58, 71, 118, 32, 65, 78, 68, 58, 71, 98, 58, 69, 98, 32, 65, 78, 68, 58, 71, 118, 58, 69, 118, 32, 65, 78, 68, 58, 65, 76, 58, 73, 98, 32, 65, 78, 68, 58, 65, 88, 58, 73, 118, 32, 45, 32, 68, 65, 65, 32, 83, 85, 66, 58, 69, 98, 58, 71, 98, 32, 83, 85, 66, 58, 69, 118, 58, 71, 118, 32, 83, 85, 66, 58, 71, 98, 58, 69, 98, 32, 83, 85, 66, 58, 71, 118, 58, 69, 118, 32, 83, 85, 66, 58, 65, 76, 58, 73, 98, 32, 83, 85, 66, 58, 65, 88, 58, 73, 118, 32, 45, 32, 68, 65, 83, 32, 88, 79, 82, 58, 69, 98, 58, 71, 98, 32, 88, 79, 82, 58, 69, 118, 58, 71, 118, 32, 88, 79, 82, 58, 71, 98, 58, 69, 98, 32, 88, 79, 82, 58, 71, 118, 58, 69, 118, 32, 88, 79, 82, 58, 65, 76, 58, 73, 98, 32, 88, 79, 82, 58, 65, 88, 58, 73, 118, 32, 45, 32, 65, 65, 65, 32, 67, 77, 80, 58, 69, 98, 58, 71, 98, 32, 67, 77, 80, 58, 69, 118, 58, 71, 118, 32, 67, 77, 80, 58, 71, 98, 58, 69, 98, 32, 67, 77, 80, 58, 71, 118, 58, 69, 118, 32, 67, 77, 80, 58, 65, 76, 58, 73, 98, 32, 67, 77, 80, 58, 65, 88, 58, 73, 118, 32, 45, 32, 65, 65, 83, 32, 73, 78, 67, 58, 90, 118, 32, 73, 78, 67, 58, 90, 118, 32, 73, 78, 67, 58, 90, 118, 32, 73, 78, 67, 58, 90, 118, 32, 73, 78, 67, 58, 90, 118, 32, 73, 78, 67, 58, 90, 118, 32, 73, 78, 67, 58, 90, 118, 32, 73, 78, 67, 58, 90, 118, 32, 68, 69, 67, 58, 90, 118, 32, 68, 69, 67, 58, 90, 118, 32, 68, 69, 67, 58, 90, 118, 32, 68, 69, 67, 58, 90, 118, 32, 68, 69, 67, 58, 90, 118, 32, 68, 69, 67, 58, 90, 118, 32, 68, 69, 67, 58, 90, 118, 32, 68, 69, 67, 58, 90, 118, 32, 80, 85, 83, 72, 58, 90, 118, 32, 80, 85, 83, 72, 58, 90, 118, 32, 80, 85, 83, 72, 58, 90, 118, 32, 80, 85, 83, 72, 58, 90, 118, 32, 80, 85, 83, 72, 58, 90, 118, 32, 80, 85, 83, 72, 58, 90, 118, 32, 80, 85, 83, 72, 58, 90, 118, 32, 80, 85, 83, 72, 58, 90, 118, 32, 80, 79, 80, 58, 90, 118, 32, 80, 79, 80, 58, 90, 118, 32, 80, 79, 80, 58, 90, 118, 32, 80, 79, 80, 58, 90, 118, 32, 80, 79, 80, 58, 90, 118, 32, 80, 79, 80, 58, 90, 118, 32, 80, 79, 80, 58, 90, 118, 32, 80, 79, 80, 58, 90, 118, 32, 45, 32, 45, 32, 45, 32, 45, 32, 45, 32, 45, 32, 45, 32, 45, 32, 45, 32, 45, 32, 45, 32, 45, 32, 45, 32, 45, 32, 45, 32, 45, 32, 74, 79, 58, 74, 98, 32, 74, 78, 79, 58, 74, 98, 32, 74, 66, 58, 74, 98, 32, 74, 78, 66, 58, 74, 98, 32, 74, 90, 58, 74, 98, 32, 74, 78, 90, 58, 74, 98, 32, 74, 66, 69, 58, 74, 98, 32, 74, 65, 58, 74, 98, 32, 74, 83, 58, 74, 98, 32, 74, 78, 83, 58, 74, 98, 32, 74, 80, 58, 74, 98, 32, 74, 78, 80, 58, 74, 98, 32, 74, 76, 58, 74, 98, 32, 74, 71, 69, 58, 74, 98, 32, 74, 76, 69, 58, 74, 98, 32, 74, 71, 58, 74, 98, 32, 47, 65, 68, 68, 58, 69, 98, 58, 73, 98, 47, 79, 82, 58, 69, 98, 58, 73, 98, 47, 65, 68, 67, 58, 69, 98, 58, 73, 98, 47, 83, 66, 66, 58, 69, 98, 58, 73, 98, 47, 65, 78, 68, 58, 69, 98, 58, 73, 98, 47, 83, 85, 66, 58, 69, 98, 58, 73, 98, 47, 88, 79, 82, 58, 69, 98, 58, 73, 98, 47, 67, 77, 80, 58, 69, 98, 58, 73, 98, 32, 47, 65, 68, 68, 58, 69, 118, 58, 73, 118, 47, 79, 82, 58, 69, 118, 58, 73, 118, 47, 65, 68, 67, 58, 69, 118, 58, 73, 118, 47, 83, 66, 66, 58, 69, 118, 58, 73, 118, 47, 65, 78, 68, 58, 69, 118, 58, 73, 118, 47, 83, 85, 66, 58, 69, 118, 58, 73, 118, 47, 88, 79, 82, 58, 69, 118, 58, 73, 118, 47, 67, 77, 80, 58, 69, 118, 58, 73, 118, 32, 45, 32, 47, 65, 68, 68, 58, 69, 118, 58, 73, 115, 47, 45, 47, 65, 68, 67, 58, 69, 118, 58, 73, 115, 47, 83, 66, 66, 58, 69, 118, 58, 73, 115, 47, 45, 47, 83, 85, 66, 58, 69, 118, 58, 73, 115, 47, 45, 47, 67, 77, 80, 58, 69, 118, 58, 73, 115, 32, 84, 69, 83, 84, 58, 69, 98, 58, 71, 98, 32, 84, 69, 83, 84, 58, 69, 118, 58, 71, 118, 32, 88, 67, 72, 71, 58, 69, 98, 58, 71, 98, 32, 88, 67, 72, 71, 58, 69, 118, 58, 71, 118, 32, 77, 79, 86, 58, 69, 98, 58, 71, 98, 32, 77, 79, 86, 58, 69, 118, 58, 71, 118, 32, 77, 79, 86, 58, 71, 98, 58, 69, 98, 32, 77, 79, 86, 58, 71, 118, 58, 69, 118, 32, 47, 77, 79, 86, 58, 69, 118, 58, 83, 119, 47, 77, 79, 86, 58, 69, 118, 58, 83, 119, 47, 77, 79, 86, 58, 69, 118, 58, 83, 119, 47, 77, 79, 86, 58, 69, 118, 58, 83, 119, 47, 45, 47, 45, 47, 45, 47, 45, 32, 76, 69, 65, 58, 71, 118, 58, 77, 32, 47, 77, 79, 86, 58, 83, 119, 58, 69, 118, 47, 45, 47, 77, 79, 86, 58, 83, 119, 58, 69, 118, 47, 77, 79, 86, 58, 83, 119, 58, 69, 118, 47, 45, 47, 45, 47, 45, 47, 45, 32, 47, 80, 79, 80, 58, 69, 118, 47, 45, 47, 45, 47, 45, 47, 45, 47, 45, 47, 45, 47, 45, 32, 88, 67, 72, 71, 58, 65, 88, 58, 90, 118, 32, 88, 67, 72, 71, 58, 65, 88, 58, 90, 118, 32, 88, 67, 72, 71, 58, 65, 88, 58, 90, 118, 32, 88, 67, 72, 71, 58, 65, 88, 58, 90, 118, 32, 88, 67, 72, 71, 58, 65, 88, 58, 90, 118, 32, 88, 67, 72, 71, 58, 65, 88, 58, 90, 118, 32, 88, 67, 72, 71, 58, 65, 88, 58, 90, 118, 32, 88, 67, 72, 71, 58, 65, 88, 58, 90, 118, 32, 67, 66, 87, 32, 67, 87, 68, 32, 67, 65, 76, 76, 70, 58, 65, 112, 32, 87, 65, 73, 84, 32, 80, 85, 83, 72, 70, 32, 80, 79, 80, 70, 32, 83, 65, 72, 70, 32, 76, 65, 72, 70, 32, 77, 79, 86, 58, 65, 76, 58, 79, 98, 32, 77, 79, 86, 58, 65, 88, 58, 79, 118, 32, 77, 79, 86, 58, 79, 98, 58, 65, 76, 32, 77, 79, 86, 58, 79, 118, 58, 65, 88, 32, 77, 79, 86, 83, 66, 32, 77, 79, 86, 83, 87, 32, 67, 77, 80, 83, 66, 32, 67, 77, 80, 83, 87, 32, 84, 69, 83, 84, 58, 65, 76, 58, 73, 98, 32, 84, 69, 83, 84, 58, 65, 88, 58, 73, 118, 32, 83, 84, 79, 83, 66, 32, 83, 84, 79, 83, 87, 32, 76, 79, 68, 83, 66, 32, 76, 79, 68, 83, 87, 32, 83, 67, 65, 83, 66, 32, 83, 67, 65, 83, 87, 32, 77, 79, 86, 58, 90, 98, 58, 73, 98, 32, 77, 79, 86, 58, 90, 98, 58, 73, 98, 32, 77, 79, 86, 58, 90, 98, 58, 73, 98, 32, 77, 79, 86, 58, 90, 98, 58, 73, 98, 32, 77, 79, 86, 58, 90, 98, 58, 73, 98, 32, 77, 79, 86, 58, 90, 98, 58, 73, 98, 32, 77, 79, 86, 58, 90, 98, 58, 73, 98, 32, 77, 79, 86, 58, 90, 98, 58, 73, 98, 32, 77, 79, 86, 58, 90, 118, 58, 73, 118, 32, 77, 79, 86, 58, 90, 118, 58, 73, 118, 32, 77, 79, 86, 58, 90, 118, 58, 73, 118, 32, 77, 79, 86, 58, 90, 118, 58, 73, 118, 32, 77, 79, 86, 58, 90, 118, 58, 73, 118, 32, 77, 79, 86, 58, 90, 118, 58, 73, 118, 32, 77, 79, 86, 58, 90, 118, 58, 73, 118, 32, 77, 79, 86, 58, 90, 118, 58, 73, 118, 32, 45, 32, 45, 32, 82, 69, 84, 58, 73, 118, 32, 82, 69, 84, 32, 76, 69, 83, 58, 71, 118, 58, 77, 112, 32, 76, 68, 83, 58, 71, 118, 58, 77, 112, 32, 47, 77, 79, 86, 58, 69, 98, 58, 73, 98, 47, 45, 47, 45, 47, 45, 47, 45, 47, 45, 47, 45, 47, 45, 32, 47, 77, 79, 86, 58, 69, 118, 58, 73, 118, 47, 45, 47, 45, 47, 45, 47, 45, 47, 45, 47, 45, 47, 45, 32, 45, 32, 45, 32, 82, 69, 84, 70, 58, 73, 118, 32, 82, 69, 84, 70, 32, 73, 78, 84, 58, 84, 104, 114, 101, 101, 32, 73, 78, 84, 58, 73, 98, 32, 73, 78, 84, 79, 32, 73, 82, 69, 84, 32, 47, 82, 79, 76, 58, 69, 98, 58, 79, 110, 101, 47, 82, 79, 82, 58, 69, 98, 58, 79, 110, 101, 47, 82, 67, 76, 58, 69, 98, 58, 79, 110, 101, 47, 82, 67, 82, 58, 69, 98, 58, 79, 110, 101, 47, 83, 72, 76, 58, 69, 98, 58, 79, 110, 101, 47, 83, 72, 82, 58, 69, 98, 58, 79, 110, 101, 47, 45, 47, 83, 65, 82, 58, 69, 98, 58, 79, 110, 101, 32, 47, 82, 79, 76, 58, 69, 118, 58, 79, 110, 101, 47, 82, 79, 82, 58, 69, 118, 58, 79, 110, 101, 47, 82, 67, 76, 58, 69, 118, 58, 79, 110, 101, 47, 82, 67, 82, 58, 69, 118, 58, 79, 110, 101, 47, 83, 72, 76, 58, 69, 118, 58, 79, 110, 101, 47, 83, 72, 82, 58, 69, 118, 58, 79, 110, 101, 47, 45, 47, 83, 65, 82, 58, 69, 118, 58, 79, 110, 101, 32, 47, 82, 79, 76, 58, 69, 98, 58, 67, 76, 47, 82, 79, 82, 58, 69, 98, 58, 67, 76, 47, 82, 67, 76, 58, 69, 98, 58, 67, 76, 47, 82, 67, 82, 58, 69, 98, 58, 67, 76, 47, 83, 72, 76, 58, 69, 98, 58, 67, 76, 47, 83, 72, 82, 58, 69, 98, 58, 67, 76, 47, 45, 47, 83, 65, 82, 58, 69, 98, 58, 67, 76, 32, 47, 82, 79, 76, 58, 69, 118, 58, 67, 76, 47, 82, 79, 82, 58, 69, 118, 58, 67, 76, 47, 82, 67, 76, 58, 69, 118, 58, 67, 76, 47, 82, 67, 82, 58, 69, 118, 58, 67, 76, 47, 83, 72, 76, 58, 69, 118, 58, 67, 76, 47, 83, 72, 82, 58, 69, 118, 58, 67, 76, 47, 45, 47, 83, 65, 82, 58, 69, 118, 58, 67, 76, 32, 65, 65, 77, 58, 73, 98, 32, 65, 65, 68, 58, 73, 98, 32, 45, 32, 88, 76, 65, 84, 32, 69, 83, 67, 58, 69, 118, 32, 69, 83, 67, 58, 69, 118, 32, 69, 83, 67, 58, 69, 118, 32, 69, 83, 67, 58, 69, 118, 32, 69, 83, 67, 58, 69, 118, 32, 69, 83, 67, 58, 69, 118, 32, 69, 83, 67, 58, 69, 118, 32, 69, 83, 67, 58, 69, 118, 32, 76, 79, 79, 80, 78, 90, 58, 74, 98, 32, 76, 79, 79, 80, 90, 58, 74, 98, 32, 76, 79, 79, 80, 58, 74, 98, 32, 74, 67, 88, 90, 58, 74, 98, 32, 73, 78, 58, 65, 76, 58, 73, 98, 32, 73, 78, 58, 65, 88, 58, 73, 98, 32, 79, 85, 84, 58, 73, 98, 58, 65, 76, 32, 79, 85, 84, 58, 73, 98, 58, 65, 88, 32, 67, 65, 76, 76, 58, 74, 118, 32, 74, 77, 80, 58, 74, 118, 32, 74, 77, 80, 70, 58, 65, 112, 32, 74, 77, 80, 58, 74, 98, 32, 73, 78, 58, 65, 76, 58, 68, 88, 32, 73, 78, 58, 65, 88, 58, 68, 88, 32, 79, 85, 84, 58, 68, 88, 58, 65, 76, 32, 79, 85, 84, 58, 68, 88, 58, 65, 88, 32, 45, 32, 45, 32, 45, 32, 45, 32, 72, 76, 84, 32, 67, 77, 67, 32, 47, 84, 69, 83, 84, 58, 69, 98, 58, 73, 98, 47, 45, 47, 78, 79, 84, 58, 69, 98, 47, 78, 69, 71, 58, 69, 98, 47, 77, 85, 76, 58, 69, 98, 47, 73, 77, 85, 76, 58, 69, 98, 47, 68, 73, 86, 58, 69, 98, 47, 73, 68, 73, 86, 58, 69, 98, 32, 47, 84, 69, 83, 84, 58, 69, 118, 58, 73, 118, 47, 45, 47, 78, 79, 84, 58, 69, 118, 47, 78, 69, 71, 58, 69, 118, 47, 77, 85, 76, 58, 69, 118, 47, 73, 77, 85, 76, 58, 69, 118, 47, 68, 73, 86, 58, 69, 118, 47, 73, 68, 73, 86, 58, 69, 118, 32, 67, 76, 67, 32, 83, 84, 67, 32, 67, 76, 73, 32, 83, 84, 73, 32, 67, 76, 68, 32, 83, 84, 68, 32, 47, 73, 78, 67, 58, 69, 98, 47, 68, 69, 67, 58, 69, 98, 47, 45, 47, 45, 47, 45, 47, 45, 47, 45, 47, 45, 32, 47, 73, 78, 67, 58, 69, 118, 47, 68, 69, 67, 58, 69, 118, 47, 67, 65, 76, 76, 58, 69, 118, 47, 67, 65, 76, 76, 70, 58, 77, 112, 47, 74, 77, 80, 58, 69, 118, 47, 74, 77, 80, 70, 58, 77, 112, 47, 80, 85, 83, 72, 58, 69, 118, 47, 45, 32] : List UInt8)), .d (.int .i64 (IntKind.wrap .i64 op_))] (.d (.str r_1)) [] (cut_call (call_of (ws := []) (us := []) (by kernel_rfl) (by kernel_rfl) hc_1 (by kernel_rfl) (by kernel_rfl))) ?_
 refine Rc 1 [⟨.d (.str r_1), []⟩] <| Rd <| kS_nrm <| Sq <| Ro <| Rc 1 [⟨.d (.str r_1), []⟩] <| Rt (some 8) .lenS [] none [.d (.str r_1)] (.d (.int .i64 (r_1.length : Int))) [] (cut_lenS _) <| Rc 2 [⟨.d (.bool (decide ((r_1.length : Int) > 0))), []⟩, ⟨.d (.bool (decide ((r_1.length : Int) > 0))), []⟩] ?_
 cases hb_1 : ((decide ((r_1.length : Int) > 0)) : Bool) with
 | true =>
  replace h := ite_t hb_1 h
  refine Rc 1 [⟨.d (.str r_1), []⟩] ?_
  obtain ⟨z_1, hz_1, h⟩ := bind_s h
  refine Rt (some 12) .indexS [] none [.d (.str r_1), .d (.int .i64 0)] (.d (.int .u8 (z_1.toNat : Int))) [] (cut_ixS hz_1) <| Rc 3 [⟨.d (.bool ((z_1.toNat : Int) == 47)), []⟩, ⟨.d (.bool ((z_1.toNat : Int) == 47)), []⟩, ⟨.d (.bool ((z_1.toNat : Int) == 47)), []⟩] ?_
  cases hb_2 : (((z_1.toNat : Int) == 47) : Bool) with
  | true =>
   replace h := ite_t hb_2 h
   refine Rc 4 [⟨.d (.int .u8 op_), []⟩, ⟨.d (.bool (op_ != 140)), []⟩, ⟨.d (.bool (op_ != 140)), []⟩, ⟨.d (.bool (op_ != 140)), []⟩] ?_
   cases hb_3 : ((op_ != 140) : Bool) with
   | true =>
    replace h := ite_t hb_3 h
    refine Rc 4 [⟨.d (.int .u8 op_), []⟩, ⟨.d (.bool (op_ != 142)), []⟩, ⟨.d (.bool (op_ != 142)), []⟩, ⟨.d (.bool (op_ != 142)), []⟩] <| Rd <| kS_nrm <| Runs.ret ?_
    obtain rfl := Option.some.inj h
    exact ⟨Out.ret_ne, (by kernel_rfl)⟩
   | false =>
    replace h := ite_f hb_3 h
    refine Rc 4 [⟨.tup [], []⟩, ⟨.tup [], []⟩, ⟨.d (.bool false), []⟩, ⟨.d (.bool false), []⟩] <| Rd <| kS_nrm <| Runs.ret ?_
    obtain rfl := Option.some.inj h
    exact ⟨Out.ret_ne, (by kernel_rfl)⟩
  | false =>
   replace h := ite_f hb_2 h
   refine Rc 8 [⟨.tup [], []⟩, ⟨.tup [], []⟩, ⟨.d (.bool false), []⟩, ⟨.d (.bool false), []⟩, ⟨.tup [], []⟩, ⟨.tup [], []⟩, ⟨.d (.bool false), []⟩, ⟨.d (.bool false), []⟩] <| Rd <| kS_nrm <| Runs.ret ?_
   obtain rfl := Option.some.inj h
   exact ⟨Out.ret_ne, (by kernel_rfl)⟩
 | false =>
  replace h := ite_f hb_1 h
  refine Rc 13 [⟨.tup [], []⟩, ⟨.tup [], []⟩, ⟨.tup [], []⟩, ⟨.d (.bool false), []⟩, ⟨.d (.bool false), []⟩, ⟨.tup [], []⟩, ⟨.tup [], []⟩, ⟨.d (.bool false), []⟩, ⟨.d (.bool false), []⟩, ⟨.tup [], []⟩, ⟨.tup [], []⟩, ⟨.d (.bool false), []⟩, ⟨.d (.bool false), []⟩] <| Rd <| kS_nrm <| Runs.ret ?_
  obtain rfl := Option.some.inj h
  exact ⟨Out.ret_ne, (by kernel_rfl)⟩
theorem hansomref04_Grouped_L (op_ : Int) (r : Bool) (h : hansomref04_Grouped op_ = some r) : L 22 [.d (.int .u8 op_)] = some (.d (.bool r), [.d (.int .u8 op_)]) := by
 obtain ⟨p, ⟨hne, hf⟩, hr⟩ := hansomref04_Grouped_ok op_ r h
 obtain ⟨k, hk⟩ := run_of (F := F22) (args := [.d (.int .u8 op_)]) (ap := [.d (.int .u8 op_)]) (bx0 := updW (fun _ => none) []) rfl rfl (by kernel_rfl) ⟨p, ⟨hne, hf⟩, hr⟩
 exact lim_run (k := k) rfl hk
def hansomlaw04_count_h8 (n1 : Int) (i2 : Int) : St := ⟨tab [(1, .d (.int .i64 n1)), (2, .d (.int .i64 i2))], tabB []⟩
def hansomlaw04_count_h20 (n1 : Int) (i2 : Int) (k3 : Int) : St := ⟨tab [(1, .d (.int .i64 n1)), (2, .d (.int .i64 i2)), (3, .d (.int .i64 k3))], tabB []⟩
def hansomlaw04_count_h37 (n1 : Int) (i2 : Int) : St := ⟨tab [(1, .d (.int .i64 n1)), (2, .d (.int .i64 i2))], tabB []⟩
def hansomlaw04_count_h38 (n1 : Int) : St := ⟨tab [(1, .d (.int .i64 n1))], tabB []⟩
def hansomlaw04_count_Q  (r : Int) (p : Out × St) : Prop := (∀ i, p.1 ≠ .exit i) ∧ finF F14 [] p.2 = some (.d (.int .i64 r), [])
def hansomlaw04_count_P20  (i2 : Int) (e : Int) (p : Out × St) : Prop := p.1 = .exit 2 ∧ ∃ g : Unit, Canon [] [1, 2] [] p.2 (hansomlaw04_count_h37 e i2)
def hansomlaw04_count_P8   (e : Int) (p : Out × St) : Prop := p.1 = .exit 0 ∧ ∃ g : Unit, Canon [] [1] [] p.2 (hansomlaw04_count_h38 e)
theorem hansomlaw04_count_l20_ok (n1 : Int) (i2 : Int) (k3 : Int) (r : (Lp (Int × Int) Int)) (h : hansomlaw04_count_l20 n1 i2 k3 = some r) : Runs L F14l20 (hansomlaw04_count_h20 n1 i2 k3) (LQ [] [1, 2, 3] [] (fun (x : (Int × Int)) (g : Unit) => hansomlaw04_count_h20 x.1 i2 x.2) (hansomlaw04_count_P20 i2) r) := by
 unfold hansomlaw04_count_l20 at h
 refine Sq <| Sq <| Ro <| Rc 2 [⟨.d (.int .i64 k3), []⟩, ⟨.d (.bool (decide (k3 < 8))), []⟩] <| Rd <| kS_nrm ?_
 cases hb_2 : ((decide (k3 < 8)) : Bool) with
 | true =>
  replace h := ite_t hb_2 h
  refine Ct <| Runs.skip <| kS_nrm <| Sq <| Runs.block <| Sq <| Ro <| Rc 3 [⟨.d (.int .i64 i2), []⟩, ⟨.d (.int .u8 (IntKind.wrap .u8 i2)), []⟩, ⟨.d (.int .i64 k3), []⟩] ?_
  obtain ⟨r_1, hr_1, h⟩ := bind_s h
  have hc_1 := hansomref04_Row_L (IntKind.wrap .u8 i2) k3 r_1 hr_1
  refine Rt (some 18) (.callf 21) [] none [.d (.int .u8 (IntKind.wrap .u8 i2)), .d (.int .i64 k3)] (.tup [.d (Row.d r_1.1), .d (.bool r_1.2)]) [] (cut_call (call_of (ws := []) (us := []) (by kernel_rfl) (by kernel_rfl) hc_1 (by kernel_rfl) (by kernel_rfl))) <| Rc 6 [⟨.tup [.d (Row.d r_1.1), .d (.bool r_1.2)], []⟩, ⟨.d (Row.d r_1.1), []⟩, ⟨.d (.bool r_1.2), []⟩, ⟨.ptr [4] 0 0, [([4], some (.cells [.d (.int .i64 0), .d (.int .i64 0), .d (.int .i64 0), .d (.bool false)] 0))]⟩, ⟨.tup [], [([4], some (.cells [.d (.int .i64 r_1.1.Name), .d (.int .i64 r_1.1.A), .d (.int .i64 r_1.1.B), .d (.bool r_1.1.Mod)] 0))]⟩, ⟨.d (.bool r_1.2), []⟩] <| Rd <| kS_nrm <| Sq <| Ro <| Rc 2 [⟨.d (.bool r_1.2), []⟩, ⟨.d (.bool r_1.2), []⟩] ?_
  cases hb_3 : (r_1.2 : Bool) with
  | true =>
   replace h := ite_t hb_3 h
   refine Rc 3 [⟨.d (.int .i64 k3), []⟩, ⟨.d (.bool (k3 == 0)), []⟩, ⟨.d (.bool (k3 == 0)), []⟩] ?_
   cases hb_4 : ((k3 == 0) : Bool) with
   | true =>
    replace h := ite_t hb_4 h
    refine Rc 5 [⟨.tup [], []⟩, ⟨.tup [], []⟩, ⟨.tup [], []⟩, ⟨.d (.bool true), []⟩, ⟨.d (.bool true), []⟩] <| Rd <| kS_nrm <| Ct <| Ro <| Rc 3 [⟨.d (.int .i64 n1), []⟩, ⟨.d (.int .i64 (IntKind.wrap .i64 (n1 + 1))), []⟩, ⟨.d (.int .i64 (IntKind.wrap .i64 (n1 + 1))), []⟩] <| Rd <| kB_nrm <| kS_nrm <| Ro <| Rc 3 [⟨.d (.int .i64 k3), []⟩, ⟨.d (.int .i64 (IntKind.wrap .i64 (k3 + 1))), []⟩, ⟨.d (.int .i64 (IntKind.wrap .i64 (k3 + 1))), []⟩] <| Rd ?_
    obtain rfl := Option.some.inj h
    exact ⟨rfl, (), (Canon.nil (by kernel_rfl))⟩
   | false =>
    replace h := ite_f hb_4 h
    refine Rc 2 [⟨.d (.int .i64 i2), []⟩, ⟨.d (.int .u8 (IntKind.wrap .u8 i2)), []⟩] ?_
    obtain ⟨r_2, hr_2, h⟩ := bind_s h
    have hc_2 := hansomref04_Grouped_L (IntKind.wrap .u8 i2) r_2 hr_2
    refine Rt (some 28) (.callf 22) [] none [.d (.int .u8 (IntKind.wrap .u8 i2))] (.d (.bool r_2)) [] (cut_call (call_of (ws := []) (us := []) (by kernel_rfl) (by kernel_rfl) hc_2 (by kernel_rfl) (by kernel_rfl))) <| Rc 2 [⟨.d (.bool r_2), []⟩, ⟨.d (.bool r_2), []⟩] <| Rd <| kS_nrm ?_
    cases hb_5 : (r_2 : Bool) with
    | true =>
     replace h := ite_t hb_5 h
     refine Ct <| Ro <| Rc 3 [⟨.d (.int .i64 n1), []⟩, ⟨.d (.int .i64 (IntKind.wrap .i64 (n1 + 1))), []⟩, ⟨.d (.int .i64 (IntKind.wrap .i64 (n1 + 1))), []⟩] <| Rd <| kB_nrm <| kS_nrm <| Ro <| Rc 3 [⟨.d (.int .i64 k3), []⟩, ⟨.d (.int .i64 (IntKind.wrap .i64 (k3 + 1))), []⟩, ⟨.d (.int .i64 (IntKind.wrap .i64 (k3 + 1))), []⟩] <| Rd ?_
     obtain rfl := Option.some.inj h
     exact ⟨rfl, (), (Canon.nil (by kernel_rfl))⟩
    | false =>
     replace h := ite_f hb_5 h
     refine Cf <| Runs.skip <| kB_nrm <| kS_nrm <| Ro <| Rc 3 [⟨.d (.int .i64 k3), []⟩, ⟨.d (.int .i64 (IntKind.wrap .i64 (k3 + 1))), []⟩, ⟨.d (.int .i64 (IntKind.wrap .i64 (k3 + 1))), []⟩] <| Rd ?_
     obtain rfl := Option.some.inj h
     exact ⟨rfl, (), (Canon.nil (by kernel_rfl))⟩
  | false =>
   replace h := ite_f hb_3 h
   refine Rc 8 [⟨.tup [], []⟩, ⟨.tup [], []⟩, ⟨.tup [], []⟩, ⟨.tup [], []⟩, ⟨.tup [], []⟩, ⟨.tup [], []⟩, ⟨.tup [], []⟩, ⟨.d (.bool false), []⟩] <| Rd <| kS_nrm <| Cf <| Runs.skip <| kB_nrm <| kS_nrm <| Ro <| Rc 3 [⟨.d (.int .i64 k3), []⟩, ⟨.d (.int .i64 (IntKind.wrap .i64 (k3 + 1))), []⟩, ⟨.d (.int .i64 (IntKind.wrap .i64 (k3 + 1))), []⟩] <| Rd ?_
   obtain rfl := Option.some.inj h
   exact ⟨rfl, (), (Canon.nil (by kernel_rfl))⟩
 | false =>
  replace h := ite_f hb_2 h
  refine Cf <| Runs.exit <| kS_exit ?_
  obtain rfl := Option.some.inj h
  exact ⟨nofun, rfl, (), (Canon.nil (by kernel_rfl))⟩
theorem hansomlaw04_count_l8_ok (n1 : Int) (i2 : Int) (r : (Lp (Int × Int) Int)) (h : hansomlaw04_count_l8 n1 i2 = some r) : Runs L F14l8 (hansomlaw04_count_h8 n1 i2) (LQ [] [1, 2] [] (fun (x : (Int × Int)) (g : Unit) => hansomlaw04_count_h8 x.1 x.2) (hansomlaw04_count_P8 ) r) := by
 unfold hansomlaw04_count_l8 at h
 refine Sq <| Sq <| Ro <| Rc 2 [⟨.d (.int .i64 i2), []⟩, ⟨.d (.bool (decide (i2 < 256))), []⟩] <| Rd <| kS_nrm ?_
 cases hb_1 : ((decide (i2 < 256)) : Bool) with
 | true =>
  replace h := ite_t hb_1 h
  refine Ct <| Runs.skip <| kS_nrm <| Sq <| Runs.block <| Sq <| Ro <| Rc 1 [⟨.d (.int .i64 0), []⟩] <| Rd <| kS_nrm <| Runs.block ?_
  obtain ⟨e_1, he_1, h⟩ := bind_s h
  refine Runs.loop (fun x : (Int × Int) => hansomlaw04_count_l20 x.1 i2 x.2) (fun (x : (Int × Int)) (g : Unit) => hansomlaw04_count_h20 x.1 i2 x.2) (hansomlaw04_count_P20 i2) (fun x g r hr => hansomlaw04_count_l20_ok  x.1 i2 x.2  r hr) () he_1 (Canon.nil (by kernel_rfl)) ?_
  rintro ⟨o, s⟩ hp
  obtain ⟨ho, g_1, hk_1⟩ := hp
  have ho' : o = .exit 2 := ho
  subst ho'
  refine kB_hit <| kB_nrm <| kS_nrm <| Runs.canon _ hk_1 <| Ro <| Rc 3 [⟨.d (.int .i64 i2), []⟩, ⟨.d (.int .i64 (IntKind.wrap .i64 (i2 + 1))), []⟩, ⟨.d (.int .i64 (IntKind.wrap .i64 (i2 + 1))), []⟩] <| Rd ?_
  obtain rfl := Option.some.inj h
  exact ⟨rfl, (), (Canon.nil (by kernel_rfl))⟩
 | false =>
  replace h := ite_f hb_1 h
  refine Cf <| Runs.exit <| kS_exit ?_
  obtain rfl := Option.some.inj h
  exact ⟨nofun, rfl, (), (Canon.nil (by kernel_rfl))⟩
theorem hansomlaw04_count_ok  (r : Int) (h : hansomlaw04_count = some r) : Runs L F14.body ⟨tmOf [] 0, updW (fun _ => none) []⟩ (hansomlaw04_count_Q  r) := by
 unfold hansomlaw04_count at h
 refine Sq <| Ro <| Rc 1 [⟨.d (.int .i64 0), []⟩] <| Rd <| kS_nrm <| Sq <| Ro <| Rc 1 [⟨.d (.int .i64 0), []⟩] <| Rd <| kS_nrm <| Sq <| Sq <| Ro <| Rc 1 [⟨.d (.int .i64 0), []⟩] <| Rd <| kS_nrm <| Runs.block ?_
 obtain ⟨e_1, he_1, h⟩ := bind_s h
 refine Runs.loop (fun x : (Int × Int) => hansomlaw04_count_l8 x.1 x.2) (fun (x : (Int × Int)) (g : Unit) => hansomlaw04_count_h8 x.1 x.2) (hansomlaw04_count_P8 ) (fun x g r hr => hansomlaw04_count_l8_ok  x.1 x.2  r hr) () he_1 (Canon.nil (by kernel_rfl)) ?_
 rintro ⟨o, s⟩ hp
 obtain ⟨ho, g_1, hk_1⟩ := hp
 have ho' : o = .exit 0 := ho
 subst ho'
 refine kB_hit <| kS_nrm <| Runs.canon _ hk_1 <| Sq <| Ro <| Rc 2 [⟨.d (.int .i64 e_1), []⟩, ⟨.d (.int .i64 e_1), []⟩] <| Rd <| kS_nrm <| Runs.ret ?_
 obtain rfl := Option.some.inj h
 exact ⟨Out.ret_ne, (by kernel_rfl)⟩
theorem hansomlaw04_count_L  (r : Int) (h : hansomlaw04_count = some r) : L 14 [] = some (.d (.int .i64 r), []) := by
 obtain ⟨p, ⟨hne, hf⟩, hr⟩ := hansomlaw04_count_ok  r h
 obtain ⟨k, hk⟩ := run_of (F := F14) (args := []) (ap := []) (bx0 := updW (fun _ => none) []) rfl rfl (by kernel_rfl) ⟨p, ⟨hne, hf⟩, hr⟩
 exact lim_run (k := k) rfl hk
def hansomlaw04_IsaAll_h8 (seen4 : (A96 Bool)) (from0 : Int) (n3 : Int) (i5 : Int) : St := ⟨tab [(0, .d (.int .u8 from0)), (3, .d (.int .i64 n3)), (4, .ptr [4] 0 0), (5, .d (.int .i64 i5))], tabB [([4], some (.cells [.d (.bool seen4.a0), .d (.bool seen4.a1), .d (.bool seen4.a2), .d (.bool seen4.a3), .d (.bool seen4.a4), .d (.bool seen4.a5), .d (.bool seen4.a6), .d (.bool seen4.a7), .d (.bool seen4.a8), .d (.bool seen4.a9), .d (.bool seen4.a10), .d (.bool seen4.a11), .d (.bool seen4.a12), .d (.bool seen4.a13), .d (.bool seen4.a14), .d (.bool seen4.a15), .d (.bool seen4.a16), .d (.bool seen4.a17), .d (.bool seen4.a18), .d (.bool seen4.a19), .d (.bool seen4.a20), .d (.bool seen4.a21), .d (.bool seen4.a22), .d (.bool seen4.a23), .d (.bool seen4.a24), .d (.bool seen4.a25), .d (.bool seen4.a26), .d (.bool seen4.a27), .d (.bool seen4.a28), .d (.bool seen4.a29), .d (.bool seen4.a30), .d (.bool seen4.a31), .d (.bool seen4.a32), .d (.bool seen4.a33), .d (.bool seen4.a34), .d (.bool seen4.a35), .d (.bool seen4.a36), .d (.bool seen4.a37), .d (.bool seen4.a38), .d (.bool seen4.a39), .d (.bool seen4.a40), .d (.bool seen4.a41), .d (.bool seen4.a42), .d (.bool seen4.a43), .d (.bool seen4.a44), .d (.bool seen4.a45), .d (.bool seen4.a46), .d (.bool seen4.a47), .d (.bool seen4.a48), .d (.bool seen4.a49), .d (.bool seen4.a50), .d (.bool seen4.a51), .d (.bool seen4.a52), .d (.bool seen4.a53), .d (.bool seen4.a54), .d (.bool seen4.a55), .d (.bool seen4.a56), .d (.bool seen4.a57), .d (.bool seen4.a58), .d (.bool seen4.a59), .d (.bool seen4.a60), .d (.bool seen4.a61), .d (.bool seen4.a62), .d (.bool seen4.a63), .d (.bool seen4.a64), .d (.bool seen4.a65), .d (.bool seen4.a66), .d (.bool seen4.a67), .d (.bool seen4.a68), .d (.bool seen4.a69), .d (.bool seen4.a70), .d (.bool seen4.a71), .d (.bool seen4.a72), .d (.bool seen4.a73), .d (.bool seen4.a74), .d (.bool seen4.a75), .d (.bool seen4.a76), .d (.bool seen4.a77), .d (.bool seen4.a78), .d (.bool seen4.a79), .d (.bool seen4.a80), .d (.bool seen4.a81), .d (.bool seen4.a82), .d (.bool seen4.a83), .d (.bool seen4.a84), .d (.bool seen4.a85), .d (.bool seen4.a86), .d (.bool seen4.a87), .d (.bool seen4.a88), .d (.bool seen4.a89), .d (.bool seen4.a90), .d (.bool seen4.a91), .d (.bool seen4.a92), .d (.bool seen4.a93), .d (.bool seen4.a94), .d (.bool seen4.a95)] 0))]⟩
end Go.Es.Iaa
