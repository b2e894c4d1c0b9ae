/- The interpreter answers as plain Lean does: part 1. No condition. -/
import Derived.Test.YtikbjljifgadmaaPmdF
import Derived.Test.YtikbjljifgadmaaPmdP
import Derived.KernelRfl
set_option linter.unusedVariables false
set_option linter.unusedSimpArgs false
set_option maxRecDepth 100000
set_option maxHeartbeats 4000000
namespace Go.Es.Pmd
def index_Name_Q (s_ : (List UInt8)) (r : (List Int)) (p : Out × St) : Prop := (∀ i, p.1 ≠ .exit i) ∧ finF F48 [.d (.str s_)] p.2 = some (.d (.sl (List.map (D.int .u8) r)), [.d (.str s_)])
theorem index_Name_ok (s_ : (List UInt8)) (r : (List Int)) (h : index_Name s_ = some r) : Runs L F48.body ⟨tmOf [.d (.str s_)] 0, updW (fun _ => none) []⟩ (index_Name_Q s_ r) := by
 unfold index_Name at h
 refine Sq <| Ro <| Rc 1 [⟨.nils, []⟩] <| Rd <| kS_nrm <| Sq <| Ro <| Rc 2 [⟨.d (.str s_), []⟩, ⟨.d (.str s_), []⟩] <| Rt (some 5) .lenS [] none [.d (.str s_)] (.d (.int .i64 (s_.length : Int))) [] (cut_lenS _) <| Rc 1 [⟨.d (.int .i64 (mnI (s_.length : Int) 255)), []⟩] ?_
 obtain ⟨z_1, hz_1, h⟩ := bind_s h
 refine Rt (some 7) (.substr false true) [] none [.d (.str s_), .d (.int .i64 (mnI (s_.length : Int) 255))] (.d (.str z_1)) [] (cut_strFT hz_1) <| Rc 1 [⟨.d (.str z_1), []⟩] <| Rd <| kS_nrm <| Sq <| Ro <| Rc 1 [⟨.d (.str z_1), []⟩] <| Rt (some 9) .lenS [] none [.d (.str z_1)] (.d (.int .i64 (z_1.length : Int))) [] (cut_lenS _) <| Rc 3 [⟨.d (.int .u8 (IntKind.wrap .u8 (z_1.length : Int))), []⟩, ⟨.ref [11] 0 0 (List.map (D.int .u8) ([(IntKind.wrap .u8 (z_1.length : Int))] : List Int)).length 1, [([11], some (.arr (List.map (D.int .u8) ([(IntKind.wrap .u8 (z_1.length : Int))] : List Int)) 0 false))]⟩, ⟨.d (.str z_1), []⟩] ?_
 obtain ⟨z_2, hz_2, h⟩ := bind_s h
 refine Rt (some 13) (.append 1 1 true) [] none [.ref [11] 0 0 (List.map (D.int .u8) ([(IntKind.wrap .u8 (z_1.length : Int))] : List Int)).length 1, .d (.str z_1)] (.ref [11] 1 0 (List.map (D.int .u8) z_2).length 1) [([11], some (.arr (List.map (D.int .u8) z_2) 1 false))] (cut_appR (e := (D.int .u8)) (l := ([(IntKind.wrap .u8 (z_1.length : Int))] : List Int)) (fz := false) (ws := []) (ap_str _) (fun _ => rfl) hz_2 (by kernel_rfl) (by kernel_rfl) rfl) <| Rc 1 [⟨.ref [11] 1 0 (List.map (D.int .u8) z_2).length 1, []⟩] <| Rd <| kS_nrm <| Sq <| Runs.gcons (frz_ref (e := (D.int .u8)) (l := z_2) (id := [11]) (v := 1) (n := 1) (fz := false) (by kernel_rfl) (by kernel_rfl) rfl) <| Runs.gnil <| kS_nrm <| Runs.ret ?_
 obtain rfl := Option.some.inj h
 exact ⟨Out.ret_ne, (by kernel_rfl)⟩
theorem index_Name_L (s_ : (List UInt8)) (r : (List Int)) (h : index_Name s_ = some r) : L 48 [.d (.str s_)] = some (.d (.sl (List.map (D.int .u8) r)), [.d (.str s_)]) := by
 obtain ⟨p, ⟨hne, hf⟩, hr⟩ := index_Name_ok s_ r h
 obtain ⟨k, hk⟩ := run_of (F := F48) (args := [.d (.str s_)]) (ap := [.d (.str s_)]) (bx0 := updW (fun _ => none) []) rfl rfl (by kernel_rfl) ⟨p, ⟨hne, hf⟩, hr⟩
 exact lim_run (k := k) rfl hk
def bits_Low_Q (w_ : Int) (r : Int) (p : Out × St) : Prop := (∀ i, p.1 ≠ .exit i) ∧ finF F100 [.d (.int .u16 w_)] p.2 = some (.d (.int .u8 r), [.d (.int .u16 w_)])
theorem bits_Low_ok (w_ : Int) (r : Int) (h : bits_Low w_ = some r) : Runs L F100.body ⟨tmOf [.d (.int .u16 w_)] 0, updW (fun _ => none) []⟩ (bits_Low_Q w_ r) := by
 unfold bits_Low at h
 refine Sq <| Ro <| Rc 1 [⟨.d (.int .u8 0), []⟩] <| Rd <| kS_nrm <| Sq <| Ro <| Rc 3 [⟨.d (.int .u16 w_), []⟩, ⟨.d (.int .u8 (IntKind.wrap .u8 w_)), []⟩, ⟨.d (.int .u8 (IntKind.wrap .u8 w_)), []⟩] <| Rd <| kS_nrm <| Runs.ret ?_
 obtain rfl := Option.some.inj h
 exact ⟨Out.ret_ne, (by kernel_rfl)⟩
theorem bits_Low_L (w_ : Int) (r : Int) (h : bits_Low w_ = some r) : L 100 [.d (.int .u16 w_)] = some (.d (.int .u8 r), [.d (.int .u16 w_)]) := by
 obtain ⟨p, ⟨hne, hf⟩, hr⟩ := bits_Low_ok w_ r h
 obtain ⟨k, hk⟩ := run_of (F := F100) (args := [.d (.int .u16 w_)]) (ap := [.d (.int .u16 w_)]) (bx0 := updW (fun _ => none) []) rfl rfl (by kernel_rfl) ⟨p, ⟨hne, hf⟩, hr⟩
 exact lim_run (k := k) rfl hk
def bits_High_Q (w_ : Int) (r : Int) (p : Out × St) : Prop := (∀ i, p.1 ≠ .exit i) ∧ finF F101 [.d (.int .u16 w_)] p.2 = some (.d (.int .u8 r), [.d (.int .u16 w_)])
theorem bits_High_ok (w_ : Int) (r : Int) (h : bits_High w_ = some r) : Runs L F101.body ⟨tmOf [.d (.int .u16 w_)] 0, updW (fun _ => none) []⟩ (bits_High_Q w_ r) := by
 unfold bits_High at h
 refine Sq <| Ro <| Rc 1 [⟨.d (.int .u8 0), []⟩] <| Rd <| kS_nrm <| Sq <| Ro <| Rc 4 [⟨.d (.int .u16 w_), []⟩, ⟨.d (.int .u16 (shrI .u16 w_ 8)), []⟩, ⟨.d (.int .u8 (IntKind.wrap .u8 (shrI .u16 w_ 8))), []⟩, ⟨.d (.int .u8 (IntKind.wrap .u8 (shrI .u16 w_ 8))), []⟩] <| Rd <| kS_nrm <| Runs.ret ?_
 obtain rfl := Option.some.inj h
 exact ⟨Out.ret_ne, (by kernel_rfl)⟩
theorem bits_High_L (w_ : Int) (r : Int) (h : bits_High w_ = some r) : L 101 [.d (.int .u16 w_)] = some (.d (.int .u8 r), [.d (.int .u16 w_)]) := by
 obtain ⟨p, ⟨hne, hf⟩, hr⟩ := bits_High_ok w_ r h
 obtain ⟨k, hk⟩ := run_of (F := F101) (args := [.d (.int .u16 w_)]) (ap := [.d (.int .u16 w_)]) (bx0 := updW (fun _ => none) []) rfl rfl (by kernel_rfl) ⟨p, ⟨hne, hf⟩, hr⟩
 exact lim_run (k := k) rfl hk
def index_Two_Q (w_ : Int) (r : (List Int)) (p : Out × St) : Prop := (∀ i, p.1 ≠ .exit i) ∧ finF F62 [.d (.int .u16 w_)] p.2 = some (.arr false 1 (List.map (D.int .u8) r), [.d (.int .u16 w_)])
theorem index_Two_ok (w_ : Int) (r : (List Int)) (h : index_Two w_ = some r) : Runs L F62.body ⟨tmOf [.d (.int .u16 w_)] 0, updW (fun _ => none) []⟩ (index_Two_Q w_ r) := by
 unfold index_Two at h
 refine Sq <| Ro <| Rc 1 [⟨.nils, []⟩] <| Rd <| kS_nrm <| Sq <| Ro <| Rc 1 [⟨.d (.int .u16 w_), []⟩] ?_
 obtain ⟨r_1, hr_1, h⟩ := bind_s h
 have hc_1 := bits_Low_L w_ r_1 hr_1
 refine Rt (some 4) (.callf 100) [] none [.d (.int .u16 w_)] (.d (.int .u8 r_1)) [] (cut_call (call_of (ws := []) (us := []) (by kernel_rfl) (by kernel_rfl) hc_1 (by kernel_rfl) (by kernel_rfl))) <| Rc 1 [⟨.d (.int .u16 w_), []⟩] ?_
 obtain ⟨r_2, hr_2, h⟩ := bind_s h
 have hc_2 := bits_High_L w_ r_2 hr_2
 refine Rt (some 6) (.callf 101) [] none [.d (.int .u16 w_)] (.d (.int .u8 r_2)) [] (cut_call (call_of (ws := []) (us := []) (by kernel_rfl) (by kernel_rfl) hc_2 (by kernel_rfl) (by kernel_rfl))) <| Rc 2 [⟨.ref [7] 0 0 (List.map (D.int .u8) ([r_1, r_2] : List Int)).length 1, [([7], some (.arr (List.map (D.int .u8) ([r_1, r_2] : List Int)) 0 false))]⟩, ⟨.ref [7] 0 0 (List.map (D.int .u8) ([r_1, r_2] : List Int)).length 1, []⟩] <| Rd <| kS_nrm <| Runs.ret ?_
 obtain rfl := Option.some.inj h
 exact ⟨Out.ret_ne, (fin_of (rs := [.ref [7] 0 0 (List.map (D.int .u8) ([r_1, r_2] : List Int)).length 1]) (by kernel_rfl) (by kernel_rfl) (outs_own (id := [7]) (v := 0) (fz := false) (es := List.map (D.int .u8) ([r_1, r_2] : List Int)) (by kernel_rfl) (by decide) rfl outs_nil) (gives_cons (give_same (by kernel_rfl)) gives_nil))⟩
theorem index_Two_L (w_ : Int) (r : (List Int)) (h : index_Two w_ = some r) : L 62 [.d (.int .u16 w_)] = some (.arr false 1 (List.map (D.int .u8) r), [.d (.int .u16 w_)]) := by
 obtain ⟨p, ⟨hne, hf⟩, hr⟩ := index_Two_ok w_ r h
 obtain ⟨k, hk⟩ := run_of (F := F62) (args := [.d (.int .u16 w_)]) (ap := [.d (.int .u16 w_)]) (bx0 := updW (fun _ => none) []) rfl rfl (by kernel_rfl) ⟨p, ⟨hne, hf⟩, hr⟩
 exact lim_run (k := k) rfl hk
def index_Four_Q (n_ : Int) (r : (List Int)) (p : Out × St) : Prop := (∀ i, p.1 ≠ .exit i) ∧ finF F98 [.d (.int .u32 n_)] p.2 = some (.d (.sl (List.map (D.int .u8) r)), [.d (.int .u32 n_)])
theorem index_Four_ok (n_ : Int) (r : (List Int)) (h : index_Four n_ = some r) : Runs L F98.body ⟨tmOf [.d (.int .u32 n_)] 0, updW (fun _ => none) []⟩ (index_Four_Q n_ r) := by
 unfold index_Four at h
 refine Sq <| Ro <| Rc 1 [⟨.nils, []⟩] <| Rd <| kS_nrm <| Sq <| Ro <| Rc 2 [⟨.d (.int .u32 n_), []⟩, ⟨.d (.int .u16 (IntKind.wrap .u16 n_)), []⟩] ?_
 obtain ⟨r_1, hr_1, h⟩ := bind_s h
 have hc_1 := index_Two_L (IntKind.wrap .u16 n_) r_1 hr_1
 refine Rt (some 5) (.callf 62) [] none [.d (.int .u16 (IntKind.wrap .u16 n_))] (.ref [5] 0 0 (List.map (D.int .u8) r_1).length 1) [([5], some (.arr (List.map (D.int .u8) r_1) 0 false))] (cut_call (call_of (ws := []) (us := []) (by kernel_rfl) (gives_cons (ws := []) (give_same (by kernel_rfl)) gives_nil) hc_1 (by kernel_rfl) (by kernel_rfl))) <| Rc 3 [⟨.d (.int .u32 n_), []⟩, ⟨.d (.int .u32 (shrI .u32 n_ 16)), []⟩, ⟨.d (.int .u16 (IntKind.wrap .u16 (shrI .u32 n_ 16))), []⟩] ?_
 obtain ⟨r_2, hr_2, h⟩ := bind_s h
 have hc_2 := index_Two_L (IntKind.wrap .u16 (shrI .u32 n_ 16)) r_2 hr_2
 refine Rt (some 9) (.callf 62) [] none [.d (.int .u16 (IntKind.wrap .u16 (shrI .u32 n_ 16)))] (.ref [9] 0 0 (List.map (D.int .u8) r_2).length 1) [([9], some (.arr (List.map (D.int .u8) r_2) 0 false))] (cut_call (call_of (ws := []) (us := []) (by kernel_rfl) (gives_cons (ws := []) (give_same (by kernel_rfl)) gives_nil) hc_2 (by kernel_rfl) (by kernel_rfl))) ?_
 obtain ⟨z_1, hz_1, h⟩ := bind_s h
 refine Rt (some 10) (.append 1 1 false) [] none [.ref [5] 0 0 (List.map (D.int .u8) r_1).length 1, .ref [9] 0 0 (List.map (D.int .u8) r_2).length 1] (.ref [5] 1 0 (List.map (D.int .u8) z_1).length 1) [([9], some (.arr (List.map (D.int .u8) r_2) 0 true)), ([5], some (.arr (List.map (D.int .u8) z_1) 1 false))] (cut_appR (e := (D.int .u8)) (l := r_1) (fz := false) (ws := [([9], some (.arr (List.map (D.int .u8) r_2) 0 true))]) (ap_ref (e := (D.int .u8)) (l := r_2) (fz := false) (by kernel_rfl) (by kernel_rfl) rfl) (fun _ => rfl) hz_1 (by kernel_rfl) (by kernel_rfl) rfl) <| Rc 1 [⟨.ref [5] 1 0 (List.map (D.int .u8) z_1).length 1, []⟩] <| Rd <| kS_nrm <| Sq <| Runs.gcons (frz_ref (e := (D.int .u8)) (l := z_1) (id := [5]) (v := 1) (n := 1) (fz := false) (by kernel_rfl) (by kernel_rfl) rfl) <| Runs.gnil <| kS_nrm <| Runs.ret ?_
 obtain rfl := Option.some.inj h
 exact ⟨Out.ret_ne, (by kernel_rfl)⟩
theorem index_Four_L (n_ : Int) (r : (List Int)) (h : index_Four n_ = some r) : L 98 [.d (.int .u32 n_)] = some (.d (.sl (List.map (D.int .u8) r)), [.d (.int .u32 n_)]) := by
 obtain ⟨p, ⟨hne, hf⟩, hr⟩ := index_Four_ok n_ r h
 obtain ⟨k, hk⟩ := run_of (F := F98) (args := [.d (.int .u32 n_)]) (ap := [.d (.int .u32 n_)]) (bx0 := updW (fun _ => none) []) rfl rfl (by kernel_rfl) ⟨p, ⟨hne, hf⟩, hr⟩
 exact lim_run (k := k) rfl hk
def index_Long_Q (n_ : Int) (r : (List Int)) (p : Out × St) : Prop := (∀ i, p.1 ≠ .exit i) ∧ finF F49 [.d (.int .u32 n_)] p.2 = some (.d (.sl (List.map (D.int .u8) r)), [.d (.int .u32 n_)])
theorem index_Long_ok (n_ : Int) (r : (List Int)) (h : index_Long n_ = some r) : Runs L F49.body ⟨tmOf [.d (.int .u32 n_)] 0, updW (fun _ => none) []⟩ (index_Long_Q n_ r) := by
 unfold index_Long at h
 refine Sq <| Ro <| Rc 1 [⟨.nils, []⟩] <| Rd <| kS_nrm <| Sq <| Runs.block <| Sq <| Ro <| Rc 3 [⟨.d (.int .u32 n_), []⟩, ⟨.d (.bool (decide (n_ ≤ 128))), []⟩, ⟨.d (.bool (decide (n_ ≤ 128))), []⟩] <| Rd <| kS_nrm ?_
 cases hb_1 : ((decide (n_ ≤ 128)) : Bool) with
 | true =>
  replace h := ite_t hb_1 h
  refine Ct <| Sq <| Ro <| Rc 4 [⟨.d (.int .u32 n_), []⟩, ⟨.d (.int .u8 (IntKind.wrap .u8 n_)), []⟩, ⟨.ref [8] 0 0 (List.map (D.int .u8) ([(IntKind.wrap .u8 n_)] : List Int)).length 1, [([8], some (.arr (List.map (D.int .u8) ([(IntKind.wrap .u8 n_)] : List Int)) 0 false))]⟩, ⟨.ref [8] 0 0 (List.map (D.int .u8) ([(IntKind.wrap .u8 n_)] : List Int)).length 1, []⟩] <| Rd <| kS_nrm <| Sq <| Runs.gcons (frz_ref (e := (D.int .u8)) (l := ([(IntKind.wrap .u8 n_)] : List Int)) (id := [8]) (v := 0) (n := 1) (fz := false) (by kernel_rfl) (by kernel_rfl) rfl) <| Runs.gnil <| kS_nrm <| Runs.ret <| kB_ret <| kS_ret ?_
  obtain rfl := Option.some.inj h
  exact ⟨Out.ret_ne, (by kernel_rfl)⟩
 | false =>
  replace h := ite_f hb_1 h
  refine Cf <| Sq <| Ro <| Rc 3 [⟨.d (.int .u32 n_), []⟩, ⟨.d (.bool (decide (n_ < 65536))), []⟩, ⟨.d (.bool (decide (n_ < 65536))), []⟩] <| Rd <| kS_nrm ?_
  cases hb_2 : ((decide (n_ < 65536)) : Bool) with
  | true =>
   replace h := ite_t hb_2 h
   refine Ct <| Sq <| Ro <| Rc 3 [⟨.ref [12] 0 0 (List.map (D.int .u8) ([129] : List Int)).length 1, [([12], some (.arr (List.map (D.int .u8) ([129] : List Int)) 0 false))]⟩, ⟨.d (.int .u32 n_), []⟩, ⟨.d (.int .u16 (IntKind.wrap .u16 n_)), []⟩] ?_
   obtain ⟨r_1, hr_1, h⟩ := bind_s h
   have hc_1 := index_Two_L (IntKind.wrap .u16 n_) r_1 hr_1
   refine Rt (some 15) (.callf 62) [] none [.d (.int .u16 (IntKind.wrap .u16 n_))] (.ref [15] 0 0 (List.map (D.int .u8) r_1).length 1) [([15], some (.arr (List.map (D.int .u8) r_1) 0 false))] (cut_call (call_of (ws := []) (us := []) (by kernel_rfl) (gives_cons (ws := []) (give_same (by kernel_rfl)) gives_nil) hc_1 (by kernel_rfl) (by kernel_rfl))) ?_
   obtain ⟨z_1, hz_1, h⟩ := bind_s h
   refine Rt (some 16) (.append 1 1 false) [] none [.ref [12] 0 0 (List.map (D.int .u8) ([129] : List Int)).length 1, .ref [15] 0 0 (List.map (D.int .u8) r_1).length 1] (.ref [12] 1 0 (List.map (D.int .u8) z_1).length 1) [([15], some (.arr (List.map (D.int .u8) r_1) 0 true)), ([12], some (.arr (List.map (D.int .u8) z_1) 1 false))] (cut_appR (e := (D.int .u8)) (l := ([129] : List Int)) (fz := false) (ws := [([15], some (.arr (List.map (D.int .u8) r_1) 0 true))]) (ap_ref (e := (D.int .u8)) (l := r_1) (fz := false) (by kernel_rfl) (by kernel_rfl) rfl) (fun _ => rfl) hz_1 (by kernel_rfl) (by kernel_rfl) rfl) <| Rc 1 [⟨.ref [12] 1 0 (List.map (D.int .u8) z_1).length 1, []⟩] <| Rd <| kS_nrm <| Sq <| Runs.gcons (frz_ref (e := (D.int .u8)) (l := z_1) (id := [12]) (v := 1) (n := 1) (fz := false) (by kernel_rfl) (by kernel_rfl) rfl) <| Runs.gnil <| kS_nrm <| Runs.ret <| kB_ret <| kS_ret ?_
   obtain rfl := Option.some.inj h
   exact ⟨Out.ret_ne, (by kernel_rfl)⟩
  | false =>
   replace h := ite_f hb_2 h
   refine Cf <| Sq <| Ro <| Rc 3 [⟨.d (.int .u32 n_), []⟩, ⟨.d (.bool (decide (n_ < 16777216))), []⟩, ⟨.d (.bool (decide (n_ < 16777216))), []⟩] <| Rd <| kS_nrm ?_
   cases hb_3 : ((decide (n_ < 16777216)) : Bool) with
   | true =>
    replace h := ite_t hb_3 h
    refine Ct <| Sq <| Ro <| Rc 2 [⟨.ref [20] 0 0 (List.map (D.int .u8) ([132] : List Int)).length 1, [([20], some (.arr (List.map (D.int .u8) ([132] : List Int)) 0 false))]⟩, ⟨.d (.int .u32 n_), []⟩] ?_
    obtain ⟨r_2, hr_2, h⟩ := bind_s h
    have hc_2 := index_Four_L n_ r_2 hr_2
    refine Rt (some 22) (.callf 98) [] none [.d (.int .u32 n_)] (.d (.sl (List.map (D.int .u8) r_2))) [] (cut_call (call_of (ws := []) (us := []) (by kernel_rfl) (by kernel_rfl) hc_2 (by kernel_rfl) (by kernel_rfl))) ?_
    obtain ⟨z_2, hz_2, h⟩ := bind_s h
    refine Rt (some 23) (.subsl 1 false true false) [] none [.d (.sl (List.map (D.int .u8) r_2)), .d (.int .i64 3)] (.d (.sl (List.map (D.int .u8) z_2))) [] (cut_slFT hz_2 (fun _ => rfl)) ?_
    obtain ⟨z_3, hz_3, h⟩ := bind_s h
    refine Rt (some 24) (.append 1 1 false) [] none [.ref [20] 0 0 (List.map (D.int .u8) ([132] : List Int)).length 1, .d (.sl (List.map (D.int .u8) z_2))] (.ref [20] 1 0 (List.map (D.int .u8) z_3).length 1) [([20], some (.arr (List.map (D.int .u8) z_3) 1 false))] (cut_appR (e := (D.int .u8)) (l := ([132] : List Int)) (fz := false) (ws := []) (ap_data _) (fun _ => rfl) hz_3 (by kernel_rfl) (by kernel_rfl) rfl) <| Rc 1 [⟨.ref [20] 1 0 (List.map (D.int .u8) z_3).length 1, []⟩] <| Rd <| kS_nrm <| Sq <| Runs.gcons (frz_ref (e := (D.int .u8)) (l := z_3) (id := [20]) (v := 1) (n := 1) (fz := false) (by kernel_rfl) (by kernel_rfl) rfl) <| Runs.gnil <| kS_nrm <| Runs.ret <| kB_ret <| kS_ret ?_
    obtain rfl := Option.some.inj h
    exact ⟨Out.ret_ne, (by kernel_rfl)⟩
   | false =>
    replace h := ite_f hb_3 h
    refine Cf <| Runs.skip <| kB_nrm <| kS_nrm <| Sq <| Ro <| Rc 2 [⟨.ref [25] 0 0 (List.map (D.int .u8) ([136] : List Int)).length 1, [([25], some (.arr (List.map (D.int .u8) ([136] : List Int)) 0 false))]⟩, ⟨.d (.int .u32 n_), []⟩] ?_
    obtain ⟨r_3, hr_3, h⟩ := bind_s h
    have hc_3 := index_Four_L n_ r_3 hr_3
    refine Rt (some 27) (.callf 98) [] none [.d (.int .u32 n_)] (.d (.sl (List.map (D.int .u8) r_3))) [] (cut_call (call_of (ws := []) (us := []) (by kernel_rfl) (by kernel_rfl) hc_3 (by kernel_rfl) (by kernel_rfl))) ?_
    obtain ⟨z_4, hz_4, h⟩ := bind_s h
    refine Rt (some 28) (.append 1 1 false) [] none [.ref [25] 0 0 (List.map (D.int .u8) ([136] : List Int)).length 1, .d (.sl (List.map (D.int .u8) r_3))] (.ref [25] 1 0 (List.map (D.int .u8) z_4).length 1) [([25], some (.arr (List.map (D.int .u8) z_4) 1 false))] (cut_appR (e := (D.int .u8)) (l := ([136] : List Int)) (fz := false) (ws := []) (ap_data _) (fun _ => rfl) hz_4 (by kernel_rfl) (by kernel_rfl) rfl) <| Rc 1 [⟨.ref [25] 1 0 (List.map (D.int .u8) z_4).length 1, []⟩] <| Rd <| kS_nrm <| Sq <| Runs.gcons (frz_ref (e := (D.int .u8)) (l := z_4) (id := [25]) (v := 1) (n := 1) (fz := false) (by kernel_rfl) (by kernel_rfl) rfl) <| Runs.gnil <| kS_nrm <| Runs.ret ?_
    obtain rfl := Option.some.inj h
    exact ⟨Out.ret_ne, (by kernel_rfl)⟩
theorem index_Long_L (n_ : Int) (r : (List Int)) (h : index_Long n_ = some r) : L 49 [.d (.int .u32 n_)] = some (.d (.sl (List.map (D.int .u8) r)), [.d (.int .u32 n_)]) := by
 obtain ⟨p, ⟨hne, hf⟩, hr⟩ := index_Long_ok n_ r h
 obtain ⟨k, hk⟩ := run_of (F := F49) (args := [.d (.int .u32 n_)]) (ap := [.d (.int .u32 n_)]) (bx0 := updW (fun _ => none) []) rfl rfl (by kernel_rfl) ⟨p, ⟨hne, hf⟩, hr⟩
 exact lim_run (k := k) rfl hk
def pubs_Communal_h4 (r3 : Record) (b_2_0 : Int) (l0 : (List Ext)) (v_901_3 : Nat) : St := ⟨tab [(0, .d (.sl (List.map Ext.d l0))), (2, .ptr [2] 0 0), (3, .ptr [3] 0 0)], tabB [([2], some (.cells [.d (.int .u8 b_2_0), .nils] 0)), ([3], some (.cells [.d (.int .u8 r3.Kind), .ref [901, 3] v_901_3 0 (List.map (D.int .u8) r3.Body).length 1] 0)), ([901, 3], some (.arr (List.map (D.int .u8) r3.Body) v_901_3 false))]⟩
def pubs_Communal_h8 (r3 : Record) (b_2_0 : Int) (t7 : (List Ext)) (t8 : Int) (t9 : Int) (v_901_3 : Nat) : St := ⟨tab [(2, .ptr [2] 0 0), (3, .ptr [3] 0 0), (7, .d (.sl (List.map Ext.d t7))), (8, .d (.int .i64 t8)), (9, .d (.int .i64 t9))], tabB [([2], some (.cells [.d (.int .u8 b_2_0), .nils] 0)), ([3], some (.cells [.d (.int .u8 r3.Kind), .ref [901, 3] v_901_3 0 (List.map (D.int .u8) r3.Body).length 1] 0)), ([901, 3], some (.arr (List.map (D.int .u8) r3.Body) v_901_3 false))]⟩
def pubs_Communal_h33 (r3 : Record) (b_2_0 : Int) (v_901_3 : Nat) : St := ⟨tab [(2, .ptr [2] 0 0), (3, .ptr [3] 0 0)], tabB [([2], some (.cells [.d (.int .u8 b_2_0), .nils] 0)), ([3], some (.cells [.d (.int .u8 r3.Kind), .ref [901, 3] v_901_3 0 (List.map (D.int .u8) r3.Body).length 1] 0)), ([901, 3], some (.arr (List.map (D.int .u8) r3.Body) v_901_3 false))]⟩
def pubs_Communal_Q (l_ : (List Ext)) (r : Record) (p : Out × St) : Prop := (∀ i, p.1 ≠ .exit i) ∧ finF F12 [.d (.sl (List.map Ext.d l_))] p.2 = some (.d (Record.d r), [.d (.sl (List.map Ext.d l_))])
def pubs_Communal_P8 (l_ : (List Ext)) (b_2_0 : Int) (t7 : (List Ext)) (t8 : Int) (e : Record) (p : Out × St) : Prop := p.1 = .exit 0 ∧ ∃ g : Nat, Canon [] [2, 3] [[2], [3], [901, 3]] p.2 (pubs_Communal_h33 e b_2_0 g)
theorem pubs_Communal_l8_ok (l_ : (List Ext)) (r3 : Record) (b_2_0 : Int) (t7 : (List Ext)) (t8 : Int) (t9 : Int) (v_901_3 : Nat) (r : (Lp (Record × Int) Record)) (h : pubs_Communal_l8 r3 b_2_0 t7 t8 t9 = some r) : Runs L F12l8 (pubs_Communal_h8 r3 b_2_0 t7 t8 t9 v_901_3) (LQ [] [2, 3, 7, 8, 9] [[2], [3], [901, 3]] (fun (x : (Record × Int)) (g : Nat) => pubs_Communal_h8 x.1 b_2_0 t7 t8 x.2 g) (pubs_Communal_P8 l_ b_2_0 t7 t8) r) := by
 unfold pubs_Communal_l8 at h
 refine Sq <| Ro <| Rc 1 [⟨.d (.bool (decide (t9 < t8))), []⟩] <| Rd <| kS_nrm <| Sq ?_
 cases hb_1 : ((decide (t9 < t8)) : Bool) with
 | true =>
  replace h := ite_t hb_1 h
  refine Ct <| Runs.skip <| kS_nrm <| Sq <| Runs.block <| Sq <| Ro ?_
  obtain ⟨z_1, hz_1, h⟩ := bind_s h
  refine Rt (some 11) (.iaddrS 3) [] none [.d (.sl (List.map Ext.d t7)), .d (.int .i64 t9)] (.elt (Ext.d z_1) 0) [] (cut_at hz_1 (fun _ => rfl)) <| Rc 3 [⟨.d (Ext.d z_1), []⟩, ⟨.ptr [5] 0 0, [([5], some (.cells [.d (.str []), .d (.int .i64 0), .d (.int .u32 0)] 0))]⟩, ⟨.tup [], [([5], some (.cells [.d (.str z_1.Name), .d (.int .i64 z_1.Com), .d (.int .u32 z_1.Len)] 0))]⟩] <| Rd <| kS_nrm <| Sq <| Ro <| Rc 4 [⟨.ptr [3] 0 1, []⟩, ⟨.ref [901, 3] v_901_3 0 (List.map (D.int .u8) r3.Body).length 1, []⟩, ⟨.ptr [5] 0 0, []⟩, ⟨.d (.str z_1.Name), []⟩] ?_
  obtain ⟨r_1, hr_1, h⟩ := bind_s h
  have hc_1 := index_Name_L z_1.Name r_1 hr_1
  refine Rt (some 17) (.callf 48) [[19]] (some []) [.d (.str z_1.Name)] (.d (.sl (List.map (D.int .u8) r_1))) [] (cut_call (call_of (ws := []) (us := []) (by kernel_rfl) (by kernel_rfl) hc_1 (by kernel_rfl) (by kernel_rfl))) ?_
  obtain ⟨z_2, hz_2, h⟩ := bind_s h
  refine Rt (some 18) (.append 1 1 false) [[19]] (some [[1, 3], [18], [20], [28], [32], [37], [42], [46], [901, 3]]) [.ref [901, 3] v_901_3 0 (List.map (D.int .u8) r3.Body).length 1, .d (.sl (List.map (D.int .u8) r_1))] (.ref [901, 3] (v_901_3 + 1) 0 (List.map (D.int .u8) z_2).length 1) [([901, 3], some (.arr (List.map (D.int .u8) z_2) (v_901_3 + 1) false))] (cut_appR (e := (D.int .u8)) (l := r3.Body) (fz := false) (ws := []) (ap_data _) (fun _ => rfl) hz_2 (by kernel_rfl) (by kernel_rfl) rfl) <| Rc 1 [⟨.ref [19] 0 0 (List.map (D.int .u8) ([0] : List Int)).length 1, [([19], some (.arr (List.map (D.int .u8) ([0] : List Int)) 0 false))]⟩] ?_
  obtain ⟨z_3, hz_3, h⟩ := bind_s h
  refine Rt (some 20) (.append 1 1 false) [] none [.ref [901, 3] (v_901_3 + 1) 0 (List.map (D.int .u8) z_2).length 1, .ref [19] 0 0 (List.map (D.int .u8) ([0] : List Int)).length 1] (.ref [901, 3] ((v_901_3 + 1) + 1) 0 (List.map (D.int .u8) z_3).length 1) [([19], some (.arr (List.map (D.int .u8) ([0] : List Int)) 0 true)), ([901, 3], some (.arr (List.map (D.int .u8) z_3) ((v_901_3 + 1) + 1) false))] (cut_appR (e := (D.int .u8)) (l := z_2) (fz := false) (ws := [([19], some (.arr (List.map (D.int .u8) ([0] : List Int)) 0 true))]) (ap_ref (e := (D.int .u8)) (l := ([0] : List Int)) (fz := false) (by kernel_rfl) (by kernel_rfl) rfl) (fun _ => rfl) hz_3 (by kernel_rfl) (by kernel_rfl) rfl) <| Rc 2 [⟨.ptr [3] 0 1, []⟩, ⟨.tup [], [([3], some (.cells [.d (.int .u8 r3.Kind), .ref [901, 3] ((v_901_3 + 1) + 1) 0 (List.map (D.int .u8) z_3).length 1] 0))]⟩] <| Rd <| kS_nrm <| Sq <| Sq <| Ro <| Rc 3 [⟨.ptr [5] 0 1, []⟩, ⟨.d (.int .i64 z_1.Com), []⟩, ⟨.d (.bool (z_1.Com == 97)), []⟩] <| Rd <| kS_nrm ?_
  cases hb_2 : ((z_1.Com == 97) : Bool) with
  | true =>
   replace h := ite_t hb_2 h
   refine Ct <| Sq <| Ro <| Rc 3 [⟨.ptr [3] 0 1, []⟩, ⟨.ref [901, 3] ((v_901_3 + 1) + 1) 0 (List.map (D.int .u8) z_3).length 1, []⟩, ⟨.ref [27] 0 0 (List.map (D.int .u8) ([97] : List Int)).length 1, [([27], some (.arr (List.map (D.int .u8) ([97] : List Int)) 0 false))]⟩] ?_
   obtain ⟨z_4, hz_4, h⟩ := bind_s h
   refine Rt (some 28) (.append 1 1 false) [] (some [[1, 3], [18], [20], [28], [32], [37], [42], [46], [901, 3]]) [.ref [901, 3] ((v_901_3 + 1) + 1) 0 (List.map (D.int .u8) z_3).length 1, .ref [27] 0 0 (List.map (D.int .u8) ([97] : List Int)).length 1] (.ref [901, 3] (((v_901_3 + 1) + 1) + 1) 0 (List.map (D.int .u8) z_4).length 1) [([27], some (.arr (List.map (D.int .u8) ([97] : List Int)) 0 true)), ([901, 3], some (.arr (List.map (D.int .u8) z_4) (((v_901_3 + 1) + 1) + 1) false))] (cut_appR (e := (D.int .u8)) (l := z_3) (fz := false) (ws := [([27], some (.arr (List.map (D.int .u8) ([97] : List Int)) 0 true))]) (ap_ref (e := (D.int .u8)) (l := ([97] : List Int)) (fz := false) (by kernel_rfl) (by kernel_rfl) rfl) (fun _ => rfl) hz_4 (by kernel_rfl) (by kernel_rfl) rfl) <| Rc 2 [⟨.ptr [5] 0 2, []⟩, ⟨.d (.int .u32 z_1.Len), []⟩] ?_
   obtain ⟨r_2, hr_2, h⟩ := bind_s h
   have hc_2 := index_Long_L z_1.Len r_2 hr_2
   refine Rt (some 31) (.callf 49) [] none [.d (.int .u32 z_1.Len)] (.d (.sl (List.map (D.int .u8) r_2))) [] (cut_call (call_of (ws := []) (us := []) (by kernel_rfl) (by kernel_rfl) hc_2 (by kernel_rfl) (by kernel_rfl))) ?_
   obtain ⟨z_5, hz_5, h⟩ := bind_s h
   refine Rt (some 32) (.append 1 1 false) [] none [.ref [901, 3] (((v_901_3 + 1) + 1) + 1) 0 (List.map (D.int .u8) z_4).length 1, .d (.sl (List.map (D.int .u8) r_2))] (.ref [901, 3] ((((v_901_3 + 1) + 1) + 1) + 1) 0 (List.map (D.int .u8) z_5).length 1) [([901, 3], some (.arr (List.map (D.int .u8) z_5) ((((v_901_3 + 1) + 1) + 1) + 1) false))] (cut_appR (e := (D.int .u8)) (l := z_4) (fz := false) (ws := []) (ap_data _) (fun _ => rfl) hz_5 (by kernel_rfl) (by kernel_rfl) rfl) <| Rc 2 [⟨.ptr [3] 0 1, []⟩, ⟨.tup [], [([3], some (.cells [.d (.int .u8 r3.Kind), .ref [901, 3] ((((v_901_3 + 1) + 1) + 1) + 1) 0 (List.map (D.int .u8) z_5).length 1] 0))]⟩] <| Rd <| kS_nrm <| Sq <| Ro <| Rc 3 [⟨.ptr [3] 0 1, []⟩, ⟨.ref [901, 3] ((((v_901_3 + 1) + 1) + 1) + 1) 0 (List.map (D.int .u8) z_5).length 1, []⟩, ⟨.ref [36] 0 0 (List.map (D.int .u8) ([1] : List Int)).length 1, [([36], some (.arr (List.map (D.int .u8) ([1] : List Int)) 0 false))]⟩] ?_
   obtain ⟨z_6, hz_6, h⟩ := bind_s h
   refine Rt (some 37) (.append 1 1 false) [] none [.ref [901, 3] ((((v_901_3 + 1) + 1) + 1) + 1) 0 (List.map (D.int .u8) z_5).length 1, .ref [36] 0 0 (List.map (D.int .u8) ([1] : List Int)).length 1] (.ref [901, 3] (((((v_901_3 + 1) + 1) + 1) + 1) + 1) 0 (List.map (D.int .u8) z_6).length 1) [([36], some (.arr (List.map (D.int .u8) ([1] : List Int)) 0 true)), ([901, 3], some (.arr (List.map (D.int .u8) z_6) (((((v_901_3 + 1) + 1) + 1) + 1) + 1) false))] (cut_appR (e := (D.int .u8)) (l := z_5) (fz := false) (ws := [([36], some (.arr (List.map (D.int .u8) ([1] : List Int)) 0 true))]) (ap_ref (e := (D.int .u8)) (l := ([1] : List Int)) (fz := false) (by kernel_rfl) (by kernel_rfl) rfl) (fun _ => rfl) hz_6 (by kernel_rfl) (by kernel_rfl) rfl) <| Rc 2 [⟨.ptr [3] 0 1, []⟩, ⟨.tup [], [([3], some (.cells [.d (.int .u8 r3.Kind), .ref [901, 3] (((((v_901_3 + 1) + 1) + 1) + 1) + 1) 0 (List.map (D.int .u8) z_6).length 1] 0))]⟩] <| Rd <| kS_nrm <| Runs.exit <| kS_exit <| kB_hit <| kS_nrm <| Ro <| Rc 2 [⟨.d (.int .i64 (IntKind.wrap .i64 (t9 + 1))), []⟩, ⟨.d (.int .i64 (IntKind.wrap .i64 (t9 + 1))), []⟩] <| Rd ?_
   obtain rfl := Option.some.inj h
   exact ⟨rfl, (((((v_901_3 + 1) + 1) + 1) + 1) + 1), (Canon.nil (by kernel_rfl))⟩
  | false =>
   replace h := ite_f hb_2 h
   refine Cf <| Runs.skip <| kS_nrm <| Ro <| Rc 3 [⟨.ptr [3] 0 1, []⟩, ⟨.ref [901, 3] ((v_901_3 + 1) + 1) 0 (List.map (D.int .u8) z_3).length 1, []⟩, ⟨.ref [41] 0 0 (List.map (D.int .u8) ([98] : List Int)).length 1, [([41], some (.arr (List.map (D.int .u8) ([98] : List Int)) 0 false))]⟩] ?_
   obtain ⟨z_7, hz_7, h⟩ := bind_s h
   refine Rt (some 42) (.append 1 1 false) [] (some [[1, 3], [18], [20], [28], [32], [37], [42], [46], [901, 3]]) [.ref [901, 3] ((v_901_3 + 1) + 1) 0 (List.map (D.int .u8) z_3).length 1, .ref [41] 0 0 (List.map (D.int .u8) ([98] : List Int)).length 1] (.ref [901, 3] (((v_901_3 + 1) + 1) + 1) 0 (List.map (D.int .u8) z_7).length 1) [([41], some (.arr (List.map (D.int .u8) ([98] : List Int)) 0 true)), ([901, 3], some (.arr (List.map (D.int .u8) z_7) (((v_901_3 + 1) + 1) + 1) false))] (cut_appR (e := (D.int .u8)) (l := z_3) (fz := false) (ws := [([41], some (.arr (List.map (D.int .u8) ([98] : List Int)) 0 true))]) (ap_ref (e := (D.int .u8)) (l := ([98] : List Int)) (fz := false) (by kernel_rfl) (by kernel_rfl) rfl) (fun _ => rfl) hz_7 (by kernel_rfl) (by kernel_rfl) rfl) <| Rc 2 [⟨.ptr [5] 0 2, []⟩, ⟨.d (.int .u32 z_1.Len), []⟩] ?_
   obtain ⟨r_3, hr_3, h⟩ := bind_s h
   have hc_3 := index_Long_L z_1.Len r_3 hr_3
   refine Rt (some 45) (.callf 49) [] none [.d (.int .u32 z_1.Len)] (.d (.sl (List.map (D.int .u8) r_3))) [] (cut_call (call_of (ws := []) (us := []) (by kernel_rfl) (by kernel_rfl) hc_3 (by kernel_rfl) (by kernel_rfl))) ?_
   obtain ⟨z_8, hz_8, h⟩ := bind_s h
   refine Rt (some 46) (.append 1 1 false) [] none [.ref [901, 3] (((v_901_3 + 1) + 1) + 1) 0 (List.map (D.int .u8) z_7).length 1, .d (.sl (List.map (D.int .u8) r_3))] (.ref [901, 3] ((((v_901_3 + 1) + 1) + 1) + 1) 0 (List.map (D.int .u8) z_8).length 1) [([901, 3], some (.arr (List.map (D.int .u8) z_8) ((((v_901_3 + 1) + 1) + 1) + 1) false))] (cut_appR (e := (D.int .u8)) (l := z_7) (fz := false) (ws := []) (ap_data _) (fun _ => rfl) hz_8 (by kernel_rfl) (by kernel_rfl) rfl) <| Rc 2 [⟨.ptr [3] 0 1, []⟩, ⟨.tup [], [([3], some (.cells [.d (.int .u8 r3.Kind), .ref [901, 3] ((((v_901_3 + 1) + 1) + 1) + 1) 0 (List.map (D.int .u8) z_8).length 1] 0))]⟩] <| Rd <| kB_nrm <| kS_nrm <| Ro <| Rc 2 [⟨.d (.int .i64 (IntKind.wrap .i64 (t9 + 1))), []⟩, ⟨.d (.int .i64 (IntKind.wrap .i64 (t9 + 1))), []⟩] <| Rd ?_
   obtain rfl := Option.some.inj h
   exact ⟨rfl, ((((v_901_3 + 1) + 1) + 1) + 1), (Canon.nil (by kernel_rfl))⟩
 | false =>
  replace h := ite_f hb_1 h
  refine Cf <| Runs.exit <| kS_exit ?_
  obtain rfl := Option.some.inj h
  exact ⟨nofun, rfl, v_901_3, (Canon.nil (by kernel_rfl))⟩
theorem pubs_Communal_ok (l_ : (List Ext)) (r : Record) (h : pubs_Communal l_ = some r) : Runs L F12.body ⟨tmOf [.d (.sl (List.map Ext.d l_))] 0, updW (fun _ => none) []⟩ (pubs_Communal_Q l_ r) := by
 unfold pubs_Communal at h
 refine Sq <| Ro <| Rc 1 [⟨.ptr [2] 0 0, [([2], some (.cells [.d (.int .u8 0), .nils] 0))]⟩] <| Rd <| kS_nrm <| Sq <| Ro <| Rc 3 [⟨.mix [.d (.int .u8 176), .nils], []⟩, ⟨.ptr [3] 0 0, [([3], some (.cells [.d (.int .u8 0), .nils] 0))]⟩, ⟨.tup [], [([3], some (.cells [.d (.int .u8 176), .nils] 0))]⟩] <| Rd <| kS_nrm <| Runs.canon (pubs_Communal_h4 ({ Kind := 176, Body := ([] : List Int) } : Record) 0 l_ 0) (Canon.cons (ownB_nil (ver := 0) (v := 0) (cs := [.d (.int .u8 176), .nils]) (cs' := [.d (.int .u8 176), .ref [901, 3] 0 0 (List.map (D.int .u8) ([] : List Int)).length 1]) (D.int .u8) (by kernel_rfl) (by kernel_rfl) (by kernel_rfl) (by decide) (by kernel_rfl)) (Canon.nil (by kernel_rfl))) <| Sq <| Sq <| Ro <| Rc 1 [⟨.d (.sl (List.map Ext.d l_)), []⟩] <| Rt (some 8) .lenL [] none [.d (.sl (List.map Ext.d l_))] (.d (.int .i64 (l_.length : Int))) [] (cut_len _) <| Rc 1 [⟨.d (.int .i64 0), []⟩] <| Rd <| kS_nrm <| Runs.block ?_
 obtain ⟨e_1, he_1, h⟩ := bind_s h
 refine Runs.loop (fun x : (Record × Int) => pubs_Communal_l8 x.1 0 l_ (l_.length : Int) x.2) (fun (x : (Record × Int)) (g : Nat) => pubs_Communal_h8 x.1 0 l_ (l_.length : Int) x.2 g) (pubs_Communal_P8 l_ 0 l_ (l_.length : Int)) (fun x g r hr => pubs_Communal_l8_ok l_ x.1 0 l_ (l_.length : Int) x.2 g r hr) 0 he_1 (Canon.nil (by kernel_rfl)) ?_
 rintro ⟨o, s⟩ hp
 obtain ⟨ho, g_1, hk_1⟩ := hp
 have ho' : o = .exit 0 := ho
 subst ho'
 refine kB_hit <| kS_nrm <| Runs.canon _ hk_1 <| Sq <| Ro <| Rc 2 [⟨.mix [.d (.int .u8 e_1.Kind), .ref [901, 3] g_1 0 (List.map (D.int .u8) e_1.Body).length 1], []⟩, ⟨.tup [], [([2], some (.cells [.d (.int .u8 e_1.Kind), .ref [901, 3] g_1 0 (List.map (D.int .u8) e_1.Body).length 1] 0))]⟩] <| Rd <| kS_nrm <| Sq <| Runs.gcons (frzB_ref (e := (D.int .u8)) (l := e_1.Body) (id := [2]) (id' := [901, 3]) (v := g_1) (n := 1) (fz := false) (ver := 0) (cs := [.d (.int .u8 e_1.Kind), .ref [901, 3] g_1 0 (List.map (D.int .u8) e_1.Body).length 1]) (cs' := [.d (.int .u8 e_1.Kind), .d (.sl (List.map (D.int .u8) e_1.Body))]) (by kernel_rfl) (by kernel_rfl) (by kernel_rfl) (by decide) (by kernel_rfl) rfl) <| Runs.gnil <| kS_nrm <| Runs.ret ?_
 obtain rfl := Option.some.inj h
 exact ⟨Out.ret_ne, (by kernel_rfl)⟩
theorem pubs_Communal_L (l_ : (List Ext)) (r : Record) (h : pubs_Communal l_ = some r) : L 12 [.d (.sl (List.map Ext.d l_))] = some (.d (Record.d r), [.d (.sl (List.map Ext.d l_))]) := by
 obtain ⟨p, ⟨hne, hf⟩, hr⟩ := pubs_Communal_ok l_ r h
 obtain ⟨k, hk⟩ := run_of (F := F12) (args := [.d (.sl (List.map Ext.d l_))]) (ap := [.d (.sl (List.map Ext.d l_))]) (bx0 := updW (fun _ => none) []) rfl rfl (by kernel_rfl) ⟨p, ⟨hne, hf⟩, hr⟩
 exact lim_run (k := k) rfl hk
def index_From_Q (b_ : (List Int)) (r : Source) (p : Out × St) : Prop := (∀ i, p.1 ≠ .exit i) ∧ finF F50 [.d (.sl (List.map (D.int .u8) b_))] p.2 = some (.ptr [.d (.sl (List.map (D.int .u8) r.b)), .d (.int .i64 r.e)], [.d (.sl (List.map (D.int .u8) b_))])
theorem index_From_ok (b_ : (List Int)) (r : Source) (h : index_From b_ = some r) : Runs L F50.body ⟨tmOf [.d (.sl (List.map (D.int .u8) b_))] 0, updW (fun _ => none) []⟩ (index_From_Q b_ r) := by
 unfold index_From at h
 refine Sq <| Ro <| Rc 1 [⟨.nilp, []⟩] <| Rd <| kS_nrm <| Sq <| Ro <| Rc 1 [⟨.d (.sl (List.map (D.int .u8) b_)), []⟩] ?_
 obtain ⟨z_1, hz_1, h⟩ := bind_s h
 refine Rt (some 4) (.append 1 1 false) [] none [.nils, .d (.sl (List.map (D.int .u8) b_))] (.ref [4] 0 0 (List.map (D.int .u8) z_1).length 1) [([4], some (.arr (List.map (D.int .u8) z_1) 0 false))] (cut_appN (e := (D.int .u8)) (ws := []) (ap_data _) (fun _ => rfl) hz_1 (by kernel_rfl)) <| Rc 3 [⟨.mix [.ref [4] 0 0 (List.map (D.int .u8) z_1).length 1, .d (.int .i64 0)], []⟩, ⟨.ptr [6] 0 0, [([6], some (.cells [.ref [4] 0 0 (List.map (D.int .u8) z_1).length 1, .d (.int .i64 0)] 0))]⟩, ⟨.ptr [6] 0 0, []⟩] <| Rd <| kS_nrm <| Sq <| Runs.gcons (frzB_ref (e := (D.int .u8)) (l := z_1) (id := [6]) (id' := [4]) (v := 0) (n := 1) (fz := false) (ver := 0) (cs := [.ref [4] 0 0 (List.map (D.int .u8) z_1).length 1, .d (.int .i64 0)]) (cs' := [.d (.sl (List.map (D.int .u8) z_1)), .d (.int .i64 0)]) (by kernel_rfl) (by kernel_rfl) (by kernel_rfl) (by decide) (by kernel_rfl) rfl) <| Runs.gnil <| kS_nrm <| Runs.ret ?_
 obtain rfl := Option.some.inj h
 exact ⟨Out.ret_ne, (by kernel_rfl)⟩
theorem index_From_L (b_ : (List Int)) (r : Source) (h : index_From b_ = some r) : L 50 [.d (.sl (List.map (D.int .u8) b_))] = some (.ptr [.d (.sl (List.map (D.int .u8) r.b)), .d (.int .i64 r.e)], [.d (.sl (List.map (D.int .u8) b_))]) := by
 obtain ⟨p, ⟨hne, hf⟩, hr⟩ := index_From_ok b_ r h
 obtain ⟨k, hk⟩ := run_of (F := F50) (args := [.d (.sl (List.map (D.int .u8) b_))]) (ap := [.d (.sl (List.map (D.int .u8) b_))]) (bx0 := updW (fun _ => none) []) rfl rfl (by kernel_rfl) ⟨p, ⟨hne, hf⟩, hr⟩
 exact lim_run (k := k) rfl hk
def index_Source_Left_Q (s_ : Source) (r : Int) (p : Out × St) : Prop := (∀ i, p.1 ≠ .exit i) ∧ finF F51 [.ptr [0] 0 0] p.2 = some (.d (.int .i64 r), [.ptr [.d (.sl (List.map (D.int .u8) s_.b)), .d (.int .i64 s_.e)]])
theorem index_Source_Left_ok (s_ : Source) (r : Int) (h : index_Source_Left s_ = some r) : Runs L F51.body ⟨tmOf [.ptr [0] 0 0] 0, updW (fun _ => none) [([0], some (.cells [.d (.sl (List.map (D.int .u8) s_.b)), .d (.int .i64 s_.e)] 0))]⟩ (index_Source_Left_Q s_ r) := by
 unfold index_Source_Left at h
 refine Sq <| Ro <| Rc 1 [⟨.d (.int .i64 0), []⟩] <| Rd <| kS_nrm <| Sq <| Sq <| Ro <| Rc 2 [⟨.ptr [0] 0 0, []⟩, ⟨.d (.bool false), []⟩] <| Rd <| kS_nrm <| Cf <| Runs.skip <| kS_nrm <| Sq <| Ro <| Rc 4 [⟨.ptr [0] 0 0, []⟩, ⟨.ptr [0] 0 0, []⟩, ⟨.ptr [0] 0 0, []⟩, ⟨.d (.sl (List.map (D.int .u8) s_.b)), []⟩] <| Rt (some 9) .lenL [] none [.d (.sl (List.map (D.int .u8) s_.b))] (.d (.int .i64 (s_.b.length : Int))) [] (cut_len _) <| Rc 1 [⟨.d (.int .i64 (s_.b.length : Int)), []⟩] <| Rd <| kS_nrm <| Runs.ret ?_
 obtain rfl := Option.some.inj h
 exact ⟨Out.ret_ne, (by kernel_rfl)⟩
theorem index_Source_Left_L (s_ : Source) (r : Int) (h : index_Source_Left s_ = some r) : L 51 [.ptr [.d (.sl (List.map (D.int .u8) s_.b)), .d (.int .i64 s_.e)]] = some (.d (.int .i64 r), [.ptr [.d (.sl (List.map (D.int .u8) s_.b)), .d (.int .i64 s_.e)]]) := by
 obtain ⟨p, ⟨hne, hf⟩, hr⟩ := index_Source_Left_ok s_ r h
 obtain ⟨k, hk⟩ := run_of (F := F51) (args := [.ptr [.d (.sl (List.map (D.int .u8) s_.b)), .d (.int .i64 s_.e)]]) (ap := [.ptr [0] 0 0]) (bx0 := updW (fun _ => none) [([0], some (.cells [.d (.sl (List.map (D.int .u8) s_.b)), .d (.int .i64 s_.e)] 0))]) rfl rfl (by kernel_rfl) ⟨p, ⟨hne, hf⟩, hr⟩
 exact lim_run (k := k) rfl hk
def index_Source_Wrong_Q (s_ : Source) (e_ : Int) (r : Source) (p : Out × St) : Prop := (∀ i, p.1 ≠ .exit i) ∧ finF F56 [.ptr [0] 0 0, .d (.int .i64 e_)] p.2 = some (.tup [], [.ptr [.d (.sl (List.map (D.int .u8) r.b)), .d (.int .i64 r.e)], .d (.int .i64 e_)])
theorem index_Source_Wrong_ok (s_ : Source) (e_ : Int) (r : Source) (h : index_Source_Wrong s_ e_ = some r) : Runs L F56.body ⟨tmOf [.ptr [0] 0 0, .d (.int .i64 e_)] 0, updW (fun _ => none) [([0], some (.cells [.d (.sl (List.map (D.int .u8) s_.b)), .d (.int .i64 s_.e)] 0))]⟩ (index_Source_Wrong_Q s_ e_ r) := by
 unfold index_Source_Wrong at h
 refine Sq <| Sq <| Ro <| Rc 10 [⟨.ptr [0] 0 0, []⟩, ⟨.d (.bool true), []⟩, ⟨.d (.bool true), []⟩, ⟨.ptr [0] 0 0, []⟩, ⟨.ptr [0] 0 0, []⟩, ⟨.ptr [0] 0 1, []⟩, ⟨.d (.int .i64 s_.e), []⟩, ⟨.d (.bool (s_.e == 0)), []⟩, ⟨.d (.bool (s_.e == 0)), []⟩, ⟨.d (.bool (s_.e == 0)), []⟩] ?_
 cases hb_1 : ((s_.e == 0) : Bool) with
 | true =>
  replace h := ite_t hb_1 h
  refine Rc 3 [⟨.d (.int .i64 e_), []⟩, ⟨.d (.bool (e_ != 0)), []⟩, ⟨.d (.bool (e_ != 0)), []⟩] <| Rd <| kS_nrm ?_
  cases hb_2 : ((e_ != 0) : Bool) with
  | true =>
   replace h := ite_t hb_2 h
   refine Ct <| Ro <| Rc 9 [⟨.ptr [0] 0 0, []⟩, ⟨.ptr [0] 0 0, []⟩, ⟨.d (.int .i64 e_), []⟩, ⟨.ptr [0] 0 0, []⟩, ⟨.ptr [0] 0 1, []⟩, ⟨.tup [], [([0], some (.cells [.d (.sl (List.map (D.int .u8) s_.b)), .d (.int .i64 e_)] 0))]⟩, ⟨.ptr [0] 0 0, []⟩, ⟨.ptr [0] 0 0, []⟩, ⟨.tup [], [([0], some (.cells [.nils, .d (.int .i64 e_)] 0))]⟩] <| Rd <| kS_nrm <| Runs.gcons (frzB_nil (ver := 0) (cs := [.nils, .d (.int .i64 e_)]) (cs' := [.d (.sl (List.map (D.int .u8) ([] : List Int))), .d (.int .i64 e_)]) (D.int .u8) (by kernel_rfl) (by kernel_rfl) (by kernel_rfl)) <| Runs.gnil ?_
   obtain rfl := Option.some.inj h
   exact ⟨Out.nrm_ne, (by kernel_rfl)⟩
  | false =>
   replace h := ite_f hb_2 h
   refine Cf <| Runs.skip <| kS_nrm <| Runs.gsame (by kernel_rfl) <| Runs.gnil ?_
   obtain rfl := Option.some.inj h
   exact ⟨Out.nrm_ne, (by kernel_rfl)⟩
 | false =>
  replace h := ite_f hb_1 h
  refine Rc 3 [⟨.tup [], []⟩, ⟨.tup [], []⟩, ⟨.d (.bool false), []⟩] <| Rd <| kS_nrm <| Cf <| Runs.skip <| kS_nrm <| Runs.gsame (by kernel_rfl) <| Runs.gnil ?_
  obtain rfl := Option.some.inj h
  exact ⟨Out.nrm_ne, (by kernel_rfl)⟩
theorem index_Source_Wrong_L (s_ : Source) (e_ : Int) (r : Source) (h : index_Source_Wrong s_ e_ = some r) : L 56 [.ptr [.d (.sl (List.map (D.int .u8) s_.b)), .d (.int .i64 s_.e)], .d (.int .i64 e_)] = some (.tup [], [.ptr [.d (.sl (List.map (D.int .u8) r.b)), .d (.int .i64 r.e)], .d (.int .i64 e_)]) := by
 obtain ⟨p, ⟨hne, hf⟩, hr⟩ := index_Source_Wrong_ok s_ e_ r h
 obtain ⟨k, hk⟩ := run_of (F := F56) (args := [.ptr [.d (.sl (List.map (D.int .u8) s_.b)), .d (.int .i64 s_.e)], .d (.int .i64 e_)]) (ap := [.ptr [0] 0 0, .d (.int .i64 e_)]) (bx0 := updW (fun _ => none) [([0], some (.cells [.d (.sl (List.map (D.int .u8) s_.b)), .d (.int .i64 s_.e)] 0))]) rfl rfl (by kernel_rfl) ⟨p, ⟨hne, hf⟩, hr⟩
 exact lim_run (k := k) rfl hk
def index_Source_Take_Q (s_ : Source) (n_ : Int) (r : ((List Int) × Source)) (p : Out × St) : Prop := (∀ i, p.1 ≠ .exit i) ∧ finF F99 [.ptr [0] 0 0, .d (.int .i64 n_)] p.2 = some (.d (.sl (List.map (D.int .u8) r.1)), [.ptr [.d (.sl (List.map (D.int .u8) r.2.b)), .d (.int .i64 r.2.e)], .d (.int .i64 n_)])
theorem index_Source_Take_ok (s_ : Source) (n_ : Int) (r : ((List Int) × Source)) (h : index_Source_Take s_ n_ = some r) : Runs L F99.body ⟨tmOf [.ptr [0] 0 0, .d (.int .i64 n_)] 0, updW (fun _ => none) [([0], some (.cells [.d (.sl (List.map (D.int .u8) s_.b)), .d (.int .i64 s_.e)] 0))]⟩ (index_Source_Take_Q s_ n_ r) := by
 unfold index_Source_Take at h
 refine Sq <| Ro <| Rc 1 [⟨.nils, []⟩] <| Rd <| kS_nrm <| Sq <| Sq <| Ro <| Rc 2 [⟨.ptr [0] 0 0, []⟩, ⟨.d (.bool false), []⟩] <| Rd <| kS_nrm <| Cf <| Runs.skip <| kS_nrm <| Sq <| Sq <| Ro <| Rc 3 [⟨.d (.int .i64 n_), []⟩, ⟨.d (.bool (decide (n_ < 0))), []⟩, ⟨.d (.bool (decide (n_ < 0))), []⟩] ?_
 cases hb_1 : ((decide (n_ < 0)) : Bool) with
 | true =>
  replace h := ite_t hb_1 h
  refine Rc 8 [⟨.tup [], []⟩, ⟨.tup [], []⟩, ⟨.tup [], []⟩, ⟨.tup [], []⟩, ⟨.tup [], []⟩, ⟨.tup [], []⟩, ⟨.tup [], []⟩, ⟨.d (.bool true), []⟩] <| Rd <| kS_nrm <| Ct <| Sq <| Ro <| Rc 1 [⟨.ptr [0] 0 0, []⟩] ?_
  obtain ⟨r_1, hr_1, h⟩ := bind_s h
  have hc_1 := index_Source_Wrong_L s_ 2 r_1 hr_1
  refine Rt (some 20) (.callf 56) [] none [.ptr [0] 0 0, .d (.int .i64 2)] (.tup []) [([0], some (.cells [.d (.sl (List.map (D.int .u8) r_1.b)), .d (.int .i64 r_1.e)] 0))] (cut_call (call_of (ws := []) (us := [([0], some (.cells [.d (.sl (List.map (D.int .u8) r_1.b)), .d (.int .i64 r_1.e)] 0))]) (by kernel_rfl) (by kernel_rfl) hc_1 (by kernel_rfl) (by kernel_rfl))) <| Rd <| kS_nrm <| Sq <| Ro <| Rc 1 [⟨.nils, []⟩] <| Rd <| kS_nrm <| Sq <| Runs.gcons (frz_nil (D.int .u8) (by kernel_rfl)) <| Runs.gnil <| kS_nrm <| Runs.ret <| kS_ret ?_
  obtain rfl := Option.some.inj h
  exact ⟨Out.ret_ne, (by kernel_rfl)⟩
 | false =>
  replace h := ite_f hb_1 h
  refine Rc 5 [⟨.d (.int .i64 n_), []⟩, ⟨.ptr [0] 0 0, []⟩, ⟨.ptr [0] 0 0, []⟩, ⟨.ptr [0] 0 0, []⟩, ⟨.d (.sl (List.map (D.int .u8) s_.b)), []⟩] <| Rt (some 16) .lenL [] none [.d (.sl (List.map (D.int .u8) s_.b))] (.d (.int .i64 (s_.b.length : Int))) [] (cut_len _) <| Rc 2 [⟨.d (.bool (decide (n_ > (s_.b.length : Int)))), []⟩, ⟨.d (.bool (decide (n_ > (s_.b.length : Int)))), []⟩] <| Rd <| kS_nrm ?_
  cases hb_2 : ((decide (n_ > (s_.b.length : Int))) : Bool) with
  | true =>
   replace h := ite_t hb_2 h
   refine Ct <| Sq <| Ro <| Rc 1 [⟨.ptr [0] 0 0, []⟩] ?_
   obtain ⟨r_2, hr_2, h⟩ := bind_s h
   have hc_2 := index_Source_Wrong_L s_ 2 r_2 hr_2
   refine Rt (some 20) (.callf 56) [] none [.ptr [0] 0 0, .d (.int .i64 2)] (.tup []) [([0], some (.cells [.d (.sl (List.map (D.int .u8) r_2.b)), .d (.int .i64 r_2.e)] 0))] (cut_call (call_of (ws := []) (us := [([0], some (.cells [.d (.sl (List.map (D.int .u8) r_2.b)), .d (.int .i64 r_2.e)] 0))]) (by kernel_rfl) (by kernel_rfl) hc_2 (by kernel_rfl) (by kernel_rfl))) <| Rd <| kS_nrm <| Sq <| Ro <| Rc 1 [⟨.nils, []⟩] <| Rd <| kS_nrm <| Sq <| Runs.gcons (frz_nil (D.int .u8) (by kernel_rfl)) <| Runs.gnil <| kS_nrm <| Runs.ret <| kS_ret ?_
   obtain rfl := Option.some.inj h
   exact ⟨Out.ret_ne, (by kernel_rfl)⟩
  | false =>
   replace h := ite_f hb_2 h
   refine Cf <| Runs.skip <| kS_nrm <| Sq <| Ro <| Rc 6 [⟨.ptr [0] 0 0, []⟩, ⟨.ptr [0] 0 0, []⟩, ⟨.ptr [0] 0 0, []⟩, ⟨.d (.sl (List.map (D.int .u8) s_.b)), []⟩, ⟨.d (.int .i64 n_), []⟩, ⟨.d (.int .i64 n_), []⟩] ?_
   obtain ⟨z_1, hz_1, h⟩ := bind_s h
   refine Rt (some 27) (.subsl 1 false true true) [] none [.d (.sl (List.map (D.int .u8) s_.b)), .d (.int .i64 n_), .d (.int .i64 n_)] (.d (.sl (List.map (D.int .u8) z_1))) [] (cut_slFTT hz_1 (fun _ => rfl)) <| Rc 1 [⟨.d (.sl (List.map (D.int .u8) z_1)), []⟩] <| Rd <| kS_nrm <| Sq <| Ro <| Rc 6 [⟨.ptr [0] 0 0, []⟩, ⟨.ptr [0] 0 0, []⟩, ⟨.ptr [0] 0 0, []⟩, ⟨.ptr [0] 0 0, []⟩, ⟨.d (.sl (List.map (D.int .u8) s_.b)), []⟩, ⟨.d (.int .i64 n_), []⟩] ?_
   obtain ⟨z_2, hz_2, h⟩ := bind_s h
   refine Rt (some 34) (.subsl 1 true false false) [] none [.d (.sl (List.map (D.int .u8) s_.b)), .d (.int .i64 n_)] (.d (.sl (List.map (D.int .u8) z_2))) [] (cut_slTF hz_2 (fun _ => rfl)) <| Rc 3 [⟨.ptr [0] 0 0, []⟩, ⟨.ptr [0] 0 0, []⟩, ⟨.tup [], [([0], some (.cells [.d (.sl (List.map (D.int .u8) z_2)), .d (.int .i64 s_.e)] 0))]⟩] <| Rd <| kS_nrm <| Sq <| Ro <| Rc 2 [⟨.d (.sl (List.map (D.int .u8) z_1)), []⟩, ⟨.d (.sl (List.map (D.int .u8) z_1)), []⟩] <| Rd <| kS_nrm <| Runs.ret ?_
   obtain rfl := Option.some.inj h
   exact ⟨Out.ret_ne, (by kernel_rfl)⟩
theorem index_Source_Take_L (s_ : Source) (n_ : Int) (r : ((List Int) × Source)) (h : index_Source_Take s_ n_ = some r) : L 99 [.ptr [.d (.sl (List.map (D.int .u8) s_.b)), .d (.int .i64 s_.e)], .d (.int .i64 n_)] = some (.d (.sl (List.map (D.int .u8) r.1)), [.ptr [.d (.sl (List.map (D.int .u8) r.2.b)), .d (.int .i64 r.2.e)], .d (.int .i64 n_)]) := by
 obtain ⟨p, ⟨hne, hf⟩, hr⟩ := index_Source_Take_ok s_ n_ r h
 obtain ⟨k, hk⟩ := run_of (F := F99) (args := [.ptr [.d (.sl (List.map (D.int .u8) s_.b)), .d (.int .i64 s_.e)], .d (.int .i64 n_)]) (ap := [.ptr [0] 0 0, .d (.int .i64 n_)]) (bx0 := updW (fun _ => none) [([0], some (.cells [.d (.sl (List.map (D.int .u8) s_.b)), .d (.int .i64 s_.e)] 0))]) rfl rfl (by kernel_rfl) ⟨p, ⟨hne, hf⟩, hr⟩
 exact lim_run (k := k) rfl hk
def index_Source_Byte_Q (s_ : Source) (r : (Int × Source)) (p : Out × St) : Prop := (∀ i, p.1 ≠ .exit i) ∧ finF F54 [.ptr [0] 0 0] p.2 = some (.d (.int .u8 r.1), [.ptr [.d (.sl (List.map (D.int .u8) r.2.b)), .d (.int .i64 r.2.e)]])
theorem index_Source_Byte_ok (s_ : Source) (r : (Int × Source)) (h : index_Source_Byte s_ = some r) : Runs L F54.body ⟨tmOf [.ptr [0] 0 0] 0, updW (fun _ => none) [([0], some (.cells [.d (.sl (List.map (D.int .u8) s_.b)), .d (.int .i64 s_.e)] 0))]⟩ (index_Source_Byte_Q s_ r) := by
 unfold index_Source_Byte at h
 refine Sq <| Ro <| Rc 1 [⟨.d (.int .u8 0), []⟩] <| Rd <| kS_nrm <| Sq <| Sq <| Ro <| Rc 1 [⟨.ptr [0] 0 0, []⟩] ?_
 obtain ⟨r_1, hr_1, h⟩ := bind_s h
 have hc_1 := index_Source_Take_L s_ 1 r_1 hr_1
 refine Rt (some 5) (.callf 99) [] none [.ptr [0] 0 0, .d (.int .i64 1)] (.d (.sl (List.map (D.int .u8) r_1.1))) [([0], some (.cells [.d (.sl (List.map (D.int .u8) r_1.2.b)), .d (.int .i64 r_1.2.e)] 0))] (cut_call (call_of (ws := []) (us := [([0], some (.cells [.d (.sl (List.map (D.int .u8) r_1.2.b)), .d (.int .i64 r_1.2.e)] 0))]) (by kernel_rfl) (by kernel_rfl) hc_1 (by kernel_rfl) (by kernel_rfl))) <| Rc 1 [⟨.d (.sl (List.map (D.int .u8) r_1.1)), []⟩] <| Rd <| kS_nrm <| Sq <| Ro <| Rc 1 [⟨.d (.sl (List.map (D.int .u8) r_1.1)), []⟩] <| Rt (some 7) .lenL [] none [.d (.sl (List.map (D.int .u8) r_1.1))] (.d (.int .i64 (r_1.1.length : Int))) [] (cut_len _) <| Rc 1 [⟨.d (.bool ((r_1.1.length : Int) == 1)), []⟩] <| Rd <| kS_nrm ?_
 cases hb_1 : (((r_1.1.length : Int) == 1) : Bool) with
 | true =>
  replace h := ite_t hb_1 h
  refine Ct <| Sq <| Ro <| Rc 1 [⟨.d (.sl (List.map (D.int .u8) r_1.1)), []⟩] ?_
  obtain ⟨z_1, hz_1, h⟩ := bind_s h
  refine Rt (some 10) (.iaddrS 1) [] none [.d (.sl (List.map (D.int .u8) r_1.1)), .d (.int .i64 0)] (.elt (.int .u8 z_1) 0) [] (cut_at hz_1 (fun _ => rfl)) <| Rc 2 [⟨.d (.int .u8 z_1), []⟩, ⟨.d (.int .u8 z_1), []⟩] <| Rd <| kS_nrm <| Runs.ret <| kS_ret ?_
  obtain rfl := Option.some.inj h
  exact ⟨Out.ret_ne, (by kernel_rfl)⟩
 | false =>
  replace h := ite_f hb_1 h
  refine Cf <| Runs.skip <| kS_nrm <| Sq <| Ro <| Rc 1 [⟨.d (.int .u8 0), []⟩] <| Rd <| kS_nrm <| Runs.ret ?_
  obtain rfl := Option.some.inj h
  exact ⟨Out.ret_ne, (by kernel_rfl)⟩
theorem index_Source_Byte_L (s_ : Source) (r : (Int × Source)) (h : index_Source_Byte s_ = some r) : L 54 [.ptr [.d (.sl (List.map (D.int .u8) s_.b)), .d (.int .i64 s_.e)]] = some (.d (.int .u8 r.1), [.ptr [.d (.sl (List.map (D.int .u8) r.2.b)), .d (.int .i64 r.2.e)]]) := by
 obtain ⟨p, ⟨hne, hf⟩, hr⟩ := index_Source_Byte_ok s_ r h
 obtain ⟨k, hk⟩ := run_of (F := F54) (args := [.ptr [.d (.sl (List.map (D.int .u8) s_.b)), .d (.int .i64 s_.e)]]) (ap := [.ptr [0] 0 0]) (bx0 := updW (fun _ => none) [([0], some (.cells [.d (.sl (List.map (D.int .u8) s_.b)), .d (.int .i64 s_.e)] 0))]) rfl rfl (by kernel_rfl) ⟨p, ⟨hne, hf⟩, hr⟩
 exact lim_run (k := k) rfl hk
def index_Source_Name_Q (s_ : Source) (r : ((List UInt8) × Source)) (p : Out × St) : Prop := (∀ i, p.1 ≠ .exit i) ∧ finF F52 [.ptr [0] 0 0] p.2 = some (.d (.str r.1), [.ptr [.d (.sl (List.map (D.int .u8) r.2.b)), .d (.int .i64 r.2.e)]])
theorem index_Source_Name_ok (s_ : Source) (r : ((List UInt8) × Source)) (h : index_Source_Name s_ = some r) : Runs L F52.body ⟨tmOf [.ptr [0] 0 0] 0, updW (fun _ => none) [([0], some (.cells [.d (.sl (List.map (D.int .u8) s_.b)), .d (.int .i64 s_.e)] 0))]⟩ (index_Source_Name_Q s_ r) := by
 unfold index_Source_Name at h
 refine Sq <| Ro <| Rc 1 [⟨.d (.str ([] : List UInt8)), []⟩] <| Rd <| kS_nrm <| Sq <| Ro <| Rc 2 [⟨.ptr [0] 0 0, []⟩, ⟨.ptr [0] 0 0, []⟩] ?_
 obtain ⟨r_1, hr_1, h⟩ := bind_s h
 have hc_1 := index_Source_Byte_L s_ r_1 hr_1
 refine Rt (some 5) (.callf 54) [] none [.ptr [0] 0 0] (.d (.int .u8 r_1.1)) [([0], some (.cells [.d (.sl (List.map (D.int .u8) r_1.2.b)), .d (.int .i64 r_1.2.e)] 0))] (cut_call (call_of (ws := []) (us := [([0], some (.cells [.d (.sl (List.map (D.int .u8) r_1.2.b)), .d (.int .i64 r_1.2.e)] 0))]) (by kernel_rfl) (by kernel_rfl) hc_1 (by kernel_rfl) (by kernel_rfl))) <| Rc 1 [⟨.d (.int .i64 (IntKind.wrap .i64 r_1.1)), []⟩] ?_
 obtain ⟨r_2, hr_2, h⟩ := bind_s h
 have hc_2 := index_Source_Take_L r_1.2 (IntKind.wrap .i64 r_1.1) r_2 hr_2
 refine Rt (some 7) (.callf 99) [] none [.ptr [0] 0 0, .d (.int .i64 (IntKind.wrap .i64 r_1.1))] (.d (.sl (List.map (D.int .u8) r_2.1))) [([0], some (.cells [.d (.sl (List.map (D.int .u8) r_2.2.b)), .d (.int .i64 r_2.2.e)] 0))] (cut_call (call_of (ws := []) (us := [([0], some (.cells [.d (.sl (List.map (D.int .u8) r_2.2.b)), .d (.int .i64 r_2.2.e)] 0))]) (by kernel_rfl) (by kernel_rfl) hc_2 (by kernel_rfl) (by kernel_rfl))) <| Rt (some 8) .bytesStr [] none [.d (.sl (List.map (D.int .u8) r_2.1))] (.d (.str (b2s r_2.1))) [] (cut_bs _) <| Rc 1 [⟨.d (.str (b2s r_2.1)), []⟩] <| Rd <| kS_nrm <| Runs.ret ?_
 obtain rfl := Option.some.inj h
 exact ⟨Out.ret_ne, (by kernel_rfl)⟩
theorem index_Source_Name_L (s_ : Source) (r : ((List UInt8) × Source)) (h : index_Source_Name s_ = some r) : L 52 [.ptr [.d (.sl (List.map (D.int .u8) s_.b)), .d (.int .i64 s_.e)]] = some (.d (.str r.1), [.ptr [.d (.sl (List.map (D.int .u8) r.2.b)), .d (.int .i64 r.2.e)]]) := by
 obtain ⟨p, ⟨hne, hf⟩, hr⟩ := index_Source_Name_ok s_ r h
 obtain ⟨k, hk⟩ := run_of (F := F52) (args := [.ptr [.d (.sl (List.map (D.int .u8) s_.b)), .d (.int .i64 s_.e)]]) (ap := [.ptr [0] 0 0]) (bx0 := updW (fun _ => none) [([0], some (.cells [.d (.sl (List.map (D.int .u8) s_.b)), .d (.int .i64 s_.e)] 0))]) rfl rfl (by kernel_rfl) ⟨p, ⟨hne, hf⟩, hr⟩
 exact lim_run (k := k) rfl hk
def index_Source_Err_Q (s_ : Source) (r : Int) (p : Out × St) : Prop := (∀ i, p.1 ≠ .exit i) ∧ finF F57 [.ptr [0] 0 0] p.2 = some (.d (.int .i64 r), [.ptr [.d (.sl (List.map (D.int .u8) s_.b)), .d (.int .i64 s_.e)]])
theorem index_Source_Err_ok (s_ : Source) (r : Int) (h : index_Source_Err s_ = some r) : Runs L F57.body ⟨tmOf [.ptr [0] 0 0] 0, updW (fun _ => none) [([0], some (.cells [.d (.sl (List.map (D.int .u8) s_.b)), .d (.int .i64 s_.e)] 0))]⟩ (index_Source_Err_Q s_ r) := by
 unfold index_Source_Err at h
 refine Sq <| Ro <| Rc 1 [⟨.d (.int .i64 0), []⟩] <| Rd <| kS_nrm <| Sq <| Sq <| Ro <| Rc 2 [⟨.ptr [0] 0 0, []⟩, ⟨.d (.bool false), []⟩] <| Rd <| kS_nrm <| Cf <| Runs.skip <| kS_nrm <| Sq <| Ro <| Rc 5 [⟨.ptr [0] 0 0, []⟩, ⟨.ptr [0] 0 0, []⟩, ⟨.ptr [0] 0 1, []⟩, ⟨.d (.int .i64 s_.e), []⟩, ⟨.d (.int .i64 s_.e), []⟩] <| Rd <| kS_nrm <| Runs.ret ?_
 obtain rfl := Option.some.inj h
 exact ⟨Out.ret_ne, (by kernel_rfl)⟩
theorem index_Source_Err_L (s_ : Source) (r : Int) (h : index_Source_Err s_ = some r) : L 57 [.ptr [.d (.sl (List.map (D.int .u8) s_.b)), .d (.int .i64 s_.e)]] = some (.d (.int .i64 r), [.ptr [.d (.sl (List.map (D.int .u8) s_.b)), .d (.int .i64 s_.e)]]) := by
 obtain ⟨p, ⟨hne, hf⟩, hr⟩ := index_Source_Err_ok s_ r h
 obtain ⟨k, hk⟩ := run_of (F := F57) (args := [.ptr [.d (.sl (List.map (D.int .u8) s_.b)), .d (.int .i64 s_.e)]]) (ap := [.ptr [0] 0 0]) (bx0 := updW (fun _ => none) [([0], some (.cells [.d (.sl (List.map (D.int .u8) s_.b)), .d (.int .i64 s_.e)] 0))]) rfl rfl (by kernel_rfl) ⟨p, ⟨hne, hf⟩, hr⟩
 exact lim_run (k := k) rfl hk
def index_Source_Index_Q (s_ : Source) (r : (Int × Source)) (p : Out × St) : Prop := (∀ i, p.1 ≠ .exit i) ∧ finF F53 [.ptr [0] 0 0] p.2 = some (.d (.int .i64 r.1), [.ptr [.d (.sl (List.map (D.int .u8) r.2.b)), .d (.int .i64 r.2.e)]])
theorem index_Source_Index_ok (s_ : Source) (r : (Int × Source)) (h : index_Source_Index s_ = some r) : Runs L F53.body ⟨tmOf [.ptr [0] 0 0] 0, updW (fun _ => none) [([0], some (.cells [.d (.sl (List.map (D.int .u8) s_.b)), .d (.int .i64 s_.e)] 0))]⟩ (index_Source_Index_Q s_ r) := by
 unfold index_Source_Index at h
 refine Sq <| Ro <| Rc 1 [⟨.d (.int .i64 0), []⟩] <| Rd <| kS_nrm <| Sq <| Ro <| Rc 1 [⟨.ptr [0] 0 0, []⟩] ?_
 obtain ⟨r_1, hr_1, h⟩ := bind_s h
 have hc_1 := index_Source_Byte_L s_ r_1 hr_1
 refine Rt (some 6) (.callf 54) [] none [.ptr [0] 0 0] (.d (.int .u8 r_1.1)) [([0], some (.cells [.d (.sl (List.map (D.int .u8) r_1.2.b)), .d (.int .i64 r_1.2.e)] 0))] (cut_call (call_of (ws := []) (us := [([0], some (.cells [.d (.sl (List.map (D.int .u8) r_1.2.b)), .d (.int .i64 r_1.2.e)] 0))]) (by kernel_rfl) (by kernel_rfl) hc_1 (by kernel_rfl) (by kernel_rfl))) <| Rc 2 [⟨.d (.int .i64 (IntKind.wrap .i64 r_1.1)), []⟩, ⟨.d (.int .i64 (IntKind.wrap .i64 r_1.1)), []⟩] <| Rd <| kS_nrm <| Sq <| Sq <| Ro <| Rc 2 [⟨.d (.int .i64 (IntKind.wrap .i64 r_1.1)), []⟩, ⟨.d (.bool (decide ((IntKind.wrap .i64 r_1.1) < 128))), []⟩] <| Rd <| kS_nrm ?_
 cases hb_1 : ((decide ((IntKind.wrap .i64 r_1.1) < 128)) : Bool) with
 | true =>
  replace h := ite_t hb_1 h
  refine Ct <| Sq <| Ro <| Rc 2 [⟨.d (.int .i64 (IntKind.wrap .i64 r_1.1)), []⟩, ⟨.d (.int .i64 (IntKind.wrap .i64 r_1.1)), []⟩] <| Rd <| kS_nrm <| Runs.ret <| kS_ret ?_
  obtain rfl := Option.some.inj h
  exact ⟨Out.ret_ne, (by kernel_rfl)⟩
 | false =>
  replace h := ite_f hb_1 h
  refine Cf <| Runs.skip <| kS_nrm <| Sq <| Ro <| Rc 4 [⟨.d (.int .i64 (IntKind.wrap .i64 r_1.1)), []⟩, ⟨.d (.int .i64 (bitsOp .and .i64 (IntKind.wrap .i64 r_1.1) 127)), []⟩, ⟨.d (.int .i64 (shlI .i64 (bitsOp .and .i64 (IntKind.wrap .i64 r_1.1) 127) 8)), []⟩, ⟨.ptr [0] 0 0, []⟩] ?_
  obtain ⟨r_2, hr_2, h⟩ := bind_s h
  have hc_2 := index_Source_Byte_L r_1.2 r_2 hr_2
  refine Rt (some 15) (.callf 54) [] none [.ptr [0] 0 0] (.d (.int .u8 r_2.1)) [([0], some (.cells [.d (.sl (List.map (D.int .u8) r_2.2.b)), .d (.int .i64 r_2.2.e)] 0))] (cut_call (call_of (ws := []) (us := [([0], some (.cells [.d (.sl (List.map (D.int .u8) r_2.2.b)), .d (.int .i64 r_2.2.e)] 0))]) (by kernel_rfl) (by kernel_rfl) hc_2 (by kernel_rfl) (by kernel_rfl))) <| Rc 3 [⟨.d (.int .i64 (IntKind.wrap .i64 r_2.1)), []⟩, ⟨.d (.int .i64 (bitsOp .or .i64 (shlI .i64 (bitsOp .and .i64 (IntKind.wrap .i64 r_1.1) 127) 8) (IntKind.wrap .i64 r_2.1))), []⟩, ⟨.d (.int .i64 (bitsOp .or .i64 (shlI .i64 (bitsOp .and .i64 (IntKind.wrap .i64 r_1.1) 127) 8) (IntKind.wrap .i64 r_2.1))), []⟩] <| Rd <| kS_nrm <| Sq <| Sq <| Ro <| Rc 1 [⟨.ptr [0] 0 0, []⟩] ?_
  obtain ⟨r_3, hr_3, h⟩ := bind_s h
  have hc_3 := index_Source_Err_L r_2.2 r_3 hr_3
  refine Rt (some 19) (.callf 57) [] none [.ptr [0] 0 0] (.d (.int .i64 r_3)) [([0], some (.cells [.d (.sl (List.map (D.int .u8) r_2.2.b)), .d (.int .i64 r_2.2.e)] 0))] (cut_call (call_of (ws := []) (us := [([0], some (.cells [.d (.sl (List.map (D.int .u8) r_2.2.b)), .d (.int .i64 r_2.2.e)] 0))]) (by kernel_rfl) (by kernel_rfl) hc_3 (by kernel_rfl) (by kernel_rfl))) <| Rc 1 [⟨.d (.bool (r_3 != 0)), []⟩] <| Rd <| kS_nrm ?_
  cases hb_2 : ((r_3 != 0) : Bool) with
  | true =>
   replace h := ite_t hb_2 h
   refine Ct <| Sq <| Ro <| Rc 1 [⟨.d (.int .i64 0), []⟩] <| Rd <| kS_nrm <| Runs.ret <| kS_ret ?_
   obtain rfl := Option.some.inj h
   exact ⟨Out.ret_ne, (by kernel_rfl)⟩
  | false =>
   replace h := ite_f hb_2 h
   refine Cf <| Runs.skip <| kS_nrm <| Sq <| Ro <| Rc 2 [⟨.d (.int .i64 (bitsOp .or .i64 (shlI .i64 (bitsOp .and .i64 (IntKind.wrap .i64 r_1.1) 127) 8) (IntKind.wrap .i64 r_2.1))), []⟩, ⟨.d (.int .i64 (bitsOp .or .i64 (shlI .i64 (bitsOp .and .i64 (IntKind.wrap .i64 r_1.1) 127) 8) (IntKind.wrap .i64 r_2.1))), []⟩] <| Rd <| kS_nrm <| Runs.ret ?_
   obtain rfl := Option.some.inj h
   exact ⟨Out.ret_ne, (by kernel_rfl)⟩
theorem index_Source_Index_L (s_ : Source) (r : (Int × Source)) (h : index_Source_Index s_ = some r) : L 53 [.ptr [.d (.sl (List.map (D.int .u8) s_.b)), .d (.int .i64 s_.e)]] = some (.d (.int .i64 r.1), [.ptr [.d (.sl (List.map (D.int .u8) r.2.b)), .d (.int .i64 r.2.e)]]) := by
 obtain ⟨p, ⟨hne, hf⟩, hr⟩ := index_Source_Index_ok s_ r h
 obtain ⟨k, hk⟩ := run_of (F := F53) (args := [.ptr [.d (.sl (List.map (D.int .u8) s_.b)), .d (.int .i64 s_.e)]]) (ap := [.ptr [0] 0 0]) (bx0 := updW (fun _ => none) [([0], some (.cells [.d (.sl (List.map (D.int .u8) s_.b)), .d (.int .i64 s_.e)] 0))]) rfl rfl (by kernel_rfl) ⟨p, ⟨hne, hf⟩, hr⟩
 exact lim_run (k := k) rfl hk
def index_Source_Long_h29 (s0 : Source) (out5 : Int) (t26 : (List Int)) (t27 : Int) (t28 : Int) : St := ⟨tab [(5, .d (.int .u32 out5)), (26, .d (.sl (List.map (D.int .u8) t26))), (27, .d (.int .i64 t27)), (28, .d (.int .i64 t28))], tabB [([0], some (.cells [.d (.sl (List.map (D.int .u8) s0.b)), .d (.int .i64 s0.e)] 0))]⟩
def index_Source_Long_h42 (s0 : Source) (out5 : Int) : St := ⟨tab [(5, .d (.int .u32 out5))], tabB [([0], some (.cells [.d (.sl (List.map (D.int .u8) s0.b)), .d (.int .i64 s0.e)] 0))]⟩
def index_Source_Long_Q (s_ : Source) (r : (Int × Source)) (p : Out × St) : Prop := (∀ i, p.1 ≠ .exit i) ∧ finF F55 [.ptr [0] 0 0] p.2 = some (.d (.int .u32 r.1), [.ptr [.d (.sl (List.map (D.int .u8) r.2.b)), .d (.int .i64 r.2.e)]])
def index_Source_Long_P29 (s_ : Source) (s0 : Source) (t26 : (List Int)) (t27 : Int) (e : Int) (p : Out × St) : Prop := p.1 = .exit 1 ∧ ∃ g : Unit, Canon [] [5] [[0]] p.2 (index_Source_Long_h42 s0 e)
theorem index_Source_Long_l29_ok (s_ : Source) (s0 : Source) (out5 : Int) (t26 : (List Int)) (t27 : Int) (t28 : Int) (r : (Lp (Int × Int) Int)) (h : index_Source_Long_l29 s0 out5 t26 t27 t28 = some r) : Runs L F55l29 (index_Source_Long_h29 s0 out5 t26 t27 t28) (LQ [] [5, 26, 27, 28] [[0]] (fun (x : (Int × Int)) (g : Unit) => index_Source_Long_h29 s0 x.1 t26 t27 x.2) (index_Source_Long_P29 s_ s0 t26 t27) r) := by
 unfold index_Source_Long_l29 at h
 refine Sq <| Ro <| Rc 1 [⟨.d (.bool (decide (t28 < t27))), []⟩] <| Rd <| kS_nrm <| Sq ?_
 cases hb_3 : ((decide (t28 < t27)) : Bool) with
 | true =>
  replace h := ite_t hb_3 h
  refine Ct <| Runs.skip <| kS_nrm <| Sq <| Runs.block <| Sq <| Ro <| Rc 1 [⟨.d (.int .i64 t28), []⟩] ?_
  obtain ⟨z_1, hz_1, h⟩ := bind_s h
  refine Rt (some 31) (.iaddrS 1) [] none [.d (.sl (List.map (D.int .u8) t26)), .d (.int .i64 t28)] (.elt (.int .u8 z_1) 0) [] (cut_at hz_1 (fun _ => rfl)) <| Rc 3 [⟨.d (.int .u8 z_1), []⟩, ⟨.d (.int .i64 t28), []⟩, ⟨.d (.int .u8 z_1), []⟩] <| Rd <| kS_nrm <| Ro <| Rc 5 [⟨.d (.int .u32 out5), []⟩, ⟨.d (.int .u8 z_1), []⟩, ⟨.d (.int .u32 (IntKind.wrap .u32 z_1)), []⟩, ⟨.d (.int .i64 t28), []⟩, ⟨.d (.int .i64 (IntKind.wrap .i64 (8 * t28))), []⟩] ?_
  obtain ⟨z_2, hz_2, h⟩ := bind_s h
  refine Rt (some 38) (.bin .shl) [] none [.d (.int .u32 (IntKind.wrap .u32 z_1)), .d (.int .i64 (IntKind.wrap .i64 (8 * t28)))] (.d (.int .u32 z_2)) [] (cut_shl hz_2) <| Rc 2 [⟨.d (.int .u32 (bitsOp .or .u32 out5 z_2)), []⟩, ⟨.d (.int .u32 (bitsOp .or .u32 out5 z_2)), []⟩] <| Rd <| kB_nrm <| kS_nrm <| Ro <| Rc 2 [⟨.d (.int .i64 (IntKind.wrap .i64 (t28 + 1))), []⟩, ⟨.d (.int .i64 (IntKind.wrap .i64 (t28 + 1))), []⟩] <| Rd ?_
  obtain rfl := Option.some.inj h
  exact ⟨rfl, (), (Canon.nil (by kernel_rfl))⟩
 | false =>
  replace h := ite_f hb_3 h
  refine Cf <| Runs.exit <| kS_exit ?_
  obtain rfl := Option.some.inj h
  exact ⟨nofun, rfl, (), (Canon.nil (by kernel_rfl))⟩
theorem index_Source_Long_ok (s_ : Source) (r : (Int × Source)) (h : index_Source_Long s_ = some r) : Runs L F55.body ⟨tmOf [.ptr [0] 0 0] 0, updW (fun _ => none) [([0], some (.cells [.d (.sl (List.map (D.int .u8) s_.b)), .d (.int .i64 s_.e)] 0))]⟩ (index_Source_Long_Q s_ r) := by
 unfold index_Source_Long at h
 refine Sq <| Ro <| Rc 1 [⟨.d (.int .u32 0), []⟩] <| Rd <| kS_nrm <| Sq <| Ro <| Rc 1 [⟨.ptr [0] 0 0, []⟩] ?_
 obtain ⟨r_1, hr_1, h⟩ := bind_s h
 have hc_1 := index_Source_Byte_L s_ r_1 hr_1
 refine Rt (some 9) (.callf 54) [] none [.ptr [0] 0 0] (.d (.int .u8 r_1.1)) [([0], some (.cells [.d (.sl (List.map (D.int .u8) r_1.2.b)), .d (.int .i64 r_1.2.e)] 0))] (cut_call (call_of (ws := []) (us := [([0], some (.cells [.d (.sl (List.map (D.int .u8) r_1.2.b)), .d (.int .i64 r_1.2.e)] 0))]) (by kernel_rfl) (by kernel_rfl) hc_1 (by kernel_rfl) (by kernel_rfl))) <| Rc 1 [⟨.d (.int .u8 r_1.1), []⟩] <| Rd <| kS_nrm <| Sq <| Ro <| Rc 5 [⟨.top, []⟩, ⟨.top, []⟩, ⟨.d (.int .u8 r_1.1), []⟩, ⟨.d (.int .i64 (lkpI [(129, 2), (132, 3), (136, 4)] r_1.1)), []⟩, ⟨.d (.int .i64 (lkpI [(129, 2), (132, 3), (136, 4)] r_1.1)), []⟩] <| Rd <| kS_nrm <| Sq <| Runs.block <| Sq <| Ro <| Rc 3 [⟨.d (.int .u8 r_1.1), []⟩, ⟨.d (.bool (decide (r_1.1 ≤ 128))), []⟩, ⟨.d (.bool (decide (r_1.1 ≤ 128))), []⟩] <| Rd <| kS_nrm ?_
 cases hb_1 : ((decide (r_1.1 ≤ 128)) : Bool) with
 | true =>
  replace h := ite_t hb_1 h
  refine Ct <| Sq <| Ro <| Rc 3 [⟨.d (.int .u8 r_1.1), []⟩, ⟨.d (.int .u32 (IntKind.wrap .u32 r_1.1)), []⟩, ⟨.d (.int .u32 (IntKind.wrap .u32 r_1.1)), []⟩] <| Rd <| kS_nrm <| Runs.ret <| kB_ret <| kS_ret ?_
  obtain rfl := Option.some.inj h
  exact ⟨Out.ret_ne, (by kernel_rfl)⟩
 | false =>
  replace h := ite_f hb_1 h
  refine Cf <| Sq <| Ro <| Rc 3 [⟨.d (.int .i64 (lkpI [(129, 2), (132, 3), (136, 4)] r_1.1)), []⟩, ⟨.d (.bool ((lkpI [(129, 2), (132, 3), (136, 4)] r_1.1) == 0)), []⟩, ⟨.d (.bool ((lkpI [(129, 2), (132, 3), (136, 4)] r_1.1) == 0)), []⟩] <| Rd <| kS_nrm ?_
  cases hb_2 : (((lkpI [(129, 2), (132, 3), (136, 4)] r_1.1) == 0) : Bool) with
  | true =>
   replace h := ite_t hb_2 h
   refine Ct <| Sq <| Ro <| Rc 1 [⟨.ptr [0] 0 0, []⟩] ?_
   obtain ⟨r_2, hr_2, h⟩ := bind_s h
   have hc_2 := index_Source_Wrong_L r_1.2 3 r_2 hr_2
   refine Rt (some 23) (.callf 56) [] none [.ptr [0] 0 0, .d (.int .i64 3)] (.tup []) [([0], some (.cells [.d (.sl (List.map (D.int .u8) r_2.b)), .d (.int .i64 r_2.e)] 0))] (cut_call (call_of (ws := []) (us := [([0], some (.cells [.d (.sl (List.map (D.int .u8) r_2.b)), .d (.int .i64 r_2.e)] 0))]) (by kernel_rfl) (by kernel_rfl) hc_2 (by kernel_rfl) (by kernel_rfl))) <| Rd <| kS_nrm <| Sq <| Ro <| Rc 1 [⟨.d (.int .u32 0), []⟩] <| Rd <| kS_nrm <| Runs.ret <| kB_ret <| kS_ret ?_
   obtain rfl := Option.some.inj h
   exact ⟨Out.ret_ne, (by kernel_rfl)⟩
  | false =>
   replace h := ite_f hb_2 h
   refine Cf <| Runs.skip <| kB_nrm <| kS_nrm <| Sq <| Ro <| Rc 1 [⟨.d (.int .u32 0), []⟩] <| Rd <| kS_nrm <| Sq <| Sq <| Ro <| Rc 2 [⟨.ptr [0] 0 0, []⟩, ⟨.d (.int .i64 (lkpI [(129, 2), (132, 3), (136, 4)] r_1.1)), []⟩] ?_
   obtain ⟨r_3, hr_3, h⟩ := bind_s h
   have hc_3 := index_Source_Take_L r_1.2 (lkpI [(129, 2), (132, 3), (136, 4)] r_1.1) r_3 hr_3
   refine Rt (some 26) (.callf 99) [] none [.ptr [0] 0 0, .d (.int .i64 (lkpI [(129, 2), (132, 3), (136, 4)] r_1.1))] (.d (.sl (List.map (D.int .u8) r_3.1))) [([0], some (.cells [.d (.sl (List.map (D.int .u8) r_3.2.b)), .d (.int .i64 r_3.2.e)] 0))] (cut_call (call_of (ws := []) (us := [([0], some (.cells [.d (.sl (List.map (D.int .u8) r_3.2.b)), .d (.int .i64 r_3.2.e)] 0))]) (by kernel_rfl) (by kernel_rfl) hc_3 (by kernel_rfl) (by kernel_rfl))) <| Rt (some 27) .lenL [] none [.d (.sl (List.map (D.int .u8) r_3.1))] (.d (.int .i64 (r_3.1.length : Int))) [] (cut_len _) <| Rc 1 [⟨.d (.int .i64 0), []⟩] <| Rd <| kS_nrm <| Runs.block ?_
   obtain ⟨e_1, he_1, h⟩ := bind_s h
   refine Runs.loop (fun x : (Int × Int) => index_Source_Long_l29 r_3.2 x.1 r_3.1 (r_3.1.length : Int) x.2) (fun (x : (Int × Int)) (g : Unit) => index_Source_Long_h29 r_3.2 x.1 r_3.1 (r_3.1.length : Int) x.2) (index_Source_Long_P29 s_ r_3.2 r_3.1 (r_3.1.length : Int)) (fun x g r hr => index_Source_Long_l29_ok s_ r_3.2 x.1 r_3.1 (r_3.1.length : Int) x.2  r hr) () he_1 (Canon.nil (by kernel_rfl)) ?_
   rintro ⟨o, s⟩ hp
   obtain ⟨ho, g_1, hk_1⟩ := hp
   have ho' : o = .exit 1 := ho
   subst ho'
   refine kB_hit <| kS_nrm <| Runs.canon _ hk_1 <| Sq <| Ro <| Rc 2 [⟨.d (.int .u32 e_1), []⟩, ⟨.d (.int .u32 e_1), []⟩] <| Rd <| kS_nrm <| Runs.ret ?_
   obtain rfl := Option.some.inj h
   exact ⟨Out.ret_ne, (by kernel_rfl)⟩
theorem index_Source_Long_L (s_ : Source) (r : (Int × Source)) (h : index_Source_Long s_ = some r) : L 55 [.ptr [.d (.sl (List.map (D.int .u8) s_.b)), .d (.int .i64 s_.e)]] = some (.d (.int .u32 r.1), [.ptr [.d (.sl (List.map (D.int .u8) r.2.b)), .d (.int .i64 r.2.e)]]) := by
 obtain ⟨p, ⟨hne, hf⟩, hr⟩ := index_Source_Long_ok s_ r h
 obtain ⟨k, hk⟩ := run_of (F := F55) (args := [.ptr [.d (.sl (List.map (D.int .u8) s_.b)), .d (.int .i64 s_.e)]]) (ap := [.ptr [0] 0 0]) (bx0 := updW (fun _ => none) [([0], some (.cells [.d (.sl (List.map (D.int .u8) s_.b)), .d (.int .i64 s_.e)] 0))]) rfl rfl (by kernel_rfl) ⟨p, ⟨hne, hf⟩, hr⟩
 exact lim_run (k := k) rfl hk
def pubs_Made_h6 (b_10 : Source) (out5 : (List Ext)) (v_5 : Nat) : St := ⟨tab [(4, .ptr [10] 0 0), (5, .ref [5] v_5 0 (List.map Ext.d out5).length 3)], tabB [([5], some (.arr (List.map Ext.d out5) v_5 false)), ([10], some (.cells [.d (.sl (List.map (D.int .u8) b_10.b)), .d (.int .i64 b_10.e)] 0))]⟩
def pubs_Made_h8 (b_10 : Source) (out5 : (List Ext)) (v_5 : Nat) : St := ⟨tab [(4, .ptr [10] 0 0), (5, .ref [5] v_5 0 (List.map Ext.d out5).length 3)], tabB [([5], some (.arr (List.map Ext.d out5) v_5 false)), ([10], some (.cells [.d (.sl (List.map (D.int .u8) b_10.b)), .d (.int .i64 b_10.e)] 0))]⟩
def pubs_Made_h46 (b_10 : Source) (out5 : (List Ext)) (v_5 : Nat) : St := ⟨tab [(4, .ptr [10] 0 0), (5, .ref [5] v_5 0 (List.map Ext.d out5).length 3)], tabB [([5], some (.arr (List.map Ext.d out5) v_5 false)), ([10], some (.cells [.d (.sl (List.map (D.int .u8) b_10.b)), .d (.int .i64 b_10.e)] 0))]⟩
def pubs_Made_Q (b_ : (List Int)) (r : ((List Ext) × Int)) (p : Out × St) : Prop := (∀ i, p.1 ≠ .exit i) ∧ finF F13 [.d (.sl (List.map (D.int .u8) b_))] p.2 = some (.tup [.d (.sl (List.map Ext.d r.1)), .d (.int .i64 r.2)], [.d (.sl (List.map (D.int .u8) b_))])
def pubs_Made_P8 (b_ : (List Int))  (e : ((List Ext) × Source)) (p : Out × St) : Prop := p.1 = .exit 0 ∧ ∃ g : Nat, Canon [] [4, 5] [[5], [10]] p.2 (pubs_Made_h46 e.2 e.1 g)
theorem pubs_Made_l8_ok (b_ : (List Int)) (b_10 : Source) (out5 : (List Ext)) (v_5 : Nat) (r : (Lp (Source × (List Ext)) ((List Ext) × Source))) (h : pubs_Made_l8 b_10 out5 = some r) : Runs L F13l8 (pubs_Made_h8 b_10 out5 v_5) (LQ [] [4, 5] [[5], [10]] (fun (x : (Source × (List Ext))) (g : Nat) => pubs_Made_h8 x.1 x.2 g) (pubs_Made_P8 b_) r) := by
 unfold pubs_Made_l8 at h
 refine Sq <| Sq <| Ro <| Rc 1 [⟨.ptr [10] 0 0, []⟩] ?_
 obtain ⟨r_2, hr_2, h⟩ := bind_s h
 have hc_2 := index_Source_Left_L b_10 r_2 hr_2
 refine Rt (some 12) (.callf 51) [] none [.ptr [10] 0 0] (.d (.int .i64 r_2)) [([10], some (.cells [.d (.sl (List.map (D.int .u8) b_10.b)), .d (.int .i64 b_10.e)] 0))] (cut_call (call_of (ws := []) (us := [([10], some (.cells [.d (.sl (List.map (D.int .u8) b_10.b)), .d (.int .i64 b_10.e)] 0))]) (by kernel_rfl) (by kernel_rfl) hc_2 (by kernel_rfl) (by kernel_rfl))) <| Rc 1 [⟨.d (.bool (decide (r_2 > 0))), []⟩] <| Rd <| kS_nrm ?_
 cases hb_1 : ((decide (r_2 > 0)) : Bool) with
 | true =>
  replace h := ite_t hb_1 h
  refine Ct <| Runs.skip <| kS_nrm <| Runs.block <| Sq <| Ro <| Rc 1 [⟨.ptr [10] 0 0, []⟩] ?_
  obtain ⟨r_3, hr_3, h⟩ := bind_s h
  have hc_3 := index_Source_Name_L b_10 r_3 hr_3
  refine Rt (some 15) (.callf 52) [] none [.ptr [10] 0 0] (.d (.str r_3.1)) [([10], some (.cells [.d (.sl (List.map (D.int .u8) r_3.2.b)), .d (.int .i64 r_3.2.e)] 0))] (cut_call (call_of (ws := []) (us := [([10], some (.cells [.d (.sl (List.map (D.int .u8) r_3.2.b)), .d (.int .i64 r_3.2.e)] 0))]) (by kernel_rfl) (by kernel_rfl) hc_3 (by kernel_rfl) (by kernel_rfl))) <| Rc 3 [⟨.d (.agg [.str r_3.1, .int .i64 0, .int .u32 0]), []⟩, ⟨.ptr [6] 0 0, [([6], some (.cells [.d (.str []), .d (.int .i64 0), .d (.int .u32 0)] 0))]⟩, ⟨.tup [], [([6], some (.cells [.d (.str r_3.1), .d (.int .i64 0), .d (.int .u32 0)] 0))]⟩] <| Rd <| kS_nrm <| Sq <| Ro <| Rc 1 [⟨.ptr [10] 0 0, []⟩] ?_
  obtain ⟨r_4, hr_4, h⟩ := bind_s h
  have hc_4 := index_Source_Index_L r_3.2 r_4 hr_4
  refine Rt (some 18) (.callf 53) [] none [.ptr [10] 0 0] (.d (.int .i64 r_4.1)) [([10], some (.cells [.d (.sl (List.map (D.int .u8) r_4.2.b)), .d (.int .i64 r_4.2.e)] 0))] (cut_call (call_of (ws := []) (us := [([10], some (.cells [.d (.sl (List.map (D.int .u8) r_4.2.b)), .d (.int .i64 r_4.2.e)] 0))]) (by kernel_rfl) (by kernel_rfl) hc_4 (by kernel_rfl) (by kernel_rfl))) <| Rd <| kS_nrm <| Sq <| Ro <| Rc 1 [⟨.ptr [10] 0 0, []⟩] ?_
  obtain ⟨r_5, hr_5, h⟩ := bind_s h
  have hc_5 := index_Source_Byte_L r_4.2 r_5 hr_5
  refine Rt (some 20) (.callf 54) [] none [.ptr [10] 0 0] (.d (.int .u8 r_5.1)) [([10], some (.cells [.d (.sl (List.map (D.int .u8) r_5.2.b)), .d (.int .i64 r_5.2.e)] 0))] (cut_call (call_of (ws := []) (us := [([10], some (.cells [.d (.sl (List.map (D.int .u8) r_5.2.b)), .d (.int .i64 r_5.2.e)] 0))]) (by kernel_rfl) (by kernel_rfl) hc_5 (by kernel_rfl) (by kernel_rfl))) <| Rc 3 [⟨.d (.int .i64 (IntKind.wrap .i64 r_5.1)), []⟩, ⟨.ptr [6] 0 1, []⟩, ⟨.tup [], [([6], some (.cells [.d (.str r_3.1), .d (.int .i64 (IntKind.wrap .i64 r_5.1)), .d (.int .u32 0)] 0))]⟩] <| Rd <| kS_nrm <| Sq <| Ro <| Rc 1 [⟨.ptr [10] 0 0, []⟩] ?_
  obtain ⟨r_6, hr_6, h⟩ := bind_s h
  have hc_6 := index_Source_Long_L r_5.2 r_6 hr_6
  refine Rt (some 24) (.callf 55) [] none [.ptr [10] 0 0] (.d (.int .u32 r_6.1)) [([10], some (.cells [.d (.sl (List.map (D.int .u8) r_6.2.b)), .d (.int .i64 r_6.2.e)] 0))] (cut_call (call_of (ws := []) (us := [([10], some (.cells [.d (.sl (List.map (D.int .u8) r_6.2.b)), .d (.int .i64 r_6.2.e)] 0))]) (by kernel_rfl) (by kernel_rfl) hc_6 (by kernel_rfl) (by kernel_rfl))) <| Rc 2 [⟨.d (.int .u64 (IntKind.wrap .u64 r_6.1)), []⟩, ⟨.d (.int .u64 (IntKind.wrap .u64 r_6.1)), []⟩] <| Rd <| kS_nrm <| Sq <| Sq <| Ro <| Rc 2 [⟨.ptr [6] 0 1, []⟩, ⟨.d (.int .i64 (IntKind.wrap .i64 r_5.1)), []⟩] <| Rd <| kS_nrm <| Runs.block <| Sq <| Ro <| Rc 2 [⟨.d (.bool ((IntKind.wrap .i64 r_5.1) == 97)), []⟩, ⟨.d (.bool ((IntKind.wrap .i64 r_5.1) == 97)), []⟩] <| Rd <| kS_nrm ?_
  cases hb_2 : (((IntKind.wrap .i64 r_5.1) == 97) : Bool) with
  | true =>
   replace h := ite_t hb_2 h
   refine Ct <| Ro <| Rc 2 [⟨.d (.int .u64 (IntKind.wrap .u64 r_6.1)), []⟩, ⟨.ptr [10] 0 0, []⟩] ?_
   obtain ⟨r_7, hr_7, h⟩ := bind_s h
   have hc_7 := index_Source_Long_L r_6.2 r_7 hr_7
   refine Rt (some 34) (.callf 55) [] none [.ptr [10] 0 0] (.d (.int .u32 r_7.1)) [([10], some (.cells [.d (.sl (List.map (D.int .u8) r_7.2.b)), .d (.int .i64 r_7.2.e)] 0))] (cut_call (call_of (ws := []) (us := [([10], some (.cells [.d (.sl (List.map (D.int .u8) r_7.2.b)), .d (.int .i64 r_7.2.e)] 0))]) (by kernel_rfl) (by kernel_rfl) hc_7 (by kernel_rfl) (by kernel_rfl))) <| Rc 3 [⟨.d (.int .u64 (IntKind.wrap .u64 r_7.1)), []⟩, ⟨.d (.int .u64 (IntKind.wrap .u64 ((IntKind.wrap .u64 r_6.1) * (IntKind.wrap .u64 r_7.1)))), []⟩, ⟨.d (.int .u64 (IntKind.wrap .u64 ((IntKind.wrap .u64 r_6.1) * (IntKind.wrap .u64 r_7.1)))), []⟩] <| Rd <| kB_nrm <| kS_nrm <| Sq <| Sq <| Ro <| Rc 2 [⟨.d (.int .u64 (IntKind.wrap .u64 ((IntKind.wrap .u64 r_6.1) * (IntKind.wrap .u64 r_7.1)))), []⟩, ⟨.d (.bool (decide ((IntKind.wrap .u64 ((IntKind.wrap .u64 r_6.1) * (IntKind.wrap .u64 r_7.1))) > 1048576))), []⟩] <| Rd <| kS_nrm ?_
   cases hb_3 : ((decide ((IntKind.wrap .u64 ((IntKind.wrap .u64 r_6.1) * (IntKind.wrap .u64 r_7.1))) > 1048576)) : Bool) with
   | true =>
    replace h := ite_t hb_3 h
    refine Ct <| Ro <| Rc 1 [⟨.ptr [10] 0 0, []⟩] ?_
    obtain ⟨r_8, hr_8, h⟩ := bind_s h
    have hc_8 := index_Source_Wrong_L r_7.2 8 r_8 hr_8
    refine Rt (some 42) (.callf 56) [] none [.ptr [10] 0 0, .d (.int .i64 8)] (.tup []) [([10], some (.cells [.d (.sl (List.map (D.int .u8) r_8.b)), .d (.int .i64 r_8.e)] 0))] (cut_call (call_of (ws := []) (us := [([10], some (.cells [.d (.sl (List.map (D.int .u8) r_8.b)), .d (.int .i64 r_8.e)] 0))]) (by kernel_rfl) (by kernel_rfl) hc_8 (by kernel_rfl) (by kernel_rfl))) <| Rd <| kS_nrm <| Sq <| Ro <| Rc 4 [⟨.d (.int .u64 (IntKind.wrap .u64 ((IntKind.wrap .u64 r_6.1) * (IntKind.wrap .u64 r_7.1)))), []⟩, ⟨.d (.int .u32 (IntKind.wrap .u32 (IntKind.wrap .u64 ((IntKind.wrap .u64 r_6.1) * (IntKind.wrap .u64 r_7.1))))), []⟩, ⟨.ptr [6] 0 2, []⟩, ⟨.tup [], [([6], some (.cells [.d (.str r_3.1), .d (.int .i64 (IntKind.wrap .i64 r_5.1)), .d (.int .u32 (IntKind.wrap .u32 (IntKind.wrap .u64 ((IntKind.wrap .u64 r_6.1) * (IntKind.wrap .u64 r_7.1)))))] 0))]⟩] <| Rd <| kS_nrm <| Ro <| Rc 3 [⟨.ref [5] v_5 0 (List.map Ext.d out5).length 3, []⟩, ⟨.d (.agg [.str r_3.1, .int .i64 (IntKind.wrap .i64 r_5.1), .int .u32 (IntKind.wrap .u32 (IntKind.wrap .u64 ((IntKind.wrap .u64 r_6.1) * (IntKind.wrap .u64 r_7.1))))]), []⟩, ⟨.ref [48] 0 0 (List.map Ext.d ([({ Name := r_3.1, Com := (IntKind.wrap .i64 r_5.1), Len := (IntKind.wrap .u32 (IntKind.wrap .u64 ((IntKind.wrap .u64 r_6.1) * (IntKind.wrap .u64 r_7.1)))) } : Ext)] : List Ext)).length 3, [([48], some (.arr (List.map Ext.d ([({ Name := r_3.1, Com := (IntKind.wrap .i64 r_5.1), Len := (IntKind.wrap .u32 (IntKind.wrap .u64 ((IntKind.wrap .u64 r_6.1) * (IntKind.wrap .u64 r_7.1)))) } : Ext)] : List Ext)) 0 false))]⟩] ?_
    obtain ⟨z_1, hz_1, h⟩ := bind_s h
    refine Rt (some 49) (.append 3 32 false) [] none [.ref [5] v_5 0 (List.map Ext.d out5).length 3, .ref [48] 0 0 (List.map Ext.d ([({ Name := r_3.1, Com := (IntKind.wrap .i64 r_5.1), Len := (IntKind.wrap .u32 (IntKind.wrap .u64 ((IntKind.wrap .u64 r_6.1) * (IntKind.wrap .u64 r_7.1)))) } : Ext)] : List Ext)).length 3] (.ref [5] (v_5 + 1) 0 (List.map Ext.d z_1).length 3) [([48], some (.arr (List.map Ext.d ([({ Name := r_3.1, Com := (IntKind.wrap .i64 r_5.1), Len := (IntKind.wrap .u32 (IntKind.wrap .u64 ((IntKind.wrap .u64 r_6.1) * (IntKind.wrap .u64 r_7.1)))) } : Ext)] : List Ext)) 0 true)), ([5], some (.arr (List.map Ext.d z_1) (v_5 + 1) false))] (cut_appR (e := Ext.d) (l := out5) (fz := false) (ws := [([48], some (.arr (List.map Ext.d ([({ Name := r_3.1, Com := (IntKind.wrap .i64 r_5.1), Len := (IntKind.wrap .u32 (IntKind.wrap .u64 ((IntKind.wrap .u64 r_6.1) * (IntKind.wrap .u64 r_7.1)))) } : Ext)] : List Ext)) 0 true))]) (ap_ref (e := Ext.d) (l := ([({ Name := r_3.1, Com := (IntKind.wrap .i64 r_5.1), Len := (IntKind.wrap .u32 (IntKind.wrap .u64 ((IntKind.wrap .u64 r_6.1) * (IntKind.wrap .u64 r_7.1)))) } : Ext)] : List Ext)) (fz := false) (by kernel_rfl) (by kernel_rfl) rfl) (fun _ => rfl) hz_1 (by kernel_rfl) (by kernel_rfl) rfl) <| Rc 1 [⟨.ref [5] (v_5 + 1) 0 (List.map Ext.d z_1).length 3, []⟩] <| Rd <| kB_nrm ?_
    obtain rfl := Option.some.inj h
    exact ⟨rfl, (v_5 + 1), (Canon.nil (by kernel_rfl))⟩
   | false =>
    replace h := ite_f hb_3 h
    refine Cf <| Runs.skip <| kS_nrm <| Sq <| Ro <| Rc 4 [⟨.d (.int .u64 (IntKind.wrap .u64 ((IntKind.wrap .u64 r_6.1) * (IntKind.wrap .u64 r_7.1)))), []⟩, ⟨.d (.int .u32 (IntKind.wrap .u32 (IntKind.wrap .u64 ((IntKind.wrap .u64 r_6.1) * (IntKind.wrap .u64 r_7.1))))), []⟩, ⟨.ptr [6] 0 2, []⟩, ⟨.tup [], [([6], some (.cells [.d (.str r_3.1), .d (.int .i64 (IntKind.wrap .i64 r_5.1)), .d (.int .u32 (IntKind.wrap .u32 (IntKind.wrap .u64 ((IntKind.wrap .u64 r_6.1) * (IntKind.wrap .u64 r_7.1)))))] 0))]⟩] <| Rd <| kS_nrm <| Ro <| Rc 3 [⟨.ref [5] v_5 0 (List.map Ext.d out5).length 3, []⟩, ⟨.d (.agg [.str r_3.1, .int .i64 (IntKind.wrap .i64 r_5.1), .int .u32 (IntKind.wrap .u32 (IntKind.wrap .u64 ((IntKind.wrap .u64 r_6.1) * (IntKind.wrap .u64 r_7.1))))]), []⟩, ⟨.ref [48] 0 0 (List.map Ext.d ([({ Name := r_3.1, Com := (IntKind.wrap .i64 r_5.1), Len := (IntKind.wrap .u32 (IntKind.wrap .u64 ((IntKind.wrap .u64 r_6.1) * (IntKind.wrap .u64 r_7.1)))) } : Ext)] : List Ext)).length 3, [([48], some (.arr (List.map Ext.d ([({ Name := r_3.1, Com := (IntKind.wrap .i64 r_5.1), Len := (IntKind.wrap .u32 (IntKind.wrap .u64 ((IntKind.wrap .u64 r_6.1) * (IntKind.wrap .u64 r_7.1)))) } : Ext)] : List Ext)) 0 false))]⟩] ?_
    obtain ⟨z_2, hz_2, h⟩ := bind_s h
    refine Rt (some 49) (.append 3 32 false) [] none [.ref [5] v_5 0 (List.map Ext.d out5).length 3, .ref [48] 0 0 (List.map Ext.d ([({ Name := r_3.1, Com := (IntKind.wrap .i64 r_5.1), Len := (IntKind.wrap .u32 (IntKind.wrap .u64 ((IntKind.wrap .u64 r_6.1) * (IntKind.wrap .u64 r_7.1)))) } : Ext)] : List Ext)).length 3] (.ref [5] (v_5 + 1) 0 (List.map Ext.d z_2).length 3) [([48], some (.arr (List.map Ext.d ([({ Name := r_3.1, Com := (IntKind.wrap .i64 r_5.1), Len := (IntKind.wrap .u32 (IntKind.wrap .u64 ((IntKind.wrap .u64 r_6.1) * (IntKind.wrap .u64 r_7.1)))) } : Ext)] : List Ext)) 0 true)), ([5], some (.arr (List.map Ext.d z_2) (v_5 + 1) false))] (cut_appR (e := Ext.d) (l := out5) (fz := false) (ws := [([48], some (.arr (List.map Ext.d ([({ Name := r_3.1, Com := (IntKind.wrap .i64 r_5.1), Len := (IntKind.wrap .u32 (IntKind.wrap .u64 ((IntKind.wrap .u64 r_6.1) * (IntKind.wrap .u64 r_7.1)))) } : Ext)] : List Ext)) 0 true))]) (ap_ref (e := Ext.d) (l := ([({ Name := r_3.1, Com := (IntKind.wrap .i64 r_5.1), Len := (IntKind.wrap .u32 (IntKind.wrap .u64 ((IntKind.wrap .u64 r_6.1) * (IntKind.wrap .u64 r_7.1)))) } : Ext)] : List Ext)) (fz := false) (by kernel_rfl) (by kernel_rfl) rfl) (fun _ => rfl) hz_2 (by kernel_rfl) (by kernel_rfl) rfl) <| Rc 1 [⟨.ref [5] (v_5 + 1) 0 (List.map Ext.d z_2).length 3, []⟩] <| Rd <| kB_nrm ?_
    obtain rfl := Option.some.inj h
    exact ⟨rfl, (v_5 + 1), (Canon.nil (by kernel_rfl))⟩
  | false =>
   replace h := ite_f hb_2 h
   refine Cf <| Sq <| Ro <| Rc 2 [⟨.d (.bool ((IntKind.wrap .i64 r_5.1) == 98)), []⟩, ⟨.d (.bool ((IntKind.wrap .i64 r_5.1) == 98)), []⟩] <| Rd <| kS_nrm ?_
   cases hb_4 : (((IntKind.wrap .i64 r_5.1) == 98) : Bool) with
   | true =>
    replace h := ite_t hb_4 h
    refine Ct <| Runs.skip <| kB_nrm <| kS_nrm <| Sq <| Sq <| Ro <| Rc 2 [⟨.d (.int .u64 (IntKind.wrap .u64 r_6.1)), []⟩, ⟨.d (.bool (decide ((IntKind.wrap .u64 r_6.1) > 1048576))), []⟩] <| Rd <| kS_nrm ?_
    cases hb_5 : ((decide ((IntKind.wrap .u64 r_6.1) > 1048576)) : Bool) with
    | true =>
     replace h := ite_t hb_5 h
     refine Ct <| Ro <| Rc 1 [⟨.ptr [10] 0 0, []⟩] ?_
     obtain ⟨r_9, hr_9, h⟩ := bind_s h
     have hc_9 := index_Source_Wrong_L r_6.2 8 r_9 hr_9
     refine Rt (some 42) (.callf 56) [] none [.ptr [10] 0 0, .d (.int .i64 8)] (.tup []) [([10], some (.cells [.d (.sl (List.map (D.int .u8) r_9.b)), .d (.int .i64 r_9.e)] 0))] (cut_call (call_of (ws := []) (us := [([10], some (.cells [.d (.sl (List.map (D.int .u8) r_9.b)), .d (.int .i64 r_9.e)] 0))]) (by kernel_rfl) (by kernel_rfl) hc_9 (by kernel_rfl) (by kernel_rfl))) <| Rd <| kS_nrm <| Sq <| Ro <| Rc 4 [⟨.d (.int .u64 (IntKind.wrap .u64 r_6.1)), []⟩, ⟨.d (.int .u32 (IntKind.wrap .u32 (IntKind.wrap .u64 r_6.1))), []⟩, ⟨.ptr [6] 0 2, []⟩, ⟨.tup [], [([6], some (.cells [.d (.str r_3.1), .d (.int .i64 (IntKind.wrap .i64 r_5.1)), .d (.int .u32 (IntKind.wrap .u32 (IntKind.wrap .u64 r_6.1)))] 0))]⟩] <| Rd <| kS_nrm <| Ro <| Rc 3 [⟨.ref [5] v_5 0 (List.map Ext.d out5).length 3, []⟩, ⟨.d (.agg [.str r_3.1, .int .i64 (IntKind.wrap .i64 r_5.1), .int .u32 (IntKind.wrap .u32 (IntKind.wrap .u64 r_6.1))]), []⟩, ⟨.ref [48] 0 0 (List.map Ext.d ([({ Name := r_3.1, Com := (IntKind.wrap .i64 r_5.1), Len := (IntKind.wrap .u32 (IntKind.wrap .u64 r_6.1)) } : Ext)] : List Ext)).length 3, [([48], some (.arr (List.map Ext.d ([({ Name := r_3.1, Com := (IntKind.wrap .i64 r_5.1), Len := (IntKind.wrap .u32 (IntKind.wrap .u64 r_6.1)) } : Ext)] : List Ext)) 0 false))]⟩] ?_
     obtain ⟨z_3, hz_3, h⟩ := bind_s h
     refine Rt (some 49) (.append 3 32 false) [] none [.ref [5] v_5 0 (List.map Ext.d out5).length 3, .ref [48] 0 0 (List.map Ext.d ([({ Name := r_3.1, Com := (IntKind.wrap .i64 r_5.1), Len := (IntKind.wrap .u32 (IntKind.wrap .u64 r_6.1)) } : Ext)] : List Ext)).length 3] (.ref [5] (v_5 + 1) 0 (List.map Ext.d z_3).length 3) [([48], some (.arr (List.map Ext.d ([({ Name := r_3.1, Com := (IntKind.wrap .i64 r_5.1), Len := (IntKind.wrap .u32 (IntKind.wrap .u64 r_6.1)) } : Ext)] : List Ext)) 0 true)), ([5], some (.arr (List.map Ext.d z_3) (v_5 + 1) false))] (cut_appR (e := Ext.d) (l := out5) (fz := false) (ws := [([48], some (.arr (List.map Ext.d ([({ Name := r_3.1, Com := (IntKind.wrap .i64 r_5.1), Len := (IntKind.wrap .u32 (IntKind.wrap .u64 r_6.1)) } : Ext)] : List Ext)) 0 true))]) (ap_ref (e := Ext.d) (l := ([({ Name := r_3.1, Com := (IntKind.wrap .i64 r_5.1), Len := (IntKind.wrap .u32 (IntKind.wrap .u64 r_6.1)) } : Ext)] : List Ext)) (fz := false) (by kernel_rfl) (by kernel_rfl) rfl) (fun _ => rfl) hz_3 (by kernel_rfl) (by kernel_rfl) rfl) <| Rc 1 [⟨.ref [5] (v_5 + 1) 0 (List.map Ext.d z_3).length 3, []⟩] <| Rd <| kB_nrm ?_
     obtain rfl := Option.some.inj h
     exact ⟨rfl, (v_5 + 1), (Canon.nil (by kernel_rfl))⟩
    | false =>
     replace h := ite_f hb_5 h
     refine Cf <| Runs.skip <| kS_nrm <| Sq <| Ro <| Rc 4 [⟨.d (.int .u64 (IntKind.wrap .u64 r_6.1)), []⟩, ⟨.d (.int .u32 (IntKind.wrap .u32 (IntKind.wrap .u64 r_6.1))), []⟩, ⟨.ptr [6] 0 2, []⟩, ⟨.tup [], [([6], some (.cells [.d (.str r_3.1), .d (.int .i64 (IntKind.wrap .i64 r_5.1)), .d (.int .u32 (IntKind.wrap .u32 (IntKind.wrap .u64 r_6.1)))] 0))]⟩] <| Rd <| kS_nrm <| Ro <| Rc 3 [⟨.ref [5] v_5 0 (List.map Ext.d out5).length 3, []⟩, ⟨.d (.agg [.str r_3.1, .int .i64 (IntKind.wrap .i64 r_5.1), .int .u32 (IntKind.wrap .u32 (IntKind.wrap .u64 r_6.1))]), []⟩, ⟨.ref [48] 0 0 (List.map Ext.d ([({ Name := r_3.1, Com := (IntKind.wrap .i64 r_5.1), Len := (IntKind.wrap .u32 (IntKind.wrap .u64 r_6.1)) } : Ext)] : List Ext)).length 3, [([48], some (.arr (List.map Ext.d ([({ Name := r_3.1, Com := (IntKind.wrap .i64 r_5.1), Len := (IntKind.wrap .u32 (IntKind.wrap .u64 r_6.1)) } : Ext)] : List Ext)) 0 false))]⟩] ?_
     obtain ⟨z_4, hz_4, h⟩ := bind_s h
     refine Rt (some 49) (.append 3 32 false) [] none [.ref [5] v_5 0 (List.map Ext.d out5).length 3, .ref [48] 0 0 (List.map Ext.d ([({ Name := r_3.1, Com := (IntKind.wrap .i64 r_5.1), Len := (IntKind.wrap .u32 (IntKind.wrap .u64 r_6.1)) } : Ext)] : List Ext)).length 3] (.ref [5] (v_5 + 1) 0 (List.map Ext.d z_4).length 3) [([48], some (.arr (List.map Ext.d ([({ Name := r_3.1, Com := (IntKind.wrap .i64 r_5.1), Len := (IntKind.wrap .u32 (IntKind.wrap .u64 r_6.1)) } : Ext)] : List Ext)) 0 true)), ([5], some (.arr (List.map Ext.d z_4) (v_5 + 1) false))] (cut_appR (e := Ext.d) (l := out5) (fz := false) (ws := [([48], some (.arr (List.map Ext.d ([({ Name := r_3.1, Com := (IntKind.wrap .i64 r_5.1), Len := (IntKind.wrap .u32 (IntKind.wrap .u64 r_6.1)) } : Ext)] : List Ext)) 0 true))]) (ap_ref (e := Ext.d) (l := ([({ Name := r_3.1, Com := (IntKind.wrap .i64 r_5.1), Len := (IntKind.wrap .u32 (IntKind.wrap .u64 r_6.1)) } : Ext)] : List Ext)) (fz := false) (by kernel_rfl) (by kernel_rfl) rfl) (fun _ => rfl) hz_4 (by kernel_rfl) (by kernel_rfl) rfl) <| Rc 1 [⟨.ref [5] (v_5 + 1) 0 (List.map Ext.d z_4).length 3, []⟩] <| Rd <| kB_nrm ?_
     obtain rfl := Option.some.inj h
     exact ⟨rfl, (v_5 + 1), (Canon.nil (by kernel_rfl))⟩
   | false =>
    replace h := ite_f hb_4 h
    refine Cf <| Ro <| Rc 1 [⟨.ptr [10] 0 0, []⟩] ?_
    obtain ⟨r_10, hr_10, h⟩ := bind_s h
    have hc_10 := index_Source_Wrong_L r_6.2 3 r_10 hr_10
    refine Rt (some 29) (.callf 56) [] none [.ptr [10] 0 0, .d (.int .i64 3)] (.tup []) [([10], some (.cells [.d (.sl (List.map (D.int .u8) r_10.b)), .d (.int .i64 r_10.e)] 0))] (cut_call (call_of (ws := []) (us := [([10], some (.cells [.d (.sl (List.map (D.int .u8) r_10.b)), .d (.int .i64 r_10.e)] 0))]) (by kernel_rfl) (by kernel_rfl) hc_10 (by kernel_rfl) (by kernel_rfl))) <| Rd <| kB_nrm <| kS_nrm <| Sq <| Sq <| Ro <| Rc 2 [⟨.d (.int .u64 (IntKind.wrap .u64 r_6.1)), []⟩, ⟨.d (.bool (decide ((IntKind.wrap .u64 r_6.1) > 1048576))), []⟩] <| Rd <| kS_nrm ?_
    cases hb_6 : ((decide ((IntKind.wrap .u64 r_6.1) > 1048576)) : Bool) with
    | true =>
     replace h := ite_t hb_6 h
     refine Ct <| Ro <| Rc 1 [⟨.ptr [10] 0 0, []⟩] ?_
     obtain ⟨r_11, hr_11, h⟩ := bind_s h
     have hc_11 := index_Source_Wrong_L r_10 8 r_11 hr_11
     refine Rt (some 42) (.callf 56) [] none [.ptr [10] 0 0, .d (.int .i64 8)] (.tup []) [([10], some (.cells [.d (.sl (List.map (D.int .u8) r_11.b)), .d (.int .i64 r_11.e)] 0))] (cut_call (call_of (ws := []) (us := [([10], some (.cells [.d (.sl (List.map (D.int .u8) r_11.b)), .d (.int .i64 r_11.e)] 0))]) (by kernel_rfl) (by kernel_rfl) hc_11 (by kernel_rfl) (by kernel_rfl))) <| Rd <| kS_nrm <| Sq <| Ro <| Rc 4 [⟨.d (.int .u64 (IntKind.wrap .u64 r_6.1)), []⟩, ⟨.d (.int .u32 (IntKind.wrap .u32 (IntKind.wrap .u64 r_6.1))), []⟩, ⟨.ptr [6] 0 2, []⟩, ⟨.tup [], [([6], some (.cells [.d (.str r_3.1), .d (.int .i64 (IntKind.wrap .i64 r_5.1)), .d (.int .u32 (IntKind.wrap .u32 (IntKind.wrap .u64 r_6.1)))] 0))]⟩] <| Rd <| kS_nrm <| Ro <| Rc 3 [⟨.ref [5] v_5 0 (List.map Ext.d out5).length 3, []⟩, ⟨.d (.agg [.str r_3.1, .int .i64 (IntKind.wrap .i64 r_5.1), .int .u32 (IntKind.wrap .u32 (IntKind.wrap .u64 r_6.1))]), []⟩, ⟨.ref [48] 0 0 (List.map Ext.d ([({ Name := r_3.1, Com := (IntKind.wrap .i64 r_5.1), Len := (IntKind.wrap .u32 (IntKind.wrap .u64 r_6.1)) } : Ext)] : List Ext)).length 3, [([48], some (.arr (List.map Ext.d ([({ Name := r_3.1, Com := (IntKind.wrap .i64 r_5.1), Len := (IntKind.wrap .u32 (IntKind.wrap .u64 r_6.1)) } : Ext)] : List Ext)) 0 false))]⟩] ?_
     obtain ⟨z_5, hz_5, h⟩ := bind_s h
     refine Rt (some 49) (.append 3 32 false) [] none [.ref [5] v_5 0 (List.map Ext.d out5).length 3, .ref [48] 0 0 (List.map Ext.d ([({ Name := r_3.1, Com := (IntKind.wrap .i64 r_5.1), Len := (IntKind.wrap .u32 (IntKind.wrap .u64 r_6.1)) } : Ext)] : List Ext)).length 3] (.ref [5] (v_5 + 1) 0 (List.map Ext.d z_5).length 3) [([48], some (.arr (List.map Ext.d ([({ Name := r_3.1, Com := (IntKind.wrap .i64 r_5.1), Len := (IntKind.wrap .u32 (IntKind.wrap .u64 r_6.1)) } : Ext)] : List Ext)) 0 true)), ([5], some (.arr (List.map Ext.d z_5) (v_5 + 1) false))] (cut_appR (e := Ext.d) (l := out5) (fz := false) (ws := [([48], some (.arr (List.map Ext.d ([({ Name := r_3.1, Com := (IntKind.wrap .i64 r_5.1), Len := (IntKind.wrap .u32 (IntKind.wrap .u64 r_6.1)) } : Ext)] : List Ext)) 0 true))]) (ap_ref (e := Ext.d) (l := ([({ Name := r_3.1, Com := (IntKind.wrap .i64 r_5.1), Len := (IntKind.wrap .u32 (IntKind.wrap .u64 r_6.1)) } : Ext)] : List Ext)) (fz := false) (by kernel_rfl) (by kernel_rfl) rfl) (fun _ => rfl) hz_5 (by kernel_rfl) (by kernel_rfl) rfl) <| Rc 1 [⟨.ref [5] (v_5 + 1) 0 (List.map Ext.d z_5).length 3, []⟩] <| Rd <| kB_nrm ?_
     obtain rfl := Option.some.inj h
     exact ⟨rfl, (v_5 + 1), (Canon.nil (by kernel_rfl))⟩
    | false =>
     replace h := ite_f hb_6 h
     refine Cf <| Runs.skip <| kS_nrm <| Sq <| Ro <| Rc 4 [⟨.d (.int .u64 (IntKind.wrap .u64 r_6.1)), []⟩, ⟨.d (.int .u32 (IntKind.wrap .u32 (IntKind.wrap .u64 r_6.1))), []⟩, ⟨.ptr [6] 0 2, []⟩, ⟨.tup [], [([6], some (.cells [.d (.str r_3.1), .d (.int .i64 (IntKind.wrap .i64 r_5.1)), .d (.int .u32 (IntKind.wrap .u32 (IntKind.wrap .u64 r_6.1)))] 0))]⟩] <| Rd <| kS_nrm <| Ro <| Rc 3 [⟨.ref [5] v_5 0 (List.map Ext.d out5).length 3, []⟩, ⟨.d (.agg [.str r_3.1, .int .i64 (IntKind.wrap .i64 r_5.1), .int .u32 (IntKind.wrap .u32 (IntKind.wrap .u64 r_6.1))]), []⟩, ⟨.ref [48] 0 0 (List.map Ext.d ([({ Name := r_3.1, Com := (IntKind.wrap .i64 r_5.1), Len := (IntKind.wrap .u32 (IntKind.wrap .u64 r_6.1)) } : Ext)] : List Ext)).length 3, [([48], some (.arr (List.map Ext.d ([({ Name := r_3.1, Com := (IntKind.wrap .i64 r_5.1), Len := (IntKind.wrap .u32 (IntKind.wrap .u64 r_6.1)) } : Ext)] : List Ext)) 0 false))]⟩] ?_
     obtain ⟨z_6, hz_6, h⟩ := bind_s h
     refine Rt (some 49) (.append 3 32 false) [] none [.ref [5] v_5 0 (List.map Ext.d out5).length 3, .ref [48] 0 0 (List.map Ext.d ([({ Name := r_3.1, Com := (IntKind.wrap .i64 r_5.1), Len := (IntKind.wrap .u32 (IntKind.wrap .u64 r_6.1)) } : Ext)] : List Ext)).length 3] (.ref [5] (v_5 + 1) 0 (List.map Ext.d z_6).length 3) [([48], some (.arr (List.map Ext.d ([({ Name := r_3.1, Com := (IntKind.wrap .i64 r_5.1), Len := (IntKind.wrap .u32 (IntKind.wrap .u64 r_6.1)) } : Ext)] : List Ext)) 0 true)), ([5], some (.arr (List.map Ext.d z_6) (v_5 + 1) false))] (cut_appR (e := Ext.d) (l := out5) (fz := false) (ws := [([48], some (.arr (List.map Ext.d ([({ Name := r_3.1, Com := (IntKind.wrap .i64 r_5.1), Len := (IntKind.wrap .u32 (IntKind.wrap .u64 r_6.1)) } : Ext)] : List Ext)) 0 true))]) (ap_ref (e := Ext.d) (l := ([({ Name := r_3.1, Com := (IntKind.wrap .i64 r_5.1), Len := (IntKind.wrap .u32 (IntKind.wrap .u64 r_6.1)) } : Ext)] : List Ext)) (fz := false) (by kernel_rfl) (by kernel_rfl) rfl) (fun _ => rfl) hz_6 (by kernel_rfl) (by kernel_rfl) rfl) <| Rc 1 [⟨.ref [5] (v_5 + 1) 0 (List.map Ext.d z_6).length 3, []⟩] <| Rd <| kB_nrm ?_
     obtain rfl := Option.some.inj h
     exact ⟨rfl, (v_5 + 1), (Canon.nil (by kernel_rfl))⟩
 | false =>
  replace h := ite_f hb_1 h
  refine Cf <| Runs.exit <| kS_exit ?_
  obtain rfl := Option.some.inj h
  exact ⟨nofun, rfl, v_5, (Canon.nil (by kernel_rfl))⟩
theorem pubs_Made_ok (b_ : (List Int)) (r : ((List Ext) × Int)) (h : pubs_Made b_ = some r) : Runs L F13.body ⟨tmOf [.d (.sl (List.map (D.int .u8) b_))] 0, updW (fun _ => none) []⟩ (pubs_Made_Q b_ r) := by
 unfold pubs_Made at h
 refine Sq <| Ro <| Rc 2 [⟨.nils, []⟩, ⟨.d (.int .i64 0), []⟩] <| Rd <| kS_nrm <| Sq <| Ro <| Rc 1 [⟨.d (.sl (List.map (D.int .u8) b_)), []⟩] ?_
 obtain ⟨r_1, hr_1, h⟩ := bind_s h
 have hc_1 := index_From_L b_ r_1 hr_1
 refine Rt (some 10) (.callf 50) [] none [.d (.sl (List.map (D.int .u8) b_))] (.ptr [10] 0 0) [([10], some (.cells [.d (.sl (List.map (D.int .u8) r_1.b)), .d (.int .i64 r_1.e)] 0))] (cut_call (call_of (ws := []) (us := []) (by kernel_rfl) (by kernel_rfl) hc_1 (by kernel_rfl) (by kernel_rfl))) <| Rc 1 [⟨.ptr [10] 0 0, []⟩] <| Rd <| kS_nrm <| Sq <| Ro <| Rc 1 [⟨.nils, []⟩] <| Rd <| kS_nrm <| Runs.canon (pubs_Made_h6 r_1 ([] : List Ext) 0) (Canon.cons (own_nil Ext.d (v := 0) (by kernel_rfl) (by kernel_rfl)) (Canon.nil (by kernel_rfl))) <| Sq <| Runs.block ?_
 obtain ⟨e_1, he_1, h⟩ := bind_s h
 refine Runs.loop (fun x : (Source × (List Ext)) => pubs_Made_l8 x.1 x.2) (fun (x : (Source × (List Ext))) (g : Nat) => pubs_Made_h8 x.1 x.2 g) (pubs_Made_P8 b_) (fun x g r hr => pubs_Made_l8_ok b_ x.1 x.2 g r hr) 0 he_1 (Canon.nil (by kernel_rfl)) ?_
 rintro ⟨o, s⟩ hp
 obtain ⟨ho, g_1, hk_1⟩ := hp
 have ho' : o = .exit 0 := ho
 subst ho'
 refine kB_hit <| kS_nrm <| Runs.canon _ hk_1 <| Sq <| Sq <| Ro <| Rc 1 [⟨.ptr [10] 0 0, []⟩] ?_
 obtain ⟨r_2, hr_2, h⟩ := bind_s h
 have hc_2 := index_Source_Err_L e_1.2 r_2 hr_2
 refine Rt (some 51) (.callf 57) [] none [.ptr [10] 0 0] (.d (.int .i64 r_2)) [([10], some (.cells [.d (.sl (List.map (D.int .u8) e_1.2.b)), .d (.int .i64 e_1.2.e)] 0))] (cut_call (call_of (ws := []) (us := [([10], some (.cells [.d (.sl (List.map (D.int .u8) e_1.2.b)), .d (.int .i64 e_1.2.e)] 0))]) (by kernel_rfl) (by kernel_rfl) hc_2 (by kernel_rfl) (by kernel_rfl))) <| Rc 1 [⟨.d (.int .i64 r_2), []⟩] <| Rd <| kS_nrm <| Sq <| Ro <| Rc 2 [⟨.d (.int .i64 r_2), []⟩, ⟨.d (.bool (r_2 != 0)), []⟩] <| Rd <| kS_nrm ?_
 cases hb_1 : ((r_2 != 0) : Bool) with
 | true =>
  replace h := ite_t hb_1 h
  refine Ct <| Sq <| Ro <| Rc 3 [⟨.d (.int .i64 r_2), []⟩, ⟨.nils, []⟩, ⟨.d (.int .i64 r_2), []⟩] <| Rd <| kS_nrm <| Sq <| Runs.gcons (frz_nil Ext.d (by kernel_rfl)) <| Runs.gnil <| kS_nrm <| Runs.ret <| kS_ret ?_
  obtain rfl := Option.some.inj h
  exact ⟨Out.ret_ne, (by kernel_rfl)⟩
 | false =>
  replace h := ite_f hb_1 h
  refine Cf <| Runs.skip <| kS_nrm <| Sq <| Ro <| Rc 3 [⟨.ref [5] g_1 0 (List.map Ext.d e_1.1).length 3, []⟩, ⟨.ref [5] g_1 0 (List.map Ext.d e_1.1).length 3, []⟩, ⟨.d (.int .i64 0), []⟩] <| Rd <| kS_nrm <| Sq <| Runs.gcons (frz_ref (e := Ext.d) (l := e_1.1) (id := [5]) (v := g_1) (n := 3) (fz := false) (by kernel_rfl) (by kernel_rfl) rfl) <| Runs.gnil <| kS_nrm <| Runs.ret ?_
  obtain rfl := Option.some.inj h
  exact ⟨Out.ret_ne, (by kernel_rfl)⟩
theorem pubs_Made_L (b_ : (List Int)) (r : ((List Ext) × Int)) (h : pubs_Made b_ = some r) : L 13 [.d (.sl (List.map (D.int .u8) b_))] = some (.tup [.d (.sl (List.map Ext.d r.1)), .d (.int .i64 r.2)], [.d (.sl (List.map (D.int .u8) b_))]) := by
 obtain ⟨p, ⟨hne, hf⟩, hr⟩ := pubs_Made_ok b_ r h
 obtain ⟨k, hk⟩ := run_of (F := F13) (args := [.d (.sl (List.map (D.int .u8) b_))]) (ap := [.d (.sl (List.map (D.int .u8) b_))]) (bx0 := updW (fun _ => none) []) rfl rfl (by kernel_rfl) ⟨p, ⟨hne, hf⟩, hr⟩
 exact lim_run (k := k) rfl hk
def hansomref18_Name_Q (s_ : (List UInt8)) (r : (List UInt8)) (p : Out × St) : Prop := (∀ i, p.1 ≠ .exit i) ∧ finF F15 [.d (.str s_)] p.2 = some (.d (.str r), [.d (.str s_)])
theorem hansomref18_Name_ok (s_ : (List UInt8)) (r : (List UInt8)) (h : hansomref18_Name s_ = some r) : Runs L F15.body ⟨tmOf [.d (.str s_)] 0, updW (fun _ => none) []⟩ (hansomref18_Name_Q s_ r) := by
 unfold hansomref18_Name at h
 refine Sq <| Ro <| Rc 1 [⟨.d (.str ([] : List UInt8)), []⟩] <| Rd <| kS_nrm <| Sq <| Sq <| Ro <| Rc 1 [⟨.d (.str s_), []⟩] <| Rt (some 4) .lenS [] none [.d (.str s_)] (.d (.int .i64 (s_.length : Int))) [] (cut_lenS _) <| Rc 1 [⟨.d (.bool (decide ((s_.length : Int) > 255))), []⟩] <| Rd <| kS_nrm ?_
 cases hb_1 : ((decide ((s_.length : Int) > 255)) : Bool) with
 | true =>
  replace h := ite_t hb_1 h
  refine Ct <| Ro <| Rc 1 [⟨.d (.str s_), []⟩] ?_
  obtain ⟨z_1, hz_1, h⟩ := bind_s h
  refine Rt (some 7) (.substr false true) [] none [.d (.str s_), .d (.int .i64 255)] (.d (.str z_1)) [] (cut_strFT hz_1) <| Rc 1 [⟨.d (.str z_1), []⟩] <| Rd <| kS_nrm <| Sq <| Ro <| Rc 1 [⟨.d (.str z_1), []⟩] <| Rt (some 9) .lenS [] none [.d (.str z_1)] (.d (.int .i64 (z_1.length : Int))) [] (cut_lenS _) <| Rc 2 [⟨.d (.int .u8 (IntKind.wrap .u8 (z_1.length : Int))), []⟩, ⟨.ref [11] 0 0 (List.map (D.int .u8) ([(IntKind.wrap .u8 (z_1.length : Int))] : List Int)).length 1, [([11], some (.arr (List.map (D.int .u8) ([(IntKind.wrap .u8 (z_1.length : Int))] : List Int)) 0 false))]⟩] <| Rt (some 12) .bytesStr [] none [.ref [11] 0 0 (List.map (D.int .u8) ([(IntKind.wrap .u8 (z_1.length : Int))] : List Int)).length 1] (.d (.str (b2s ([(IntKind.wrap .u8 (z_1.length : Int))] : List Int)))) [] (cut_bsR (l := ([(IntKind.wrap .u8 (z_1.length : Int))] : List Int)) (fz := false) (by kernel_rfl) (by kernel_rfl) rfl) <| Rc 1 [⟨.d (.str z_1), []⟩] ?_
  obtain ⟨z_2, hz_2, h⟩ := bind_s h
  refine Rt (some 14) (.bin .add) [] none [.d (.str (b2s ([(IntKind.wrap .u8 (z_1.length : Int))] : List Int))), .d (.str z_1)] (.d (.str z_2)) [] (cut_cat hz_2) <| Rc 1 [⟨.d (.str z_2), []⟩] <| Rd <| kS_nrm <| Runs.ret ?_
  obtain rfl := Option.some.inj h
  exact ⟨Out.ret_ne, (by kernel_rfl)⟩
 | false =>
  replace h := ite_f hb_1 h
  refine Cf <| Runs.skip <| kS_nrm <| Sq <| Ro <| Rc 1 [⟨.d (.str s_), []⟩] <| Rt (some 9) .lenS [] none [.d (.str s_)] (.d (.int .i64 (s_.length : Int))) [] (cut_lenS _) <| Rc 2 [⟨.d (.int .u8 (IntKind.wrap .u8 (s_.length : Int))), []⟩, ⟨.ref [11] 0 0 (List.map (D.int .u8) ([(IntKind.wrap .u8 (s_.length : Int))] : List Int)).length 1, [([11], some (.arr (List.map (D.int .u8) ([(IntKind.wrap .u8 (s_.length : Int))] : List Int)) 0 false))]⟩] <| Rt (some 12) .bytesStr [] none [.ref [11] 0 0 (List.map (D.int .u8) ([(IntKind.wrap .u8 (s_.length : Int))] : List Int)).length 1] (.d (.str (b2s ([(IntKind.wrap .u8 (s_.length : Int))] : List Int)))) [] (cut_bsR (l := ([(IntKind.wrap .u8 (s_.length : Int))] : List Int)) (fz := false) (by kernel_rfl) (by kernel_rfl) rfl) <| Rc 1 [⟨.d (.str s_), []⟩] ?_
  obtain ⟨z_3, hz_3, h⟩ := bind_s h
  refine Rt (some 14) (.bin .add) [] none [.d (.str (b2s ([(IntKind.wrap .u8 (s_.length : Int))] : List Int))), .d (.str s_)] (.d (.str z_3)) [] (cut_cat hz_3) <| Rc 1 [⟨.d (.str z_3), []⟩] <| Rd <| kS_nrm <| Runs.ret ?_
  obtain rfl := Option.some.inj h
  exact ⟨Out.ret_ne, (by kernel_rfl)⟩
theorem hansomref18_Name_L (s_ : (List UInt8)) (r : (List UInt8)) (h : hansomref18_Name s_ = some r) : L 15 [.d (.str s_)] = some (.d (.str r), [.d (.str s_)]) := by
 obtain ⟨p, ⟨hne, hf⟩, hr⟩ := hansomref18_Name_ok s_ r h
 obtain ⟨k, hk⟩ := run_of (F := F15) (args := [.d (.str s_)]) (ap := [.d (.str s_)]) (bx0 := updW (fun _ => none) []) rfl rfl (by kernel_rfl) ⟨p, ⟨hne, hf⟩, hr⟩
 exact lim_run (k := k) rfl hk
def hansomref18_Bytes_h8 (n0 : Int) (many1 : Int) (s5 : (List UInt8)) (i6 : Int) : St := ⟨tab [(0, .d (.int .u64 n0)), (1, .d (.int .i64 many1)), (5, .d (.str s5)), (6, .d (.int .i64 i6))], tabB []⟩
def hansomref18_Bytes_h21 (s5 : (List UInt8)) : St := ⟨tab [(5, .d (.str s5))], tabB []⟩
def hansomref18_Bytes_Q (n_ : Int) (many_ : Int) (r : (List UInt8)) (p : Out × St) : Prop := (∀ i, p.1 ≠ .exit i) ∧ finF F58 [.d (.int .u64 n_), .d (.int .i64 many_)] p.2 = some (.d (.str r), [.d (.int .u64 n_), .d (.int .i64 many_)])
def hansomref18_Bytes_P8 (n_ : Int) (many_ : Int) (many1 : Int) (e : (List UInt8)) (p : Out × St) : Prop := p.1 = .exit 0 ∧ ∃ g : Unit, Canon [] [5] [] p.2 (hansomref18_Bytes_h21 e)
theorem hansomref18_Bytes_l8_ok (n_ : Int) (many_ : Int) (n0 : Int) (many1 : Int) (s5 : (List UInt8)) (i6 : Int) (r : (Lp (Int × (List UInt8) × Int) (List UInt8))) (h : hansomref18_Bytes_l8 n0 many1 s5 i6 = some r) : Runs L F58l8 (hansomref18_Bytes_h8 n0 many1 s5 i6) (LQ [] [0, 1, 5, 6] [] (fun (x : (Int × (List UInt8) × Int)) (g : Unit) => hansomref18_Bytes_h8 x.1 many1 x.2.1 x.2.2) (hansomref18_Bytes_P8 n_ many_ many1) r) := by
 unfold hansomref18_Bytes_l8 at h
 refine Sq <| Sq <| Ro <| Rc 3 [⟨.d (.int .i64 i6), []⟩, ⟨.d (.int .i64 many1), []⟩, ⟨.d (.bool (decide (i6 < many1))), []⟩] <| Rd <| kS_nrm ?_
 cases hb_1 : ((decide (i6 < many1)) : Bool) with
 | true =>
  replace h := ite_t hb_1 h
  refine Ct <| Runs.skip <| kS_nrm <| Sq <| Runs.block <| Sq <| Ro <| Rc 5 [⟨.d (.str s5), []⟩, ⟨.d (.int .u64 n0), []⟩, ⟨.d (.int .u64 (Int.tmod n0 256)), []⟩, ⟨.d (.int .u8 (IntKind.wrap .u8 (Int.tmod n0 256))), []⟩, ⟨.ref [16] 0 0 (List.map (D.int .u8) ([(IntKind.wrap .u8 (Int.tmod n0 256))] : List Int)).length 1, [([16], some (.arr (List.map (D.int .u8) ([(IntKind.wrap .u8 (Int.tmod n0 256))] : List Int)) 0 false))]⟩] <| Rt (some 17) .bytesStr [] none [.ref [16] 0 0 (List.map (D.int .u8) ([(IntKind.wrap .u8 (Int.tmod n0 256))] : List Int)).length 1] (.d (.str (b2s ([(IntKind.wrap .u8 (Int.tmod n0 256))] : List Int)))) [] (cut_bsR (l := ([(IntKind.wrap .u8 (Int.tmod n0 256))] : List Int)) (fz := false) (by kernel_rfl) (by kernel_rfl) rfl) ?_
  obtain ⟨z_1, hz_1, h⟩ := bind_s h
  refine Rt (some 18) (.bin .add) [] none [.d (.str s5), .d (.str (b2s ([(IntKind.wrap .u8 (Int.tmod n0 256))] : List Int)))] (.d (.str z_1)) [] (cut_cat hz_1) <| Rc 1 [⟨.d (.str z_1), []⟩] <| Rd <| kS_nrm <| Ro <| Rc 3 [⟨.d (.int .u64 n0), []⟩, ⟨.d (.int .u64 (IntKind.wrap .u64 (Int.tdiv n0 256))), []⟩, ⟨.d (.int .u64 (IntKind.wrap .u64 (Int.tdiv n0 256))), []⟩] <| Rd <| kB_nrm <| kS_nrm <| Ro <| Rc 3 [⟨.d (.int .i64 i6), []⟩, ⟨.d (.int .i64 (IntKind.wrap .i64 (i6 + 1))), []⟩, ⟨.d (.int .i64 (IntKind.wrap .i64 (i6 + 1))), []⟩] <| Rd ?_
  obtain rfl := Option.some.inj h
  exact ⟨rfl, (), (Canon.nil (by kernel_rfl))⟩
 | false =>
  replace h := ite_f hb_1 h
  refine Cf <| Runs.exit <| kS_exit ?_
  obtain rfl := Option.some.inj h
  exact ⟨nofun, rfl, (), (Canon.nil (by kernel_rfl))⟩
theorem hansomref18_Bytes_ok (n_ : Int) (many_ : Int) (r : (List UInt8)) (h : hansomref18_Bytes n_ many_ = some r) : Runs L F58.body ⟨tmOf [.d (.int .u64 n_), .d (.int .i64 many_)] 0, updW (fun _ => none) []⟩ (hansomref18_Bytes_Q n_ many_ r) := by
 unfold hansomref18_Bytes at h
 refine Sq <| Ro <| Rc 1 [⟨.d (.str ([] : List UInt8)), []⟩] <| Rd <| kS_nrm <| Sq <| Ro <| Rc 1 [⟨.d (.str ([] : List UInt8)), []⟩] <| Rd <| kS_nrm <| Sq <| Sq <| Ro <| Rc 1 [⟨.d (.int .i64 0), []⟩] <| Rd <| kS_nrm <| Runs.block ?_
 obtain ⟨e_1, he_1, h⟩ := bind_s h
 refine Runs.loop (fun x : (Int × (List UInt8) × Int) => hansomref18_Bytes_l8 x.1 many_ x.2.1 x.2.2) (fun (x : (Int × (List UInt8) × Int)) (g : Unit) => hansomref18_Bytes_h8 x.1 many_ x.2.1 x.2.2) (hansomref18_Bytes_P8 n_ many_ many_) (fun x g r hr => hansomref18_Bytes_l8_ok n_ many_ x.1 many_ x.2.1 x.2.2  r hr) () he_1 (Canon.nil (by kernel_rfl)) ?_
 rintro ⟨o, s⟩ hp
 obtain ⟨ho, g_1, hk_1⟩ := hp
 have ho' : o = .exit 0 := ho
 subst ho'
 refine kB_hit <| kS_nrm <| Runs.canon _ hk_1 <| Sq <| Ro <| Rc 2 [⟨.d (.str e_1), []⟩, ⟨.d (.str e_1), []⟩] <| Rd <| kS_nrm <| Runs.ret ?_
 obtain rfl := Option.some.inj h
 exact ⟨Out.ret_ne, (by kernel_rfl)⟩
theorem hansomref18_Bytes_L (n_ : Int) (many_ : Int) (r : (List UInt8)) (h : hansomref18_Bytes n_ many_ = some r) : L 58 [.d (.int .u64 n_), .d (.int .i64 many_)] = some (.d (.str r), [.d (.int .u64 n_), .d (.int .i64 many_)]) := by
 obtain ⟨p, ⟨hne, hf⟩, hr⟩ := hansomref18_Bytes_ok n_ many_ r h
 obtain ⟨k, hk⟩ := run_of (F := F58) (args := [.d (.int .u64 n_), .d (.int .i64 many_)]) (ap := [.d (.int .u64 n_), .d (.int .i64 many_)]) (bx0 := updW (fun _ => none) []) rfl rfl (by kernel_rfl) ⟨p, ⟨hne, hf⟩, hr⟩
 exact lim_run (k := k) rfl hk
def hansomref18_Long_Q (n_ : Int) (r : (List UInt8)) (p : Out × St) : Prop := (∀ i, p.1 ≠ .exit i) ∧ finF F16 [.d (.int .u32 n_)] p.2 = some (.d (.str r), [.d (.int .u32 n_)])
theorem hansomref18_Long_ok (n_ : Int) (r : (List UInt8)) (h : hansomref18_Long n_ = some r) : Runs L F16.body ⟨tmOf [.d (.int .u32 n_)] 0, updW (fun _ => none) []⟩ (hansomref18_Long_Q n_ r) := by
 unfold hansomref18_Long at h
 refine Sq <| Ro <| Rc 1 [⟨.d (.str ([] : List UInt8)), []⟩] <| Rd <| kS_nrm <| Sq <| Ro <| Rc 3 [⟨.d (.int .u32 n_), []⟩, ⟨.d (.int .u64 (IntKind.wrap .u64 n_)), []⟩, ⟨.d (.int .u64 (IntKind.wrap .u64 n_)), []⟩] <| Rd <| kS_nrm <| Sq <| Sq <| Ro <| Rc 2 [⟨.d (.int .u32 n_), []⟩, ⟨.d (.bool (decide (n_ ≤ 128))), []⟩] <| Rd <| kS_nrm ?_
 cases hb_1 : ((decide (n_ ≤ 128)) : Bool) with
 | true =>
  replace h := ite_t hb_1 h
  refine Ct <| Sq <| Ro <| Rc 1 [⟨.d (.int .u64 (IntKind.wrap .u64 n_)), []⟩] ?_
  obtain ⟨r_1, hr_1, h⟩ := bind_s h
  have hc_1 := hansomref18_Bytes_L (IntKind.wrap .u64 n_) 1 r_1 hr_1
  refine Rt (some 9) (.callf 58) [] none [.d (.int .u64 (IntKind.wrap .u64 n_)), .d (.int .i64 1)] (.d (.str r_1)) [] (cut_call (call_of (ws := []) (us := []) (by kernel_rfl) (by kernel_rfl) hc_1 (by kernel_rfl) (by kernel_rfl))) <| Rc 1 [⟨.d (.str r_1), []⟩] <| Rd <| kS_nrm <| Runs.ret <| kS_ret ?_
  obtain rfl := Option.some.inj h
  exact ⟨Out.ret_ne, (by kernel_rfl)⟩
 | false =>
  replace h := ite_f hb_1 h
  refine Cf <| Runs.skip <| kS_nrm <| Sq <| Sq <| Ro <| Rc 2 [⟨.d (.int .u32 n_), []⟩, ⟨.d (.bool (decide (n_ < 65536))), []⟩] <| Rd <| kS_nrm ?_
  cases hb_2 : ((decide (n_ < 65536)) : Bool) with
  | true =>
   replace h := ite_t hb_2 h
   refine Ct <| Sq <| Ro <| Rc 1 [⟨.d (.int .u64 (IntKind.wrap .u64 n_)), []⟩] ?_
   obtain ⟨r_2, hr_2, h⟩ := bind_s h
   have hc_2 := hansomref18_Bytes_L (IntKind.wrap .u64 n_) 2 r_2 hr_2
   refine Rt (some 13) (.callf 58) [] none [.d (.int .u64 (IntKind.wrap .u64 n_)), .d (.int .i64 2)] (.d (.str r_2)) [] (cut_call (call_of (ws := []) (us := []) (by kernel_rfl) (by kernel_rfl) hc_2 (by kernel_rfl) (by kernel_rfl))) ?_
   obtain ⟨z_1, hz_1, h⟩ := bind_s h
   refine Rt (some 14) (.bin .add) [] none [.d (.str ([129] : List UInt8)), .d (.str r_2)] (.d (.str z_1)) [] (cut_cat hz_1) <| Rc 1 [⟨.d (.str z_1), []⟩] <| Rd <| kS_nrm <| Runs.ret <| kS_ret ?_
   obtain rfl := Option.some.inj h
   exact ⟨Out.ret_ne, (by kernel_rfl)⟩
  | false =>
   replace h := ite_f hb_2 h
   refine Cf <| Runs.skip <| kS_nrm <| Sq <| Sq <| Ro <| Rc 2 [⟨.d (.int .u32 n_), []⟩, ⟨.d (.bool (decide (n_ < 16777216))), []⟩] <| Rd <| kS_nrm ?_
   cases hb_3 : ((decide (n_ < 16777216)) : Bool) with
   | true =>
    replace h := ite_t hb_3 h
    refine Ct <| Sq <| Ro <| Rc 1 [⟨.d (.int .u64 (IntKind.wrap .u64 n_)), []⟩] ?_
    obtain ⟨r_3, hr_3, h⟩ := bind_s h
    have hc_3 := hansomref18_Bytes_L (IntKind.wrap .u64 n_) 3 r_3 hr_3
    refine Rt (some 18) (.callf 58) [] none [.d (.int .u64 (IntKind.wrap .u64 n_)), .d (.int .i64 3)] (.d (.str r_3)) [] (cut_call (call_of (ws := []) (us := []) (by kernel_rfl) (by kernel_rfl) hc_3 (by kernel_rfl) (by kernel_rfl))) ?_
    obtain ⟨z_2, hz_2, h⟩ := bind_s h
    refine Rt (some 19) (.bin .add) [] none [.d (.str ([132] : List UInt8)), .d (.str r_3)] (.d (.str z_2)) [] (cut_cat hz_2) <| Rc 1 [⟨.d (.str z_2), []⟩] <| Rd <| kS_nrm <| Runs.ret <| kS_ret ?_
    obtain rfl := Option.some.inj h
    exact ⟨Out.ret_ne, (by kernel_rfl)⟩
   | false =>
    replace h := ite_f hb_3 h
    refine Cf <| Runs.skip <| kS_nrm <| Sq <| Ro <| Rc 1 [⟨.d (.int .u64 (IntKind.wrap .u64 n_)), []⟩] ?_
    obtain ⟨r_4, hr_4, h⟩ := bind_s h
    have hc_4 := hansomref18_Bytes_L (IntKind.wrap .u64 n_) 4 r_4 hr_4
    refine Rt (some 21) (.callf 58) [] none [.d (.int .u64 (IntKind.wrap .u64 n_)), .d (.int .i64 4)] (.d (.str r_4)) [] (cut_call (call_of (ws := []) (us := []) (by kernel_rfl) (by kernel_rfl) hc_4 (by kernel_rfl) (by kernel_rfl))) ?_
    obtain ⟨z_3, hz_3, h⟩ := bind_s h
    refine Rt (some 22) (.bin .add) [] none [.d (.str ([136] : List UInt8)), .d (.str r_4)] (.d (.str z_3)) [] (cut_cat hz_3) <| Rc 1 [⟨.d (.str z_3), []⟩] <| Rd <| kS_nrm <| Runs.ret ?_
    obtain rfl := Option.some.inj h
    exact ⟨Out.ret_ne, (by kernel_rfl)⟩
theorem hansomref18_Long_L (n_ : Int) (r : (List UInt8)) (h : hansomref18_Long n_ = some r) : L 16 [.d (.int .u32 n_)] = some (.d (.str r), [.d (.int .u32 n_)]) := by
 obtain ⟨p, ⟨hne, hf⟩, hr⟩ := hansomref18_Long_ok n_ r h
 obtain ⟨k, hk⟩ := run_of (F := F16) (args := [.d (.int .u32 n_)]) (ap := [.d (.int .u32 n_)]) (bx0 := updW (fun _ => none) []) rfl rfl (by kernel_rfl) ⟨p, ⟨hne, hf⟩, hr⟩
 exact lim_run (k := k) rfl hk
def hansomref21_Communal_h8 (l0 : (List Ext)) (b3 : (List UInt8)) (i4 : Int) : St := ⟨tab [(0, .d (.sl (List.map Ext.d l0))), (3, .d (.str b3)), (4, .d (.int .i64 i4))], tabB []⟩
def hansomref21_Communal_h25 (b3 : (List UInt8)) : St := ⟨tab [(3, .d (.str b3))], tabB []⟩
def hansomref21_Communal_Q (l_ : (List Ext)) (r : (List UInt8)) (p : Out × St) : Prop := (∀ i, p.1 ≠ .exit i) ∧ finF F14 [.d (.sl (List.map Ext.d l_))] p.2 = some (.d (.str r), [.d (.sl (List.map Ext.d l_))])
def hansomref21_Communal_P8 (l_ : (List Ext)) (l0 : (List Ext)) (e : (List UInt8)) (p : Out × St) : Prop := p.1 = .exit 0 ∧ ∃ g : Unit, Canon [] [3] [] p.2 (hansomref21_Communal_h25 e)
theorem hansomref21_Communal_l8_ok (l_ : (List Ext)) (l0 : (List Ext)) (b3 : (List UInt8)) (i4 : Int) (r : (Lp ((List UInt8) × Int) (List UInt8))) (h : hansomref21_Communal_l8 l0 b3 i4 = some r) : Runs L F14l8 (hansomref21_Communal_h8 l0 b3 i4) (LQ [] [0, 3, 4] [] (fun (x : ((List UInt8) × Int)) (g : Unit) => hansomref21_Communal_h8 l0 x.1 x.2) (hansomref21_Communal_P8 l_ l0) r) := by
 unfold hansomref21_Communal_l8 at h
 refine Sq <| Sq <| Ro <| Rc 2 [⟨.d (.int .i64 i4), []⟩, ⟨.d (.sl (List.map Ext.d l0)), []⟩] <| Rt (some 7) .lenL [] none [.d (.sl (List.map Ext.d l0))] (.d (.int .i64 (l0.length : Int))) [] (cut_len _) <| Rc 1 [⟨.d (.bool (decide (i4 < (l0.length : Int)))), []⟩] <| Rd <| kS_nrm ?_
 cases hb_1 : ((decide (i4 < (l0.length : Int))) : Bool) with
 | true =>
  replace h := ite_t hb_1 h
  refine Ct <| Runs.skip <| kS_nrm <| Sq <| Runs.block <| Sq <| Ro <| Rc 3 [⟨.d (.str b3), []⟩, ⟨.d (.sl (List.map Ext.d l0)), []⟩, ⟨.d (.int .i64 i4), []⟩] ?_
  obtain ⟨z_1, hz_1, h⟩ := bind_s h
  refine Rt (some 14) (.iaddrS 3) [] none [.d (.sl (List.map Ext.d l0)), .d (.int .i64 i4)] (.elt (Ext.d z_1) 0) [] (cut_at hz_1 (fun _ => rfl)) <| Rc 2 [⟨.elt (Ext.d z_1) 0, []⟩, ⟨.d (.str z_1.Name), []⟩] ?_
  obtain ⟨r_1, hr_1, h⟩ := bind_s h
  have hc_1 := hansomref18_Name_L z_1.Name r_1 hr_1
  refine Rt (some 17) (.callf 15) [] none [.d (.str z_1.Name)] (.d (.str r_1)) [] (cut_call (call_of (ws := []) (us := []) (by kernel_rfl) (by kernel_rfl) hc_1 (by kernel_rfl) (by kernel_rfl))) ?_
  obtain ⟨z_2, hz_2, h⟩ := bind_s h
  refine Rt (some 18) (.bin .add) [] none [.d (.str r_1), .d (.str ([0] : List UInt8))] (.d (.str z_2)) [] (cut_cat hz_2) ?_
  obtain ⟨z_3, hz_3, h⟩ := bind_s h
  refine Rt (some 19) (.bin .add) [] none [.d (.str b3), .d (.str z_2)] (.d (.str z_3)) [] (cut_cat hz_3) <| Rc 1 [⟨.d (.str z_3), []⟩] <| Rd <| kS_nrm <| Sq <| Ro <| Rc 2 [⟨.d (.sl (List.map Ext.d l0)), []⟩, ⟨.d (.int .i64 i4), []⟩] ?_
  obtain ⟨z_4, hz_4, h⟩ := bind_s h
  refine Rt (some 22) (.iaddrS 3) [] none [.d (.sl (List.map Ext.d l0)), .d (.int .i64 i4)] (.elt (Ext.d z_4) 0) [] (cut_at hz_4 (fun _ => rfl)) <| Rc 3 [⟨.elt (Ext.d z_4) 1, []⟩, ⟨.d (.int .i64 z_4.Com), []⟩, ⟨.d (.bool (z_4.Com == 97)), []⟩] <| Rd <| kS_nrm ?_
  cases hb_2 : ((z_4.Com == 97) : Bool) with
  | true =>
   replace h := ite_t hb_2 h
   refine Ct <| Ro <| Rc 3 [⟨.d (.str z_3), []⟩, ⟨.d (.sl (List.map Ext.d l0)), []⟩, ⟨.d (.int .i64 i4), []⟩] ?_
   obtain ⟨z_5, hz_5, h⟩ := bind_s h
   refine Rt (some 29) (.iaddrS 3) [] none [.d (.sl (List.map Ext.d l0)), .d (.int .i64 i4)] (.elt (Ext.d z_5) 0) [] (cut_at hz_5 (fun _ => rfl)) <| Rc 2 [⟨.elt (Ext.d z_5) 2, []⟩, ⟨.d (.int .u32 z_5.Len), []⟩] ?_
   obtain ⟨r_2, hr_2, h⟩ := bind_s h
   have hc_2 := hansomref18_Long_L z_5.Len r_2 hr_2
   refine Rt (some 32) (.callf 16) [] none [.d (.int .u32 z_5.Len)] (.d (.str r_2)) [] (cut_call (call_of (ws := []) (us := []) (by kernel_rfl) (by kernel_rfl) hc_2 (by kernel_rfl) (by kernel_rfl))) ?_
   obtain ⟨z_6, hz_6, h⟩ := bind_s h
   refine Rt (some 33) (.bin .add) [] none [.d (.str ([97] : List UInt8)), .d (.str r_2)] (.d (.str z_6)) [] (cut_cat hz_6) ?_
   obtain ⟨z_7, hz_7, h⟩ := bind_s h
   refine Rt (some 34) (.bin .add) [] none [.d (.str z_6), .d (.str ([1] : List UInt8))] (.d (.str z_7)) [] (cut_cat hz_7) ?_
   obtain ⟨z_8, hz_8, h⟩ := bind_s h
   refine Rt (some 35) (.bin .add) [] none [.d (.str z_3), .d (.str z_7)] (.d (.str z_8)) [] (cut_cat hz_8) <| Rc 1 [⟨.d (.str z_8), []⟩] <| Rd <| kB_nrm <| kS_nrm <| Ro <| Rc 3 [⟨.d (.int .i64 i4), []⟩, ⟨.d (.int .i64 (IntKind.wrap .i64 (i4 + 1))), []⟩, ⟨.d (.int .i64 (IntKind.wrap .i64 (i4 + 1))), []⟩] <| Rd ?_
   obtain rfl := Option.some.inj h
   exact ⟨rfl, (), (Canon.nil (by kernel_rfl))⟩
  | false =>
   replace h := ite_f hb_2 h
   refine Cf <| Ro <| Rc 3 [⟨.d (.str z_3), []⟩, ⟨.d (.sl (List.map Ext.d l0)), []⟩, ⟨.d (.int .i64 i4), []⟩] ?_
   obtain ⟨z_9, hz_9, h⟩ := bind_s h
   refine Rt (some 39) (.iaddrS 3) [] none [.d (.sl (List.map Ext.d l0)), .d (.int .i64 i4)] (.elt (Ext.d z_9) 0) [] (cut_at hz_9 (fun _ => rfl)) <| Rc 2 [⟨.elt (Ext.d z_9) 2, []⟩, ⟨.d (.int .u32 z_9.Len), []⟩] ?_
   obtain ⟨r_3, hr_3, h⟩ := bind_s h
   have hc_3 := hansomref18_Long_L z_9.Len r_3 hr_3
   refine Rt (some 42) (.callf 16) [] none [.d (.int .u32 z_9.Len)] (.d (.str r_3)) [] (cut_call (call_of (ws := []) (us := []) (by kernel_rfl) (by kernel_rfl) hc_3 (by kernel_rfl) (by kernel_rfl))) ?_
   obtain ⟨z_10, hz_10, h⟩ := bind_s h
   refine Rt (some 43) (.bin .add) [] none [.d (.str ([98] : List UInt8)), .d (.str r_3)] (.d (.str z_10)) [] (cut_cat hz_10) ?_
   obtain ⟨z_11, hz_11, h⟩ := bind_s h
   refine Rt (some 44) (.bin .add) [] none [.d (.str z_3), .d (.str z_10)] (.d (.str z_11)) [] (cut_cat hz_11) <| Rc 1 [⟨.d (.str z_11), []⟩] <| Rd <| kB_nrm <| kS_nrm <| Ro <| Rc 3 [⟨.d (.int .i64 i4), []⟩, ⟨.d (.int .i64 (IntKind.wrap .i64 (i4 + 1))), []⟩, ⟨.d (.int .i64 (IntKind.wrap .i64 (i4 + 1))), []⟩] <| Rd ?_
   obtain rfl := Option.some.inj h
   exact ⟨rfl, (), (Canon.nil (by kernel_rfl))⟩
 | false =>
  replace h := ite_f hb_1 h
  refine Cf <| Runs.exit <| kS_exit ?_
  obtain rfl := Option.some.inj h
  exact ⟨nofun, rfl, (), (Canon.nil (by kernel_rfl))⟩
theorem hansomref21_Communal_ok (l_ : (List Ext)) (r : (List UInt8)) (h : hansomref21_Communal l_ = some r) : Runs L F14.body ⟨tmOf [.d (.sl (List.map Ext.d l_))] 0, updW (fun _ => none) []⟩ (hansomref21_Communal_Q l_ r) := by
 unfold hansomref21_Communal at h
 refine Sq <| Ro <| Rc 1 [⟨.d (.str ([] : List UInt8)), []⟩] <| Rd <| kS_nrm <| Sq <| Ro <| Rc 1 [⟨.d (.str ([] : List UInt8)), []⟩] <| Rd <| kS_nrm <| Sq <| Sq <| Ro <| Rc 1 [⟨.d (.int .i64 0), []⟩] <| Rd <| kS_nrm <| Runs.block ?_
 obtain ⟨e_1, he_1, h⟩ := bind_s h
 refine Runs.loop (fun x : ((List UInt8) × Int) => hansomref21_Communal_l8 l_ x.1 x.2) (fun (x : ((List UInt8) × Int)) (g : Unit) => hansomref21_Communal_h8 l_ x.1 x.2) (hansomref21_Communal_P8 l_ l_) (fun x g r hr => hansomref21_Communal_l8_ok l_ l_ x.1 x.2  r hr) () he_1 (Canon.nil (by kernel_rfl)) ?_
 rintro ⟨o, s⟩ hp
 obtain ⟨ho, g_1, hk_1⟩ := hp
 have ho' : o = .exit 0 := ho
 subst ho'
 refine kB_hit <| kS_nrm <| Runs.canon _ hk_1 <| Sq <| Ro <| Rc 2 [⟨.d (.str e_1), []⟩, ⟨.d (.str e_1), []⟩] <| Rd <| kS_nrm <| Runs.ret ?_
 obtain rfl := Option.some.inj h
 exact ⟨Out.ret_ne, (by kernel_rfl)⟩
theorem hansomref21_Communal_L (l_ : (List Ext)) (r : (List UInt8)) (h : hansomref21_Communal l_ = some r) : L 14 [.d (.sl (List.map Ext.d l_))] = some (.d (.str r), [.d (.sl (List.map Ext.d l_))]) := by
 obtain ⟨p, ⟨hne, hf⟩, hr⟩ := hansomref21_Communal_ok l_ r h
 obtain ⟨k, hk⟩ := run_of (F := F14) (args := [.d (.sl (List.map Ext.d l_))]) (ap := [.d (.sl (List.map Ext.d l_))]) (bx0 := updW (fun _ => none) []) rfl rfl (by kernel_rfl) ⟨p, ⟨hne, hf⟩, hr⟩
 exact lim_run (k := k) rfl hk
def index_Put_Q (n_ : Int) (r : (List Int)) (p : Out × St) : Prop := (∀ i, p.1 ≠ .exit i) ∧ finF F61 [.d (.int .i64 n_)] p.2 = some (.arr false 1 (List.map (D.int .u8) r), [.d (.int .i64 n_)])
theorem index_Put_ok (n_ : Int) (r : (List Int)) (h : index_Put n_ = some r) : Runs L F61.body ⟨tmOf [.d (.int .i64 n_)] 0, updW (fun _ => none) []⟩ (index_Put_Q n_ r) := by
 unfold index_Put at h
 refine Sq <| Ro <| Rc 1 [⟨.nils, []⟩] <| Rd <| kS_nrm <| Sq <| Runs.block <| Sq <| Ro <| Rc 3 [⟨.d (.int .i64 n_), []⟩, ⟨.d (.bool (decide (n_ < 0))), []⟩, ⟨.d (.bool (decide (n_ < 0))), []⟩] ?_
 cases hb_1 : ((decide (n_ < 0)) : Bool) with
 | true =>
  replace h := ite_t hb_1 h
  refine Rc 4 [⟨.tup [], []⟩, ⟨.tup [], []⟩, ⟨.d (.bool true), []⟩, ⟨.d (.bool true), []⟩] <| Rd <| kS_nrm <| Ct <| Sq <| Ro <| Rc 2 [⟨.ref [10] 0 0 (List.map (D.int .u8) ([0] : List Int)).length 1, [([10], some (.arr (List.map (D.int .u8) ([0] : List Int)) 0 false))]⟩, ⟨.ref [10] 0 0 (List.map (D.int .u8) ([0] : List Int)).length 1, []⟩] <| Rd <| kS_nrm <| Runs.ret <| kB_ret <| kS_ret ?_
  obtain rfl := Option.some.inj h
  exact ⟨Out.ret_ne, (fin_of (rs := [.ref [10] 0 0 (List.map (D.int .u8) ([0] : List Int)).length 1]) (by kernel_rfl) (by kernel_rfl) (outs_own (id := [10]) (v := 0) (fz := false) (es := List.map (D.int .u8) ([0] : List Int)) (by kernel_rfl) (by decide) rfl outs_nil) (gives_cons (give_same (by kernel_rfl)) gives_nil))⟩
 | false =>
  replace h := ite_f hb_1 h
  refine Rc 4 [⟨.d (.int .i64 n_), []⟩, ⟨.d (.bool (decide (n_ > 32767))), []⟩, ⟨.d (.bool (decide (n_ > 32767))), []⟩, ⟨.d (.bool (decide (n_ > 32767))), []⟩] <| Rd <| kS_nrm ?_
  cases hb_2 : ((decide (n_ > 32767)) : Bool) with
  | true =>
   replace h := ite_t hb_2 h
   refine Ct <| Sq <| Ro <| Rc 2 [⟨.ref [10] 0 0 (List.map (D.int .u8) ([0] : List Int)).length 1, [([10], some (.arr (List.map (D.int .u8) ([0] : List Int)) 0 false))]⟩, ⟨.ref [10] 0 0 (List.map (D.int .u8) ([0] : List Int)).length 1, []⟩] <| Rd <| kS_nrm <| Runs.ret <| kB_ret <| kS_ret ?_
   obtain rfl := Option.some.inj h
   exact ⟨Out.ret_ne, (fin_of (rs := [.ref [10] 0 0 (List.map (D.int .u8) ([0] : List Int)).length 1]) (by kernel_rfl) (by kernel_rfl) (outs_own (id := [10]) (v := 0) (fz := false) (es := List.map (D.int .u8) ([0] : List Int)) (by kernel_rfl) (by decide) rfl outs_nil) (gives_cons (give_same (by kernel_rfl)) gives_nil))⟩
  | false =>
   replace h := ite_f hb_2 h
   refine Cf <| Sq <| Ro <| Rc 3 [⟨.d (.int .i64 n_), []⟩, ⟨.d (.bool (decide (n_ < 128))), []⟩, ⟨.d (.bool (decide (n_ < 128))), []⟩] <| Rd <| kS_nrm ?_
   cases hb_3 : ((decide (n_ < 128)) : Bool) with
   | true =>
    replace h := ite_t hb_3 h
    refine Ct <| Sq <| Ro <| Rc 4 [⟨.d (.int .i64 n_), []⟩, ⟨.d (.int .u8 (IntKind.wrap .u8 n_)), []⟩, ⟨.ref [16] 0 0 (List.map (D.int .u8) ([(IntKind.wrap .u8 n_)] : List Int)).length 1, [([16], some (.arr (List.map (D.int .u8) ([(IntKind.wrap .u8 n_)] : List Int)) 0 false))]⟩, ⟨.ref [16] 0 0 (List.map (D.int .u8) ([(IntKind.wrap .u8 n_)] : List Int)).length 1, []⟩] <| Rd <| kS_nrm <| Runs.ret <| kB_ret <| kS_ret ?_
    obtain rfl := Option.some.inj h
    exact ⟨Out.ret_ne, (fin_of (rs := [.ref [16] 0 0 (List.map (D.int .u8) ([(IntKind.wrap .u8 n_)] : List Int)).length 1]) (by kernel_rfl) (by kernel_rfl) (outs_own (id := [16]) (v := 0) (fz := false) (es := List.map (D.int .u8) ([(IntKind.wrap .u8 n_)] : List Int)) (by kernel_rfl) (by decide) rfl outs_nil) (gives_cons (give_same (by kernel_rfl)) gives_nil))⟩
   | false =>
    replace h := ite_f hb_3 h
    refine Cf <| Runs.skip <| kB_nrm <| kS_nrm <| Sq <| Ro <| Rc 8 [⟨.d (.int .i64 n_), []⟩, ⟨.d (.int .i64 (shrI .i64 n_ 8)), []⟩, ⟨.d (.int .u8 (IntKind.wrap .u8 (shrI .i64 n_ 8))), []⟩, ⟨.d (.int .u8 (bitsOp .or .u8 (IntKind.wrap .u8 (shrI .i64 n_ 8)) 128)), []⟩, ⟨.d (.int .i64 n_), []⟩, ⟨.d (.int .u8 (IntKind.wrap .u8 n_)), []⟩, ⟨.ref [23] 0 0 (List.map (D.int .u8) ([(bitsOp .or .u8 (IntKind.wrap .u8 (shrI .i64 n_ 8)) 128), (IntKind.wrap .u8 n_)] : List Int)).length 1, [([23], some (.arr (List.map (D.int .u8) ([(bitsOp .or .u8 (IntKind.wrap .u8 (shrI .i64 n_ 8)) 128), (IntKind.wrap .u8 n_)] : List Int)) 0 false))]⟩, ⟨.ref [23] 0 0 (List.map (D.int .u8) ([(bitsOp .or .u8 (IntKind.wrap .u8 (shrI .i64 n_ 8)) 128), (IntKind.wrap .u8 n_)] : List Int)).length 1, []⟩] <| Rd <| kS_nrm <| Runs.ret ?_
    obtain rfl := Option.some.inj h
    exact ⟨Out.ret_ne, (fin_of (rs := [.ref [23] 0 0 (List.map (D.int .u8) ([(bitsOp .or .u8 (IntKind.wrap .u8 (shrI .i64 n_ 8)) 128), (IntKind.wrap .u8 n_)] : List Int)).length 1]) (by kernel_rfl) (by kernel_rfl) (outs_own (id := [23]) (v := 0) (fz := false) (es := List.map (D.int .u8) ([(bitsOp .or .u8 (IntKind.wrap .u8 (shrI .i64 n_ 8)) 128), (IntKind.wrap .u8 n_)] : List Int)) (by kernel_rfl) (by decide) rfl outs_nil) (gives_cons (give_same (by kernel_rfl)) gives_nil))⟩
theorem index_Put_L (n_ : Int) (r : (List Int)) (h : index_Put n_ = some r) : L 61 [.d (.int .i64 n_)] = some (.arr false 1 (List.map (D.int .u8) r), [.d (.int .i64 n_)]) := by
 obtain ⟨p, ⟨hne, hf⟩, hr⟩ := index_Put_ok n_ r h
 obtain ⟨k, hk⟩ := run_of (F := F61) (args := [.d (.int .i64 n_)]) (ap := [.d (.int .i64 n_)]) (bx0 := updW (fun _ => none) []) rfl rfl (by kernel_rfl) ⟨p, ⟨hne, hf⟩, hr⟩
 exact lim_run (k := k) rfl hk
def pubs_Publics_h4 (r3 : Record) (b_2_0 : Int) (l0 : (List Pub)) (v_901_3 : Nat) : St := ⟨tab [(0, .d (.sl (List.map Pub.d l0))), (2, .ptr [2] 0 0), (3, .ptr [3] 0 0)], tabB [([2], some (.cells [.d (.int .u8 b_2_0), .nils] 0)), ([3], some (.cells [.d (.int .u8 r3.Kind), .ref [901, 3] v_901_3 0 (List.map (D.int .u8) r3.Body).length 1] 0)), ([901, 3], some (.arr (List.map (D.int .u8) r3.Body) v_901_3 false))]⟩
def pubs_Publics_h8 (r3 : Record) (b_2_0 : Int) (t7 : (List Pub)) (t8 : Int) (t9 : Int) (v_951_3 : Nat) : St := ⟨tab [(2, .ptr [2] 0 0), (3, .ptr [3] 0 0), (7, .d (.sl (List.map Pub.d t7))), (8, .d (.int .i64 t8)), (9, .d (.int .i64 t9))], tabB [([2], some (.cells [.d (.int .u8 b_2_0), .nils] 0)), ([3], some (.cells [.d (.int .u8 r3.Kind), .ref [951, 3] v_951_3 0 (List.map (D.int .u8) r3.Body).length 1] 0)), ([951, 3], some (.arr (List.map (D.int .u8) r3.Body) v_951_3 false))]⟩
def pubs_Publics_h31 (r3 : Record) (p5 : Pub) (b_2_0 : Int) (t7 : (List Pub)) (t8 : Int) (t9 : Int) (v_951_3 : Nat) : St := ⟨tab [(2, .ptr [2] 0 0), (3, .ptr [3] 0 0), (5, .ptr [5] 0 0), (7, .d (.sl (List.map Pub.d t7))), (8, .d (.int .i64 t8)), (9, .d (.int .i64 t9))], tabB [([2], some (.cells [.d (.int .u8 b_2_0), .nils] 0)), ([3], some (.cells [.d (.int .u8 r3.Kind), .ref [951, 3] v_951_3 0 (List.map (D.int .u8) r3.Body).length 1] 0)), ([5], some (.cells [.d (.int .i64 p5.Group), .d (.int .i64 p5.Seg), .d (.int .u16 p5.Frame), .d (.str p5.Name), .d (.int .u16 p5.Off)] 0)), ([951, 3], some (.arr (List.map (D.int .u8) r3.Body) v_951_3 false))]⟩
def pubs_Publics_h35 (r3 : Record) (b_2_0 : Int) (v_951_3 : Nat) : St := ⟨tab [(2, .ptr [2] 0 0), (3, .ptr [3] 0 0)], tabB [([2], some (.cells [.d (.int .u8 b_2_0), .nils] 0)), ([3], some (.cells [.d (.int .u8 r3.Kind), .ref [951, 3] v_951_3 0 (List.map (D.int .u8) r3.Body).length 1] 0)), ([951, 3], some (.arr (List.map (D.int .u8) r3.Body) v_951_3 false))]⟩
def pubs_Publics_Q (l_ : (List Pub)) (r : Record) (p : Out × St) : Prop := (∀ i, p.1 ≠ .exit i) ∧ finF F60 [.d (.sl (List.map Pub.d l_))] p.2 = some (.d (Record.d r), [.d (.sl (List.map Pub.d l_))])
def pubs_Publics_P8 (l_ : (List Pub)) (b_2_0 : Int) (t7 : (List Pub)) (t8 : Int) (e : Record) (p : Out × St) : Prop := p.1 = .exit 0 ∧ ∃ g : Nat, Canon [.mvB [3] 1 [951, 3]] [2, 3] [[2], [3], [951, 3]] p.2 (pubs_Publics_h35 e b_2_0 g)
theorem pubs_Publics_j31_ok (l_ : (List Pub)) (r3 : Record) (p5 : Pub) (b_2_0 : Int) (t7 : (List Pub)) (t8 : Int) (t9 : Int) (v_951_3 : Nat) (r : (Lp (Record × Int) Record)) (h : pubs_Publics_j31 r3 p5 b_2_0 t7 t8 t9 = some r) : Runs L F60b31 (pubs_Publics_h31 r3 p5 b_2_0 t7 t8 t9 v_951_3) (kB 1 (kS L F60c34 (LQ [.mvB [3] 1 [951, 3]] [2, 3, 7, 8, 9] [[2], [3], [951, 3]] (fun (x : (Record × Int)) (g : Nat) => pubs_Publics_h8 x.1 b_2_0 t7 t8 x.2 g) (pubs_Publics_P8 l_ b_2_0 t7 t8) r))) := by
 unfold pubs_Publics_j31 at h
 refine Sq <| Ro <| Rc 4 [⟨.ptr [3] 0 1, []⟩, ⟨.ref [951, 3] v_951_3 0 (List.map (D.int .u8) r3.Body).length 1, []⟩, ⟨.ptr [5] 0 3, []⟩, ⟨.d (.str p5.Name), []⟩] ?_
 obtain ⟨r_4, hr_4, h⟩ := bind_s h
 have hc_4 := index_Name_L p5.Name r_4 hr_4
 refine Rt (some 38) (.callf 48) [] (some []) [.d (.str p5.Name)] (.d (.sl (List.map (D.int .u8) r_4))) [] (cut_call (call_of (ws := []) (us := []) (by kernel_rfl) (by kernel_rfl) hc_4 (by kernel_rfl) (by kernel_rfl))) ?_
 obtain ⟨z_4, hz_4, h⟩ := bind_s h
 refine Rt (some 39) (.append 1 1 false) [] none [.ref [951, 3] v_951_3 0 (List.map (D.int .u8) r3.Body).length 1, .d (.sl (List.map (D.int .u8) r_4))] (.ref [951, 3] (v_951_3 + 1) 0 (List.map (D.int .u8) z_4).length 1) [([951, 3], some (.arr (List.map (D.int .u8) z_4) (v_951_3 + 1) false))] (cut_appR (e := (D.int .u8)) (l := r3.Body) (fz := false) (ws := []) (ap_data _) (fun _ => rfl) hz_4 (by kernel_rfl) (by kernel_rfl) rfl) <| Rc 2 [⟨.ptr [3] 0 1, []⟩, ⟨.tup [], [([3], some (.cells [.d (.int .u8 r3.Kind), .ref [951, 3] (v_951_3 + 1) 0 (List.map (D.int .u8) z_4).length 1] 0))]⟩] <| Rd <| kS_nrm <| Ro <| Rc 4 [⟨.ptr [3] 0 1, []⟩, ⟨.ref [951, 3] (v_951_3 + 1) 0 (List.map (D.int .u8) z_4).length 1, []⟩, ⟨.ptr [5] 0 4, []⟩, ⟨.d (.int .u16 p5.Off), []⟩] ?_
 obtain ⟨r_5, hr_5, h⟩ := bind_s h
 have hc_5 := index_Two_L p5.Off r_5 hr_5
 refine Rt (some 45) (.callf 62) [[47]] (some []) [.d (.int .u16 p5.Off)] (.ref [45] 0 0 (List.map (D.int .u8) r_5).length 1) [([45], some (.arr (List.map (D.int .u8) r_5) 0 false))] (cut_call (call_of (ws := []) (us := []) (by kernel_rfl) (gives_cons (ws := []) (give_same (by kernel_rfl)) gives_nil) hc_5 (by kernel_rfl) (by kernel_rfl))) ?_
 obtain ⟨z_5, hz_5, h⟩ := bind_s h
 refine Rt (some 46) (.append 1 1 false) [[47]] (some [[1, 3], [18], [22], [32], [39], [46], [48], [901, 3], [951, 3]]) [.ref [951, 3] (v_951_3 + 1) 0 (List.map (D.int .u8) z_4).length 1, .ref [45] 0 0 (List.map (D.int .u8) r_5).length 1] (.ref [951, 3] ((v_951_3 + 1) + 1) 0 (List.map (D.int .u8) z_5).length 1) [([45], some (.arr (List.map (D.int .u8) r_5) 0 true)), ([951, 3], some (.arr (List.map (D.int .u8) z_5) ((v_951_3 + 1) + 1) false))] (cut_appR (e := (D.int .u8)) (l := z_4) (fz := false) (ws := [([45], some (.arr (List.map (D.int .u8) r_5) 0 true))]) (ap_ref (e := (D.int .u8)) (l := r_5) (fz := false) (by kernel_rfl) (by kernel_rfl) rfl) (fun _ => rfl) hz_5 (by kernel_rfl) (by kernel_rfl) rfl) <| Rc 1 [⟨.ref [47] 0 0 (List.map (D.int .u8) ([0] : List Int)).length 1, [([47], some (.arr (List.map (D.int .u8) ([0] : List Int)) 0 false))]⟩] ?_
 obtain ⟨z_6, hz_6, h⟩ := bind_s h
 refine Rt (some 48) (.append 1 1 false) [] none [.ref [951, 3] ((v_951_3 + 1) + 1) 0 (List.map (D.int .u8) z_5).length 1, .ref [47] 0 0 (List.map (D.int .u8) ([0] : List Int)).length 1] (.ref [951, 3] (((v_951_3 + 1) + 1) + 1) 0 (List.map (D.int .u8) z_6).length 1) [([47], some (.arr (List.map (D.int .u8) ([0] : List Int)) 0 true)), ([951, 3], some (.arr (List.map (D.int .u8) z_6) (((v_951_3 + 1) + 1) + 1) false))] (cut_appR (e := (D.int .u8)) (l := z_5) (fz := false) (ws := [([47], some (.arr (List.map (D.int .u8) ([0] : List Int)) 0 true))]) (ap_ref (e := (D.int .u8)) (l := ([0] : List Int)) (fz := false) (by kernel_rfl) (by kernel_rfl) rfl) (fun _ => rfl) hz_6 (by kernel_rfl) (by kernel_rfl) rfl) <| Rc 2 [⟨.ptr [3] 0 1, []⟩, ⟨.tup [], [([3], some (.cells [.d (.int .u8 r3.Kind), .ref [951, 3] (((v_951_3 + 1) + 1) + 1) 0 (List.map (D.int .u8) z_6).length 1] 0))]⟩] <| Rd <| kB_nrm <| kS_nrm <| Ro <| Rc 2 [⟨.d (.int .i64 (IntKind.wrap .i64 (t9 + 1))), []⟩, ⟨.d (.int .i64 (IntKind.wrap .i64 (t9 + 1))), []⟩] <| Rd ?_
 obtain rfl := Option.some.inj h
 exact ⟨rfl, (((v_951_3 + 1) + 1) + 1), (Canon.same (by kernel_rfl) (Canon.nil (by kernel_rfl)))⟩
theorem pubs_Publics_l8_ok (l_ : (List Pub)) (r3 : Record) (b_2_0 : Int) (t7 : (List Pub)) (t8 : Int) (t9 : Int) (v_951_3 : Nat) (r : (Lp (Record × Int) Record)) (h : pubs_Publics_l8 r3 b_2_0 t7 t8 t9 = some r) : Runs L F60l8 (pubs_Publics_h8 r3 b_2_0 t7 t8 t9 v_951_3) (LQ [.mvB [3] 1 [951, 3]] [2, 3, 7, 8, 9] [[2], [3], [951, 3]] (fun (x : (Record × Int)) (g : Nat) => pubs_Publics_h8 x.1 b_2_0 t7 t8 x.2 g) (pubs_Publics_P8 l_ b_2_0 t7 t8) r) := by
 unfold pubs_Publics_l8 at h
 refine Sq <| Ro <| Rc 1 [⟨.d (.bool (decide (t9 < t8))), []⟩] <| Rd <| kS_nrm <| Sq ?_
 cases hb_1 : ((decide (t9 < t8)) : Bool) with
 | true =>
  replace h := ite_t hb_1 h
  refine Ct <| Runs.skip <| kS_nrm <| Sq <| Runs.block <| Sq <| Ro <| Rc 1 [⟨.d (.int .i64 t9), []⟩] ?_
  obtain ⟨z_1, hz_1, h⟩ := bind_s h
  refine Rt (some 12) (.iaddrS 5) [] none [.d (.sl (List.map Pub.d t7)), .d (.int .i64 t9)] (.elt (Pub.d z_1) 0) [] (cut_at hz_1 (fun _ => rfl)) <| Rc 4 [⟨.d (Pub.d z_1), []⟩, ⟨.ptr [5] 0 0, [([5], some (.cells [.d (.int .i64 0), .d (.int .i64 0), .d (.int .u16 0), .d (.str []), .d (.int .u16 0)] 0))]⟩, ⟨.d (.int .i64 t9), []⟩, ⟨.tup [], [([5], some (.cells [.d (.int .i64 z_1.Group), .d (.int .i64 z_1.Seg), .d (.int .u16 z_1.Frame), .d (.str z_1.Name), .d (.int .u16 z_1.Off)] 0))]⟩] <| Rd <| kS_nrm <| Sq <| Sq <| Ro <| Rc 2 [⟨.d (.int .i64 t9), []⟩, ⟨.d (.bool (t9 == 0)), []⟩] <| Rd <| kS_nrm ?_
  cases hb_2 : ((t9 == 0) : Bool) with
  | true =>
   replace h := ite_t hb_2 h
   refine Ct <| Sq <| Ro <| Rc 2 [⟨.ptr [5] 0 0, []⟩, ⟨.d (.int .i64 z_1.Group), []⟩] ?_
   obtain ⟨r_1, hr_1, h⟩ := bind_s h
   have hc_1 := index_Put_L z_1.Group r_1 hr_1
   refine Rt (some 18) (.callf 61) [] (some []) [.d (.int .i64 z_1.Group)] (.ref [18] 0 0 (List.map (D.int .u8) r_1).length 1) [([18], some (.arr (List.map (D.int .u8) r_1) 0 false))] (cut_call (call_of (ws := []) (us := []) (by kernel_rfl) (gives_cons (ws := []) (give_same (by kernel_rfl)) gives_nil) hc_1 (by kernel_rfl) (by kernel_rfl))) <| Rc 2 [⟨.ptr [5] 0 1, []⟩, ⟨.d (.int .i64 z_1.Seg), []⟩] ?_
   obtain ⟨r_2, hr_2, h⟩ := bind_s h
   have hc_2 := index_Put_L z_1.Seg r_2 hr_2
   refine Rt (some 21) (.callf 61) [] none [.d (.int .i64 z_1.Seg)] (.ref [21] 0 0 (List.map (D.int .u8) r_2).length 1) [([21], some (.arr (List.map (D.int .u8) r_2) 0 false))] (cut_call (call_of (ws := []) (us := []) (by kernel_rfl) (gives_cons (ws := []) (give_same (by kernel_rfl)) gives_nil) hc_2 (by kernel_rfl) (by kernel_rfl))) ?_
   obtain ⟨z_2, hz_2, h⟩ := bind_s h
   refine Rt (some 22) (.append 1 1 false) [] none [.ref [18] 0 0 (List.map (D.int .u8) r_1).length 1, .ref [21] 0 0 (List.map (D.int .u8) r_2).length 1] (.ref [18] 1 0 (List.map (D.int .u8) z_2).length 1) [([21], some (.arr (List.map (D.int .u8) r_2) 0 true)), ([18], some (.arr (List.map (D.int .u8) z_2) 1 false))] (cut_appR (e := (D.int .u8)) (l := r_1) (fz := false) (ws := [([21], some (.arr (List.map (D.int .u8) r_2) 0 true))]) (ap_ref (e := (D.int .u8)) (l := r_2) (fz := false) (by kernel_rfl) (by kernel_rfl) rfl) (fun _ => rfl) hz_2 (by kernel_rfl) (by kernel_rfl) rfl) <| Rc 2 [⟨.ptr [3] 0 1, []⟩, ⟨.tup [], [([3], some (.cells [.d (.int .u8 r3.Kind), .ref [18] 1 0 (List.map (D.int .u8) z_2).length 1] 0))]⟩] <| Rd <| kS_nrm <| Sq <| Ro <| Rc 3 [⟨.ptr [5] 0 1, []⟩, ⟨.d (.int .i64 z_1.Seg), []⟩, ⟨.d (.bool (z_1.Seg == 0)), []⟩] <| Rd <| kS_nrm ?_
   cases hb_3 : ((z_1.Seg == 0) : Bool) with
   | true =>
    replace h := ite_t hb_3 h
    refine Ct <| Ro <| Rc 4 [⟨.ptr [3] 0 1, []⟩, ⟨.ref [18] 1 0 (List.map (D.int .u8) z_2).length 1, []⟩, ⟨.ptr [5] 0 2, []⟩, ⟨.d (.int .u16 z_1.Frame), []⟩] ?_
    obtain ⟨r_3, hr_3, h⟩ := bind_s h
    have hc_3 := index_Two_L z_1.Frame r_3 hr_3
    refine Rt (some 31) (.callf 62) [] (some []) [.d (.int .u16 z_1.Frame)] (.ref [31] 0 0 (List.map (D.int .u8) r_3).length 1) [([31], some (.arr (List.map (D.int .u8) r_3) 0 false))] (cut_call (call_of (ws := []) (us := []) (by kernel_rfl) (gives_cons (ws := []) (give_same (by kernel_rfl)) gives_nil) hc_3 (by kernel_rfl) (by kernel_rfl))) ?_
    obtain ⟨z_3, hz_3, h⟩ := bind_s h
    refine Rt (some 32) (.append 1 1 false) [] none [.ref [18] 1 0 (List.map (D.int .u8) z_2).length 1, .ref [31] 0 0 (List.map (D.int .u8) r_3).length 1] (.ref [18] 2 0 (List.map (D.int .u8) z_3).length 1) [([31], some (.arr (List.map (D.int .u8) r_3) 0 true)), ([18], some (.arr (List.map (D.int .u8) z_3) 2 false))] (cut_appR (e := (D.int .u8)) (l := z_2) (fz := false) (ws := [([31], some (.arr (List.map (D.int .u8) r_3) 0 true))]) (ap_ref (e := (D.int .u8)) (l := r_3) (fz := false) (by kernel_rfl) (by kernel_rfl) rfl) (fun _ => rfl) hz_3 (by kernel_rfl) (by kernel_rfl) rfl) <| Rc 2 [⟨.ptr [3] 0 1, []⟩, ⟨.tup [], [([3], some (.cells [.d (.int .u8 r3.Kind), .ref [18] 2 0 (List.map (D.int .u8) z_3).length 1] 0))]⟩] <| Rd <| kS_nrm <| Runs.canon (pubs_Publics_h31 ({ Kind := r3.Kind, Body := z_3 } : Record) z_1 b_2_0 t7 t8 t9 (v_951_3 + 1)) (Canon.cons (mvB_ref (i := [18]) (v := 2) (len := (List.map (D.int .u8) z_3).length) (n := 1) (es := List.map (D.int .u8) z_3) (fz := false) (w := (v_951_3 + 1)) (ver := 0) (cs := [.d (.int .u8 r3.Kind), .ref [18] 2 0 (List.map (D.int .u8) z_3).length 1]) (cs' := [.d (.int .u8 r3.Kind), .ref [951, 3] (v_951_3 + 1) 0 (List.map (D.int .u8) z_3).length 1]) (by kernel_rfl) (by kernel_rfl) (by kernel_rfl) (by decide) (by decide) (by decide) (by kernel_rfl) (by kernel_rfl)) (Canon.nil (by kernel_rfl))) ?_
    exact pubs_Publics_j31_ok l_ ({ Kind := r3.Kind, Body := z_3 } : Record) z_1 b_2_0 t7 t8 t9 (v_951_3 + 1) r h
   | false =>
    replace h := ite_f hb_3 h
    refine Cf <| Runs.skip <| kS_nrm <| Runs.canon (pubs_Publics_h31 ({ Kind := r3.Kind, Body := z_2 } : Record) z_1 b_2_0 t7 t8 t9 (v_951_3 + 1)) (Canon.cons (mvB_ref (i := [18]) (v := 1) (len := (List.map (D.int .u8) z_2).length) (n := 1) (es := List.map (D.int .u8) z_2) (fz := false) (w := (v_951_3 + 1)) (ver := 0) (cs := [.d (.int .u8 r3.Kind), .ref [18] 1 0 (List.map (D.int .u8) z_2).length 1]) (cs' := [.d (.int .u8 r3.Kind), .ref [951, 3] (v_951_3 + 1) 0 (List.map (D.int .u8) z_2).length 1]) (by kernel_rfl) (by kernel_rfl) (by kernel_rfl) (by decide) (by decide) (by decide) (by kernel_rfl) (by kernel_rfl)) (Canon.nil (by kernel_rfl))) ?_
    exact pubs_Publics_j31_ok l_ ({ Kind := r3.Kind, Body := z_2 } : Record) z_1 b_2_0 t7 t8 t9 (v_951_3 + 1) r h
  | false =>
   replace h := ite_f hb_2 h
   refine Cf <| Runs.skip <| kS_nrm <| Runs.canon (pubs_Publics_h31 r3 z_1 b_2_0 t7 t8 t9 v_951_3) (Canon.same (by kernel_rfl) (Canon.nil (by kernel_rfl))) ?_
   exact pubs_Publics_j31_ok l_ r3 z_1 b_2_0 t7 t8 t9 v_951_3 r h
 | false =>
  replace h := ite_f hb_1 h
  refine Cf <| Runs.exit <| kS_exit ?_
  obtain rfl := Option.some.inj h
  exact ⟨nofun, rfl, v_951_3, (Canon.same (by kernel_rfl) (Canon.nil (by kernel_rfl)))⟩
theorem pubs_Publics_ok (l_ : (List Pub)) (r : Record) (h : pubs_Publics l_ = some r) : Runs L F60.body ⟨tmOf [.d (.sl (List.map Pub.d l_))] 0, updW (fun _ => none) []⟩ (pubs_Publics_Q l_ r) := by
 unfold pubs_Publics at h
 refine Sq <| Ro <| Rc 1 [⟨.ptr [2] 0 0, [([2], some (.cells [.d (.int .u8 0), .nils] 0))]⟩] <| Rd <| kS_nrm <| Sq <| Ro <| Rc 3 [⟨.mix [.d (.int .u8 144), .nils], []⟩, ⟨.ptr [3] 0 0, [([3], some (.cells [.d (.int .u8 0), .nils] 0))]⟩, ⟨.tup [], [([3], some (.cells [.d (.int .u8 144), .nils] 0))]⟩] <| Rd <| kS_nrm <| Runs.canon (pubs_Publics_h4 ({ Kind := 144, Body := ([] : List Int) } : Record) 0 l_ 0) (Canon.cons (ownB_nil (ver := 0) (v := 0) (cs := [.d (.int .u8 144), .nils]) (cs' := [.d (.int .u8 144), .ref [901, 3] 0 0 (List.map (D.int .u8) ([] : List Int)).length 1]) (D.int .u8) (by kernel_rfl) (by kernel_rfl) (by kernel_rfl) (by decide) (by kernel_rfl)) (Canon.nil (by kernel_rfl))) <| Sq <| Sq <| Ro <| Rc 1 [⟨.d (.sl (List.map Pub.d l_)), []⟩] <| Rt (some 8) .lenL [] none [.d (.sl (List.map Pub.d l_))] (.d (.int .i64 (l_.length : Int))) [] (cut_len _) <| Rc 1 [⟨.d (.int .i64 0), []⟩] <| Rd <| kS_nrm <| Runs.block ?_
 obtain ⟨e_1, he_1, h⟩ := bind_s h
 refine Runs.loop (fun x : (Record × Int) => pubs_Publics_l8 x.1 0 l_ (l_.length : Int) x.2) (fun (x : (Record × Int)) (g : Nat) => pubs_Publics_h8 x.1 0 l_ (l_.length : Int) x.2 g) (pubs_Publics_P8 l_ 0 l_ (l_.length : Int)) (fun x g r hr => pubs_Publics_l8_ok l_ x.1 0 l_ (l_.length : Int) x.2 g r hr) 0 he_1 (Canon.cons (mvB_ref (i := [901, 3]) (v := 0) (len := (List.map (D.int .u8) ([] : List Int)).length) (n := 1) (es := List.map (D.int .u8) ([] : List Int)) (fz := false) (w := 0) (ver := 0) (cs := [.d (.int .u8 144), .ref [901, 3] 0 0 (List.map (D.int .u8) ([] : List Int)).length 1]) (cs' := [.d (.int .u8 144), .ref [951, 3] 0 0 (List.map (D.int .u8) ([] : List Int)).length 1]) (by kernel_rfl) (by kernel_rfl) (by kernel_rfl) (by decide) (by decide) (by decide) (by kernel_rfl) (by kernel_rfl)) (Canon.nil (by kernel_rfl))) ?_
 rintro ⟨o, s⟩ hp
 obtain ⟨ho, g_1, hk_1⟩ := hp
 have ho' : o = .exit 0 := ho
 subst ho'
 refine kB_hit <| kS_nrm <| Runs.canon _ hk_1 <| Sq <| Ro <| Rc 2 [⟨.mix [.d (.int .u8 e_1.Kind), .ref [951, 3] g_1 0 (List.map (D.int .u8) e_1.Body).length 1], []⟩, ⟨.tup [], [([2], some (.cells [.d (.int .u8 e_1.Kind), .ref [951, 3] g_1 0 (List.map (D.int .u8) e_1.Body).length 1] 0))]⟩] <| Rd <| kS_nrm <| Sq <| Runs.gcons (frzB_ref (e := (D.int .u8)) (l := e_1.Body) (id := [2]) (id' := [951, 3]) (v := g_1) (n := 1) (fz := false) (ver := 0) (cs := [.d (.int .u8 e_1.Kind), .ref [951, 3] g_1 0 (List.map (D.int .u8) e_1.Body).length 1]) (cs' := [.d (.int .u8 e_1.Kind), .d (.sl (List.map (D.int .u8) e_1.Body))]) (by kernel_rfl) (by kernel_rfl) (by kernel_rfl) (by decide) (by kernel_rfl) rfl) <| Runs.gnil <| kS_nrm <| Runs.ret ?_
 obtain rfl := Option.some.inj h
 exact ⟨Out.ret_ne, (by kernel_rfl)⟩
theorem pubs_Publics_L (l_ : (List Pub)) (r : Record) (h : pubs_Publics l_ = some r) : L 60 [.d (.sl (List.map Pub.d l_))] = some (.d (Record.d r), [.d (.sl (List.map Pub.d l_))]) := by
 obtain ⟨p, ⟨hne, hf⟩, hr⟩ := pubs_Publics_ok l_ r h
 obtain ⟨k, hk⟩ := run_of (F := F60) (args := [.d (.sl (List.map Pub.d l_))]) (ap := [.d (.sl (List.map Pub.d l_))]) (bx0 := updW (fun _ => none) []) rfl rfl (by kernel_rfl) ⟨p, ⟨hne, hf⟩, hr⟩
 exact lim_run (k := k) rfl hk
def bits_Word_Q (low_ : Int) (high_ : Int) (r : Int) (p : Out × St) : Prop := (∀ i, p.1 ≠ .exit i) ∧ finF F102 [.d (.int .u8 low_), .d (.int .u8 high_)] p.2 = some (.d (.int .u16 r), [.d (.int .u8 low_), .d (.int .u8 high_)])
theorem bits_Word_ok (low_ : Int) (high_ : Int) (r : Int) (h : bits_Word low_ high_ = some r) : Runs L F102.body ⟨tmOf [.d (.int .u8 low_), .d (.int .u8 high_)] 0, updW (fun _ => none) []⟩ (bits_Word_Q low_ high_ r) := by
 unfold bits_Word at h
 refine Sq <| Ro <| Rc 1 [⟨.d (.int .u16 0), []⟩] <| Rd <| kS_nrm <| Sq <| Ro <| Rc 7 [⟨.d (.int .u8 low_), []⟩, ⟨.d (.int .u16 (IntKind.wrap .u16 low_)), []⟩, ⟨.d (.int .u8 high_), []⟩, ⟨.d (.int .u16 (IntKind.wrap .u16 high_)), []⟩, ⟨.d (.int .u16 (shlI .u16 (IntKind.wrap .u16 high_) 8)), []⟩, ⟨.d (.int .u16 (bitsOp .or .u16 (IntKind.wrap .u16 low_) (shlI .u16 (IntKind.wrap .u16 high_) 8))), []⟩, ⟨.d (.int .u16 (bitsOp .or .u16 (IntKind.wrap .u16 low_) (shlI .u16 (IntKind.wrap .u16 high_) 8))), []⟩] <| Rd <| kS_nrm <| Runs.ret ?_
 obtain rfl := Option.some.inj h
 exact ⟨Out.ret_ne, (by kernel_rfl)⟩
theorem bits_Word_L (low_ : Int) (high_ : Int) (r : Int) (h : bits_Word low_ high_ = some r) : L 102 [.d (.int .u8 low_), .d (.int .u8 high_)] = some (.d (.int .u16 r), [.d (.int .u8 low_), .d (.int .u8 high_)]) := by
 obtain ⟨p, ⟨hne, hf⟩, hr⟩ := bits_Word_ok low_ high_ r h
 obtain ⟨k, hk⟩ := run_of (F := F102) (args := [.d (.int .u8 low_), .d (.int .u8 high_)]) (ap := [.d (.int .u8 low_), .d (.int .u8 high_)]) (bx0 := updW (fun _ => none) []) rfl rfl (by kernel_rfl) ⟨p, ⟨hne, hf⟩, hr⟩
 exact lim_run (k := k) rfl hk
def index_Source_Word_Q (s_ : Source) (r : (Int × Source)) (p : Out × St) : Prop := (∀ i, p.1 ≠ .exit i) ∧ finF F64 [.ptr [0] 0 0] p.2 = some (.d (.int .u16 r.1), [.ptr [.d (.sl (List.map (D.int .u8) r.2.b)), .d (.int .i64 r.2.e)]])
theorem index_Source_Word_ok (s_ : Source) (r : (Int × Source)) (h : index_Source_Word s_ = some r) : Runs L F64.body ⟨tmOf [.ptr [0] 0 0] 0, updW (fun _ => none) [([0], some (.cells [.d (.sl (List.map (D.int .u8) s_.b)), .d (.int .i64 s_.e)] 0))]⟩ (index_Source_Word_Q s_ r) := by
 unfold index_Source_Word at h
 refine Sq <| Ro <| Rc 1 [⟨.d (.int .u16 0), []⟩] <| Rd <| kS_nrm <| Sq <| Sq <| Ro <| Rc 1 [⟨.ptr [0] 0 0, []⟩] ?_
 obtain ⟨r_1, hr_1, h⟩ := bind_s h
 have hc_1 := index_Source_Take_L s_ 2 r_1 hr_1
 refine Rt (some 5) (.callf 99) [] none [.ptr [0] 0 0, .d (.int .i64 2)] (.d (.sl (List.map (D.int .u8) r_1.1))) [([0], some (.cells [.d (.sl (List.map (D.int .u8) r_1.2.b)), .d (.int .i64 r_1.2.e)] 0))] (cut_call (call_of (ws := []) (us := [([0], some (.cells [.d (.sl (List.map (D.int .u8) r_1.2.b)), .d (.int .i64 r_1.2.e)] 0))]) (by kernel_rfl) (by kernel_rfl) hc_1 (by kernel_rfl) (by kernel_rfl))) <| Rc 1 [⟨.d (.sl (List.map (D.int .u8) r_1.1)), []⟩] <| Rd <| kS_nrm <| Sq <| Ro <| Rc 1 [⟨.d (.sl (List.map (D.int .u8) r_1.1)), []⟩] <| Rt (some 7) .lenL [] none [.d (.sl (List.map (D.int .u8) r_1.1))] (.d (.int .i64 (r_1.1.length : Int))) [] (cut_len _) <| Rc 1 [⟨.d (.bool ((r_1.1.length : Int) == 2)), []⟩] <| Rd <| kS_nrm ?_
 cases hb_1 : (((r_1.1.length : Int) == 2) : Bool) with
 | true =>
  replace h := ite_t hb_1 h
  refine Ct <| Sq <| Ro <| Rc 1 [⟨.d (.sl (List.map (D.int .u8) r_1.1)), []⟩] ?_
  obtain ⟨z_1, hz_1, h⟩ := bind_s h
  refine Rt (some 10) (.iaddrS 1) [] none [.d (.sl (List.map (D.int .u8) r_1.1)), .d (.int .i64 0)] (.elt (.int .u8 z_1) 0) [] (cut_at hz_1 (fun _ => rfl)) <| Rc 2 [⟨.d (.int .u8 z_1), []⟩, ⟨.d (.sl (List.map (D.int .u8) r_1.1)), []⟩] ?_
  obtain ⟨z_2, hz_2, h⟩ := bind_s h
  refine Rt (some 13) (.iaddrS 1) [] none [.d (.sl (List.map (D.int .u8) r_1.1)), .d (.int .i64 1)] (.elt (.int .u8 z_2) 0) [] (cut_at hz_2 (fun _ => rfl)) <| Rc 1 [⟨.d (.int .u8 z_2), []⟩] ?_
  obtain ⟨r_2, hr_2, h⟩ := bind_s h
  have hc_2 := bits_Word_L z_1 z_2 r_2 hr_2
  refine Rt (some 15) (.callf 102) [] none [.d (.int .u8 z_1), .d (.int .u8 z_2)] (.d (.int .u16 r_2)) [] (cut_call (call_of (ws := []) (us := []) (by kernel_rfl) (by kernel_rfl) hc_2 (by kernel_rfl) (by kernel_rfl))) <| Rc 1 [⟨.d (.int .u16 r_2), []⟩] <| Rd <| kS_nrm <| Runs.ret <| kS_ret ?_
  obtain rfl := Option.some.inj h
  exact ⟨Out.ret_ne, (by kernel_rfl)⟩
 | false =>
  replace h := ite_f hb_1 h
  refine Cf <| Runs.skip <| kS_nrm <| Sq <| Ro <| Rc 1 [⟨.d (.int .u16 0), []⟩] <| Rd <| kS_nrm <| Runs.ret ?_
  obtain rfl := Option.some.inj h
  exact ⟨Out.ret_ne, (by kernel_rfl)⟩
theorem index_Source_Word_L (s_ : Source) (r : (Int × Source)) (h : index_Source_Word s_ = some r) : L 64 [.ptr [.d (.sl (List.map (D.int .u8) s_.b)), .d (.int .i64 s_.e)]] = some (.d (.int .u16 r.1), [.ptr [.d (.sl (List.map (D.int .u8) r.2.b)), .d (.int .i64 r.2.e)]]) := by
 obtain ⟨p, ⟨hne, hf⟩, hr⟩ := index_Source_Word_ok s_ r h
 obtain ⟨k, hk⟩ := run_of (F := F64) (args := [.ptr [.d (.sl (List.map (D.int .u8) s_.b)), .d (.int .i64 s_.e)]]) (ap := [.ptr [0] 0 0]) (bx0 := updW (fun _ => none) [([0], some (.cells [.d (.sl (List.map (D.int .u8) s_.b)), .d (.int .i64 s_.e)] 0))]) rfl rfl (by kernel_rfl) ⟨p, ⟨hne, hf⟩, hr⟩
 exact lim_run (k := k) rfl hk
def pubs_Given_h12 (base5 : Pub) (b_10 : Source) : St := ⟨tab [(4, .ptr [10] 0 0), (5, .ptr [5] 0 0)], tabB [([5], some (.cells [.d (.int .i64 base5.Group), .d (.int .i64 base5.Seg), .d (.int .u16 base5.Frame), .d (.str base5.Name), .d (.int .u16 base5.Off)] 0)), ([10], some (.cells [.d (.sl (List.map (D.int .u8) b_10.b)), .d (.int .i64 b_10.e)] 0))]⟩
def pubs_Given_h14 (base5 : Pub) (b_10 : Source) (out6 : (List Pub)) (v_6 : Nat) : St := ⟨tab [(4, .ptr [10] 0 0), (5, .ptr [5] 0 0), (6, .ref [6] v_6 0 (List.map Pub.d out6).length 5)], tabB [([5], some (.cells [.d (.int .i64 base5.Group), .d (.int .i64 base5.Seg), .d (.int .u16 base5.Frame), .d (.str base5.Name), .d (.int .u16 base5.Off)] 0)), ([6], some (.arr (List.map Pub.d out6) v_6 false)), ([10], some (.cells [.d (.sl (List.map (D.int .u8) b_10.b)), .d (.int .i64 b_10.e)] 0))]⟩
def pubs_Given_h16 (base5 : Pub) (b_10 : Source) (out6 : (List Pub)) (v_6 : Nat) : St := ⟨tab [(4, .ptr [10] 0 0), (5, .ptr [5] 0 0), (6, .ref [6] v_6 0 (List.map Pub.d out6).length 5)], tabB [([5], some (.cells [.d (.int .i64 base5.Group), .d (.int .i64 base5.Seg), .d (.int .u16 base5.Frame), .d (.str base5.Name), .d (.int .u16 base5.Off)] 0)), ([6], some (.arr (List.map Pub.d out6) v_6 false)), ([10], some (.cells [.d (.sl (List.map (D.int .u8) b_10.b)), .d (.int .i64 b_10.e)] 0))]⟩
def pubs_Given_h31 (b_10 : Source) (out6 : (List Pub)) (v_6 : Nat) : St := ⟨tab [(4, .ptr [10] 0 0), (6, .ref [6] v_6 0 (List.map Pub.d out6).length 5)], tabB [([6], some (.arr (List.map Pub.d out6) v_6 false)), ([10], some (.cells [.d (.sl (List.map (D.int .u8) b_10.b)), .d (.int .i64 b_10.e)] 0))]⟩
def pubs_Given_Q (b_ : (List Int)) (r : ((List Pub) × Int)) (p : Out × St) : Prop := (∀ i, p.1 ≠ .exit i) ∧ finF F59 [.d (.sl (List.map (D.int .u8) b_))] p.2 = some (.tup [.d (.sl (List.map Pub.d r.1)), .d (.int .i64 r.2)], [.d (.sl (List.map (D.int .u8) b_))])
def pubs_Given_P16 (b_ : (List Int)) (base5 : Pub) (e : ((List Pub) × Source)) (p : Out × St) : Prop := p.1 = .exit 0 ∧ ∃ g : Nat, Canon [] [4, 6] [[6], [10]] p.2 (pubs_Given_h31 e.2 e.1 g)
theorem pubs_Given_l16_ok (b_ : (List Int)) (base5 : Pub) (b_10 : Source) (out6 : (List Pub)) (v_6 : Nat) (r : (Lp (Source × (List Pub)) ((List Pub) × Source))) (h : pubs_Given_l16 base5 b_10 out6 = some r) : Runs L F59l16 (pubs_Given_h16 base5 b_10 out6 v_6) (LQ [] [4, 5, 6] [[5], [6], [10]] (fun (x : (Source × (List Pub))) (g : Nat) => pubs_Given_h16 base5 x.1 x.2 g) (pubs_Given_P16 b_ base5) r) := by
 unfold pubs_Given_l16 at h
 refine Sq <| Sq <| Ro <| Rc 1 [⟨.ptr [10] 0 0, []⟩] ?_
 obtain ⟨r_5, hr_5, h⟩ := bind_s h
 have hc_5 := index_Source_Left_L b_10 r_5 hr_5
 refine Rt (some 23) (.callf 51) [] none [.ptr [10] 0 0] (.d (.int .i64 r_5)) [([10], some (.cells [.d (.sl (List.map (D.int .u8) b_10.b)), .d (.int .i64 b_10.e)] 0))] (cut_call (call_of (ws := []) (us := [([10], some (.cells [.d (.sl (List.map (D.int .u8) b_10.b)), .d (.int .i64 b_10.e)] 0))]) (by kernel_rfl) (by kernel_rfl) hc_5 (by kernel_rfl) (by kernel_rfl))) <| Rc 1 [⟨.d (.bool (decide (r_5 > 0))), []⟩] <| Rd <| kS_nrm ?_
 cases hb_2 : ((decide (r_5 > 0)) : Bool) with
 | true =>
  replace h := ite_t hb_2 h
  refine Ct <| Runs.skip <| kS_nrm <| Runs.block <| Sq <| Ro <| Rc 3 [⟨.d (Pub.d base5), []⟩, ⟨.ptr [7] 0 0, [([7], some (.cells [.d (.int .i64 0), .d (.int .i64 0), .d (.int .u16 0), .d (.str []), .d (.int .u16 0)] 0))]⟩, ⟨.tup [], [([7], some (.cells [.d (.int .i64 base5.Group), .d (.int .i64 base5.Seg), .d (.int .u16 base5.Frame), .d (.str base5.Name), .d (.int .u16 base5.Off)] 0))]⟩] <| Rd <| kS_nrm <| Sq <| Ro <| Rc 1 [⟨.ptr [10] 0 0, []⟩] ?_
  obtain ⟨r_6, hr_6, h⟩ := bind_s h
  have hc_6 := index_Source_Name_L b_10 r_6 hr_6
  refine Rt (some 27) (.callf 52) [] none [.ptr [10] 0 0] (.d (.str r_6.1)) [([10], some (.cells [.d (.sl (List.map (D.int .u8) r_6.2.b)), .d (.int .i64 r_6.2.e)] 0))] (cut_call (call_of (ws := []) (us := [([10], some (.cells [.d (.sl (List.map (D.int .u8) r_6.2.b)), .d (.int .i64 r_6.2.e)] 0))]) (by kernel_rfl) (by kernel_rfl) hc_6 (by kernel_rfl) (by kernel_rfl))) <| Rc 1 [⟨.ptr [10] 0 0, []⟩] ?_
  obtain ⟨r_7, hr_7, h⟩ := bind_s h
  have hc_7 := index_Source_Word_L r_6.2 r_7 hr_7
  refine Rt (some 29) (.callf 64) [] none [.ptr [10] 0 0] (.d (.int .u16 r_7.1)) [([10], some (.cells [.d (.sl (List.map (D.int .u8) r_7.2.b)), .d (.int .i64 r_7.2.e)] 0))] (cut_call (call_of (ws := []) (us := [([10], some (.cells [.d (.sl (List.map (D.int .u8) r_7.2.b)), .d (.int .i64 r_7.2.e)] 0))]) (by kernel_rfl) (by kernel_rfl) hc_7 (by kernel_rfl) (by kernel_rfl))) <| Rc 4 [⟨.ptr [7] 0 3, []⟩, ⟨.tup [], [([7], some (.cells [.d (.int .i64 base5.Group), .d (.int .i64 base5.Seg), .d (.int .u16 base5.Frame), .d (.str r_6.1), .d (.int .u16 base5.Off)] 0))]⟩, ⟨.ptr [7] 0 4, []⟩, ⟨.tup [], [([7], some (.cells [.d (.int .i64 base5.Group), .d (.int .i64 base5.Seg), .d (.int .u16 base5.Frame), .d (.str r_6.1), .d (.int .u16 r_7.1)] 0))]⟩] <| Rd <| kS_nrm <| Sq <| Ro <| Rc 1 [⟨.ptr [10] 0 0, []⟩] ?_
  obtain ⟨r_8, hr_8, h⟩ := bind_s h
  have hc_8 := index_Source_Index_L r_7.2 r_8 hr_8
  refine Rt (some 33) (.callf 53) [] none [.ptr [10] 0 0] (.d (.int .i64 r_8.1)) [([10], some (.cells [.d (.sl (List.map (D.int .u8) r_8.2.b)), .d (.int .i64 r_8.2.e)] 0))] (cut_call (call_of (ws := []) (us := [([10], some (.cells [.d (.sl (List.map (D.int .u8) r_8.2.b)), .d (.int .i64 r_8.2.e)] 0))]) (by kernel_rfl) (by kernel_rfl) hc_8 (by kernel_rfl) (by kernel_rfl))) <| Rd <| kS_nrm <| Ro <| Rc 3 [⟨.ref [6] v_6 0 (List.map Pub.d out6).length 5, []⟩, ⟨.d (.agg [.int .i64 base5.Group, .int .i64 base5.Seg, .int .u16 base5.Frame, .str r_6.1, .int .u16 r_7.1]), []⟩, ⟨.ref [36] 0 0 (List.map Pub.d ([({ Group := base5.Group, Seg := base5.Seg, Frame := base5.Frame, Name := r_6.1, Off := r_7.1 } : Pub)] : List Pub)).length 5, [([36], some (.arr (List.map Pub.d ([({ Group := base5.Group, Seg := base5.Seg, Frame := base5.Frame, Name := r_6.1, Off := r_7.1 } : Pub)] : List Pub)) 0 false))]⟩] ?_
  obtain ⟨z_1, hz_1, h⟩ := bind_s h
  refine Rt (some 37) (.append 5 48 false) [] none [.ref [6] v_6 0 (List.map Pub.d out6).length 5, .ref [36] 0 0 (List.map Pub.d ([({ Group := base5.Group, Seg := base5.Seg, Frame := base5.Frame, Name := r_6.1, Off := r_7.1 } : Pub)] : List Pub)).length 5] (.ref [6] (v_6 + 1) 0 (List.map Pub.d z_1).length 5) [([36], some (.arr (List.map Pub.d ([({ Group := base5.Group, Seg := base5.Seg, Frame := base5.Frame, Name := r_6.1, Off := r_7.1 } : Pub)] : List Pub)) 0 true)), ([6], some (.arr (List.map Pub.d z_1) (v_6 + 1) false))] (cut_appR (e := Pub.d) (l := out6) (fz := false) (ws := [([36], some (.arr (List.map Pub.d ([({ Group := base5.Group, Seg := base5.Seg, Frame := base5.Frame, Name := r_6.1, Off := r_7.1 } : Pub)] : List Pub)) 0 true))]) (ap_ref (e := Pub.d) (l := ([({ Group := base5.Group, Seg := base5.Seg, Frame := base5.Frame, Name := r_6.1, Off := r_7.1 } : Pub)] : List Pub)) (fz := false) (by kernel_rfl) (by kernel_rfl) rfl) (fun _ => rfl) hz_1 (by kernel_rfl) (by kernel_rfl) rfl) <| Rc 1 [⟨.ref [6] (v_6 + 1) 0 (List.map Pub.d z_1).length 5, []⟩] <| Rd <| kB_nrm ?_
  obtain rfl := Option.some.inj h
  exact ⟨rfl, (v_6 + 1), (Canon.nil (by kernel_rfl))⟩
 | false =>
  replace h := ite_f hb_2 h
  refine Cf <| Runs.exit <| kS_exit ?_
  obtain rfl := Option.some.inj h
  exact ⟨nofun, rfl, v_6, (Canon.nil (by kernel_rfl))⟩
theorem pubs_Given_j12_ok (b_ : (List Int)) (base5 : Pub) (b_10 : Source) (r : ((List Pub) × Int)) (h : pubs_Given_j12 base5 b_10 = some r) : Runs L F59b12 (pubs_Given_h12 base5 b_10) (pubs_Given_Q b_ r) := by
 unfold pubs_Given_j12 at h
 refine Sq <| Ro <| Rc 1 [⟨.nils, []⟩] <| Rd <| kS_nrm <| Runs.canon (pubs_Given_h14 base5 b_10 ([] : List Pub) 0) (Canon.cons (own_nil Pub.d (v := 0) (by kernel_rfl) (by kernel_rfl)) (Canon.nil (by kernel_rfl))) <| Sq <| Runs.block ?_
 obtain ⟨e_1, he_1, h⟩ := bind_s h
 refine Runs.loop (fun x : (Source × (List Pub)) => pubs_Given_l16 base5 x.1 x.2) (fun (x : (Source × (List Pub))) (g : Nat) => pubs_Given_h16 base5 x.1 x.2 g) (pubs_Given_P16 b_ base5) (fun x g r hr => pubs_Given_l16_ok b_ base5 x.1 x.2 g r hr) 0 he_1 (Canon.nil (by kernel_rfl)) ?_
 rintro ⟨o, s⟩ hp
 obtain ⟨ho, g_1, hk_1⟩ := hp
 have ho' : o = .exit 0 := ho
 subst ho'
 refine kB_hit <| kS_nrm <| Runs.canon _ hk_1 <| Sq <| Sq <| Ro <| Rc 1 [⟨.ptr [10] 0 0, []⟩] ?_
 obtain ⟨r_5, hr_5, h⟩ := bind_s h
 have hc_5 := index_Source_Err_L e_1.2 r_5 hr_5
 refine Rt (some 39) (.callf 57) [] none [.ptr [10] 0 0] (.d (.int .i64 r_5)) [([10], some (.cells [.d (.sl (List.map (D.int .u8) e_1.2.b)), .d (.int .i64 e_1.2.e)] 0))] (cut_call (call_of (ws := []) (us := [([10], some (.cells [.d (.sl (List.map (D.int .u8) e_1.2.b)), .d (.int .i64 e_1.2.e)] 0))]) (by kernel_rfl) (by kernel_rfl) hc_5 (by kernel_rfl) (by kernel_rfl))) <| Rc 1 [⟨.d (.int .i64 r_5), []⟩] <| Rd <| kS_nrm <| Sq <| Ro <| Rc 2 [⟨.d (.int .i64 r_5), []⟩, ⟨.d (.bool (r_5 != 0)), []⟩] <| Rd <| kS_nrm ?_
 cases hb_2 : ((r_5 != 0) : Bool) with
 | true =>
  replace h := ite_t hb_2 h
  refine Ct <| Sq <| Ro <| Rc 3 [⟨.d (.int .i64 r_5), []⟩, ⟨.nils, []⟩, ⟨.d (.int .i64 r_5), []⟩] <| Rd <| kS_nrm <| Sq <| Runs.gcons (frz_nil Pub.d (by kernel_rfl)) <| Runs.gnil <| kS_nrm <| Runs.ret <| kS_ret ?_
  obtain rfl := Option.some.inj h
  exact ⟨Out.ret_ne, (by kernel_rfl)⟩
 | false =>
  replace h := ite_f hb_2 h
  refine Cf <| Runs.skip <| kS_nrm <| Sq <| Ro <| Rc 3 [⟨.ref [6] g_1 0 (List.map Pub.d e_1.1).length 5, []⟩, ⟨.ref [6] g_1 0 (List.map Pub.d e_1.1).length 5, []⟩, ⟨.d (.int .i64 0), []⟩] <| Rd <| kS_nrm <| Sq <| Runs.gcons (frz_ref (e := Pub.d) (l := e_1.1) (id := [6]) (v := g_1) (n := 5) (fz := false) (by kernel_rfl) (by kernel_rfl) rfl) <| Runs.gnil <| kS_nrm <| Runs.ret ?_
  obtain rfl := Option.some.inj h
  exact ⟨Out.ret_ne, (by kernel_rfl)⟩
theorem pubs_Given_ok (b_ : (List Int)) (r : ((List Pub) × Int)) (h : pubs_Given b_ = some r) : Runs L F59.body ⟨tmOf [.d (.sl (List.map (D.int .u8) b_))] 0, updW (fun _ => none) []⟩ (pubs_Given_Q b_ r) := by
 unfold pubs_Given at h
 refine Sq <| Ro <| Rc 2 [⟨.nils, []⟩, ⟨.d (.int .i64 0), []⟩] <| Rd <| kS_nrm <| Sq <| Ro <| Rc 1 [⟨.d (.sl (List.map (D.int .u8) b_)), []⟩] ?_
 obtain ⟨r_1, hr_1, h⟩ := bind_s h
 have hc_1 := index_From_L b_ r_1 hr_1
 refine Rt (some 10) (.callf 50) [] none [.d (.sl (List.map (D.int .u8) b_))] (.ptr [10] 0 0) [([10], some (.cells [.d (.sl (List.map (D.int .u8) r_1.b)), .d (.int .i64 r_1.e)] 0))] (cut_call (call_of (ws := []) (us := []) (by kernel_rfl) (by kernel_rfl) hc_1 (by kernel_rfl) (by kernel_rfl))) <| Rc 1 [⟨.ptr [10] 0 0, []⟩] <| Rd <| kS_nrm <| Sq <| Ro <| Rc 1 [⟨.ptr [10] 0 0, []⟩] ?_
 obtain ⟨r_2, hr_2, h⟩ := bind_s h
 have hc_2 := index_Source_Index_L r_1 r_2 hr_2
 refine Rt (some 12) (.callf 53) [] none [.ptr [10] 0 0] (.d (.int .i64 r_2.1)) [([10], some (.cells [.d (.sl (List.map (D.int .u8) r_2.2.b)), .d (.int .i64 r_2.2.e)] 0))] (cut_call (call_of (ws := []) (us := [([10], some (.cells [.d (.sl (List.map (D.int .u8) r_2.2.b)), .d (.int .i64 r_2.2.e)] 0))]) (by kernel_rfl) (by kernel_rfl) hc_2 (by kernel_rfl) (by kernel_rfl))) <| Rc 1 [⟨.ptr [10] 0 0, []⟩] ?_
 obtain ⟨r_3, hr_3, h⟩ := bind_s h
 have hc_3 := index_Source_Index_L r_2.2 r_3 hr_3
 refine Rt (some 14) (.callf 53) [] none [.ptr [10] 0 0] (.d (.int .i64 r_3.1)) [([10], some (.cells [.d (.sl (List.map (D.int .u8) r_3.2.b)), .d (.int .i64 r_3.2.e)] 0))] (cut_call (call_of (ws := []) (us := [([10], some (.cells [.d (.sl (List.map (D.int .u8) r_3.2.b)), .d (.int .i64 r_3.2.e)] 0))]) (by kernel_rfl) (by kernel_rfl) hc_3 (by kernel_rfl) (by kernel_rfl))) <| Rc 3 [⟨.d (.agg [.int .i64 r_2.1, .int .i64 r_3.1, .int .u16 0, .str [], .int .u16 0]), []⟩, ⟨.ptr [5] 0 0, [([5], some (.cells [.d (.int .i64 0), .d (.int .i64 0), .d (.int .u16 0), .d (.str []), .d (.int .u16 0)] 0))]⟩, ⟨.tup [], [([5], some (.cells [.d (.int .i64 r_2.1), .d (.int .i64 r_3.1), .d (.int .u16 0), .d (.str []), .d (.int .u16 0)] 0))]⟩] <| Rd <| kS_nrm <| Sq <| Sq <| Ro <| Rc 3 [⟨.ptr [5] 0 1, []⟩, ⟨.d (.int .i64 r_3.1), []⟩, ⟨.d (.bool (r_3.1 == 0)), []⟩] <| Rd <| kS_nrm ?_
 cases hb_1 : ((r_3.1 == 0) : Bool) with
 | true =>
  replace h := ite_t hb_1 h
  refine Ct <| Ro <| Rc 1 [⟨.ptr [10] 0 0, []⟩] ?_
  obtain ⟨r_4, hr_4, h⟩ := bind_s h
  have hc_4 := index_Source_Word_L r_3.2 r_4 hr_4
  refine Rt (some 20) (.callf 64) [] none [.ptr [10] 0 0] (.d (.int .u16 r_4.1)) [([10], some (.cells [.d (.sl (List.map (D.int .u8) r_4.2.b)), .d (.int .i64 r_4.2.e)] 0))] (cut_call (call_of (ws := []) (us := [([10], some (.cells [.d (.sl (List.map (D.int .u8) r_4.2.b)), .d (.int .i64 r_4.2.e)] 0))]) (by kernel_rfl) (by kernel_rfl) hc_4 (by kernel_rfl) (by kernel_rfl))) <| Rc 2 [⟨.ptr [5] 0 2, []⟩, ⟨.tup [], [([5], some (.cells [.d (.int .i64 r_2.1), .d (.int .i64 r_3.1), .d (.int .u16 r_4.1), .d (.str []), .d (.int .u16 0)] 0))]⟩] <| Rd <| kS_nrm <| Runs.canon (pubs_Given_h12 ({ Group := r_2.1, Seg := r_3.1, Frame := r_4.1, Name := [], Off := 0 } : Pub) r_4.2) (Canon.nil (by kernel_rfl)) ?_
  exact pubs_Given_j12_ok b_ ({ Group := r_2.1, Seg := r_3.1, Frame := r_4.1, Name := [], Off := 0 } : Pub) r_4.2 r h
 | false =>
  replace h := ite_f hb_1 h
  refine Cf <| Runs.skip <| kS_nrm <| Runs.canon (pubs_Given_h12 ({ Group := r_2.1, Seg := r_3.1, Frame := 0, Name := [], Off := 0 } : Pub) r_3.2) (Canon.nil (by kernel_rfl)) ?_
  exact pubs_Given_j12_ok b_ ({ Group := r_2.1, Seg := r_3.1, Frame := 0, Name := [], Off := 0 } : Pub) r_3.2 r h
theorem pubs_Given_L (b_ : (List Int)) (r : ((List Pub) × Int)) (h : pubs_Given b_ = some r) : L 59 [.d (.sl (List.map (D.int .u8) b_))] = some (.tup [.d (.sl (List.map Pub.d r.1)), .d (.int .i64 r.2)], [.d (.sl (List.map (D.int .u8) b_))]) := by
 obtain ⟨p, ⟨hne, hf⟩, hr⟩ := pubs_Given_ok b_ r h
 obtain ⟨k, hk⟩ := run_of (F := F59) (args := [.d (.sl (List.map (D.int .u8) b_))]) (ap := [.d (.sl (List.map (D.int .u8) b_))]) (bx0 := updW (fun _ => none) []) rfl rfl (by kernel_rfl) ⟨p, ⟨hne, hf⟩, hr⟩
 exact lim_run (k := k) rfl hk
def hansomlaw22_awake_Q  (r : Bool) (p : Out × St) : Prop := (∀ i, p.1 ≠ .exit i) ∧ finF F17 [] p.2 = some (.d (.bool r), [])
theorem hansomlaw22_awake_ok  (r : Bool) (h : hansomlaw22_awake = some r) : Runs L F17.body ⟨tmOf [] 0, updW (fun _ => none) []⟩ (hansomlaw22_awake_Q  r) := by
 unfold hansomlaw22_awake at h
 refine Sq <| Ro <| Rc 1 [⟨.d (.bool false), []⟩] <| Rd <| kS_nrm <| Sq <| Ro <| Rc 2 [⟨.d (.agg [.int .i64 1, .int .i64 2, .int .u16 0, .str ([65] : List UInt8), .int .u16 7]), []⟩, ⟨.ref [5] 0 0 (List.map Pub.d ([({ Group := 1, Seg := 2, Frame := 0, Name := ([65] : List UInt8), Off := 7 } : Pub)] : List Pub)).length 5, [([5], some (.arr (List.map Pub.d ([({ Group := 1, Seg := 2, Frame := 0, Name := ([65] : List UInt8), Off := 7 } : Pub)] : List Pub)) 0 false))]⟩] ?_
 obtain ⟨r_1, hr_1, h⟩ := bind_s h
 have hc_1 := pubs_Publics_L ([({ Group := 1, Seg := 2, Frame := 0, Name := ([65] : List UInt8), Off := 7 } : Pub)] : List Pub) r_1 hr_1
 refine Rt (some 6) (.callf 60) [] none [.ref [5] 0 0 (List.map Pub.d ([({ Group := 1, Seg := 2, Frame := 0, Name := ([65] : List UInt8), Off := 7 } : Pub)] : List Pub)).length 5] (.d (Record.d r_1)) [([5], some (.arr (List.map Pub.d ([({ Group := 1, Seg := 2, Frame := 0, Name := ([65] : List UInt8), Off := 7 } : Pub)] : List Pub)) 0 true))] (cut_call (call_of (ws := [([5], some (.arr (List.map Pub.d ([({ Group := 1, Seg := 2, Frame := 0, Name := ([65] : List UInt8), Off := 7 } : Pub)] : List Pub)) 0 true))]) (us := [([5], some (.arr (List.map Pub.d ([({ Group := 1, Seg := 2, Frame := 0, Name := ([65] : List UInt8), Off := 7 } : Pub)] : List Pub)) 0 true))]) (by kernel_rfl) (gives_cons (ws := [([5], some (.arr (List.map Pub.d ([({ Group := 1, Seg := 2, Frame := 0, Name := ([65] : List UInt8), Off := 7 } : Pub)] : List Pub)) 0 true))]) (give_ref (e := Pub.d) (l := ([({ Group := 1, Seg := 2, Frame := 0, Name := ([65] : List UInt8), Off := 7 } : Pub)] : List Pub)) (fz := false) (by kernel_rfl) (by kernel_rfl) rfl) gives_nil) hc_1 (by kernel_rfl) (by kernel_rfl))) <| Rc 1 [⟨.d (.sl (List.map (D.int .u8) r_1.Body)), []⟩] ?_
 obtain ⟨r_2, hr_2, h⟩ := bind_s h
 have hc_2 := pubs_Given_L r_1.Body r_2 hr_2
 refine Rt (some 8) (.callf 59) [] none [.d (.sl (List.map (D.int .u8) r_1.Body))] (.tup [.d (.sl (List.map Pub.d r_2.1)), .d (.int .i64 r_2.2)]) [] (cut_call (call_of (ws := []) (us := []) (by kernel_rfl) (by kernel_rfl) hc_2 (by kernel_rfl) (by kernel_rfl))) <| Rc 5 [⟨.tup [.d (.sl (List.map Pub.d r_2.1)), .d (.int .i64 r_2.2)], []⟩, ⟨.d (.sl (List.map Pub.d r_2.1)), []⟩, ⟨.d (.int .i64 r_2.2), []⟩, ⟨.d (.sl (List.map Pub.d r_2.1)), []⟩, ⟨.d (.int .i64 r_2.2), []⟩] <| Rd <| kS_nrm <| Sq <| Ro <| Rc 3 [⟨.d (.int .i64 r_2.2), []⟩, ⟨.d (.bool (r_2.2 == 0)), []⟩, ⟨.d (.bool (r_2.2 == 0)), []⟩] ?_
 cases hb_1 : ((r_2.2 == 0) : Bool) with
 | true =>
  replace h := ite_t hb_1 h
  refine Rc 1 [⟨.d (.sl (List.map Pub.d r_2.1)), []⟩] <| Rt (some 15) .lenL [] none [.d (.sl (List.map Pub.d r_2.1))] (.d (.int .i64 (r_2.1.length : Int))) [] (cut_len _) <| Rc 3 [⟨.d (.bool ((r_2.1.length : Int) == 1)), []⟩, ⟨.d (.bool ((r_2.1.length : Int) == 1)), []⟩, ⟨.d (.bool ((r_2.1.length : Int) == 1)), []⟩] ?_
  cases hb_2 : (((r_2.1.length : Int) == 1) : Bool) with
  | true =>
   replace h := ite_t hb_2 h
   refine Rc 1 [⟨.d (.sl (List.map Pub.d r_2.1)), []⟩] ?_
   obtain ⟨z_1, hz_1, h⟩ := bind_s h
   refine Rt (some 20) (.iaddrS 5) [] none [.d (.sl (List.map Pub.d r_2.1)), .d (.int .i64 0)] (.elt (Pub.d z_1) 0) [] (cut_at hz_1 (fun _ => rfl)) <| Rc 5 [⟨.elt (Pub.d z_1) 3, []⟩, ⟨.d (.str z_1.Name), []⟩, ⟨.d (.bool (z_1.Name == ([65] : List UInt8))), []⟩, ⟨.d (.bool (z_1.Name == ([65] : List UInt8))), []⟩, ⟨.d (.bool (z_1.Name == ([65] : List UInt8))), []⟩] ?_
   cases hb_3 : ((z_1.Name == ([65] : List UInt8)) : Bool) with
   | true =>
    replace h := ite_t hb_3 h
    refine Rc 1 [⟨.d (.sl (List.map Pub.d r_2.1)), []⟩] ?_
    obtain ⟨z_2, hz_2, h⟩ := bind_s h
    refine Rt (some 27) (.iaddrS 5) [] none [.d (.sl (List.map Pub.d r_2.1)), .d (.int .i64 0)] (.elt (Pub.d z_2) 0) [] (cut_at hz_2 (fun _ => rfl)) <| Rc 5 [⟨.elt (Pub.d z_2) 4, []⟩, ⟨.d (.int .u16 z_2.Off), []⟩, ⟨.d (.bool (z_2.Off == 7)), []⟩, ⟨.d (.bool (z_2.Off == 7)), []⟩, ⟨.d (.bool (z_2.Off == 7)), []⟩] ?_
    cases hb_4 : ((z_2.Off == 7) : Bool) with
    | true =>
     replace h := ite_t hb_4 h
     refine Rc 1 [⟨.d (.sl (List.map Pub.d r_2.1)), []⟩] ?_
     obtain ⟨z_3, hz_3, h⟩ := bind_s h
     refine Rt (some 34) (.iaddrS 5) [] none [.d (.sl (List.map Pub.d r_2.1)), .d (.int .i64 0)] (.elt (Pub.d z_3) 0) [] (cut_at hz_3 (fun _ => rfl)) <| Rc 5 [⟨.elt (Pub.d z_3) 1, []⟩, ⟨.d (.int .i64 z_3.Seg), []⟩, ⟨.d (.bool (z_3.Seg == 2)), []⟩, ⟨.d (.bool (z_3.Seg == 2)), []⟩, ⟨.d (.bool (z_3.Seg == 2)), []⟩] <| Rd <| kS_nrm <| Runs.ret ?_
     obtain rfl := Option.some.inj h
     exact ⟨Out.ret_ne, (by kernel_rfl)⟩
    | false =>
     replace h := ite_f hb_4 h
     refine Rc 7 [⟨.tup [], []⟩, ⟨.tup [], []⟩, ⟨.tup [], []⟩, ⟨.tup [], []⟩, ⟨.tup [], []⟩, ⟨.d (.bool false), []⟩, ⟨.d (.bool false), []⟩] <| Rd <| kS_nrm <| Runs.ret ?_
     obtain rfl := Option.some.inj h
     exact ⟨Out.ret_ne, (by kernel_rfl)⟩
   | false =>
    replace h := ite_f hb_3 h
    refine Rc 14 [⟨.tup [], []⟩, ⟨.tup [], []⟩, ⟨.tup [], []⟩, ⟨.tup [], []⟩, ⟨.tup [], []⟩, ⟨.d (.bool false), []⟩, ⟨.d (.bool false), []⟩, ⟨.tup [], []⟩, ⟨.tup [], []⟩, ⟨.tup [], []⟩, ⟨.tup [], []⟩, ⟨.tup [], []⟩, ⟨.d (.bool false), []⟩, ⟨.d (.bool false), []⟩] <| Rd <| kS_nrm <| Runs.ret ?_
    obtain rfl := Option.some.inj h
    exact ⟨Out.ret_ne, (by kernel_rfl)⟩
  | false =>
   replace h := ite_f hb_2 h
   refine Rc 21 [⟨.tup [], []⟩, ⟨.tup [], []⟩, ⟨.tup [], []⟩, ⟨.tup [], []⟩, ⟨.tup [], []⟩, ⟨.d (.bool false), []⟩, ⟨.d (.bool false), []⟩, ⟨.tup [], []⟩, ⟨.tup [], []⟩, ⟨.tup [], []⟩, ⟨.tup [], []⟩, ⟨.tup [], []⟩, ⟨.d (.bool false), []⟩, ⟨.d (.bool false), []⟩, ⟨.tup [], []⟩, ⟨.tup [], []⟩, ⟨.tup [], []⟩, ⟨.tup [], []⟩, ⟨.tup [], []⟩, ⟨.d (.bool false), []⟩, ⟨.d (.bool false), []⟩] <| Rd <| kS_nrm <| Runs.ret ?_
   obtain rfl := Option.some.inj h
   exact ⟨Out.ret_ne, (by kernel_rfl)⟩
 | false =>
  replace h := ite_f hb_1 h
  refine Rc 26 [⟨.tup [], []⟩, ⟨.tup [], []⟩, ⟨.tup [], []⟩, ⟨.d (.bool false), []⟩, ⟨.d (.bool false), []⟩, ⟨.tup [], []⟩, ⟨.tup [], []⟩, ⟨.tup [], []⟩, ⟨.tup [], []⟩, ⟨.tup [], []⟩, ⟨.d (.bool false), []⟩, ⟨.d (.bool false), []⟩, ⟨.tup [], []⟩, ⟨.tup [], []⟩, ⟨.tup [], []⟩, ⟨.tup [], []⟩, ⟨.tup [], []⟩, ⟨.d (.bool false), []⟩, ⟨.d (.bool false), []⟩, ⟨.tup [], []⟩, ⟨.tup [], []⟩, ⟨.tup [], []⟩, ⟨.tup [], []⟩, ⟨.tup [], []⟩, ⟨.d (.bool false), []⟩, ⟨.d (.bool false), []⟩] <| Rd <| kS_nrm <| Runs.ret ?_
  obtain rfl := Option.some.inj h
  exact ⟨Out.ret_ne, (by kernel_rfl)⟩
theorem hansomlaw22_awake_L  (r : Bool) (h : hansomlaw22_awake = some r) : L 17 [] = some (.d (.bool r), []) := by
 obtain ⟨p, ⟨hne, hf⟩, hr⟩ := hansomlaw22_awake_ok  r h
 obtain ⟨k, hk⟩ := run_of (F := F17) (args := []) (ap := []) (bx0 := updW (fun _ => none) []) rfl rfl (by kernel_rfl) ⟨p, ⟨hne, hf⟩, hr⟩
 exact lim_run (k := k) rfl hk
def hansomlaw22_PubsMade_h8 (b_19 : (List Ext)) (l0 : (List Ext)) (more1 : Int) (i6 : Int) (v_19 : Nat) : St := ⟨tab [(0, .d (.sl (List.map Ext.d l0))), (1, .d (.int .u32 more1)), (5, .ref [19] v_19 0 (List.map Ext.d b_19).length 3), (6, .d (.int .i64 i6))], tabB [([19], some (.arr (List.map Ext.d b_19) v_19 false))]⟩
def hansomlaw22_PubsMade_h21 (b_19 : (List Ext)) (more1 : Int) (v_19 : Nat) : St := ⟨tab [(1, .d (.int .u32 more1)), (5, .ref [19] v_19 0 (List.map Ext.d b_19).length 3)], tabB [([19], some (.arr (List.map Ext.d b_19) v_19 false))]⟩
def hansomlaw22_PubsMade_h37 (r8 : Record) (b_19 : (List Ext)) (more1 : Int) (y9 : (List Ext)) (i11 : Int) (v_19 : Nat) (f_19 : Bool) : St := ⟨tab [(1, .d (.int .u32 more1)), (5, .ref [19] v_19 0 (List.map Ext.d b_19).length 3), (8, .ptr [8] 0 0), (9, .d (.sl (List.map Ext.d y9))), (11, .d (.int .i64 i11))], tabB [([8], some (.cells [.d (.int .u8 r8.Kind), .d (.sl (List.map (D.int .u8) r8.Body))] 0)), ([19], some (.arr (List.map Ext.d b_19) v_19 f_19))]⟩
def hansomlaw22_PubsMade_h54 (r8 : Record) (more1 : Int) : St := ⟨tab [(1, .d (.int .u32 more1)), (8, .ptr [8] 0 0)], tabB [([8], some (.cells [.d (.int .u8 r8.Kind), .d (.sl (List.map (D.int .u8) r8.Body))] 0))]⟩
def hansomlaw22_PubsMade_Q (l_ : (List Ext)) (more_ : Int) (r : Bool) (p : Out × St) : Prop := (∀ i, p.1 ≠ .exit i) ∧ finF F3 [.d (.sl (List.map Ext.d l_)), .d (.int .u32 more_)] p.2 = some (.d (.bool r), [.d (.sl (List.map Ext.d l_)), .d (.int .u32 more_)])
def hansomlaw22_PubsMade_P8 (l_ : (List Ext)) (more_ : Int) (l0 : (List Ext)) (more1 : Int) (e : (List Ext)) (p : Out × St) : Prop := p.1 = .exit 0 ∧ ∃ g : Nat, Canon [] [1, 5] [[19]] p.2 (hansomlaw22_PubsMade_h21 e more1 g)
def hansomlaw22_PubsMade_P37 (l_ : (List Ext)) (more_ : Int) (r8 : Record) (b_19 : (List Ext)) (more1 : Int) (y9 : (List Ext)) (e : (Bool ⊕ Unit)) (p : Out × St) : Prop := match e with
 | .inl x => p.1 = .ret ∧ finF F3 [.d (.sl (List.map Ext.d l_)), .d (.int .u32 more_)] p.2 = some (.d (.bool x), [.d (.sl (List.map Ext.d l_)), .d (.int .u32 more_)])
 | .inr x => p.1 = .exit 2 ∧ ∃ g : Unit, Canon [] [1, 8] [[8]] p.2 (hansomlaw22_PubsMade_h54 r8 more1)
theorem hansomlaw22_PubsMade_l8_ok (l_ : (List Ext)) (more_ : Int) (b_19 : (List Ext)) (l0 : (List Ext)) (more1 : Int) (i6 : Int) (v_19 : Nat) (r : (Lp ((List Ext) × Int) (List Ext))) (h : hansomlaw22_PubsMade_l8 b_19 l0 more1 i6 = some r) : Runs L F3l8 (hansomlaw22_PubsMade_h8 b_19 l0 more1 i6 v_19) (LQ [] [0, 1, 5, 6] [[19]] (fun (x : ((List Ext) × Int)) (g : Nat) => hansomlaw22_PubsMade_h8 x.1 l0 more1 x.2 g) (hansomlaw22_PubsMade_P8 l_ more_ l0 more1) r) := by
 unfold hansomlaw22_PubsMade_l8 at h
 refine Sq <| Sq <| Ro <| Rc 2 [⟨.d (.int .i64 i6), []⟩, ⟨.d (.sl (List.map Ext.d l0)), []⟩] <| Rt (some 22) .lenL [] none [.d (.sl (List.map Ext.d l0))] (.d (.int .i64 (l0.length : Int))) [] (cut_len _) <| Rc 2 [⟨.d (.bool (decide (i6 < (l0.length : Int)))), []⟩, ⟨.d (.bool (decide (i6 < (l0.length : Int)))), []⟩] ?_
 cases hb_1 : ((decide (i6 < (l0.length : Int))) : Bool) with
 | true =>
  replace h := ite_t hb_1 h
  refine Rc 3 [⟨.d (.int .i64 i6), []⟩, ⟨.d (.bool (decide (i6 < 8))), []⟩, ⟨.d (.bool (decide (i6 < 8))), []⟩] <| Rd <| kS_nrm ?_
  cases hb_2 : ((decide (i6 < 8)) : Bool) with
  | true =>
   replace h := ite_t hb_2 h
   refine Ct <| Runs.skip <| kS_nrm <| Sq <| Runs.block <| Sq <| Ro <| Rc 2 [⟨.d (.sl (List.map Ext.d l0)), []⟩, ⟨.d (.int .i64 i6), []⟩] ?_
   obtain ⟨z_1, hz_1, h⟩ := bind_s h
   refine Rt (some 32) (.iaddrS 3) [] none [.d (.sl (List.map Ext.d l0)), .d (.int .i64 i6)] (.elt (Ext.d z_1) 0) [] (cut_at hz_1 (fun _ => rfl)) <| Rc 4 [⟨.elt (Ext.d z_1) 0, []⟩, ⟨.d (.str z_1.Name), []⟩, ⟨.d (.sl (List.map Ext.d l0)), []⟩, ⟨.d (.int .i64 i6), []⟩] ?_
   obtain ⟨z_2, hz_2, h⟩ := bind_s h
   refine Rt (some 37) (.iaddrS 3) [] none [.d (.sl (List.map Ext.d l0)), .d (.int .i64 i6)] (.elt (Ext.d z_2) 0) [] (cut_at hz_2 (fun _ => rfl)) <| Rc 2 [⟨.elt (Ext.d z_2) 0, []⟩, ⟨.d (.str z_2.Name), []⟩] <| Rt (some 40) .lenS [] none [.d (.str z_2.Name)] (.d (.int .i64 (z_2.Name.length : Int))) [] (cut_lenS _) <| Rc 1 [⟨.d (.int .i64 (mnI (z_2.Name.length : Int) 40)), []⟩] ?_
   obtain ⟨z_3, hz_3, h⟩ := bind_s h
   refine Rt (some 42) (.substr false true) [] none [.d (.str z_1.Name), .d (.int .i64 (mnI (z_2.Name.length : Int) 40))] (.d (.str z_3)) [] (cut_strFT hz_3) <| Rc 2 [⟨.d (.sl (List.map Ext.d l0)), []⟩, ⟨.d (.int .i64 i6), []⟩] ?_
   obtain ⟨z_4, hz_4, h⟩ := bind_s h
   refine Rt (some 45) (.iaddrS 3) [] none [.d (.sl (List.map Ext.d l0)), .d (.int .i64 i6)] (.elt (Ext.d z_4) 0) [] (cut_at hz_4 (fun _ => rfl)) <| Rc 6 [⟨.elt (Ext.d z_4) 1, []⟩, ⟨.d (.int .i64 z_4.Com), []⟩, ⟨.d (.int .i64 (bitsOp .and .i64 z_4.Com 1)), []⟩, ⟨.d (.int .i64 (IntKind.wrap .i64 (97 + (bitsOp .and .i64 z_4.Com 1)))), []⟩, ⟨.d (.sl (List.map Ext.d l0)), []⟩, ⟨.d (.int .i64 i6), []⟩] ?_
   obtain ⟨z_5, hz_5, h⟩ := bind_s h
   refine Rt (some 52) (.iaddrS 3) [] none [.d (.sl (List.map Ext.d l0)), .d (.int .i64 i6)] (.elt (Ext.d z_5) 0) [] (cut_at hz_5 (fun _ => rfl)) <| Rc 7 [⟨.elt (Ext.d z_5) 2, []⟩, ⟨.d (.int .u32 z_5.Len), []⟩, ⟨.d (.int .u32 (bitsOp .and .u32 z_5.Len 2097151)), []⟩, ⟨.d (.int .u32 (Int.tmod (bitsOp .and .u32 z_5.Len 2097151) 1048577)), []⟩, ⟨.d (.agg [.str z_3, .int .i64 (IntKind.wrap .i64 (97 + (bitsOp .and .i64 z_4.Com 1))), .int .u32 (Int.tmod (bitsOp .and .u32 z_5.Len 2097151) 1048577)]), []⟩, ⟨.ptr [7] 0 0, [([7], some (.cells [.d (.str []), .d (.int .i64 0), .d (.int .u32 0)] 0))]⟩, ⟨.tup [], [([7], some (.cells [.d (.str z_3), .d (.int .i64 (IntKind.wrap .i64 (97 + (bitsOp .and .i64 z_4.Com 1)))), .d (.int .u32 (Int.tmod (bitsOp .and .u32 z_5.Len 2097151) 1048577))] 0))]⟩] <| Rd <| kS_nrm <| Ro <| Rc 3 [⟨.ref [19] v_19 0 (List.map Ext.d b_19).length 3, []⟩, ⟨.d (.agg [.str z_3, .int .i64 (IntKind.wrap .i64 (97 + (bitsOp .and .i64 z_4.Com 1))), .int .u32 (Int.tmod (bitsOp .and .u32 z_5.Len 2097151) 1048577)]), []⟩, ⟨.ref [60] 0 0 (List.map Ext.d ([({ Name := z_3, Com := (IntKind.wrap .i64 (97 + (bitsOp .and .i64 z_4.Com 1))), Len := (Int.tmod (bitsOp .and .u32 z_5.Len 2097151) 1048577) } : Ext)] : List Ext)).length 3, [([60], some (.arr (List.map Ext.d ([({ Name := z_3, Com := (IntKind.wrap .i64 (97 + (bitsOp .and .i64 z_4.Com 1))), Len := (Int.tmod (bitsOp .and .u32 z_5.Len 2097151) 1048577) } : Ext)] : List Ext)) 0 false))]⟩] ?_
   obtain ⟨z_6, hz_6, h⟩ := bind_s h
   refine Rt (some 61) (.append 3 32 false) [] none [.ref [19] v_19 0 (List.map Ext.d b_19).length 3, .ref [60] 0 0 (List.map Ext.d ([({ Name := z_3, Com := (IntKind.wrap .i64 (97 + (bitsOp .and .i64 z_4.Com 1))), Len := (Int.tmod (bitsOp .and .u32 z_5.Len 2097151) 1048577) } : Ext)] : List Ext)).length 3] (.ref [19] (v_19 + 1) 0 (List.map Ext.d z_6).length 3) [([60], some (.arr (List.map Ext.d ([({ Name := z_3, Com := (IntKind.wrap .i64 (97 + (bitsOp .and .i64 z_4.Com 1))), Len := (Int.tmod (bitsOp .and .u32 z_5.Len 2097151) 1048577) } : Ext)] : List Ext)) 0 true)), ([19], some (.arr (List.map Ext.d z_6) (v_19 + 1) false))] (cut_appR (e := Ext.d) (l := b_19) (fz := false) (ws := [([60], some (.arr (List.map Ext.d ([({ Name := z_3, Com := (IntKind.wrap .i64 (97 + (bitsOp .and .i64 z_4.Com 1))), Len := (Int.tmod (bitsOp .and .u32 z_5.Len 2097151) 1048577) } : Ext)] : List Ext)) 0 true))]) (ap_ref (e := Ext.d) (l := ([({ Name := z_3, Com := (IntKind.wrap .i64 (97 + (bitsOp .and .i64 z_4.Com 1))), Len := (Int.tmod (bitsOp .and .u32 z_5.Len 2097151) 1048577) } : Ext)] : List Ext)) (fz := false) (by kernel_rfl) (by kernel_rfl) rfl) (fun _ => rfl) hz_6 (by kernel_rfl) (by kernel_rfl) rfl) <| Rc 1 [⟨.ref [19] (v_19 + 1) 0 (List.map Ext.d z_6).length 3, []⟩] <| Rd <| kB_nrm <| kS_nrm <| Ro <| Rc 3 [⟨.d (.int .i64 i6), []⟩, ⟨.d (.int .i64 (IntKind.wrap .i64 (i6 + 1))), []⟩, ⟨.d (.int .i64 (IntKind.wrap .i64 (i6 + 1))), []⟩] <| Rd ?_
   obtain rfl := Option.some.inj h
   exact ⟨rfl, (v_19 + 1), (Canon.nil (by kernel_rfl))⟩
  | false =>
   replace h := ite_f hb_2 h
   refine Cf <| Runs.exit <| kS_exit ?_
   obtain rfl := Option.some.inj h
   exact ⟨nofun, rfl, v_19, (Canon.nil (by kernel_rfl))⟩
 | false =>
  replace h := ite_f hb_1 h
  refine Rc 3 [⟨.tup [], []⟩, ⟨.tup [], []⟩, ⟨.d (.bool false), []⟩] <| Rd <| kS_nrm <| Cf <| Runs.exit <| kS_exit ?_
  obtain rfl := Option.some.inj h
  exact ⟨nofun, rfl, v_19, (Canon.nil (by kernel_rfl))⟩
theorem hansomlaw22_PubsMade_l37_ok (l_ : (List Ext)) (more_ : Int) (r8 : Record) (b_19 : (List Ext)) (more1 : Int) (y9 : (List Ext)) (i11 : Int) (v_19 : Nat) (f_19 : Bool) (r : (Lp Int (Bool ⊕ Unit))) (h : hansomlaw22_PubsMade_l37 r8 b_19 more1 y9 i11 = some r) : Runs L F3l37 (hansomlaw22_PubsMade_h37 r8 b_19 more1 y9 i11 v_19 f_19) (LQ [] [1, 5, 8, 9, 11] [[8], [19]] (fun (x : Int) (g : (Nat × Bool)) => hansomlaw22_PubsMade_h37 r8 b_19 more1 y9 x g.1 g.2) (hansomlaw22_PubsMade_P37 l_ more_ r8 b_19 more1 y9) r) := by
 unfold hansomlaw22_PubsMade_l37 at h
 refine Sq <| Sq <| Ro <| Rc 2 [⟨.d (.int .i64 i11), []⟩, ⟨.ref [19] v_19 0 (List.map Ext.d b_19).length 3, []⟩] <| Rt (some 94) .lenL [] none [.ref [19] v_19 0 (List.map Ext.d b_19).length 3] (.d (.int .i64 (b_19.length : Int))) [] (cut_lenR (e := Ext.d) b_19 rfl) <| Rc 1 [⟨.d (.bool (decide (i11 < (b_19.length : Int)))), []⟩] <| Rd <| kS_nrm ?_
 cases hb_5 : ((decide (i11 < (b_19.length : Int))) : Bool) with
 | true =>
  replace h := ite_t hb_5 h
  refine Ct <| Runs.skip <| kS_nrm <| Sq <| Runs.block <| Sq <| Ro <| Rc 2 [⟨.d (.sl (List.map Ext.d y9)), []⟩, ⟨.d (.int .i64 i11), []⟩] ?_
  obtain ⟨z_1, hz_1, h⟩ := bind_s h
  refine Rt (some 100) (.iaddrS 3) [] none [.d (.sl (List.map Ext.d y9)), .d (.int .i64 i11)] (.elt (Ext.d z_1) 0) [] (cut_at hz_1 (fun _ => rfl)) <| Rc 3 [⟨.d (Ext.d z_1), []⟩, ⟨.ref [19] v_19 0 (List.map Ext.d b_19).length 3, []⟩, ⟨.d (.int .i64 i11), []⟩] ?_
  obtain ⟨z_2, hz_2, h⟩ := bind_s h
  refine Rt (some 104) (.iaddrS 3) [] none [.ref [19] v_19 0 (List.map Ext.d b_19).length 3, .d (.int .i64 i11)] (.eref [19] v_19 (0 + (i11).toNat) 0) [] (cut_atR (e := Ext.d) (l := b_19) hz_2 rfl) <| Rt (some 105) (.load (some 3)) [] none [.eref [19] v_19 (0 + (i11).toNat) 0] (.d (Ext.d z_2)) [] (cut_loadR (e := Ext.d) (l := b_19) (fz := f_19) (y := z_2) (by kernel_rfl) hz_2 (by kernel_rfl) (by kernel_rfl)) <| Rc 1 [⟨.d (.bool (!(z_1.Name == z_2.Name && (z_1.Com == z_2.Com && (z_1.Len == z_2.Len && true))))), []⟩] <| Rd <| kS_nrm ?_
  cases hb_6 : ((!(z_1.Name == z_2.Name && (z_1.Com == z_2.Com && (z_1.Len == z_2.Len && true)))) : Bool) with
  | true =>
   replace h := ite_t hb_6 h
   refine Ct <| Sq <| Ro <| Rc 1 [⟨.d (.bool false), []⟩] <| Rd <| kS_nrm <| Runs.ret <| kB_ret <| kS_ret ?_
   obtain rfl := Option.some.inj h
   exact ⟨nofun, rfl, (by kernel_rfl)⟩
  | false =>
   replace h := ite_f hb_6 h
   refine Cf <| Runs.skip <| kB_nrm <| kS_nrm <| Ro <| Rc 3 [⟨.d (.int .i64 i11), []⟩, ⟨.d (.int .i64 (IntKind.wrap .i64 (i11 + 1))), []⟩, ⟨.d (.int .i64 (IntKind.wrap .i64 (i11 + 1))), []⟩] <| Rd ?_
   obtain rfl := Option.some.inj h
   exact ⟨rfl, (v_19, f_19), (Canon.nil (by kernel_rfl))⟩
 | false =>
  replace h := ite_f hb_5 h
  refine Cf <| Runs.exit <| kS_exit ?_
  obtain rfl := Option.some.inj h
  exact ⟨nofun, rfl, (), (Canon.nil (by kernel_rfl))⟩
theorem hansomlaw22_PubsMade_ok (l_ : (List Ext)) (more_ : Int) (r : Bool) (h : hansomlaw22_PubsMade l_ more_ = some r) : Runs L F3.body ⟨tmOf [.d (.sl (List.map Ext.d l_)), .d (.int .u32 more_)] 0, updW (fun _ => none) []⟩ (hansomlaw22_PubsMade_Q l_ more_ r) := by
 unfold hansomlaw22_PubsMade at h
 refine Sq <| Ro <| Rc 1 [⟨.d (.bool false), []⟩] <| Rd <| kS_nrm <| Sq <| Ro <| Rc 2 [⟨.ref [19] 0 0 (List.map Ext.d ([] : List Ext)).length 3, [([19], some (.arr (List.map Ext.d ([] : List Ext)) 0 false))]⟩, ⟨.ref [19] 0 0 (List.map Ext.d ([] : List Ext)).length 3, []⟩] <| Rd <| kS_nrm <| Sq <| Sq <| Ro <| Rc 1 [⟨.d (.int .i64 0), []⟩] <| Rd <| kS_nrm <| Runs.block ?_
 obtain ⟨e_1, he_1, h⟩ := bind_s h
 refine Runs.loop (fun x : ((List Ext) × Int) => hansomlaw22_PubsMade_l8 x.1 l_ more_ x.2) (fun (x : ((List Ext) × Int)) (g : Nat) => hansomlaw22_PubsMade_h8 x.1 l_ more_ x.2 g) (hansomlaw22_PubsMade_P8 l_ more_ l_ more_) (fun x g r hr => hansomlaw22_PubsMade_l8_ok l_ more_ x.1 l_ more_ x.2 g r hr) 0 he_1 (Canon.nil (by kernel_rfl)) ?_
 rintro ⟨o, s⟩ hp
 obtain ⟨ho, g_1, hk_1⟩ := hp
 have ho' : o = .exit 0 := ho
 subst ho'
 refine kB_hit <| kS_nrm <| Runs.canon _ hk_1 <| Sq <| Ro <| Rc 1 [⟨.ref [19] g_1 0 (List.map Ext.d e_1).length 3, []⟩] ?_
 obtain ⟨r_1, hr_1, h⟩ := bind_s h
 have hc_1 := pubs_Communal_L e_1 r_1 hr_1
 refine Rt (some 63) (.callf 12) [] none [.ref [19] g_1 0 (List.map Ext.d e_1).length 3] (.d (Record.d r_1)) [([19], some (.arr (List.map Ext.d e_1) g_1 true))] (cut_call (call_of (ws := [([19], some (.arr (List.map Ext.d e_1) g_1 true))]) (us := [([19], some (.arr (List.map Ext.d e_1) g_1 true))]) (by kernel_rfl) (gives_cons (ws := [([19], some (.arr (List.map Ext.d e_1) g_1 true))]) (give_ref (e := Ext.d) (l := e_1) (fz := false) (by kernel_rfl) (by kernel_rfl) rfl) gives_nil) hc_1 (by kernel_rfl) (by kernel_rfl))) <| Rc 2 [⟨.ptr [8] 0 0, [([8], some (.cells [.d (.int .u8 0), .nils] 0))]⟩, ⟨.tup [], [([8], some (.cells [.d (.int .u8 r_1.Kind), .d (.sl (List.map (D.int .u8) r_1.Body))] 0))]⟩] <| Rd <| kS_nrm <| Sq <| Ro <| Rc 2 [⟨.ptr [8] 0 1, []⟩, ⟨.d (.sl (List.map (D.int .u8) r_1.Body)), []⟩] ?_
 obtain ⟨r_2, hr_2, h⟩ := bind_s h
 have hc_2 := pubs_Made_L r_1.Body r_2 hr_2
 refine Rt (some 67) (.callf 13) [] none [.d (.sl (List.map (D.int .u8) r_1.Body))] (.tup [.d (.sl (List.map Ext.d r_2.1)), .d (.int .i64 r_2.2)]) [] (cut_call (call_of (ws := []) (us := []) (by kernel_rfl) (by kernel_rfl) hc_2 (by kernel_rfl) (by kernel_rfl))) <| Rc 5 [⟨.tup [.d (.sl (List.map Ext.d r_2.1)), .d (.int .i64 r_2.2)], []⟩, ⟨.d (.sl (List.map Ext.d r_2.1)), []⟩, ⟨.d (.int .i64 r_2.2), []⟩, ⟨.d (.sl (List.map Ext.d r_2.1)), []⟩, ⟨.d (.int .i64 r_2.2), []⟩] <| Rd <| kS_nrm <| Sq <| Sq <| Ro <| Rc 2 [⟨.ptr [8] 0 1, []⟩, ⟨.d (.sl (List.map (D.int .u8) r_1.Body)), []⟩] <| Rt (some 72) .bytesStr [[74]] none [.d (.sl (List.map (D.int .u8) r_1.Body))] (.d (.str (b2s r_1.Body))) [] (cut_bs _) <| Rc 1 [⟨.ref [19] g_1 0 (List.map Ext.d e_1).length 3, []⟩] ?_
 obtain ⟨r_3, hr_3, h⟩ := bind_s h
 have hc_3 := hansomref21_Communal_L e_1 r_3 hr_3
 refine Rt (some 74) (.callf 14) [] (some []) [.ref [19] g_1 0 (List.map Ext.d e_1).length 3] (.d (.str r_3)) [([19], some (.arr (List.map Ext.d e_1) g_1 true))] (cut_call (call_of (ws := [([19], some (.arr (List.map Ext.d e_1) g_1 true))]) (us := [([19], some (.arr (List.map Ext.d e_1) g_1 true))]) (by kernel_rfl) (gives_cons (ws := [([19], some (.arr (List.map Ext.d e_1) g_1 true))]) (give_ref (e := Ext.d) (l := e_1) (fz := true) (by kernel_rfl) (by kernel_rfl) rfl) gives_nil) hc_3 (by kernel_rfl) (by kernel_rfl))) <| Rc 2 [⟨.d (.bool ((b2s r_1.Body) != r_3)), []⟩, ⟨.d (.bool ((b2s r_1.Body) != r_3)), []⟩] ?_
 cases hb_1 : (((b2s r_1.Body) != r_3) : Bool) with
 | true =>
  replace h := ite_t hb_1 h
  refine Rc 15 [⟨.tup [], []⟩, ⟨.tup [], []⟩, ⟨.tup [], []⟩, ⟨.d (.bool true), []⟩, ⟨.d (.bool true), []⟩, ⟨.tup [], []⟩, ⟨.tup [], []⟩, ⟨.d (.bool true), []⟩, ⟨.d (.bool true), []⟩, ⟨.tup [], []⟩, ⟨.tup [], []⟩, ⟨.tup [], []⟩, ⟨.tup [], []⟩, ⟨.tup [], []⟩, ⟨.d (.bool true), []⟩] <| Rd <| kS_nrm <| Ct <| Sq <| Ro <| Rc 1 [⟨.d (.bool false), []⟩] <| Rd <| kS_nrm <| Runs.ret <| kS_ret ?_
  obtain rfl := Option.some.inj h
  exact ⟨Out.ret_ne, (by kernel_rfl)⟩
 | false =>
  replace h := ite_f hb_1 h
  refine Rc 5 [⟨.ptr [8] 0 0, []⟩, ⟨.d (.int .u8 r_1.Kind), []⟩, ⟨.d (.bool (r_1.Kind != 176)), []⟩, ⟨.d (.bool (r_1.Kind != 176)), []⟩, ⟨.d (.bool (r_1.Kind != 176)), []⟩] ?_
  cases hb_2 : ((r_1.Kind != 176) : Bool) with
  | true =>
   replace h := ite_t hb_2 h
   refine Rc 10 [⟨.tup [], []⟩, ⟨.tup [], []⟩, ⟨.d (.bool true), []⟩, ⟨.d (.bool true), []⟩, ⟨.tup [], []⟩, ⟨.tup [], []⟩, ⟨.tup [], []⟩, ⟨.tup [], []⟩, ⟨.tup [], []⟩, ⟨.d (.bool true), []⟩] <| Rd <| kS_nrm <| Ct <| Sq <| Ro <| Rc 1 [⟨.d (.bool false), []⟩] <| Rd <| kS_nrm <| Runs.ret <| kS_ret ?_
   obtain rfl := Option.some.inj h
   exact ⟨Out.ret_ne, (by kernel_rfl)⟩
  | false =>
   replace h := ite_f hb_2 h
   refine Rc 4 [⟨.d (.int .i64 r_2.2), []⟩, ⟨.d (.bool (r_2.2 != 0)), []⟩, ⟨.d (.bool (r_2.2 != 0)), []⟩, ⟨.d (.bool (r_2.2 != 0)), []⟩] ?_
   cases hb_3 : ((r_2.2 != 0) : Bool) with
   | true =>
    replace h := ite_t hb_3 h
    refine Rc 6 [⟨.tup [], []⟩, ⟨.tup [], []⟩, ⟨.tup [], []⟩, ⟨.tup [], []⟩, ⟨.tup [], []⟩, ⟨.d (.bool true), []⟩] <| Rd <| kS_nrm <| Ct <| Sq <| Ro <| Rc 1 [⟨.d (.bool false), []⟩] <| Rd <| kS_nrm <| Runs.ret <| kS_ret ?_
    obtain rfl := Option.some.inj h
    exact ⟨Out.ret_ne, (by kernel_rfl)⟩
   | false =>
    replace h := ite_f hb_3 h
    refine Rc 1 [⟨.d (.sl (List.map Ext.d r_2.1)), []⟩] <| Rt (some 87) .lenL [] none [.d (.sl (List.map Ext.d r_2.1))] (.d (.int .i64 (r_2.1.length : Int))) [] (cut_len _) <| Rc 1 [⟨.ref [19] g_1 0 (List.map Ext.d e_1).length 3, []⟩] <| Rt (some 89) .lenL [] none [.ref [19] g_1 0 (List.map Ext.d e_1).length 3] (.d (.int .i64 (e_1.length : Int))) [] (cut_lenR (e := Ext.d) e_1 rfl) <| Rc 2 [⟨.d (.bool ((r_2.1.length : Int) != (e_1.length : Int))), []⟩, ⟨.d (.bool ((r_2.1.length : Int) != (e_1.length : Int))), []⟩] <| Rd <| kS_nrm ?_
    cases hb_4 : (((r_2.1.length : Int) != (e_1.length : Int)) : Bool) with
    | true =>
     replace h := ite_t hb_4 h
     refine Ct <| Sq <| Ro <| Rc 1 [⟨.d (.bool false), []⟩] <| Rd <| kS_nrm <| Runs.ret <| kS_ret ?_
     obtain rfl := Option.some.inj h
     exact ⟨Out.ret_ne, (by kernel_rfl)⟩
    | false =>
     replace h := ite_f hb_4 h
     refine Cf <| Runs.skip <| kS_nrm <| Sq <| Sq <| Ro <| Rc 1 [⟨.d (.int .i64 0), []⟩] <| Rd <| kS_nrm <| Runs.block ?_
     obtain ⟨e_2, he_2, h⟩ := bind_s h
     refine Runs.loop (fun x : Int => hansomlaw22_PubsMade_l37 r_1 e_1 more_ r_2.1 x) (fun (x : Int) (g : (Nat × Bool)) => hansomlaw22_PubsMade_h37 r_1 e_1 more_ r_2.1 x g.1 g.2) (hansomlaw22_PubsMade_P37 l_ more_ r_1 e_1 more_ r_2.1) (fun x g r hr => hansomlaw22_PubsMade_l37_ok l_ more_ r_1 e_1 more_ r_2.1 x g.1 g.2 r hr) (g_1, true) he_2 (Canon.nil (by kernel_rfl)) ?_
     rintro ⟨o, s⟩ hp
     cases e_2 with
     | inl e_3 =>
      obtain ⟨ho, hf⟩ := hp
      have ho' : o = .ret := ho
      subst ho'
      refine kB_ret <| kS_ret ?_
      obtain rfl := Option.some.inj h
      exact ⟨Out.ret_ne, hf⟩
     | inr e_4 =>
      obtain ⟨ho, g_2, hk_2⟩ := hp
      have ho' : o = .exit 2 := ho
      subst ho'
      refine kB_hit <| kS_nrm <| Runs.canon _ hk_2 <| Sq <| Ro ?_
      obtain ⟨r_4, hr_4, h⟩ := bind_s h
      have hc_4 := hansomref18_Name_L ([65] : List UInt8) r_4 hr_4
      refine Rt (some 107) (.callf 15) [] none [.d (.str ([65] : List UInt8))] (.d (.str r_4)) [] (cut_call (call_of (ws := []) (us := []) (by kernel_rfl) (by kernel_rfl) hc_4 (by kernel_rfl) (by kernel_rfl))) ?_
      obtain ⟨z_1, hz_1, h⟩ := bind_s h
      refine Rt (some 108) (.bin .add) [] none [.d (.str r_4), .d (.str ([0, 97] : List UInt8))] (.d (.str z_1)) [] (cut_cat hz_1) ?_
      obtain ⟨r_5, hr_5, h⟩ := bind_s h
      have hc_5 := hansomref18_Long_L 1024 r_5 hr_5
      refine Rt (some 109) (.callf 16) [] none [.d (.int .u32 1024)] (.d (.str r_5)) [] (cut_call (call_of (ws := []) (us := []) (by kernel_rfl) (by kernel_rfl) hc_5 (by kernel_rfl) (by kernel_rfl))) ?_
      obtain ⟨z_2, hz_2, h⟩ := bind_s h
      refine Rt (some 110) (.bin .add) [] none [.d (.str z_1), .d (.str r_5)] (.d (.str z_2)) [] (cut_cat hz_2) <| Rc 3 [⟨.d (.int .u32 more_), []⟩, ⟨.d (.int .u32 (bitsOp .and .u32 more_ 65535)), []⟩, ⟨.d (.int .u32 (IntKind.wrap .u32 (1025 + (bitsOp .and .u32 more_ 65535)))), []⟩] ?_
      obtain ⟨r_6, hr_6, h⟩ := bind_s h
      have hc_6 := hansomref18_Long_L (IntKind.wrap .u32 (1025 + (bitsOp .and .u32 more_ 65535))) r_6 hr_6
      refine Rt (some 114) (.callf 16) [] none [.d (.int .u32 (IntKind.wrap .u32 (1025 + (bitsOp .and .u32 more_ 65535))))] (.d (.str r_6)) [] (cut_call (call_of (ws := []) (us := []) (by kernel_rfl) (by kernel_rfl) hc_6 (by kernel_rfl) (by kernel_rfl))) ?_
      obtain ⟨z_3, hz_3, h⟩ := bind_s h
      refine Rt (some 115) (.bin .add) [] none [.d (.str z_2), .d (.str r_6)] (.d (.str z_3)) [] (cut_cat hz_3) <| Rc 1 [⟨.d (.str z_3), []⟩] <| Rd <| kS_nrm <| Sq <| Ro <| Rc 3 [⟨.ref [117] 0 0 (List.map (D.int .u8) ([] : List Int)).length 1, [([117], some (.arr (List.map (D.int .u8) ([] : List Int)) 0 false))]⟩, ⟨.ptr [8] 0 1, []⟩, ⟨.d (.sl (List.map (D.int .u8) r_1.Body)), []⟩] ?_
      obtain ⟨z_4, hz_4, h⟩ := bind_s h
      refine Rt (some 120) (.append 1 1 false) [] none [.ref [117] 0 0 (List.map (D.int .u8) ([] : List Int)).length 1, .d (.sl (List.map (D.int .u8) r_1.Body))] (.ref [117] 1 0 (List.map (D.int .u8) z_4).length 1) [([117], some (.arr (List.map (D.int .u8) z_4) 1 false))] (cut_appR (e := (D.int .u8)) (l := ([] : List Int)) (fz := false) (ws := []) (ap_data _) (fun _ => rfl) hz_4 (by kernel_rfl) (by kernel_rfl) rfl) <| Rc 1 [⟨.d (.str z_3), []⟩] ?_
      obtain ⟨z_5, hz_5, h⟩ := bind_s h
      refine Rt (some 122) (.append 1 1 true) [] none [.ref [117] 1 0 (List.map (D.int .u8) z_4).length 1, .d (.str z_3)] (.ref [117] 2 0 (List.map (D.int .u8) z_5).length 1) [([117], some (.arr (List.map (D.int .u8) z_5) 2 false))] (cut_appR (e := (D.int .u8)) (l := z_4) (fz := false) (ws := []) (ap_str _) (fun _ => rfl) hz_5 (by kernel_rfl) (by kernel_rfl) rfl) ?_
      obtain ⟨r_7, hr_7, h⟩ := bind_s h
      have hc_7 := pubs_Made_L z_5 r_7 hr_7
      refine Rt (some 123) (.callf 13) [] none [.ref [117] 2 0 (List.map (D.int .u8) z_5).length 1] (.tup [.d (.sl (List.map Ext.d r_7.1)), .d (.int .i64 r_7.2)]) [([117], some (.arr (List.map (D.int .u8) z_5) 2 true))] (cut_call (call_of (ws := [([117], some (.arr (List.map (D.int .u8) z_5) 2 true))]) (us := [([117], some (.arr (List.map (D.int .u8) z_5) 2 true))]) (by kernel_rfl) (gives_cons (ws := [([117], some (.arr (List.map (D.int .u8) z_5) 2 true))]) (give_ref (e := (D.int .u8)) (l := z_5) (fz := false) (by kernel_rfl) (by kernel_rfl) rfl) gives_nil) hc_7 (by kernel_rfl) (by kernel_rfl))) <| Rc 5 [⟨.tup [.d (.sl (List.map Ext.d r_7.1)), .d (.int .i64 r_7.2)], []⟩, ⟨.d (.sl (List.map Ext.d r_7.1)), []⟩, ⟨.d (.int .i64 r_7.2), []⟩, ⟨.d (.sl (List.map Ext.d r_7.1)), []⟩, ⟨.d (.int .i64 r_7.2), []⟩] <| Rd <| kS_nrm <| Sq <| Ro ?_
      obtain ⟨r_8, hr_8, h⟩ := bind_s h
      have hc_8 := hansomref18_Name_L ([65] : List UInt8) r_8 hr_8
      refine Rt (some 127) (.callf 15) [] none [.d (.str ([65] : List UInt8))] (.d (.str r_8)) [] (cut_call (call_of (ws := []) (us := []) (by kernel_rfl) (by kernel_rfl) hc_8 (by kernel_rfl) (by kernel_rfl))) ?_
      obtain ⟨z_6, hz_6, h⟩ := bind_s h
      refine Rt (some 128) (.bin .add) [] none [.d (.str r_8), .d (.str ([0, 99, 1] : List UInt8))] (.d (.str z_6)) [] (cut_cat hz_6) <| Rt (some 129) .strBytes [] none [.d (.str z_6)] (.ref [129] 0 0 (List.map (D.int .u8) (s2b z_6)).length 1) [([129], some (.arr (List.map (D.int .u8) (s2b z_6)) 0 false))] (cut_sb _ (by kernel_rfl)) ?_
      obtain ⟨r_9, hr_9, h⟩ := bind_s h
      have hc_9 := pubs_Made_L (s2b z_6) r_9 hr_9
      refine Rt (some 130) (.callf 13) [] none [.ref [129] 0 0 (List.map (D.int .u8) (s2b z_6)).length 1] (.tup [.d (.sl (List.map Ext.d r_9.1)), .d (.int .i64 r_9.2)]) [([129], some (.arr (List.map (D.int .u8) (s2b z_6)) 0 true))] (cut_call (call_of (ws := [([129], some (.arr (List.map (D.int .u8) (s2b z_6)) 0 true))]) (us := [([129], some (.arr (List.map (D.int .u8) (s2b z_6)) 0 true))]) (by kernel_rfl) (gives_cons (ws := [([129], some (.arr (List.map (D.int .u8) (s2b z_6)) 0 true))]) (give_ref (e := (D.int .u8)) (l := (s2b z_6)) (fz := false) (by kernel_rfl) (by kernel_rfl) rfl) gives_nil) hc_9 (by kernel_rfl) (by kernel_rfl))) <| Rc 5 [⟨.tup [.d (.sl (List.map Ext.d r_9.1)), .d (.int .i64 r_9.2)], []⟩, ⟨.d (.sl (List.map Ext.d r_9.1)), []⟩, ⟨.d (.int .i64 r_9.2), []⟩, ⟨.d (.sl (List.map Ext.d r_9.1)), []⟩, ⟨.d (.int .i64 r_9.2), []⟩] <| Rd <| kS_nrm <| Sq <| Ro ?_
      obtain ⟨r_10, hr_10, h⟩ := bind_s h
      have hc_10 := hansomref18_Name_L ([65] : List UInt8) r_10 hr_10
      refine Rt (some 134) (.callf 15) [] none [.d (.str ([65] : List UInt8))] (.d (.str r_10)) [] (cut_call (call_of (ws := []) (us := []) (by kernel_rfl) (by kernel_rfl) hc_10 (by kernel_rfl) (by kernel_rfl))) ?_
      obtain ⟨z_7, hz_7, h⟩ := bind_s h
      refine Rt (some 135) (.bin .add) [] none [.d (.str r_10), .d (.str ([0, 97, 5, 7] : List UInt8))] (.d (.str z_7)) [] (cut_cat hz_7) <| Rt (some 136) .strBytes [] none [.d (.str z_7)] (.ref [136] 0 0 (List.map (D.int .u8) (s2b z_7)).length 1) [([136], some (.arr (List.map (D.int .u8) (s2b z_7)) 0 false))] (cut_sb _ (by kernel_rfl)) ?_
      obtain ⟨r_11, hr_11, h⟩ := bind_s h
      have hc_11 := pubs_Made_L (s2b z_7) r_11 hr_11
      refine Rt (some 137) (.callf 13) [] none [.ref [136] 0 0 (List.map (D.int .u8) (s2b z_7)).length 1] (.tup [.d (.sl (List.map Ext.d r_11.1)), .d (.int .i64 r_11.2)]) [([136], some (.arr (List.map (D.int .u8) (s2b z_7)) 0 true))] (cut_call (call_of (ws := [([136], some (.arr (List.map (D.int .u8) (s2b z_7)) 0 true))]) (us := [([136], some (.arr (List.map (D.int .u8) (s2b z_7)) 0 true))]) (by kernel_rfl) (gives_cons (ws := [([136], some (.arr (List.map (D.int .u8) (s2b z_7)) 0 true))]) (give_ref (e := (D.int .u8)) (l := (s2b z_7)) (fz := false) (by kernel_rfl) (by kernel_rfl) rfl) gives_nil) hc_11 (by kernel_rfl) (by kernel_rfl))) <| Rc 5 [⟨.tup [.d (.sl (List.map Ext.d r_11.1)), .d (.int .i64 r_11.2)], []⟩, ⟨.d (.sl (List.map Ext.d r_11.1)), []⟩, ⟨.d (.int .i64 r_11.2), []⟩, ⟨.d (.sl (List.map Ext.d r_11.1)), []⟩, ⟨.d (.int .i64 r_11.2), []⟩] <| Rd <| kS_nrm <| Sq <| Ro ?_
      obtain ⟨r_12, hr_12, h⟩ := bind_s h
      have hc_12 := hansomlaw22_awake_L r_12 hr_12
      refine Rt (some 140) (.callf 17) [] none [] (.d (.bool r_12)) [] (cut_call (call_of (ws := []) (us := []) (by kernel_rfl) (by kernel_rfl) hc_12 (by kernel_rfl) (by kernel_rfl))) <| Rc 1 [⟨.d (.bool r_12), []⟩] ?_
      cases hb_5 : (r_12 : Bool) with
      | true =>
       replace h := ite_t hb_5 h
       refine Rc 4 [⟨.d (.int .i64 r_7.2), []⟩, ⟨.d (.bool (r_7.2 == 8)), []⟩, ⟨.d (.bool (r_7.2 == 8)), []⟩, ⟨.d (.bool (r_7.2 == 8)), []⟩] ?_
       cases hb_6 : ((r_7.2 == 8) : Bool) with
       | true =>
        replace h := ite_t hb_6 h
        refine Rc 4 [⟨.d (.int .i64 r_9.2), []⟩, ⟨.d (.bool (r_9.2 == 3)), []⟩, ⟨.d (.bool (r_9.2 == 3)), []⟩, ⟨.d (.bool (r_9.2 == 3)), []⟩] ?_
        cases hb_7 : ((r_9.2 == 3) : Bool) with
        | true =>
         replace h := ite_t hb_7 h
         refine Rc 4 [⟨.d (.int .i64 r_11.2), []⟩, ⟨.d (.bool (r_11.2 == 0)), []⟩, ⟨.d (.bool (r_11.2 == 0)), []⟩, ⟨.d (.bool (r_11.2 == 0)), []⟩] ?_
         cases hb_8 : ((r_11.2 == 0) : Bool) with
         | true =>
          replace h := ite_t hb_8 h
          refine Rc 1 [⟨.d (.sl (List.map Ext.d r_11.1)), []⟩] <| Rt (some 155) .lenL [] none [.d (.sl (List.map Ext.d r_11.1))] (.d (.int .i64 (r_11.1.length : Int))) [] (cut_len _) <| Rc 3 [⟨.d (.bool ((r_11.1.length : Int) == 1)), []⟩, ⟨.d (.bool ((r_11.1.length : Int) == 1)), []⟩, ⟨.d (.bool ((r_11.1.length : Int) == 1)), []⟩] ?_
          cases hb_9 : (((r_11.1.length : Int) == 1) : Bool) with
          | true =>
           replace h := ite_t hb_9 h
           refine Rc 1 [⟨.d (.sl (List.map Ext.d r_11.1)), []⟩] ?_
           obtain ⟨z_8, hz_8, h⟩ := bind_s h
           refine Rt (some 160) (.iaddrS 3) [] none [.d (.sl (List.map Ext.d r_11.1)), .d (.int .i64 0)] (.elt (Ext.d z_8) 0) [] (cut_at hz_8 (fun _ => rfl)) <| Rc 5 [⟨.elt (Ext.d z_8) 2, []⟩, ⟨.d (.int .u32 z_8.Len), []⟩, ⟨.d (.bool (z_8.Len == 35)), []⟩, ⟨.d (.bool (z_8.Len == 35)), []⟩, ⟨.d (.bool (z_8.Len == 35)), []⟩] <| Rd <| kS_nrm <| Runs.ret ?_
           obtain rfl := Option.some.inj h
           exact ⟨Out.ret_ne, (by kernel_rfl)⟩
          | false =>
           replace h := ite_f hb_9 h
           refine Rc 7 [⟨.tup [], []⟩, ⟨.tup [], []⟩, ⟨.tup [], []⟩, ⟨.tup [], []⟩, ⟨.tup [], []⟩, ⟨.d (.bool false), []⟩, ⟨.d (.bool false), []⟩] <| Rd <| kS_nrm <| Runs.ret ?_
           obtain rfl := Option.some.inj h
           exact ⟨Out.ret_ne, (by kernel_rfl)⟩
         | false =>
          replace h := ite_f hb_8 h
          refine Rc 12 [⟨.tup [], []⟩, ⟨.tup [], []⟩, ⟨.tup [], []⟩, ⟨.d (.bool false), []⟩, ⟨.d (.bool false), []⟩, ⟨.tup [], []⟩, ⟨.tup [], []⟩, ⟨.tup [], []⟩, ⟨.tup [], []⟩, ⟨.tup [], []⟩, ⟨.d (.bool false), []⟩, ⟨.d (.bool false), []⟩] <| Rd <| kS_nrm <| Runs.ret ?_
          obtain rfl := Option.some.inj h
          exact ⟨Out.ret_ne, (by kernel_rfl)⟩
        | false =>
         replace h := ite_f hb_7 h
         refine Rc 16 [⟨.tup [], []⟩, ⟨.tup [], []⟩, ⟨.d (.bool false), []⟩, ⟨.d (.bool false), []⟩, ⟨.tup [], []⟩, ⟨.tup [], []⟩, ⟨.tup [], []⟩, ⟨.d (.bool false), []⟩, ⟨.d (.bool false), []⟩, ⟨.tup [], []⟩, ⟨.tup [], []⟩, ⟨.tup [], []⟩, ⟨.tup [], []⟩, ⟨.tup [], []⟩, ⟨.d (.bool false), []⟩, ⟨.d (.bool false), []⟩] <| Rd <| kS_nrm <| Runs.ret ?_
         obtain rfl := Option.some.inj h
         exact ⟨Out.ret_ne, (by kernel_rfl)⟩
       | false =>
        replace h := ite_f hb_6 h
        refine Rc 20 [⟨.tup [], []⟩, ⟨.tup [], []⟩, ⟨.d (.bool false), []⟩, ⟨.d (.bool false), []⟩, ⟨.tup [], []⟩, ⟨.tup [], []⟩, ⟨.d (.bool false), []⟩, ⟨.d (.bool false), []⟩, ⟨.tup [], []⟩, ⟨.tup [], []⟩, ⟨.tup [], []⟩, ⟨.d (.bool false), []⟩, ⟨.d (.bool false), []⟩, ⟨.tup [], []⟩, ⟨.tup [], []⟩, ⟨.tup [], []⟩, ⟨.tup [], []⟩, ⟨.tup [], []⟩, ⟨.d (.bool false), []⟩, ⟨.d (.bool false), []⟩] <| Rd <| kS_nrm <| Runs.ret ?_
        obtain rfl := Option.some.inj h
        exact ⟨Out.ret_ne, (by kernel_rfl)⟩
      | false =>
       replace h := ite_f hb_5 h
       refine Rc 24 [⟨.tup [], []⟩, ⟨.tup [], []⟩, ⟨.d (.bool false), []⟩, ⟨.d (.bool false), []⟩, ⟨.tup [], []⟩, ⟨.tup [], []⟩, ⟨.d (.bool false), []⟩, ⟨.d (.bool false), []⟩, ⟨.tup [], []⟩, ⟨.tup [], []⟩, ⟨.d (.bool false), []⟩, ⟨.d (.bool false), []⟩, ⟨.tup [], []⟩, ⟨.tup [], []⟩, ⟨.tup [], []⟩, ⟨.d (.bool false), []⟩, ⟨.d (.bool false), []⟩, ⟨.tup [], []⟩, ⟨.tup [], []⟩, ⟨.tup [], []⟩, ⟨.tup [], []⟩, ⟨.tup [], []⟩, ⟨.d (.bool false), []⟩, ⟨.d (.bool false), []⟩] <| Rd <| kS_nrm <| Runs.ret ?_
       obtain rfl := Option.some.inj h
       exact ⟨Out.ret_ne, (by kernel_rfl)⟩
theorem hansomlaw22_PubsMade_L (l_ : (List Ext)) (more_ : Int) (r : Bool) (h : hansomlaw22_PubsMade l_ more_ = some r) : L 3 [.d (.sl (List.map Ext.d l_)), .d (.int .u32 more_)] = some (.d (.bool r), [.d (.sl (List.map Ext.d l_)), .d (.int .u32 more_)]) := by
 obtain ⟨p, ⟨hne, hf⟩, hr⟩ := hansomlaw22_PubsMade_ok l_ more_ r h
 obtain ⟨k, hk⟩ := run_of (F := F3) (args := [.d (.sl (List.map Ext.d l_)), .d (.int .u32 more_)]) (ap := [.d (.sl (List.map Ext.d l_)), .d (.int .u32 more_)]) (bx0 := updW (fun _ => none) []) rfl rfl (by kernel_rfl) ⟨p, ⟨hne, hf⟩, hr⟩
 exact lim_run (k := k) rfl hk
end Go.Es.Pmd
