/- The interpreter answers as plain Lean does: part 1. No condition. -/
import Derived.Test.YteikhdaaofiefaaGreatLbhF
import Derived.Test.YteikhdaaofiefaaGreatLbhP
import Derived.KernelRfl
import Derived.Test.YteikhdaaofiefaaGreatLbhG
set_option linter.unusedVariables false
set_option linter.unusedSimpArgs false
set_option maxRecDepth 100000
set_option maxHeartbeats 4000000
namespace Go.Es.Lbh
def hansomref18_Name_Q (s_ : (List UInt8)) (r : (List UInt8)) (p : Out × St) : Prop := (∀ i, p.1 ≠ .exit i) ∧ finF F4 [.d (.str s_)] p.2 = some (.d (.str r), [.d (.str s_)])
theorem hansomref18_Name_ok (s_ : (List UInt8)) (r : (List UInt8)) (h : hansomref18_Name s_ = some r) : Runs L F4.body ⟨tmOf [.d (.str s_)] 0, updW (fun _ => none) []⟩ (hansomref18_Name_Q s_ r) := by
 unfold hansomref18_Name at h
 refine Sq <| Ro <| Rc 1 [⟨.d (.str ([] : List UInt8)), []⟩] <| Rk <| Sq <| Sq <| Ro <| Rc 1 [⟨.d (.str s_), []⟩] <| Rt (some 4) .lenS [] none [.d (.str s_)] (.i (s_.length : Int)) [] (cut_lenS _) <| Rc 1 [vb (decide ((s_.length : Int) > 255))] <| Rk ?_
 cases hb_1 : ((decide ((s_.length : Int) > 255)) : Bool) with
 | true =>
  replace h := ite_t hb_1 h
  refine Ct <| Ro <| Rc 1 [⟨.d (.str s_), []⟩] ?_
  obtain ⟨z_1, hz_1, h⟩ := bind_s h
  refine Rt (some 7) (.substr false true) [] none [.d (.str s_), .i 255] (.d (.str z_1)) [] (cut_strFT hz_1) <| Rc 1 [⟨.d (.str z_1), []⟩] <| Rk <| Sq <| Ro <| Rc 1 [⟨.d (.str z_1), []⟩] <| Rt (some 9) .lenS [] none [.d (.str z_1)] (.i (z_1.length : Int)) [] (cut_lenS _) <| Rc 2 [vy (IntKind.wrap .u8 (z_1.length : Int)), ⟨.ref [11] 0 0 (mY ([(IntKind.wrap .u8 (z_1.length : Int))] : List Int)).length 1, [([11], some (.arr (mY ([(IntKind.wrap .u8 (z_1.length : Int))] : List Int)) 0 false))]⟩] <| Rt (some 12) .bytesStr [] none [.ref [11] 0 0 (mY ([(IntKind.wrap .u8 (z_1.length : Int))] : List Int)).length 1] (.d (.str (b2s ([(IntKind.wrap .u8 (z_1.length : Int))] : List Int)))) [] (cut_bsR (l := ([(IntKind.wrap .u8 (z_1.length : Int))] : List Int)) (fz := false) (by kernel_rfl) (by kernel_rfl) rfl) <| Rc 1 [⟨.d (.str z_1), []⟩] ?_
  obtain ⟨z_2, hz_2, h⟩ := bind_s h
  refine Rt (some 14) (.bin .add) [] none [.d (.str (b2s ([(IntKind.wrap .u8 (z_1.length : Int))] : List Int))), .d (.str z_1)] (.d (.str z_2)) [] (cut_cat hz_2) <| Rc 1 [⟨.d (.str z_2), []⟩] <| Rk <| Runs.ret ?_
  cases h
  exact Fq
 | false =>
  replace h := ite_f hb_1 h
  refine Cf <| Runs.skip <| kS_nrm <| Sq <| Ro <| Rc 1 [⟨.d (.str s_), []⟩] <| Rt (some 9) .lenS [] none [.d (.str s_)] (.i (s_.length : Int)) [] (cut_lenS _) <| Rc 2 [vy (IntKind.wrap .u8 (s_.length : Int)), ⟨.ref [11] 0 0 (mY ([(IntKind.wrap .u8 (s_.length : Int))] : List Int)).length 1, [([11], some (.arr (mY ([(IntKind.wrap .u8 (s_.length : Int))] : List Int)) 0 false))]⟩] <| Rt (some 12) .bytesStr [] none [.ref [11] 0 0 (mY ([(IntKind.wrap .u8 (s_.length : Int))] : List Int)).length 1] (.d (.str (b2s ([(IntKind.wrap .u8 (s_.length : Int))] : List Int)))) [] (cut_bsR (l := ([(IntKind.wrap .u8 (s_.length : Int))] : List Int)) (fz := false) (by kernel_rfl) (by kernel_rfl) rfl) <| Rc 1 [⟨.d (.str s_), []⟩] ?_
  obtain ⟨z_3, hz_3, h⟩ := bind_s h
  refine Rt (some 14) (.bin .add) [] none [.d (.str (b2s ([(IntKind.wrap .u8 (s_.length : Int))] : List Int))), .d (.str s_)] (.d (.str z_3)) [] (cut_cat hz_3) <| Rc 1 [⟨.d (.str z_3), []⟩] <| Rk <| Runs.ret ?_
  cases h
  exact Fq
theorem hansomref18_Name_L (s_ : (List UInt8)) (r : (List UInt8)) (h : hansomref18_Name s_ = some r) : L 4 [.d (.str s_)] = some (.d (.str r), [.d (.str s_)]) := by
 obtain ⟨p, ⟨hne, hf⟩, hr⟩ := hansomref18_Name_ok s_ r h
 obtain ⟨k, hk⟩ := run_of (F := F4) (args := [.d (.str s_)]) (ap := [.d (.str s_)]) (bx0 := updW (fun _ => none) []) rfl rfl (by kernel_rfl) ⟨p, ⟨hne, hf⟩, hr⟩
 exact lim_run (k := k) rfl hk
def index_Name_Q (s_ : (List UInt8)) (r : (List Int)) (p : Out × St) : Prop := (∀ i, p.1 ≠ .exit i) ∧ finF F12 [.d (.str s_)] p.2 = some (.d (.sl (mY r)), [.d (.str s_)])
theorem index_Name_ok (s_ : (List UInt8)) (r : (List Int)) (h : index_Name s_ = some r) : Runs L F12.body ⟨tmOf [.d (.str s_)] 0, updW (fun _ => none) []⟩ (index_Name_Q s_ r) := by
 unfold index_Name at h
 refine Sq <| Ro <| Rc 1 [⟨.nils, []⟩] <| Rk <| Sq <| Ro <| Rc 2 [⟨.d (.str s_), []⟩, ⟨.d (.str s_), []⟩] <| Rt (some 5) .lenS [] none [.d (.str s_)] (.i (s_.length : Int)) [] (cut_lenS _) <| Rc 1 [vi (mnI (s_.length : Int) 255)] ?_
 obtain ⟨z_1, hz_1, h⟩ := bind_s h
 refine Rt (some 7) (.substr false true) [] none [.d (.str s_), .i (mnI (s_.length : Int) 255)] (.d (.str z_1)) [] (cut_strFT hz_1) <| Rc 1 [⟨.d (.str z_1), []⟩] <| Rk <| Sq <| Ro <| Rc 1 [⟨.d (.str z_1), []⟩] <| Rt (some 9) .lenS [] none [.d (.str z_1)] (.i (z_1.length : Int)) [] (cut_lenS _) <| Rc 3 [vy (IntKind.wrap .u8 (z_1.length : Int)), ⟨.ref [11] 0 0 (mY ([(IntKind.wrap .u8 (z_1.length : Int))] : List Int)).length 1, [([11], some (.arr (mY ([(IntKind.wrap .u8 (z_1.length : Int))] : List Int)) 0 false))]⟩, ⟨.d (.str z_1), []⟩] ?_
 obtain ⟨z_2, hz_2, h⟩ := bind_s h
 refine Rt (some 13) (.append 1 1 true) [] none [.ref [11] 0 0 (mY ([(IntKind.wrap .u8 (z_1.length : Int))] : List Int)).length 1, .d (.str z_1)] (.ref [11] 1 0 (mY z_2).length 1) [([11], some (.arr (mY z_2) 1 false))] (cut_appR (e := (D.int .u8)) (l := ([(IntKind.wrap .u8 (z_1.length : Int))] : List Int)) (fz := false) (ws := []) (ap_str _) (fun _ => rfl) hz_2 (by kernel_rfl) (by kernel_rfl) rfl) <| Rc 1 [⟨.ref [11] 1 0 (mY z_2).length 1, []⟩] <| Rk <| Sq <| Runs.gcons (frz_ref (e := (D.int .u8)) (l := z_2) (id := [11]) (v := 1) (n := 1) (fz := false) (by kernel_rfl) (by kernel_rfl) rfl) <| Runs.gnil <| kS_nrm <| Runs.ret ?_
 cases h
 exact Fq
theorem index_Name_L (s_ : (List UInt8)) (r : (List Int)) (h : index_Name s_ = some r) : L 12 [.d (.str s_)] = some (.d (.sl (mY r)), [.d (.str s_)]) := by
 obtain ⟨p, ⟨hne, hf⟩, hr⟩ := index_Name_ok s_ r h
 obtain ⟨k, hk⟩ := run_of (F := F12) (args := [.d (.str s_)]) (ap := [.d (.str s_)]) (bx0 := updW (fun _ => none) []) rfl rfl (by kernel_rfl) ⟨p, ⟨hne, hf⟩, hr⟩
 exact lim_run (k := k) rfl hk
def math_bits_RotateLeft16_Q (x_ : Int) (k_ : Int) (r : Int) (p : Out × St) : Prop := (∀ i, p.1 ≠ .exit i) ∧ finF F13 [.w x_, .i k_] p.2 = some (.w r, [.w x_, .i k_])
theorem math_bits_RotateLeft16_ok (x_ : Int) (k_ : Int) (r : Int) (h : math_bits_RotateLeft16 x_ k_ = some r) : Runs L F13.body ⟨tmOf [.w x_, .i k_] 0, updW (fun _ => none) []⟩ (math_bits_RotateLeft16_Q x_ k_ r) := by
 unfold math_bits_RotateLeft16 at h
 refine Sq <| Ro <| Rc 1 [vw 0] <| Rk <| Sq <| Ro <| Rc 4 [vi k_, ⟨.d (.int .u64 (IntKind.wrap .u64 k_)), []⟩, ⟨.d (.int .u64 (bitsOp .and .u64 (IntKind.wrap .u64 k_) 15)), []⟩, ⟨.d (.int .u64 (bitsOp .and .u64 (IntKind.wrap .u64 k_) 15)), []⟩] <| Rk <| Sq <| Ro <| Rc 2 [vw x_, ⟨.d (.int .u64 (bitsOp .and .u64 (IntKind.wrap .u64 k_) 15)), []⟩] ?_
 obtain ⟨z_1, hz_1, h⟩ := bind_s h
 refine Rt (some 11) (.bin .shl) [] none [.w x_, .d (.int .u64 (bitsOp .and .u64 (IntKind.wrap .u64 k_) 15))] (.w z_1) [] (cut_shl hz_1) <| Rc 3 [vw x_, ⟨.d (.int .u64 (bitsOp .and .u64 (IntKind.wrap .u64 k_) 15)), []⟩, ⟨.d (.int .u64 (IntKind.wrap .u64 (16 - (bitsOp .and .u64 (IntKind.wrap .u64 k_) 15)))), []⟩] ?_
 obtain ⟨z_2, hz_2, h⟩ := bind_s h
 refine Rt (some 15) (.bin .shr) [] none [.w x_, .d (.int .u64 (IntKind.wrap .u64 (16 - (bitsOp .and .u64 (IntKind.wrap .u64 k_) 15))))] (.w z_2) [] (cut_shr hz_2) <| Rc 2 [vw (bitsOp .or .u16 z_1 z_2), vw (bitsOp .or .u16 z_1 z_2)] <| Rk <| Runs.ret ?_
 cases h
 exact Fq
theorem math_bits_RotateLeft16_L (x_ : Int) (k_ : Int) (r : Int) (h : math_bits_RotateLeft16 x_ k_ = some r) : L 13 [.w x_, .i k_] = some (.w r, [.w x_, .i k_]) := by
 obtain ⟨p, ⟨hne, hf⟩, hr⟩ := math_bits_RotateLeft16_ok x_ k_ r h
 obtain ⟨k, hk⟩ := run_of (F := F13) (args := [.w x_, .i k_]) (ap := [.w x_, .i k_]) (bx0 := updW (fun _ => none) []) rfl rfl (by kernel_rfl) ⟨p, ⟨hne, hf⟩, hr⟩
 exact lim_run (k := k) rfl hk
def lib_Hash_h12 (b_4 : Where) (blocks1 : Int) (b5 : (List Int)) (block6 : Int) (blockD7 : Int) (bucket8 : Int) (bucketD9 : Int) (t19 : Int) (t20 : Int) : St := ⟨tab [(1, .i blocks1), (4, .ptr [4] 0 0), (5, .d (.sl (mY b5))), (6, .w block6), (7, .w blockD7), (8, .w bucket8), (9, .w bucketD9), (19, .i t19), (20, .i t20)], tabB [([4], some (.cells [.i b_4.Block, .i b_4.Bucket, .i b_4.BlockD, .i b_4.BuckD] 0))]⟩
def lib_Hash_h33 (b_4 : Where) (blocks1 : Int) (block6 : Int) (blockD7 : Int) (bucket8 : Int) (bucketD9 : Int) : St := ⟨tab [(1, .i blocks1), (4, .ptr [4] 0 0), (6, .w block6), (7, .w blockD7), (8, .w bucket8), (9, .w bucketD9)], tabB [([4], some (.cells [.i b_4.Block, .i b_4.Bucket, .i b_4.BlockD, .i b_4.BuckD] 0))]⟩
def lib_Hash_Q (name_ : (List UInt8)) (blocks_ : Int) (r : Where) (p : Out × St) : Prop := (∀ i, p.1 ≠ .exit i) ∧ finF F6 [.d (.str name_), .i blocks_] p.2 = some (.d (Where.d r), [.d (.str name_), .i blocks_])
def lib_Hash_P12 (name_ : (List UInt8)) (blocks_ : Int) (b_4 : Where) (blocks1 : Int) (b5 : (List Int)) (t19 : Int) (e : (Int × Int × Int × Int)) (p : Out × St) : Prop := p.1 = .exit 0 ∧ ∃ g : Unit, Canon [] [1, 4, 6, 7, 8, 9] [[4]] p.2 (lib_Hash_h33 b_4 blocks1 e.1 e.2.1 e.2.2.1 e.2.2.2)
theorem lib_Hash_l12_ok (name_ : (List UInt8)) (blocks_ : Int) (b_4 : Where) (blocks1 : Int) (b5 : (List Int)) (block6 : Int) (blockD7 : Int) (bucket8 : Int) (bucketD9 : Int) (t19 : Int) (t20 : Int) (r : (Lp (Int × Int × Int × Int × Int) (Int × Int × Int × Int))) (h : lib_Hash_l12 b_4 blocks1 b5 block6 blockD7 bucket8 bucketD9 t19 t20 = some r) : Runs L F6l12 (lib_Hash_h12 b_4 blocks1 b5 block6 blockD7 bucket8 bucketD9 t19 t20) (LQ [] [1, 4, 5, 6, 7, 8, 9, 19, 20] [[4]] (fun (x : (Int × Int × Int × Int × Int)) (g : Unit) => lib_Hash_h12 b_4 blocks1 b5 x.1 x.2.1 x.2.2.1 x.2.2.2.1 t19 x.2.2.2.2) (lib_Hash_P12 name_ blocks_ b_4 blocks1 b5 t19) r) := by
 unfold lib_Hash_l12 at h
 refine Sq <| Ro <| Rc 1 [vb (decide (t20 < t19))] <| Rk <| Sq ?_
 cases hb_1 : ((decide (t20 < t19)) : Bool) with
 | true =>
  replace h := ite_t hb_1 h
  refine Ct <| Runs.skip <| kS_nrm <| Sq <| Runs.block <| Sq <| Ro <| Rc 2 [vi t20, vi t20] <| Rk <| Sq <| Ro <| Rc 2 [⟨.d (.sl (mY b5)), []⟩, vi t20] ?_
  obtain ⟨z_1, hz_1, h⟩ := bind_s h
  refine Rt (some 25) (.iaddrS 1) [] none [.d (.sl (mY b5)), .i t20] (.elt (.int .u8 z_1) 0) [] (cut_at hz_1 (fun _ => rfl)) <| Rc 5 [vy z_1, vy (bitsOp .or .u8 z_1 32), vw (IntKind.wrap .u16 (bitsOp .or .u8 z_1 32)), ⟨.d (.sl (mY b5)), []⟩, ⟨.d (.sl (mY b5)), []⟩] <| Rt (some 31) .lenL [] none [.d (.sl (mY b5))] (.i (b5.length : Int)) [] (cut_len _) <| Rc 3 [vi (IntKind.wrap .i64 ((b5.length : Int) - 1)), vi t20, vi (IntKind.wrap .i64 ((IntKind.wrap .i64 ((b5.length : Int) - 1)) - t20))] ?_
  obtain ⟨z_2, hz_2, h⟩ := bind_s h
  refine Rt (some 35) (.iaddrS 1) [] none [.d (.sl (mY b5)), .i (IntKind.wrap .i64 ((IntKind.wrap .i64 ((b5.length : Int) - 1)) - t20))] (.elt (.int .u8 z_2) 0) [] (cut_at hz_2 (fun _ => rfl)) <| Rc 5 [vy z_2, vy (bitsOp .or .u8 z_2 32), vw (IntKind.wrap .u16 (bitsOp .or .u8 z_2 32)), vw (IntKind.wrap .u16 (bitsOp .or .u8 z_1 32)), vw (IntKind.wrap .u16 (bitsOp .or .u8 z_2 32))] <| Rk <| Sq <| Ro <| Rc 1 [vw block6] ?_
  obtain ⟨r_2, hr_2, h⟩ := bind_s h
  have hc_2 := math_bits_RotateLeft16_L block6 2 r_2 hr_2
  refine Rt (some 40) (.callf 13) [] none [.w block6, .i 2] (.w r_2) [] (cc hc_2) <| Rc 3 [vw (IntKind.wrap .u16 (bitsOp .or .u8 z_1 32)), vw (bitsOp .xor .u16 r_2 (IntKind.wrap .u16 (bitsOp .or .u8 z_1 32))), vw (bitsOp .xor .u16 r_2 (IntKind.wrap .u16 (bitsOp .or .u8 z_1 32)))] <| Rk <| Sq <| Ro <| Rc 1 [vw bucketD9] ?_
  obtain ⟨r_3, hr_3, h⟩ := bind_s h
  have hc_3 := math_bits_RotateLeft16_L bucketD9 (-2) r_3 hr_3
  refine Rt (some 44) (.callf 13) [] none [.w bucketD9, .i (-2)] (.w r_3) [] (cc hc_3) <| Rc 3 [vw (IntKind.wrap .u16 (bitsOp .or .u8 z_1 32)), vw (bitsOp .xor .u16 r_3 (IntKind.wrap .u16 (bitsOp .or .u8 z_1 32))), vw (bitsOp .xor .u16 r_3 (IntKind.wrap .u16 (bitsOp .or .u8 z_1 32)))] <| Rk <| Sq <| Ro <| Rc 1 [vw bucket8] ?_
  obtain ⟨r_4, hr_4, h⟩ := bind_s h
  have hc_4 := math_bits_RotateLeft16_L bucket8 (-2) r_4 hr_4
  refine Rt (some 48) (.callf 13) [] none [.w bucket8, .i (-2)] (.w r_4) [] (cc hc_4) <| Rc 3 [vw (IntKind.wrap .u16 (bitsOp .or .u8 z_2 32)), vw (bitsOp .xor .u16 r_4 (IntKind.wrap .u16 (bitsOp .or .u8 z_2 32))), vw (bitsOp .xor .u16 r_4 (IntKind.wrap .u16 (bitsOp .or .u8 z_2 32)))] <| Rk <| Ro <| Rc 1 [vw blockD7] ?_
  obtain ⟨r_5, hr_5, h⟩ := bind_s h
  have hc_5 := math_bits_RotateLeft16_L blockD7 2 r_5 hr_5
  refine Rt (some 52) (.callf 13) [] none [.w blockD7, .i 2] (.w r_5) [] (cc hc_5) <| Rc 3 [vw (IntKind.wrap .u16 (bitsOp .or .u8 z_2 32)), vw (bitsOp .xor .u16 r_5 (IntKind.wrap .u16 (bitsOp .or .u8 z_2 32))), vw (bitsOp .xor .u16 r_5 (IntKind.wrap .u16 (bitsOp .or .u8 z_2 32)))] <| Rd <| kB_nrm <| kS_nrm <| Ro <| Rc 2 [vi (IntKind.wrap .i64 (t20 + 1)), vi (IntKind.wrap .i64 (t20 + 1))] <| Rd ?_
  obtain rfl := sj h
  exact ⟨rfl, (), Cz⟩
 | false =>
  replace h := ite_f hb_1 h
  refine Cf <| Runs.exit <| kS_exit ?_
  obtain rfl := sj h
  exact ⟨nofun, rfl, (), Cz⟩
theorem lib_Hash_ok (name_ : (List UInt8)) (blocks_ : Int) (r : Where) (h : lib_Hash name_ blocks_ = some r) : Runs L F6.body ⟨tmOf [.d (.str name_), .i blocks_] 0, updW (fun _ => none) []⟩ (lib_Hash_Q name_ blocks_ r) := by
 unfold lib_Hash at h
 refine Sq <| Ro <| Rc 1 [⟨.ptr [4] 0 0, [([4], some (.cells [.i 0, .i 0, .i 0, .i 0] 0))]⟩] <| Rk <| Sq <| Ro <| Rc 3 [vi blocks_, vi (mxI blocks_ 1), vi (mxI blocks_ 1)] <| Rk <| Sq <| Ro <| Rc 1 [⟨.d (.str name_), []⟩] ?_
 obtain ⟨r_1, hr_1, h⟩ := bind_s h
 have hc_1 := index_Name_L name_ r_1 hr_1
 refine Rt (some 16) (.callf 12) [] none [.d (.str name_)] (.d (.sl (mY r_1))) [] (cc hc_1) <| Rc 1 [⟨.d (.sl (mY r_1)), []⟩] <| Rk <| Sq <| Ro <| Rc 4 [vw 0, vw 0, vw 0, vw 0] <| Rk <| Sq <| Sq <| Ro <| Rc 1 [⟨.d (.sl (mY r_1)), []⟩] <| Rt (some 18) .lenL [] none [.d (.sl (mY r_1))] (.i (r_1.length : Int)) [] (cut_len _) <| Rc 2 [vi (IntKind.wrap .i64 ((r_1.length : Int) - 1)), vi 0] <| Rk <| Runs.block ?_
 obtain ⟨e_1, he_1, h⟩ := bind_s h
 refine Runs.loop (fun x : (Int × Int × Int × Int × Int) => lib_Hash_l12 ({ Block := 0, Bucket := 0, BlockD := 0, BuckD := 0 } : Where) (mxI blocks_ 1) r_1 x.1 x.2.1 x.2.2.1 x.2.2.2.1 (IntKind.wrap .i64 ((r_1.length : Int) - 1)) x.2.2.2.2) (fun (x : (Int × Int × Int × Int × Int)) (g : Unit) => lib_Hash_h12 ({ Block := 0, Bucket := 0, BlockD := 0, BuckD := 0 } : Where) (mxI blocks_ 1) r_1 x.1 x.2.1 x.2.2.1 x.2.2.2.1 (IntKind.wrap .i64 ((r_1.length : Int) - 1)) x.2.2.2.2) (lib_Hash_P12 name_ blocks_ ({ Block := 0, Bucket := 0, BlockD := 0, BuckD := 0 } : Where) (mxI blocks_ 1) r_1 (IntKind.wrap .i64 ((r_1.length : Int) - 1))) (fun x g r hr => lib_Hash_l12_ok name_ blocks_ ({ Block := 0, Bucket := 0, BlockD := 0, BuckD := 0 } : Where) (mxI blocks_ 1) r_1 x.1 x.2.1 x.2.2.1 x.2.2.2.1 (IntKind.wrap .i64 ((r_1.length : Int) - 1)) x.2.2.2.2  r hr) () he_1 Cz ?_
 rintro ⟨o, s⟩ hp
 obtain ⟨ho, g_1, hk_1⟩ := hp
 have ho' : o = .exit 0 := ho
 subst ho'
 refine kB_hit <| kS_nrm <| Runs.canon _ hk_1 <| Sq <| Ro <| Rc 3 [vw e_1.1, vi (IntKind.wrap .i64 e_1.1), vi (mxI blocks_ 1)] ?_
 obtain ⟨z_1, hz_1, h⟩ := bind_s h
 refine Rt (some 59) (.bin .rem) [] none [.i (IntKind.wrap .i64 e_1.1), .i (mxI blocks_ 1)] (.i z_1) [] (cut_rem hz_1) <| Rc 6 [vw e_1.2.2.1, vi (IntKind.wrap .i64 e_1.2.2.1), vi (Int.tmod (IntKind.wrap .i64 e_1.2.2.1) 37), vw e_1.2.1, vi (IntKind.wrap .i64 e_1.2.1), vi (mxI blocks_ 1)] ?_
 obtain ⟨z_2, hz_2, h⟩ := bind_s h
 refine Rt (some 66) (.bin .rem) [] none [.i (IntKind.wrap .i64 e_1.2.1), .i (mxI blocks_ 1)] (.i z_2) [] (cut_rem hz_2) <| Rc 7 [vi (mxI z_2 1), vw e_1.2.2.2, vi (IntKind.wrap .i64 e_1.2.2.2), vi (Int.tmod (IntKind.wrap .i64 e_1.2.2.2) 37), vi (mxI (Int.tmod (IntKind.wrap .i64 e_1.2.2.2) 37) 1), ⟨.d (.agg [.int .i64 z_1, .int .i64 (Int.tmod (IntKind.wrap .i64 e_1.2.2.1) 37), .int .i64 (mxI z_2 1), .int .i64 (mxI (Int.tmod (IntKind.wrap .i64 e_1.2.2.2) 37) 1)]), []⟩, ⟨.tup [], [([4], some (.cells [.i z_1, .i (Int.tmod (IntKind.wrap .i64 e_1.2.2.1) 37), .i (mxI z_2 1), .i (mxI (Int.tmod (IntKind.wrap .i64 e_1.2.2.2) 37) 1)] 0))]⟩] <| Rk <| Runs.ret ?_
 cases h
 exact Fq
theorem lib_Hash_L (name_ : (List UInt8)) (blocks_ : Int) (r : Where) (h : lib_Hash name_ blocks_ = some r) : L 6 [.d (.str name_), .i blocks_] = some (.d (Where.d r), [.d (.str name_), .i blocks_]) := by
 obtain ⟨p, ⟨hne, hf⟩, hr⟩ := lib_Hash_ok name_ blocks_ r h
 obtain ⟨k, hk⟩ := run_of (F := F6) (args := [.d (.str name_), .i blocks_]) (ap := [.d (.str name_), .i blocks_]) (bx0 := updW (fun _ => none) []) rfl rfl (by kernel_rfl) ⟨p, ⟨hne, hf⟩, hr⟩
 exact lim_run (k := k) rfl hk
def hansomlaw27_LibHash_h14 (v8 : (A4 Int)) (t5 : (List UInt8)) (n6 : Int) (b7 : (List UInt8)) (i9 : Int) : St := ⟨tab [(5, .d (.str t5)), (6, .i n6), (7, .d (.str b7)), (8, .ptr [8] 0 0), (9, .i i9)], tabB [([8], some (.cells [.i v8.a0, .i v8.a1, .i v8.a2, .i v8.a3] 0))]⟩
def hansomlaw27_LibHash_h31 (v8 : (A4 Int)) (t5 : (List UInt8)) (n6 : Int) (b7 : (List UInt8)) (i9 : Int) (f10 : Int) (g11 : Int) : St := ⟨tab [(5, .d (.str t5)), (6, .i n6), (7, .d (.str b7)), (8, .ptr [8] 0 0), (9, .i i9), (10, .i f10), (11, .i g11)], tabB [([8], some (.cells [.i v8.a0, .i v8.a1, .i v8.a2, .i v8.a3] 0))]⟩
def hansomlaw27_LibHash_h37 (v8 : (A4 Int)) (t5 : (List UInt8)) (n6 : Int) (b7 : (List UInt8)) (i9 : Int) (f10 : Int) (g11 : Int) : St := ⟨tab [(5, .d (.str t5)), (6, .i n6), (7, .d (.str b7)), (8, .ptr [8] 0 0), (9, .i i9), (10, .i f10), (11, .i g11)], tabB [([8], some (.cells [.i v8.a0, .i v8.a1, .i v8.a2, .i v8.a3] 0))]⟩
def hansomlaw27_LibHash_h45 (v8 : (A4 Int)) (t5 : (List UInt8)) (n6 : Int) : St := ⟨tab [(5, .d (.str t5)), (6, .i n6), (8, .ptr [8] 0 0)], tabB [([8], some (.cells [.i v8.a0, .i v8.a1, .i v8.a2, .i v8.a3] 0))]⟩
def hansomlaw27_LibHash_Q (s_ : (List UInt8)) (blocks_ : Int) (r : Bool) (p : Out × St) : Prop := (∀ i, p.1 ≠ .exit i) ∧ finF F3 [.d (.str s_), .i blocks_] p.2 = some (.b r, [.d (.str s_), .i blocks_])
def hansomlaw27_LibHash_P14 (s_ : (List UInt8)) (blocks_ : Int) (t5 : (List UInt8)) (n6 : Int) (b7 : (List UInt8)) (e : (A4 Int)) (p : Out × St) : Prop := p.1 = .exit 0 ∧ ∃ g : Unit, Canon [] [5, 6, 8] [[8]] p.2 (hansomlaw27_LibHash_h45 e t5 n6)
theorem hansomlaw27_LibHash_j37_ok (s_ : (List UInt8)) (blocks_ : Int) (v8 : (A4 Int)) (t5 : (List UInt8)) (n6 : Int) (b7 : (List UInt8)) (i9 : Int) (f10 : Int) (g11 : Int) (r : (Lp ((A4 Int) × Int) (A4 Int))) (h : hansomlaw27_LibHash_j37 v8 t5 n6 b7 i9 f10 g11 = some r) : Runs L F3b37 (hansomlaw27_LibHash_h37 v8 t5 n6 b7 i9 f10 g11) (kB 1 (kS L F3c44 (LQ [] [5, 6, 7, 8, 9] [[8]] (fun (x : ((A4 Int) × Int)) (g : Unit) => hansomlaw27_LibHash_h14 x.1 t5 n6 b7 x.2) (hansomlaw27_LibHash_P14 s_ blocks_ t5 n6 b7) r))) := by
 unfold hansomlaw27_LibHash_j37 at h
 refine Sq <| Ro <| Rc 12 [vp [8] 0 0, vi v8.a0, vi (IntKind.wrap .i64 (v8.a0 * 4)), vi (Int.tmod (IntKind.wrap .i64 (v8.a0 * 4)) 65536), vp [8] 0 0, vi v8.a0, vi (IntKind.wrap .i64 (Int.tdiv v8.a0 16384)), vi (IntKind.wrap .i64 ((Int.tmod (IntKind.wrap .i64 (v8.a0 * 4)) 65536) + (IntKind.wrap .i64 (Int.tdiv v8.a0 16384)))), vi f10, vi (bitsOp .xor .i64 (IntKind.wrap .i64 ((Int.tmod (IntKind.wrap .i64 (v8.a0 * 4)) 65536) + (IntKind.wrap .i64 (Int.tdiv v8.a0 16384)))) f10), vp [8] 0 0, ⟨.tup [], [([8], some (.cells [.i (bitsOp .xor .i64 (IntKind.wrap .i64 ((Int.tmod (IntKind.wrap .i64 (v8.a0 * 4)) 65536) + (IntKind.wrap .i64 (Int.tdiv v8.a0 16384)))) f10), .i v8.a1, .i v8.a2, .i v8.a3] 0))]⟩] <| Rk <| Sq <| Ro <| Rc 12 [vp [8] 0 1, vi v8.a1, vi (IntKind.wrap .i64 (Int.tdiv v8.a1 4)), vp [8] 0 1, vi v8.a1, vi (Int.tmod v8.a1 4), vi (IntKind.wrap .i64 ((Int.tmod v8.a1 4) * 16384)), vi (IntKind.wrap .i64 ((IntKind.wrap .i64 (Int.tdiv v8.a1 4)) + (IntKind.wrap .i64 ((Int.tmod v8.a1 4) * 16384)))), vi g11, vi (bitsOp .xor .i64 (IntKind.wrap .i64 ((IntKind.wrap .i64 (Int.tdiv v8.a1 4)) + (IntKind.wrap .i64 ((Int.tmod v8.a1 4) * 16384)))) g11), vp [8] 0 1, ⟨.tup [], [([8], some (.cells [.i (bitsOp .xor .i64 (IntKind.wrap .i64 ((Int.tmod (IntKind.wrap .i64 (v8.a0 * 4)) 65536) + (IntKind.wrap .i64 (Int.tdiv v8.a0 16384)))) f10), .i (bitsOp .xor .i64 (IntKind.wrap .i64 ((IntKind.wrap .i64 (Int.tdiv v8.a1 4)) + (IntKind.wrap .i64 ((Int.tmod v8.a1 4) * 16384)))) g11), .i v8.a2, .i v8.a3] 0))]⟩] ?_
 refine Rk <| Sq <| Ro <| Rc 12 [vp [8] 0 2, vi v8.a2, vi (IntKind.wrap .i64 (v8.a2 * 4)), vi (Int.tmod (IntKind.wrap .i64 (v8.a2 * 4)) 65536), vp [8] 0 2, vi v8.a2, vi (IntKind.wrap .i64 (Int.tdiv v8.a2 16384)), vi (IntKind.wrap .i64 ((Int.tmod (IntKind.wrap .i64 (v8.a2 * 4)) 65536) + (IntKind.wrap .i64 (Int.tdiv v8.a2 16384)))), vi g11, vi (bitsOp .xor .i64 (IntKind.wrap .i64 ((Int.tmod (IntKind.wrap .i64 (v8.a2 * 4)) 65536) + (IntKind.wrap .i64 (Int.tdiv v8.a2 16384)))) g11), vp [8] 0 2, ⟨.tup [], [([8], some (.cells [.i (bitsOp .xor .i64 (IntKind.wrap .i64 ((Int.tmod (IntKind.wrap .i64 (v8.a0 * 4)) 65536) + (IntKind.wrap .i64 (Int.tdiv v8.a0 16384)))) f10), .i (bitsOp .xor .i64 (IntKind.wrap .i64 ((IntKind.wrap .i64 (Int.tdiv v8.a1 4)) + (IntKind.wrap .i64 ((Int.tmod v8.a1 4) * 16384)))) g11), .i (bitsOp .xor .i64 (IntKind.wrap .i64 ((Int.tmod (IntKind.wrap .i64 (v8.a2 * 4)) 65536) + (IntKind.wrap .i64 (Int.tdiv v8.a2 16384)))) g11), .i v8.a3] 0))]⟩] <| Rk <| Ro <| Rc 12 [vp [8] 0 3, vi v8.a3, vi (IntKind.wrap .i64 (Int.tdiv v8.a3 4)), vp [8] 0 3, vi v8.a3, vi (Int.tmod v8.a3 4), vi (IntKind.wrap .i64 ((Int.tmod v8.a3 4) * 16384)), vi (IntKind.wrap .i64 ((IntKind.wrap .i64 (Int.tdiv v8.a3 4)) + (IntKind.wrap .i64 ((Int.tmod v8.a3 4) * 16384)))), vi f10, vi (bitsOp .xor .i64 (IntKind.wrap .i64 ((IntKind.wrap .i64 (Int.tdiv v8.a3 4)) + (IntKind.wrap .i64 ((Int.tmod v8.a3 4) * 16384)))) f10), vp [8] 0 3, ⟨.tup [], [([8], some (.cells [.i (bitsOp .xor .i64 (IntKind.wrap .i64 ((Int.tmod (IntKind.wrap .i64 (v8.a0 * 4)) 65536) + (IntKind.wrap .i64 (Int.tdiv v8.a0 16384)))) f10), .i (bitsOp .xor .i64 (IntKind.wrap .i64 ((IntKind.wrap .i64 (Int.tdiv v8.a1 4)) + (IntKind.wrap .i64 ((Int.tmod v8.a1 4) * 16384)))) g11), .i (bitsOp .xor .i64 (IntKind.wrap .i64 ((Int.tmod (IntKind.wrap .i64 (v8.a2 * 4)) 65536) + (IntKind.wrap .i64 (Int.tdiv v8.a2 16384)))) g11), .i (bitsOp .xor .i64 (IntKind.wrap .i64 ((IntKind.wrap .i64 (Int.tdiv v8.a3 4)) + (IntKind.wrap .i64 ((Int.tmod v8.a3 4) * 16384)))) f10)] 0))]⟩] ?_
 refine Rd <| kB_nrm <| kS_nrm <| Ro <| Rc 3 [vi i9, vi (IntKind.wrap .i64 (i9 + 1)), vi (IntKind.wrap .i64 (i9 + 1))] <| Rd ?_
 obtain rfl := sj h
 exact ⟨rfl, (), Cz⟩
theorem hansomlaw27_LibHash_j31_ok (s_ : (List UInt8)) (blocks_ : Int) (v8 : (A4 Int)) (t5 : (List UInt8)) (n6 : Int) (b7 : (List UInt8)) (i9 : Int) (f10 : Int) (g11 : Int) (r : (Lp ((A4 Int) × Int) (A4 Int))) (h : hansomlaw27_LibHash_j31 v8 t5 n6 b7 i9 f10 g11 = some r) : Runs L F3b31 (hansomlaw27_LibHash_h31 v8 t5 n6 b7 i9 f10 g11) (kB 1 (kS L F3c44 (LQ [] [5, 6, 7, 8, 9] [[8]] (fun (x : ((A4 Int) × Int)) (g : Unit) => hansomlaw27_LibHash_h14 x.1 t5 n6 b7 x.2) (hansomlaw27_LibHash_P14 s_ blocks_ t5 n6 b7) r))) := by
 unfold hansomlaw27_LibHash_j31 at h
 refine Sq <| Sq <| Ro <| Rc 4 [vi g11, vi (IntKind.wrap .i64 (Int.tdiv g11 32)), vi (Int.tmod (IntKind.wrap .i64 (Int.tdiv g11 32)) 2), vb ((Int.tmod (IntKind.wrap .i64 (Int.tdiv g11 32)) 2) == 0)] <| Rk ?_
 cases hb_3 : (((Int.tmod (IntKind.wrap .i64 (Int.tdiv g11 32)) 2) == 0) : Bool) with
 | true =>
  replace h := ite_t hb_3 h
  refine Ct <| Ro <| Rc 3 [vi g11, vi (IntKind.wrap .i64 (g11 + 32)), vi (IntKind.wrap .i64 (g11 + 32))] <| Rk <| Runs.canon (hansomlaw27_LibHash_h37 v8 t5 n6 b7 i9 f10 (IntKind.wrap .i64 (g11 + 32))) Cz ?_
  exact hansomlaw27_LibHash_j37_ok s_ blocks_ v8 t5 n6 b7 i9 f10 (IntKind.wrap .i64 (g11 + 32)) r h
 | false =>
  replace h := ite_f hb_3 h
  refine Cf <| Runs.skip <| kS_nrm <| Runs.canon (hansomlaw27_LibHash_h37 v8 t5 n6 b7 i9 f10 g11) Cz ?_
  exact hansomlaw27_LibHash_j37_ok s_ blocks_ v8 t5 n6 b7 i9 f10 g11 r h
theorem hansomlaw27_LibHash_l14_ok (s_ : (List UInt8)) (blocks_ : Int) (v8 : (A4 Int)) (t5 : (List UInt8)) (n6 : Int) (b7 : (List UInt8)) (i9 : Int) (r : (Lp ((A4 Int) × Int) (A4 Int))) (h : hansomlaw27_LibHash_l14 v8 t5 n6 b7 i9 = some r) : Runs L F3l14 (hansomlaw27_LibHash_h14 v8 t5 n6 b7 i9) (LQ [] [5, 6, 7, 8, 9] [[8]] (fun (x : ((A4 Int) × Int)) (g : Unit) => hansomlaw27_LibHash_h14 x.1 t5 n6 b7 x.2) (hansomlaw27_LibHash_P14 s_ blocks_ t5 n6 b7) r) := by
 unfold hansomlaw27_LibHash_l14 at h
 refine Sq <| Sq <| Ro <| Rc 2 [vi i9, ⟨.d (.str t5), []⟩] <| Rt (some 25) .lenS [] none [.d (.str t5)] (.i (t5.length : Int)) [] (cut_lenS _) <| Rc 1 [vb (decide (i9 < (t5.length : Int)))] <| Rk ?_
 cases hb_1 : ((decide (i9 < (t5.length : Int))) : Bool) with
 | true =>
  replace h := ite_t hb_1 h
  refine Ct <| Runs.skip <| kS_nrm <| Sq <| Runs.block <| Sq <| Ro <| Rc 2 [⟨.d (.str b7), []⟩, vi i9] ?_
  obtain ⟨z_2, hz_2, h⟩ := bind_s h
  refine Rt (some 31) .indexS [] none [.d (.str b7), .i i9] (.y (z_2.toNat : Int)) [] (cut_ixS hz_2) <| Rc 3 [vi (IntKind.wrap .i64 (z_2.toNat : Int)), ⟨.d (.str b7), []⟩, ⟨.d (.str b7), []⟩] <| Rt (some 35) .lenS [] none [.d (.str b7)] (.i (b7.length : Int)) [] (cut_lenS _) <| Rc 3 [vi (IntKind.wrap .i64 ((b7.length : Int) - 1)), vi i9, vi (IntKind.wrap .i64 ((IntKind.wrap .i64 ((b7.length : Int) - 1)) - i9))] ?_
  obtain ⟨z_3, hz_3, h⟩ := bind_s h
  refine Rt (some 39) .indexS [] none [.d (.str b7), .i (IntKind.wrap .i64 ((IntKind.wrap .i64 ((b7.length : Int) - 1)) - i9))] (.y (z_3.toNat : Int)) [] (cut_ixS hz_3) <| Rc 3 [vi (IntKind.wrap .i64 (z_3.toNat : Int)), vi (IntKind.wrap .i64 (z_2.toNat : Int)), vi (IntKind.wrap .i64 (z_3.toNat : Int))] <| Rk <| Sq <| Sq <| Ro <| Rc 4 [vi (IntKind.wrap .i64 (z_2.toNat : Int)), vi (IntKind.wrap .i64 (Int.tdiv (IntKind.wrap .i64 (z_2.toNat : Int)) 32)), vi (Int.tmod (IntKind.wrap .i64 (Int.tdiv (IntKind.wrap .i64 (z_2.toNat : Int)) 32)) 2), vb ((Int.tmod (IntKind.wrap .i64 (Int.tdiv (IntKind.wrap .i64 (z_2.toNat : Int)) 32)) 2) == 0)] <| Rk ?_
  cases hb_2 : (((Int.tmod (IntKind.wrap .i64 (Int.tdiv (IntKind.wrap .i64 (z_2.toNat : Int)) 32)) 2) == 0) : Bool) with
  | true =>
   replace h := ite_t hb_2 h
   refine Ct <| Ro <| Rc 3 [vi (IntKind.wrap .i64 (z_2.toNat : Int)), vi (IntKind.wrap .i64 ((IntKind.wrap .i64 (z_2.toNat : Int)) + 32)), vi (IntKind.wrap .i64 ((IntKind.wrap .i64 (z_2.toNat : Int)) + 32))] <| Rk <| Runs.canon (hansomlaw27_LibHash_h31 v8 t5 n6 b7 i9 (IntKind.wrap .i64 ((IntKind.wrap .i64 (z_2.toNat : Int)) + 32)) (IntKind.wrap .i64 (z_3.toNat : Int))) Cz ?_
   exact hansomlaw27_LibHash_j31_ok s_ blocks_ v8 t5 n6 b7 i9 (IntKind.wrap .i64 ((IntKind.wrap .i64 (z_2.toNat : Int)) + 32)) (IntKind.wrap .i64 (z_3.toNat : Int)) r h
  | false =>
   replace h := ite_f hb_2 h
   refine Cf <| Runs.skip <| kS_nrm <| Runs.canon (hansomlaw27_LibHash_h31 v8 t5 n6 b7 i9 (IntKind.wrap .i64 (z_2.toNat : Int)) (IntKind.wrap .i64 (z_3.toNat : Int))) Cz ?_
   exact hansomlaw27_LibHash_j31_ok s_ blocks_ v8 t5 n6 b7 i9 (IntKind.wrap .i64 (z_2.toNat : Int)) (IntKind.wrap .i64 (z_3.toNat : Int)) r h
 | false =>
  replace h := ite_f hb_1 h
  refine Cf <| Runs.exit <| kS_exit ?_
  obtain rfl := sj h
  exact ⟨nofun, rfl, (), Cz⟩
theorem hansomlaw27_LibHash_ok (s_ : (List UInt8)) (blocks_ : Int) (r : Bool) (h : hansomlaw27_LibHash s_ blocks_ = some r) : Runs L F3.body ⟨tmOf [.d (.str s_), .i blocks_] 0, updW (fun _ => none) []⟩ (hansomlaw27_LibHash_Q s_ blocks_ r) := by
 unfold hansomlaw27_LibHash at h
 refine Sq <| Ro <| Rc 1 [vb false] <| Rk <| Sq <| Ro <| Rc 2 [⟨.d (.str s_), []⟩, ⟨.d (.str s_), []⟩] <| Rt (some 14) .lenS [] none [.d (.str s_)] (.i (s_.length : Int)) [] (cut_lenS _) <| Rc 1 [vi (mnI (s_.length : Int) 255)] ?_
 obtain ⟨z_1, hz_1, h⟩ := bind_s h
 refine Rt (some 16) (.substr false true) [] none [.d (.str s_), .i (mnI (s_.length : Int) 255)] (.d (.str z_1)) [] (cut_strFT hz_1) <| Rc 1 [⟨.d (.str z_1), []⟩] <| Rk <| Sq <| Ro <| Rc 4 [vi blocks_, vi (bitsOp .and .i64 blocks_ 1023), vi (IntKind.wrap .i64 ((bitsOp .and .i64 blocks_ 1023) + 1)), vi (IntKind.wrap .i64 ((bitsOp .and .i64 blocks_ 1023) + 1))] <| Rk <| Sq <| Ro <| Rc 1 [⟨.d (.str z_1), []⟩] ?_
 obtain ⟨r_1, hr_1, h⟩ := bind_s h
 have hc_1 := hansomref18_Name_L z_1 r_1 hr_1
 refine Rt (some 21) (.callf 4) [] none [.d (.str z_1)] (.d (.str r_1)) [] (cc hc_1) <| Rc 1 [⟨.d (.str r_1), []⟩] <| Rk <| Sq <| Ro <| Rc 3 [⟨.d (.agg [.int .i64 0, .int .i64 0, .int .i64 0, .int .i64 0]), []⟩, ⟨.ptr [8] 0 0, [([8], some (.cells [.i 0, .i 0, .i 0, .i 0] 0))]⟩, ⟨.tup [], [([8], some (.cells [.i 0, .i 0, .i 0, .i 0] 0))]⟩] <| Rk <| Sq <| Sq <| Ro <| Rc 1 [vi 0] <| Rk <| Runs.block ?_
 obtain ⟨e_1, he_1, h⟩ := bind_s h
 refine Runs.loop (fun x : ((A4 Int) × Int) => hansomlaw27_LibHash_l14 x.1 z_1 (IntKind.wrap .i64 ((bitsOp .and .i64 blocks_ 1023) + 1)) r_1 x.2) (fun (x : ((A4 Int) × Int)) (g : Unit) => hansomlaw27_LibHash_h14 x.1 z_1 (IntKind.wrap .i64 ((bitsOp .and .i64 blocks_ 1023) + 1)) r_1 x.2) (hansomlaw27_LibHash_P14 s_ blocks_ z_1 (IntKind.wrap .i64 ((bitsOp .and .i64 blocks_ 1023) + 1)) r_1) (fun x g r hr => hansomlaw27_LibHash_l14_ok s_ blocks_ x.1 z_1 (IntKind.wrap .i64 ((bitsOp .and .i64 blocks_ 1023) + 1)) r_1 x.2  r hr) () he_1 Cz ?_
 rintro ⟨o, s⟩ hp
 obtain ⟨ho, g_1, hk_1⟩ := hp
 have ho' : o = .exit 0 := ho
 subst ho'
 refine kB_hit <| kS_nrm <| Runs.canon _ hk_1 <| Sq <| Ro ?_
 obtain ⟨r_2, hr_2, h⟩ := bind_s h
 have hc_2 := hansomlaw27_awake_L r_2 hr_2
 refine Rt (some 97) (.callf 5) [] none [] (.b r_2) [] (cc hc_2) <| Rc 1 [vb r_2] ?_
 cases hb_1 : (r_2 : Bool) with
 | true =>
  replace h := ite_t hb_1 h
  refine Rc 2 [⟨.d (.str z_1), []⟩, vi (IntKind.wrap .i64 ((bitsOp .and .i64 blocks_ 1023) + 1))] ?_
  obtain ⟨r_3, hr_3, h⟩ := bind_s h
  have hc_3 := lib_Hash_L z_1 (IntKind.wrap .i64 ((bitsOp .and .i64 blocks_ 1023) + 1)) r_3 hr_3
  refine Rt (some 101) (.callf 6) [] (some []) [.d (.str z_1), .i (IntKind.wrap .i64 ((bitsOp .and .i64 blocks_ 1023) + 1))] (.d (Where.d r_3)) [] (cc hc_3) <| Rc 3 [vp [8] 0 0, vi e_1.a0, vi (IntKind.wrap .i64 ((bitsOp .and .i64 blocks_ 1023) + 1))] ?_
  obtain ⟨z_2, hz_2, h⟩ := bind_s h
  refine Rt (some 105) (.bin .rem) [] none [.i e_1.a0, .i (IntKind.wrap .i64 ((bitsOp .and .i64 blocks_ 1023) + 1))] (.i z_2) [] (cut_rem hz_2) <| Rc 6 [vp [8] 0 1, vi e_1.a1, vi (Int.tmod e_1.a1 37), vp [8] 0 2, vi e_1.a2, vi (IntKind.wrap .i64 ((bitsOp .and .i64 blocks_ 1023) + 1))] ?_
  obtain ⟨z_3, hz_3, h⟩ := bind_s h
  refine Rt (some 112) (.bin .rem) [] none [.i e_1.a2, .i (IntKind.wrap .i64 ((bitsOp .and .i64 blocks_ 1023) + 1))] (.i z_3) [] (cut_rem hz_3) <| Rc 9 [vi (mxI z_3 1), vp [8] 0 3, vi e_1.a3, vi (Int.tmod e_1.a3 37), vi (mxI (Int.tmod e_1.a3 37) 1), ⟨.d (.agg [.int .i64 z_2, .int .i64 (Int.tmod e_1.a1 37), .int .i64 (mxI z_3 1), .int .i64 (mxI (Int.tmod e_1.a3 37) 1)]), []⟩, vb (r_3.Block == z_2 && (r_3.Bucket == (Int.tmod e_1.a1 37) && (r_3.BlockD == (mxI z_3 1) && (r_3.BuckD == (mxI (Int.tmod e_1.a3 37) 1) && true)))), vb (r_3.Block == z_2 && (r_3.Bucket == (Int.tmod e_1.a1 37) && (r_3.BlockD == (mxI z_3 1) && (r_3.BuckD == (mxI (Int.tmod e_1.a3 37) 1) && true)))), vb (r_3.Block == z_2 && (r_3.Bucket == (Int.tmod e_1.a1 37) && (r_3.BlockD == (mxI z_3 1) && (r_3.BuckD == (mxI (Int.tmod e_1.a3 37) 1) && true))))] ?_
  cases hb_2 : ((r_3.Block == z_2 && (r_3.Bucket == (Int.tmod e_1.a1 37) && (r_3.BlockD == (mxI z_3 1) && (r_3.BuckD == (mxI (Int.tmod e_1.a3 37) 1) && true)))) : Bool) with
  | true =>
   replace h := ite_t hb_2 h
   refine Rc 3 [⟨.d (.str z_1), []⟩, vi (IntKind.wrap .i64 ((bitsOp .and .i64 blocks_ 1023) + 1)), vi (IntKind.wrap .i64 (0 - (IntKind.wrap .i64 ((bitsOp .and .i64 blocks_ 1023) + 1))))] ?_
   obtain ⟨r_4, hr_4, h⟩ := bind_s h
   have hc_4 := lib_Hash_L z_1 (IntKind.wrap .i64 (0 - (IntKind.wrap .i64 ((bitsOp .and .i64 blocks_ 1023) + 1)))) r_4 hr_4
   refine Rt (some 125) (.callf 6) [] none [.d (.str z_1), .i (IntKind.wrap .i64 (0 - (IntKind.wrap .i64 ((bitsOp .and .i64 blocks_ 1023) + 1))))] (.d (Where.d r_4)) [] (cc hc_4) <| Rc 1 [⟨.d (.str z_1), []⟩] ?_
   obtain ⟨r_5, hr_5, h⟩ := bind_s h
   have hc_5 := lib_Hash_L z_1 1 r_5 hr_5
   refine Rt (some 127) (.callf 6) [] none [.d (.str z_1), .i 1] (.d (Where.d r_5)) [] (cc hc_5) <| Rc 3 [vb (r_4.Block == r_5.Block && (r_4.Bucket == r_5.Bucket && (r_4.BlockD == r_5.BlockD && (r_4.BuckD == r_5.BuckD && true)))), vb (r_4.Block == r_5.Block && (r_4.Bucket == r_5.Bucket && (r_4.BlockD == r_5.BlockD && (r_4.BuckD == r_5.BuckD && true)))), vb (r_4.Block == r_5.Block && (r_4.Bucket == r_5.Bucket && (r_4.BlockD == r_5.BlockD && (r_4.BuckD == r_5.BuckD && true))))] <| Rk <| Runs.ret ?_
   cases h
   exact Fq
  | false =>
   replace h := ite_f hb_2 h
   refine Rc 9 [vn, vn, vn, vn, vn, vn, vn, vb false, vb false] <| Rk <| Runs.ret ?_
   cases h
   exact Fq
 | false =>
  replace h := ite_f hb_1 h
  refine Rc 32 [vn, vn, vn, vn, vn, vn, vn, vn, vn, vn, vn, vn, vn, vn, vn, vn, vn, vn, vn, vn, vn, vb false, vb false, vn, vn, vn, vn, vn, vn, vn, vb false, vb false] <| Rk <| Runs.ret ?_
  cases h
  exact Fq
theorem hansomlaw27_LibHash_L (s_ : (List UInt8)) (blocks_ : Int) (r : Bool) (h : hansomlaw27_LibHash s_ blocks_ = some r) : L 3 [.d (.str s_), .i blocks_] = some (.b r, [.d (.str s_), .i blocks_]) := by
 obtain ⟨p, ⟨hne, hf⟩, hr⟩ := hansomlaw27_LibHash_ok s_ blocks_ r h
 obtain ⟨k, hk⟩ := run_of (F := F3) (args := [.d (.str s_), .i blocks_]) (ap := [.d (.str s_), .i blocks_]) (bx0 := updW (fun _ => none) []) rfl rfl (by kernel_rfl) ⟨p, ⟨hne, hf⟩, hr⟩
 exact lim_run (k := k) rfl hk
end Go.Es.Lbh
