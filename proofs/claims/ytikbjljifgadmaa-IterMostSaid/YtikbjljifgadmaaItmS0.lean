/- The interpreter answers as plain Lean does: part 1. No condition. -/
import Derived.Test.YtikbjljifgadmaaItmF
import Derived.Test.YtikbjljifgadmaaItmP
import Derived.KernelRfl
set_option linter.unusedVariables false
set_option linter.unusedSimpArgs false
set_option maxRecDepth 100000
set_option maxHeartbeats 40000000
namespace Go.Es.Itm
theorem hansomlaw24_deeps_L0 : L 25 [.d (.int .i64 1)] = some (.d (Block.d ({ Times := 1, Bytes := [97], Blocks := [] } : Block)), [.d (.int .i64 1)]) := (lim_iff (F := tab1)).2 ⟨100, by kernel_rfl⟩
theorem hansomlaw24_deeps_L1 : L 25 [.d (.int .i64 2)] = some (.d (Block.d ({ Times := 1, Bytes := [], Blocks := [Block.d ({ Times := 1, Bytes := [97], Blocks := [] } : Block)] } : Block)), [.d (.int .i64 2)]) := (lim_iff (F := tab1)).2 ⟨100, by kernel_rfl⟩
theorem hansomlaw24_deeps_L2 : L 25 [.d (.int .i64 3)] = some (.d (Block.d ({ Times := 1, Bytes := [], Blocks := [Block.d ({ Times := 1, Bytes := [], Blocks := [Block.d ({ Times := 1, Bytes := [97], Blocks := [] } : Block)] } : Block)] } : Block)), [.d (.int .i64 3)]) := (lim_iff (F := tab1)).2 ⟨100, by kernel_rfl⟩
theorem hansomlaw24_deeps_L3 : L 25 [.d (.int .i64 4)] = some (.d (Block.d ({ Times := 1, Bytes := [], Blocks := [Block.d ({ Times := 1, Bytes := [], Blocks := [Block.d ({ Times := 1, Bytes := [], Blocks := [Block.d ({ Times := 1, Bytes := [97], Blocks := [] } : Block)] } : Block)] } : Block)] } : Block)), [.d (.int .i64 4)]) := (lim_iff (F := tab1)).2 ⟨100, by kernel_rfl⟩
theorem hansomlaw24_deeps_L4 : L 25 [.d (.int .i64 5)] = some (.d (Block.d ({ Times := 1, Bytes := [], Blocks := [Block.d ({ Times := 1, Bytes := [], Blocks := [Block.d ({ Times := 1, Bytes := [], Blocks := [Block.d ({ Times := 1, Bytes := [], Blocks := [Block.d ({ Times := 1, Bytes := [97], Blocks := [] } : Block)] } : Block)] } : Block)] } : Block)] } : Block)), [.d (.int .i64 5)]) := (lim_iff (F := tab1)).2 ⟨100, by kernel_rfl⟩
theorem hansomlaw24_deeps_L5 : L 25 [.d (.int .i64 6)] = some (.d (Block.d ({ Times := 1, Bytes := [], Blocks := [Block.d ({ Times := 1, Bytes := [], Blocks := [Block.d ({ Times := 1, Bytes := [], Blocks := [Block.d ({ Times := 1, Bytes := [], Blocks := [Block.d ({ Times := 1, Bytes := [], Blocks := [Block.d ({ Times := 1, Bytes := [97], Blocks := [] } : Block)] } : Block)] } : Block)] } : Block)] } : Block)] } : Block)), [.d (.int .i64 6)]) := (lim_iff (F := tab1)).2 ⟨100, by kernel_rfl⟩
theorem hansomlaw24_deeps_L6 : L 25 [.d (.int .i64 7)] = some (.d (Block.d ({ Times := 1, Bytes := [], Blocks := [Block.d ({ Times := 1, Bytes := [], Blocks := [Block.d ({ Times := 1, Bytes := [], Blocks := [Block.d ({ Times := 1, Bytes := [], Blocks := [Block.d ({ Times := 1, Bytes := [], Blocks := [Block.d ({ Times := 1, Bytes := [], Blocks := [Block.d ({ Times := 1, Bytes := [97], Blocks := [] } : Block)] } : Block)] } : Block)] } : Block)] } : Block)] } : Block)] } : Block)), [.d (.int .i64 7)]) := (lim_iff (F := tab1)).2 ⟨100, by kernel_rfl⟩
theorem hansomlaw24_deeps_L7 : L 25 [.d (.int .i64 8)] = some (.d (Block.d ({ Times := 1, Bytes := [], Blocks := [Block.d ({ Times := 1, Bytes := [], Blocks := [Block.d ({ Times := 1, Bytes := [], Blocks := [Block.d ({ Times := 1, Bytes := [], Blocks := [Block.d ({ Times := 1, Bytes := [], Blocks := [Block.d ({ Times := 1, Bytes := [], Blocks := [Block.d ({ Times := 1, Bytes := [], Blocks := [Block.d ({ Times := 1, Bytes := [97], Blocks := [] } : Block)] } : Block)] } : Block)] } : Block)] } : Block)] } : Block)] } : Block)] } : Block)), [.d (.int .i64 8)]) := (lim_iff (F := tab1)).2 ⟨100, by kernel_rfl⟩
theorem hansomlaw24_deeps_L8 : L 25 [.d (.int .i64 9)] = some (.d (Block.d ({ Times := 1, Bytes := [], Blocks := [Block.d ({ Times := 1, Bytes := [], Blocks := [Block.d ({ Times := 1, Bytes := [], Blocks := [Block.d ({ Times := 1, Bytes := [], Blocks := [Block.d ({ Times := 1, Bytes := [], Blocks := [Block.d ({ Times := 1, Bytes := [], Blocks := [Block.d ({ Times := 1, Bytes := [], Blocks := [Block.d ({ Times := 1, Bytes := [], Blocks := [Block.d ({ Times := 1, Bytes := [97], Blocks := [] } : Block)] } : Block)] } : Block)] } : Block)] } : Block)] } : Block)] } : Block)] } : Block)] } : Block)), [.d (.int .i64 9)]) := (lim_iff (F := tab1)).2 ⟨100, by kernel_rfl⟩
theorem hansomlaw24_deeps_L9 : L 25 [.d (.int .i64 10)] = some (.d (Block.d ({ Times := 1, Bytes := [], Blocks := [Block.d ({ Times := 1, Bytes := [], Blocks := [Block.d ({ Times := 1, Bytes := [], Blocks := [Block.d ({ Times := 1, Bytes := [], Blocks := [Block.d ({ Times := 1, Bytes := [], Blocks := [Block.d ({ Times := 1, Bytes := [], Blocks := [Block.d ({ Times := 1, Bytes := [], Blocks := [Block.d ({ Times := 1, Bytes := [], Blocks := [Block.d ({ Times := 1, Bytes := [], Blocks := [Block.d ({ Times := 1, Bytes := [97], Blocks := [] } : Block)] } : Block)] } : Block)] } : Block)] } : Block)] } : Block)] } : Block)] } : Block)] } : Block)] } : Block)), [.d (.int .i64 10)]) := (lim_iff (F := tab1)).2 ⟨100, by kernel_rfl⟩
theorem hansomlaw24_deeps_L10 : L 25 [.d (.int .i64 11)] = some (.d (Block.d ({ Times := 1, Bytes := [], Blocks := [Block.d ({ Times := 1, Bytes := [], Blocks := [Block.d ({ Times := 1, Bytes := [], Blocks := [Block.d ({ Times := 1, Bytes := [], Blocks := [Block.d ({ Times := 1, Bytes := [], Blocks := [Block.d ({ Times := 1, Bytes := [], Blocks := [Block.d ({ Times := 1, Bytes := [], Blocks := [Block.d ({ Times := 1, Bytes := [], Blocks := [Block.d ({ Times := 1, Bytes := [], Blocks := [Block.d ({ Times := 1, Bytes := [], Blocks := [Block.d ({ Times := 1, Bytes := [97], Blocks := [] } : Block)] } : Block)] } : Block)] } : Block)] } : Block)] } : Block)] } : Block)] } : Block)] } : Block)] } : Block)] } : Block)), [.d (.int .i64 11)]) := (lim_iff (F := tab1)).2 ⟨100, by kernel_rfl⟩
theorem hansomlaw24_deeps_L11 : L 25 [.d (.int .i64 12)] = some (.d (Block.d ({ Times := 1, Bytes := [], Blocks := [Block.d ({ Times := 1, Bytes := [], Blocks := [Block.d ({ Times := 1, Bytes := [], Blocks := [Block.d ({ Times := 1, Bytes := [], Blocks := [Block.d ({ Times := 1, Bytes := [], Blocks := [Block.d ({ Times := 1, Bytes := [], Blocks := [Block.d ({ Times := 1, Bytes := [], Blocks := [Block.d ({ Times := 1, Bytes := [], Blocks := [Block.d ({ Times := 1, Bytes := [], Blocks := [Block.d ({ Times := 1, Bytes := [], Blocks := [Block.d ({ Times := 1, Bytes := [], Blocks := [Block.d ({ Times := 1, Bytes := [97], Blocks := [] } : Block)] } : Block)] } : Block)] } : Block)] } : Block)] } : Block)] } : Block)] } : Block)] } : Block)] } : Block)] } : Block)] } : Block)), [.d (.int .i64 12)]) := (lim_iff (F := tab1)).2 ⟨100, by kernel_rfl⟩
theorem hansomlaw24_deeps_L12 : L 25 [.d (.int .i64 13)] = some (.d (Block.d ({ Times := 1, Bytes := [], Blocks := [Block.d ({ Times := 1, Bytes := [], Blocks := [Block.d ({ Times := 1, Bytes := [], Blocks := [Block.d ({ Times := 1, Bytes := [], Blocks := [Block.d ({ Times := 1, Bytes := [], Blocks := [Block.d ({ Times := 1, Bytes := [], Blocks := [Block.d ({ Times := 1, Bytes := [], Blocks := [Block.d ({ Times := 1, Bytes := [], Blocks := [Block.d ({ Times := 1, Bytes := [], Blocks := [Block.d ({ Times := 1, Bytes := [], Blocks := [Block.d ({ Times := 1, Bytes := [], Blocks := [Block.d ({ Times := 1, Bytes := [], Blocks := [Block.d ({ Times := 1, Bytes := [97], Blocks := [] } : Block)] } : Block)] } : Block)] } : Block)] } : Block)] } : Block)] } : Block)] } : Block)] } : Block)] } : Block)] } : Block)] } : Block)] } : Block)), [.d (.int .i64 13)]) := (lim_iff (F := tab1)).2 ⟨100, by kernel_rfl⟩
theorem hansomlaw24_deeps_L13 : L 25 [.d (.int .i64 14)] = some (.d (Block.d ({ Times := 1, Bytes := [], Blocks := [Block.d ({ Times := 1, Bytes := [], Blocks := [Block.d ({ Times := 1, Bytes := [], Blocks := [Block.d ({ Times := 1, Bytes := [], Blocks := [Block.d ({ Times := 1, Bytes := [], Blocks := [Block.d ({ Times := 1, Bytes := [], Blocks := [Block.d ({ Times := 1, Bytes := [], Blocks := [Block.d ({ Times := 1, Bytes := [], Blocks := [Block.d ({ Times := 1, Bytes := [], Blocks := [Block.d ({ Times := 1, Bytes := [], Blocks := [Block.d ({ Times := 1, Bytes := [], Blocks := [Block.d ({ Times := 1, Bytes := [], Blocks := [Block.d ({ Times := 1, Bytes := [], Blocks := [Block.d ({ Times := 1, Bytes := [97], Blocks := [] } : Block)] } : Block)] } : Block)] } : Block)] } : Block)] } : Block)] } : Block)] } : Block)] } : Block)] } : Block)] } : Block)] } : Block)] } : Block)] } : Block)), [.d (.int .i64 14)]) := (lim_iff (F := tab1)).2 ⟨100, by kernel_rfl⟩
theorem hansomlaw24_deeps_L14 : L 25 [.d (.int .i64 15)] = some (.d (Block.d ({ Times := 1, Bytes := [], Blocks := [Block.d ({ Times := 1, Bytes := [], Blocks := [Block.d ({ Times := 1, Bytes := [], Blocks := [Block.d ({ Times := 1, Bytes := [], Blocks := [Block.d ({ Times := 1, Bytes := [], Blocks := [Block.d ({ Times := 1, Bytes := [], Blocks := [Block.d ({ Times := 1, Bytes := [], Blocks := [Block.d ({ Times := 1, Bytes := [], Blocks := [Block.d ({ Times := 1, Bytes := [], Blocks := [Block.d ({ Times := 1, Bytes := [], Blocks := [Block.d ({ Times := 1, Bytes := [], Blocks := [Block.d ({ Times := 1, Bytes := [], Blocks := [Block.d ({ Times := 1, Bytes := [], Blocks := [Block.d ({ Times := 1, Bytes := [], Blocks := [Block.d ({ Times := 1, Bytes := [97], Blocks := [] } : Block)] } : Block)] } : Block)] } : Block)] } : Block)] } : Block)] } : Block)] } : Block)] } : Block)] } : Block)] } : Block)] } : Block)] } : Block)] } : Block)] } : Block)), [.d (.int .i64 15)]) := (lim_iff (F := tab1)).2 ⟨100, by kernel_rfl⟩
theorem hansomlaw24_deeps_L15 : L 25 [.d (.int .i64 16)] = some (.d (Block.d ({ Times := 1, Bytes := [], Blocks := [Block.d ({ Times := 1, Bytes := [], Blocks := [Block.d ({ Times := 1, Bytes := [], Blocks := [Block.d ({ Times := 1, Bytes := [], Blocks := [Block.d ({ Times := 1, Bytes := [], Blocks := [Block.d ({ Times := 1, Bytes := [], Blocks := [Block.d ({ Times := 1, Bytes := [], Blocks := [Block.d ({ Times := 1, Bytes := [], Blocks := [Block.d ({ Times := 1, Bytes := [], Blocks := [Block.d ({ Times := 1, Bytes := [], Blocks := [Block.d ({ Times := 1, Bytes := [], Blocks := [Block.d ({ Times := 1, Bytes := [], Blocks := [Block.d ({ Times := 1, Bytes := [], Blocks := [Block.d ({ Times := 1, Bytes := [], Blocks := [Block.d ({ Times := 1, Bytes := [], Blocks := [Block.d ({ Times := 1, Bytes := [97], Blocks := [] } : Block)] } : Block)] } : Block)] } : Block)] } : Block)] } : Block)] } : Block)] } : Block)] } : Block)] } : Block)] } : Block)] } : Block)] } : Block)] } : Block)] } : Block)] } : Block)), [.d (.int .i64 16)]) := (lim_iff (F := tab1)).2 ⟨100, by kernel_rfl⟩
theorem hansomlaw24_deeps_L (a0_ : Int) (r : Block) (h : hansomlaw24_deeps a0_ = some r) : L 25 [.d (.int .i64 a0_)] = some (.d (Block.d r), [.d (.int .i64 a0_)]) := by
  unfold hansomlaw24_deeps at h
  by_cases c0 : a0_ = 1
  · rw [if_pos c0] at h
    obtain rfl := Option.some.inj h
    subst c0
    exact hansomlaw24_deeps_L0
  rw [if_neg c0] at h
  by_cases c1 : a0_ = 2
  · rw [if_pos c1] at h
    obtain rfl := Option.some.inj h
    subst c1
    exact hansomlaw24_deeps_L1
  rw [if_neg c1] at h
  by_cases c2 : a0_ = 3
  · rw [if_pos c2] at h
    obtain rfl := Option.some.inj h
    subst c2
    exact hansomlaw24_deeps_L2
  rw [if_neg c2] at h
  by_cases c3 : a0_ = 4
  · rw [if_pos c3] at h
    obtain rfl := Option.some.inj h
    subst c3
    exact hansomlaw24_deeps_L3
  rw [if_neg c3] at h
  by_cases c4 : a0_ = 5
  · rw [if_pos c4] at h
    obtain rfl := Option.some.inj h
    subst c4
    exact hansomlaw24_deeps_L4
  rw [if_neg c4] at h
  by_cases c5 : a0_ = 6
  · rw [if_pos c5] at h
    obtain rfl := Option.some.inj h
    subst c5
    exact hansomlaw24_deeps_L5
  rw [if_neg c5] at h
  by_cases c6 : a0_ = 7
  · rw [if_pos c6] at h
    obtain rfl := Option.some.inj h
    subst c6
    exact hansomlaw24_deeps_L6
  rw [if_neg c6] at h
  by_cases c7 : a0_ = 8
  · rw [if_pos c7] at h
    obtain rfl := Option.some.inj h
    subst c7
    exact hansomlaw24_deeps_L7
  rw [if_neg c7] at h
  by_cases c8 : a0_ = 9
  · rw [if_pos c8] at h
    obtain rfl := Option.some.inj h
    subst c8
    exact hansomlaw24_deeps_L8
  rw [if_neg c8] at h
  by_cases c9 : a0_ = 10
  · rw [if_pos c9] at h
    obtain rfl := Option.some.inj h
    subst c9
    exact hansomlaw24_deeps_L9
  rw [if_neg c9] at h
  by_cases c10 : a0_ = 11
  · rw [if_pos c10] at h
    obtain rfl := Option.some.inj h
    subst c10
    exact hansomlaw24_deeps_L10
  rw [if_neg c10] at h
  by_cases c11 : a0_ = 12
  · rw [if_pos c11] at h
    obtain rfl := Option.some.inj h
    subst c11
    exact hansomlaw24_deeps_L11
  rw [if_neg c11] at h
  by_cases c12 : a0_ = 13
  · rw [if_pos c12] at h
    obtain rfl := Option.some.inj h
    subst c12
    exact hansomlaw24_deeps_L12
  rw [if_neg c12] at h
  by_cases c13 : a0_ = 14
  · rw [if_pos c13] at h
    obtain rfl := Option.some.inj h
    subst c13
    exact hansomlaw24_deeps_L13
  rw [if_neg c13] at h
  by_cases c14 : a0_ = 15
  · rw [if_pos c14] at h
    obtain rfl := Option.some.inj h
    subst c14
    exact hansomlaw24_deeps_L14
  rw [if_neg c14] at h
  by_cases c15 : a0_ = 16
  · rw [if_pos c15] at h
    obtain rfl := Option.some.inj h
    subst c15
    exact hansomlaw24_deeps_L15
  rw [if_neg c15] at h
  cases h
theorem hansomlaw24_awake_L (r : Bool) (h : hansomlaw24_awake = some r) : L 22 [] = some (.d (.bool r), []) := by
  cases h
  exact (lim_iff (F := tab1)).2 ⟨100, by kernel_rfl⟩
def index_Put_Q (n_ : Int) (r : (List Int)) (p : Out × St) : Prop := (∀ i, p.1 ≠ .exit i) ∧ finF F61 [.i n_] p.2 = some (.arr false 1 (mY r), [.i n_])
theorem index_Put_ok (n_ : Int) (r : (List Int)) (h : index_Put n_ = some r) : Runs L F61.body ⟨tmOf [.i n_] 0, updW (fun _ => none) []⟩ (index_Put_Q n_ r) := by
 unfold index_Put at h
 refine Sq <| Ro <| Rc 1 [⟨.nils, []⟩] <| Rk <| Sq <| Runs.block <| Sq <| Ro <| Rc 3 [vi n_, vb (decide (n_ < 0)), vb (decide (n_ < 0))] ?_
 cases hb_1 : ((decide (n_ < 0)) : Bool) with
 | true =>
  replace h := ite_t hb_1 h
  refine Rc 4 [vn, vn, vb true, vb true] <| Rk <| Ct <| Sq <| Ro <| Rc 2 [⟨.ref [10] 0 0 (mY ([0] : List Int)).length 1, [([10], some (.arr (mY ([0] : List Int)) 0 false))]⟩, ⟨.ref [10] 0 0 (mY ([0] : List Int)).length 1, []⟩] <| Rk <| Runs.ret <| kB_ret <| kS_ret ?_
  obtain rfl := sj h
  exact ⟨Out.ret_ne, (fin_of (rs := [.ref [10] 0 0 (mY ([0] : List Int)).length 1]) (by kernel_rfl) (by kernel_rfl) (outs_own (id := [10]) (v := 0) (fz := false) (es := List.map (D.int .u8) ([0] : List Int)) (by kernel_rfl) (by decide) rfl outs_nil) (gives_cons (give_same (by kernel_rfl)) gives_nil))⟩
 | false =>
  replace h := ite_f hb_1 h
  refine Rc 4 [vi n_, vb (decide (n_ > 32767)), vb (decide (n_ > 32767)), vb (decide (n_ > 32767))] <| Rk ?_
  cases hb_2 : ((decide (n_ > 32767)) : Bool) with
  | true =>
   replace h := ite_t hb_2 h
   refine Ct <| Sq <| Ro <| Rc 2 [⟨.ref [10] 0 0 (mY ([0] : List Int)).length 1, [([10], some (.arr (mY ([0] : List Int)) 0 false))]⟩, ⟨.ref [10] 0 0 (mY ([0] : List Int)).length 1, []⟩] <| Rk <| Runs.ret <| kB_ret <| kS_ret ?_
   obtain rfl := sj h
   exact ⟨Out.ret_ne, (fin_of (rs := [.ref [10] 0 0 (mY ([0] : List Int)).length 1]) (by kernel_rfl) (by kernel_rfl) (outs_own (id := [10]) (v := 0) (fz := false) (es := List.map (D.int .u8) ([0] : List Int)) (by kernel_rfl) (by decide) rfl outs_nil) (gives_cons (give_same (by kernel_rfl)) gives_nil))⟩
  | false =>
   replace h := ite_f hb_2 h
   refine Cf <| Sq <| Ro <| Rc 3 [vi n_, vb (decide (n_ < 128)), vb (decide (n_ < 128))] <| Rk ?_
   cases hb_3 : ((decide (n_ < 128)) : Bool) with
   | true =>
    replace h := ite_t hb_3 h
    refine Ct <| Sq <| Ro <| Rc 4 [vi n_, vy (IntKind.wrap .u8 n_), ⟨.ref [16] 0 0 (mY ([(IntKind.wrap .u8 n_)] : List Int)).length 1, [([16], some (.arr (mY ([(IntKind.wrap .u8 n_)] : List Int)) 0 false))]⟩, ⟨.ref [16] 0 0 (mY ([(IntKind.wrap .u8 n_)] : List Int)).length 1, []⟩] <| Rk <| Runs.ret <| kB_ret <| kS_ret ?_
    obtain rfl := sj h
    exact ⟨Out.ret_ne, (fin_of (rs := [.ref [16] 0 0 (mY ([(IntKind.wrap .u8 n_)] : List Int)).length 1]) (by kernel_rfl) (by kernel_rfl) (outs_own (id := [16]) (v := 0) (fz := false) (es := List.map (D.int .u8) ([(IntKind.wrap .u8 n_)] : List Int)) (by kernel_rfl) (by decide) rfl outs_nil) (gives_cons (give_same (by kernel_rfl)) gives_nil))⟩
   | false =>
    replace h := ite_f hb_3 h
    refine Cf <| Runs.skip <| kB_nrm <| kS_nrm <| Sq <| Ro <| Rc 8 [vi n_, vi (shrI .i64 n_ 8), vy (IntKind.wrap .u8 (shrI .i64 n_ 8)), vy (bitsOp .or .u8 (IntKind.wrap .u8 (shrI .i64 n_ 8)) 128), vi n_, vy (IntKind.wrap .u8 n_), ⟨.ref [23] 0 0 (mY ([(bitsOp .or .u8 (IntKind.wrap .u8 (shrI .i64 n_ 8)) 128), (IntKind.wrap .u8 n_)] : List Int)).length 1, [([23], some (.arr (mY ([(bitsOp .or .u8 (IntKind.wrap .u8 (shrI .i64 n_ 8)) 128), (IntKind.wrap .u8 n_)] : List Int)) 0 false))]⟩, ⟨.ref [23] 0 0 (mY ([(bitsOp .or .u8 (IntKind.wrap .u8 (shrI .i64 n_ 8)) 128), (IntKind.wrap .u8 n_)] : List Int)).length 1, []⟩] <| Rk <| Runs.ret ?_
    obtain rfl := sj h
    exact ⟨Out.ret_ne, (fin_of (rs := [.ref [23] 0 0 (mY ([(bitsOp .or .u8 (IntKind.wrap .u8 (shrI .i64 n_ 8)) 128), (IntKind.wrap .u8 n_)] : List Int)).length 1]) (by kernel_rfl) (by kernel_rfl) (outs_own (id := [23]) (v := 0) (fz := false) (es := List.map (D.int .u8) ([(bitsOp .or .u8 (IntKind.wrap .u8 (shrI .i64 n_ 8)) 128), (IntKind.wrap .u8 n_)] : List Int)) (by kernel_rfl) (by decide) rfl outs_nil) (gives_cons (give_same (by kernel_rfl)) gives_nil))⟩
theorem index_Put_L (n_ : Int) (r : (List Int)) (h : index_Put n_ = some r) : L 61 [.i n_] = some (.arr false 1 (mY r), [.i n_]) := by
 obtain ⟨p, ⟨hne, hf⟩, hr⟩ := index_Put_ok n_ r h
 obtain ⟨k, hk⟩ := run_of (F := F61) (args := [.i n_]) (ap := [.i n_]) (bx0 := updW (fun _ => none) []) rfl rfl (by kernel_rfl) ⟨p, ⟨hne, hf⟩, hr⟩
 exact lim_run (k := k) rfl hk
def bits_Low_Q (w_ : Int) (r : Int) (p : Out × St) : Prop := (∀ i, p.1 ≠ .exit i) ∧ finF F100 [.w w_] p.2 = some (.y r, [.w w_])
theorem bits_Low_ok (w_ : Int) (r : Int) (h : bits_Low w_ = some r) : Runs L F100.body ⟨tmOf [.w w_] 0, updW (fun _ => none) []⟩ (bits_Low_Q w_ r) := by
 unfold bits_Low at h
 refine Sq <| Ro <| Rc 1 [vy 0] <| Rk <| Sq <| Ro <| Rc 3 [vw w_, vy (IntKind.wrap .u8 w_), vy (IntKind.wrap .u8 w_)] <| Rk <| Runs.ret ?_
 cases h
 exact Fq
theorem bits_Low_L (w_ : Int) (r : Int) (h : bits_Low w_ = some r) : L 100 [.w w_] = some (.y r, [.w w_]) := by
 obtain ⟨p, ⟨hne, hf⟩, hr⟩ := bits_Low_ok w_ r h
 obtain ⟨k, hk⟩ := run_of (F := F100) (args := [.w w_]) (ap := [.w w_]) (bx0 := updW (fun _ => none) []) rfl rfl (by kernel_rfl) ⟨p, ⟨hne, hf⟩, hr⟩
 exact lim_run (k := k) rfl hk
def bits_High_Q (w_ : Int) (r : Int) (p : Out × St) : Prop := (∀ i, p.1 ≠ .exit i) ∧ finF F101 [.w w_] p.2 = some (.y r, [.w w_])
theorem bits_High_ok (w_ : Int) (r : Int) (h : bits_High w_ = some r) : Runs L F101.body ⟨tmOf [.w w_] 0, updW (fun _ => none) []⟩ (bits_High_Q w_ r) := by
 unfold bits_High at h
 refine Sq <| Ro <| Rc 1 [vy 0] <| Rk <| Sq <| Ro <| Rc 4 [vw w_, vw (shrI .u16 w_ 8), vy (IntKind.wrap .u8 (shrI .u16 w_ 8)), vy (IntKind.wrap .u8 (shrI .u16 w_ 8))] <| Rk <| Runs.ret ?_
 cases h
 exact Fq
theorem bits_High_L (w_ : Int) (r : Int) (h : bits_High w_ = some r) : L 101 [.w w_] = some (.y r, [.w w_]) := by
 obtain ⟨p, ⟨hne, hf⟩, hr⟩ := bits_High_ok w_ r h
 obtain ⟨k, hk⟩ := run_of (F := F101) (args := [.w w_]) (ap := [.w w_]) (bx0 := updW (fun _ => none) []) rfl rfl (by kernel_rfl) ⟨p, ⟨hne, hf⟩, hr⟩
 exact lim_run (k := k) rfl hk
def index_Two_Q (w_ : Int) (r : (List Int)) (p : Out × St) : Prop := (∀ i, p.1 ≠ .exit i) ∧ finF F62 [.w w_] p.2 = some (.arr false 1 (mY r), [.w w_])
theorem index_Two_ok (w_ : Int) (r : (List Int)) (h : index_Two w_ = some r) : Runs L F62.body ⟨tmOf [.w w_] 0, updW (fun _ => none) []⟩ (index_Two_Q w_ r) := by
 unfold index_Two at h
 refine Sq <| Ro <| Rc 1 [⟨.nils, []⟩] <| Rk <| Sq <| Ro <| Rc 1 [vw w_] ?_
 obtain ⟨r_1, hr_1, h⟩ := bind_s h
 have hc_1 := bits_Low_L w_ r_1 hr_1
 refine Rt (some 4) (.callf 100) [] none [.w w_] (.y r_1) [] (cc hc_1) <| Rc 1 [vw w_] ?_
 obtain ⟨r_2, hr_2, h⟩ := bind_s h
 have hc_2 := bits_High_L w_ r_2 hr_2
 refine Rt (some 6) (.callf 101) [] none [.w w_] (.y r_2) [] (cc hc_2) <| Rc 2 [⟨.ref [7] 0 0 (mY ([r_1, r_2] : List Int)).length 1, [([7], some (.arr (mY ([r_1, r_2] : List Int)) 0 false))]⟩, ⟨.ref [7] 0 0 (mY ([r_1, r_2] : List Int)).length 1, []⟩] <| Rk <| Runs.ret ?_
 obtain rfl := sj h
 exact ⟨Out.ret_ne, (fin_of (rs := [.ref [7] 0 0 (mY ([r_1, r_2] : List Int)).length 1]) (by kernel_rfl) (by kernel_rfl) (outs_own (id := [7]) (v := 0) (fz := false) (es := List.map (D.int .u8) ([r_1, r_2] : List Int)) (by kernel_rfl) (by decide) rfl outs_nil) (gives_cons (give_same (by kernel_rfl)) gives_nil))⟩
theorem index_Two_L (w_ : Int) (r : (List Int)) (h : index_Two w_ = some r) : L 62 [.w w_] = some (.arr false 1 (mY r), [.w w_]) := by
 obtain ⟨p, ⟨hne, hf⟩, hr⟩ := index_Two_ok w_ r h
 obtain ⟨k, hk⟩ := run_of (F := F62) (args := [.w w_]) (ap := [.w w_]) (bx0 := updW (fun _ => none) []) rfl rfl (by kernel_rfl) ⟨p, ⟨hne, hf⟩, hr⟩
 exact lim_run (k := k) rfl hk
def index_Name_Q (s_ : (List UInt8)) (r : (List Int)) (p : Out × St) : Prop := (∀ i, p.1 ≠ .exit i) ∧ finF F48 [.d (.str s_)] p.2 = some (.d (.sl (mY r)), [.d (.str s_)])
theorem index_Name_ok (s_ : (List UInt8)) (r : (List Int)) (h : index_Name s_ = some r) : Runs L F48.body ⟨tmOf [.d (.str s_)] 0, updW (fun _ => none) []⟩ (index_Name_Q s_ r) := by
 unfold index_Name at h
 refine Sq <| Ro <| Rc 1 [⟨.nils, []⟩] <| Rk <| Sq <| Ro <| Rc 2 [⟨.d (.str s_), []⟩, ⟨.d (.str s_), []⟩] <| Rt (some 5) .lenS [] none [.d (.str s_)] (.i (s_.length : Int)) [] (cut_lenS _) <| Rc 1 [vi (mnI (s_.length : Int) 255)] ?_
 obtain ⟨z_1, hz_1, h⟩ := bind_s h
 refine Rt (some 7) (.substr false true) [] none [.d (.str s_), .i (mnI (s_.length : Int) 255)] (.d (.str z_1)) [] (cut_strFT hz_1) <| Rc 1 [⟨.d (.str z_1), []⟩] <| Rk <| Sq <| Ro <| Rc 1 [⟨.d (.str z_1), []⟩] <| Rt (some 9) .lenS [] none [.d (.str z_1)] (.i (z_1.length : Int)) [] (cut_lenS _) <| Rc 3 [vy (IntKind.wrap .u8 (z_1.length : Int)), ⟨.ref [11] 0 0 (mY ([(IntKind.wrap .u8 (z_1.length : Int))] : List Int)).length 1, [([11], some (.arr (mY ([(IntKind.wrap .u8 (z_1.length : Int))] : List Int)) 0 false))]⟩, ⟨.d (.str z_1), []⟩] ?_
 obtain ⟨z_2, hz_2, h⟩ := bind_s h
 refine Rt (some 13) (.append 1 1 true) [] none [.ref [11] 0 0 (mY ([(IntKind.wrap .u8 (z_1.length : Int))] : List Int)).length 1, .d (.str z_1)] (.ref [11] 1 0 (mY z_2).length 1) [([11], some (.arr (mY z_2) 1 false))] (cut_appR (e := (D.int .u8)) (l := ([(IntKind.wrap .u8 (z_1.length : Int))] : List Int)) (fz := false) (ws := []) (ap_str _) (fun _ => rfl) hz_2 (by kernel_rfl) (by kernel_rfl) rfl) <| Rc 1 [⟨.ref [11] 1 0 (mY z_2).length 1, []⟩] <| Rk <| Sq <| Runs.gcons (frz_ref (e := (D.int .u8)) (l := z_2) (id := [11]) (v := 1) (n := 1) (fz := false) (by kernel_rfl) (by kernel_rfl) rfl) <| Runs.gnil <| kS_nrm <| Runs.ret ?_
 cases h
 exact Fq
theorem index_Name_L (s_ : (List UInt8)) (r : (List Int)) (h : index_Name s_ = some r) : L 48 [.d (.str s_)] = some (.d (.sl (mY r)), [.d (.str s_)]) := by
 obtain ⟨p, ⟨hne, hf⟩, hr⟩ := index_Name_ok s_ r h
 obtain ⟨k, hk⟩ := run_of (F := F48) (args := [.d (.str s_)]) (ap := [.d (.str s_)]) (bx0 := updW (fun _ => none) []) rfl rfl (by kernel_rfl) ⟨p, ⟨hne, hf⟩, hr⟩
 exact lim_run (k := k) rfl hk
def iter_Put_h16 (b_9 : (List Int)) (t27 : (List D)) (t28 : Int) (t29 : Int) (v_9 : Nat) : St := ⟨tab [(3, .ref [9] v_9 0 (mY b_9).length 1), (27, .d (.sl (List.map id t27))), (28, .i t28), (29, .i t29)], tabB [([9], some (.arr (mY b_9) v_9 false))]⟩
def iter_Put_h29 (b_9 : (List Int)) (v_9 : Nat) : St := ⟨tab [(3, .ref [9] v_9 0 (mY b_9).length 1)], tabB [([9], some (.arr (mY b_9) v_9 false))]⟩
def iter_Put_Q (b_ : Block) (r : (List Int)) (p : Out × St) : Prop := (∀ i, p.1 ≠ .exit i) ∧ finF F63 [.d (Block.d b_)] p.2 = some (.d (.sl (mY r)), [.d (Block.d b_)])
def iter_Put_P16 (b_ : Block) (t27 : (List D)) (t28 : Int) (e : (List Int)) (p : Out × St) : Prop := p.1 = .exit 0 ∧ ∃ g : Nat, Canon [] [3] [[9]] p.2 (iter_Put_h29 e g)
theorem iter_Put_l16_ok (self_ : Block → Option (List Int)) (hs_ : ∀ (b_ : Block) (r : (List Int)), self_ b_ = some r → L 63 [.d (Block.d b_)] = some (.d (.sl (mY r)), [.d (Block.d b_)])) (b_ : Block) (b_9 : (List Int)) (t27 : (List D)) (t28 : Int) (t29 : Int) (v_9 : Nat) (r : (Lp ((List Int) × Int) (List Int))) (h : iter_Put_l16 self_ b_9 t27 t28 t29 = some r) : Runs L F63l16 (iter_Put_h16 b_9 t27 t28 t29 v_9) (LQ [] [3, 27, 28, 29] [[9]] (fun (x : ((List Int) × Int)) (g : Nat) => iter_Put_h16 x.1 t27 t28 x.2 g) (iter_Put_P16 b_ t27 t28) r) := by
 unfold iter_Put_l16 at h
 refine Sq <| Ro <| Rc 1 [vb (decide (t29 < t28))] <| Rk <| Sq ?_
 cases hb_2 : ((decide (t29 < t28)) : Bool) with
 | true =>
  replace h := ite_t hb_2 h
  refine Ct <| Runs.skip <| kS_nrm <| Sq <| Runs.block <| Sq <| Ro ?_
  obtain ⟨z_3, hz_3, h⟩ := bind_s h
  obtain ⟨z_4, hz_4, h⟩ := bind_s h
  rw [ofD_eq hz_4] at hz_3
  refine Rt (some 31) (.iaddrS 3) [] none [.d (.sl (List.map id t27)), .i t29] (.elt (Block.d z_4) 0) [] (cut_at1 (e := id) hz_3 rfl) <| Rc 3 [⟨.d (Block.d z_4), []⟩, ⟨.ptr [5] 0 0, [([5], some (.cells [.i 0, .nils, .nils] 0))]⟩, ⟨.tup [], [([5], some (.cells [.i z_4.Times, .d (.sl (mY z_4.Bytes)), .d (.sl (List.map id z_4.Blocks))] 0))]⟩] <| Rk <| Ro <| Rc 2 [⟨.ref [9] v_9 0 (mY b_9).length 1, []⟩, ⟨.d (Block.d z_4), []⟩] ?_
  obtain ⟨r_4, hr_4, h⟩ := bind_s h
  have hc_4 := hs_ z_4 r_4 hr_4
  refine Rt (some 35) (.callf 63) [] none [.d (Block.d z_4)] (.d (.sl (mY r_4))) [] (cc hc_4) ?_
  obtain ⟨z_5, hz_5, h⟩ := bind_s h
  refine Rt (some 36) (.append 1 1 false) [] none [.ref [9] v_9 0 (mY b_9).length 1, .d (.sl (mY r_4))] (.ref [9] (v_9 + 1) 0 (mY z_5).length 1) [([9], some (.arr (mY z_5) (v_9 + 1) false))] (cut_appR (e := (D.int .u8)) (l := b_9) (fz := false) (ws := []) (ap_data _) (fun _ => rfl) hz_5 (by kernel_rfl) (by kernel_rfl) rfl) <| Rc 1 [⟨.ref [9] (v_9 + 1) 0 (mY z_5).length 1, []⟩] <| Rd <| kB_nrm <| kS_nrm <| Ro <| Rc 2 [vi (IntKind.wrap .i64 (t29 + 1)), vi (IntKind.wrap .i64 (t29 + 1))] <| Rd ?_
  obtain rfl := sj h
  exact ⟨rfl, (v_9 + 1), Cz⟩
 | false =>
  replace h := ite_f hb_2 h
  refine Cf <| Runs.exit <| kS_exit ?_
  obtain rfl := sj h
  exact ⟨nofun, rfl, v_9, Cz⟩
theorem iter_Put_ok (self_ : Block → Option (List Int)) (hs_ : ∀ (b_ : Block) (r : (List Int)), self_ b_ = some r → L 63 [.d (Block.d b_)] = some (.d (.sl (mY r)), [.d (Block.d b_)])) (b_ : Block) (r : (List Int)) (h : iter_Put_b self_ b_ = some r) : Runs L F63.body ⟨tmOf [.d (Block.d b_)] 0, updW (fun _ => none) []⟩ (iter_Put_Q b_ r) := by
 unfold iter_Put_b at h
 refine Sq <| Ro <| Rc 2 [⟨.ptr [1] 0 0, [([1], some (.cells [.i b_.Times, .d (.sl (mY b_.Bytes)), .d (.sl (List.map id b_.Blocks))] 0))]⟩, ⟨.nils, []⟩] <| Rk <| Sq <| Ro <| Rc 3 [vp [1] 0 0, vi b_.Times, vw (IntKind.wrap .u16 b_.Times)] ?_
 obtain ⟨r_1, hr_1, h⟩ := bind_s h
 have hc_1 := index_Two_L (IntKind.wrap .u16 b_.Times) r_1 hr_1
 refine Rt (some 9) (.callf 62) [] (some []) [.w (IntKind.wrap .u16 b_.Times)] (.ref [9] 0 0 (mY r_1).length 1) [([9], some (.arr (mY r_1) 0 false))] (cut_call (call_of (ws := []) (us := []) (by kernel_rfl) (gives_cons (ws := []) (give_same (by kernel_rfl)) gives_nil) hc_1 (by kernel_rfl) (by kernel_rfl))) <| Rc 2 [vp [1] 0 2, ⟨.d (.sl (List.map id b_.Blocks)), []⟩] <| Rt (some 12) .lenL [] none [.d (.sl (List.map id b_.Blocks))] (.i (b_.Blocks.length : Int)) [] (cut_len _) <| Rc 1 [vw (IntKind.wrap .u16 (b_.Blocks.length : Int))] ?_
 obtain ⟨r_2, hr_2, h⟩ := bind_s h
 have hc_2 := index_Two_L (IntKind.wrap .u16 (b_.Blocks.length : Int)) r_2 hr_2
 refine Rt (some 14) (.callf 62) [] none [.w (IntKind.wrap .u16 (b_.Blocks.length : Int))] (.ref [14] 0 0 (mY r_2).length 1) [([14], some (.arr (mY r_2) 0 false))] (cut_call (call_of (ws := []) (us := []) (by kernel_rfl) (gives_cons (ws := []) (give_same (by kernel_rfl)) gives_nil) hc_2 (by kernel_rfl) (by kernel_rfl))) ?_
 obtain ⟨z_1, hz_1, h⟩ := bind_s h
 refine Rt (some 15) (.append 1 1 false) [] none [.ref [9] 0 0 (mY r_1).length 1, .ref [14] 0 0 (mY r_2).length 1] (.ref [9] 1 0 (mY z_1).length 1) [([9], some (.arr (mY z_1) 1 false))] (cut_appR (e := (D.int .u8)) (l := r_1) (fz := false) (ws := []) (ap_ref (e := (D.int .u8)) (l := r_2) (fz := false) (by kernel_rfl) (by kernel_rfl) rfl) (fun _ => rfl) hz_1 (by kernel_rfl) (by kernel_rfl) rfl) <| Rc 1 [⟨.ref [9] 1 0 (mY z_1).length 1, []⟩] <| Rk <| Sq <| Sq <| Ro <| Rc 2 [vp [1] 0 2, ⟨.d (.sl (List.map id b_.Blocks)), []⟩] <| Rt (some 18) .lenL [] none [.d (.sl (List.map id b_.Blocks))] (.i (b_.Blocks.length : Int)) [] (cut_len _) <| Rc 1 [vb ((b_.Blocks.length : Int) == 0)] <| Rk ?_
 cases hb_1 : (((b_.Blocks.length : Int) == 0) : Bool) with
 | true =>
  replace h := ite_t hb_1 h
  refine Ct <| Sq <| Ro <| Rc 3 [⟨.ref [9] 1 0 (mY z_1).length 1, []⟩, vp [1] 0 1, ⟨.d (.sl (mY b_.Bytes)), []⟩] <| Rt (some 23) .bytesStr [] none [.d (.sl (mY b_.Bytes))] (.d (.str (b2s b_.Bytes))) [] (cut_bs _) ?_
  obtain ⟨r_3, hr_3, h⟩ := bind_s h
  have hc_3 := index_Name_L (b2s b_.Bytes) r_3 hr_3
  refine Rt (some 24) (.callf 48) [] none [.d (.str (b2s b_.Bytes))] (.d (.sl (mY r_3))) [] (cc hc_3) ?_
  obtain ⟨z_2, hz_2, h⟩ := bind_s h
  refine Rt (some 25) (.append 1 1 false) [] none [.ref [9] 1 0 (mY z_1).length 1, .d (.sl (mY r_3))] (.ref [9] 2 0 (mY z_2).length 1) [([9], some (.arr (mY z_2) 2 false))] (cut_appR (e := (D.int .u8)) (l := z_1) (fz := false) (ws := []) (ap_data _) (fun _ => rfl) hz_2 (by kernel_rfl) (by kernel_rfl) rfl) <| Rc 1 [⟨.ref [9] 2 0 (mY z_2).length 1, []⟩] <| Rk <| Sq <| Runs.gcons (frz_ref (e := (D.int .u8)) (l := z_2) (id := [9]) (v := 2) (n := 1) (fz := false) (by kernel_rfl) (by kernel_rfl) rfl) <| Runs.gnil <| kS_nrm <| Runs.ret <| kS_ret ?_
  cases h
  exact Fq
 | false =>
  replace h := ite_f hb_1 h
  refine Cf <| Runs.skip <| kS_nrm <| Sq <| Sq <| Ro <| Rc 2 [vp [1] 0 2, ⟨.d (.sl (List.map id b_.Blocks)), []⟩] <| Rt (some 28) .lenL [] none [.d (.sl (List.map id b_.Blocks))] (.i (b_.Blocks.length : Int)) [] (cut_len _) <| Rc 1 [vi 0] <| Rk <| Runs.block ?_
  obtain ⟨e_1, he_1, h⟩ := bind_s h
  refine Runs.loop (fun x : ((List Int) × Int) => iter_Put_l16 self_ x.1 b_.Blocks (b_.Blocks.length : Int) x.2) (fun (x : ((List Int) × Int)) (g : Nat) => iter_Put_h16 x.1 b_.Blocks (b_.Blocks.length : Int) x.2 g) (iter_Put_P16 b_ b_.Blocks (b_.Blocks.length : Int)) (fun x g r hr => iter_Put_l16_ok self_ hs_ b_ x.1 b_.Blocks (b_.Blocks.length : Int) x.2 g r hr) 1 he_1 Cz ?_
  rintro ⟨o, s⟩ hp
  obtain ⟨ho, g_1, hk_1⟩ := hp
  have ho' : o = .exit 0 := ho
  subst ho'
  refine kB_hit <| kS_nrm <| Runs.canon _ hk_1 <| Sq <| Ro <| Rc 2 [⟨.ref [9] g_1 0 (mY e_1).length 1, []⟩, ⟨.ref [9] g_1 0 (mY e_1).length 1, []⟩] <| Rk <| Sq <| Runs.gcons (frz_ref (e := (D.int .u8)) (l := e_1) (id := [9]) (v := g_1) (n := 1) (fz := false) (by kernel_rfl) (by kernel_rfl) rfl) <| Runs.gnil <| kS_nrm <| Runs.ret ?_
  cases h
  exact Fq
theorem iter_Put_L : ∀ (n_ : Nat) (b_ : Block) (r : (List Int)) (h : iter_Put n_ b_ = some r), L 63 [.d (Block.d b_)] = some (.d (.sl (mY r)), [.d (Block.d b_)])
 | 0, b_, r, h => by cases h
 | n_ + 1, b_, r, h => by
  have h : iter_Put_b (iter_Put n_) b_ = some r := h
  obtain ⟨p, ⟨hne, hf⟩, hr⟩ := iter_Put_ok (iter_Put n_) (fun b_ r h => iter_Put_L n_ b_ r h) b_ r h
  obtain ⟨k, hk⟩ := run_of (F := F63) (args := [.d (Block.d b_)]) (ap := [.d (Block.d b_)]) (bx0 := updW (fun _ => none) []) rfl rfl (by kernel_rfl) ⟨p, ⟨hne, hf⟩, hr⟩
  exact lim_run (k := k) rfl hk
def iter_Record_h8 (b_11 : (List Int)) (b_6_0 : Int) (t15 : (List D)) (t16 : Int) (t17 : Int) (v_11 : Nat) : St := ⟨tab [(6, .ptr [6] 0 0), (7, .ref [11] v_11 0 (mY b_11).length 1), (15, .d (.sl (List.map id t15))), (16, .i t16), (17, .i t17)], tabB [([6], some (.cells [.y b_6_0, .nils] 0)), ([11], some (.arr (mY b_11) v_11 false))]⟩
def iter_Record_h21 (b_11 : (List Int)) (b_6_0 : Int) (v_11 : Nat) : St := ⟨tab [(6, .ptr [6] 0 0), (7, .ref [11] v_11 0 (mY b_11).length 1)], tabB [([6], some (.cells [.y b_6_0, .nils] 0)), ([11], some (.arr (mY b_11) v_11 false))]⟩
def iter_Record_Q (seg_ : Int) (off_ : Int) (l_ : (List D)) (r : Record) (p : Out × St) : Prop := (∀ i, p.1 ≠ .exit i) ∧ finF F20 [.i seg_, .w off_, .d (.sl (List.map id l_))] p.2 = some (.d (Record.d r), [.i seg_, .w off_, .d (.sl (List.map id l_))])
def iter_Record_P8 (seg_ : Int) (off_ : Int) (l_ : (List D)) (b_6_0 : Int) (t15 : (List D)) (t16 : Int) (e : (List Int)) (p : Out × St) : Prop := p.1 = .exit 0 ∧ ∃ g : Nat, Canon [] [6, 7] [[6], [11]] p.2 (iter_Record_h21 e b_6_0 g)
theorem iter_Record_l8_ok (seg_ : Int) (off_ : Int) (l_ : (List D)) (b_11 : (List Int)) (b_6_0 : Int) (t15 : (List D)) (t16 : Int) (t17 : Int) (v_11 : Nat) (r : (Lp ((List Int) × Int) (List Int))) (h : iter_Record_l8 b_11 b_6_0 t15 t16 t17 = some r) : Runs L F20l8 (iter_Record_h8 b_11 b_6_0 t15 t16 t17 v_11) (LQ [] [6, 7, 15, 16, 17] [[6], [11]] (fun (x : ((List Int) × Int)) (g : Nat) => iter_Record_h8 x.1 b_6_0 t15 t16 x.2 g) (iter_Record_P8 seg_ off_ l_ b_6_0 t15 t16) r) := by
 unfold iter_Record_l8 at h
 refine Sq <| Ro <| Rc 1 [vb (decide (t17 < t16))] <| Rk <| Sq ?_
 cases hb_1 : ((decide (t17 < t16)) : Bool) with
 | true =>
  replace h := ite_t hb_1 h
  refine Ct <| Runs.skip <| kS_nrm <| Sq <| Runs.block <| Sq <| Ro ?_
  obtain ⟨z_2, hz_2, h⟩ := bind_s h
  obtain ⟨z_3, hz_3, h⟩ := bind_s h
  rw [ofD_eq hz_3] at hz_2
  refine Rt (some 19) (.iaddrS 3) [] none [.d (.sl (List.map id t15)), .i t17] (.elt (Block.d z_3) 0) [] (cut_at1 (e := id) hz_2 rfl) <| Rc 3 [⟨.d (Block.d z_3), []⟩, ⟨.ptr [9] 0 0, [([9], some (.cells [.i 0, .nils, .nils] 0))]⟩, ⟨.tup [], [([9], some (.cells [.i z_3.Times, .d (.sl (mY z_3.Bytes)), .d (.sl (List.map id z_3.Blocks))] 0))]⟩] <| Rk <| Ro <| Rc 2 [⟨.ref [11] v_11 0 (mY b_11).length 1, []⟩, ⟨.d (Block.d z_3), []⟩] ?_
  obtain ⟨r_3, hr_3, h⟩ := bind_s h
  have hc_3 := iter_Put_L 64 z_3 r_3 hr_3
  refine Rt (some 23) (.callf 63) [] none [.d (Block.d z_3)] (.d (.sl (mY r_3))) [] (cc hc_3) ?_
  obtain ⟨z_4, hz_4, h⟩ := bind_s h
  refine Rt (some 24) (.append 1 1 false) [] none [.ref [11] v_11 0 (mY b_11).length 1, .d (.sl (mY r_3))] (.ref [11] (v_11 + 1) 0 (mY z_4).length 1) [([11], some (.arr (mY z_4) (v_11 + 1) false))] (cut_appR (e := (D.int .u8)) (l := b_11) (fz := false) (ws := []) (ap_data _) (fun _ => rfl) hz_4 (by kernel_rfl) (by kernel_rfl) rfl) <| Rc 1 [⟨.ref [11] (v_11 + 1) 0 (mY z_4).length 1, []⟩] <| Rd <| kB_nrm <| kS_nrm <| Ro <| Rc 2 [vi (IntKind.wrap .i64 (t17 + 1)), vi (IntKind.wrap .i64 (t17 + 1))] <| Rd ?_
  obtain rfl := sj h
  exact ⟨rfl, (v_11 + 1), Cz⟩
 | false =>
  replace h := ite_f hb_1 h
  refine Cf <| Runs.exit <| kS_exit ?_
  obtain rfl := sj h
  exact ⟨nofun, rfl, v_11, Cz⟩
theorem iter_Record_ok (seg_ : Int) (off_ : Int) (l_ : (List D)) (r : Record) (h : iter_Record seg_ off_ l_ = some r) : Runs L F20.body ⟨tmOf [.i seg_, .w off_, .d (.sl (List.map id l_))] 0, updW (fun _ => none) []⟩ (iter_Record_Q seg_ off_ l_ r) := by
 unfold iter_Record at h
 refine Sq <| Ro <| Rc 1 [⟨.ptr [6] 0 0, [([6], some (.cells [.y 0, .nils] 0))]⟩] <| Rk <| Sq <| Ro <| Rc 1 [vi seg_] ?_
 obtain ⟨r_1, hr_1, h⟩ := bind_s h
 have hc_1 := index_Put_L seg_ r_1 hr_1
 refine Rt (some 11) (.callf 61) [] none [.i seg_] (.ref [11] 0 0 (mY r_1).length 1) [([11], some (.arr (mY r_1) 0 false))] (cut_call (call_of (ws := []) (us := []) (by kernel_rfl) (gives_cons (ws := []) (give_same (by kernel_rfl)) gives_nil) hc_1 (by kernel_rfl) (by kernel_rfl))) <| Rc 1 [vw off_] ?_
 obtain ⟨r_2, hr_2, h⟩ := bind_s h
 have hc_2 := index_Two_L off_ r_2 hr_2
 refine Rt (some 13) (.callf 62) [] none [.w off_] (.ref [13] 0 0 (mY r_2).length 1) [([13], some (.arr (mY r_2) 0 false))] (cut_call (call_of (ws := []) (us := []) (by kernel_rfl) (gives_cons (ws := []) (give_same (by kernel_rfl)) gives_nil) hc_2 (by kernel_rfl) (by kernel_rfl))) ?_
 obtain ⟨z_1, hz_1, h⟩ := bind_s h
 refine Rt (some 14) (.append 1 1 false) [] none [.ref [11] 0 0 (mY r_1).length 1, .ref [13] 0 0 (mY r_2).length 1] (.ref [11] 1 0 (mY z_1).length 1) [([11], some (.arr (mY z_1) 1 false))] (cut_appR (e := (D.int .u8)) (l := r_1) (fz := false) (ws := []) (ap_ref (e := (D.int .u8)) (l := r_2) (fz := false) (by kernel_rfl) (by kernel_rfl) rfl) (fun _ => rfl) hz_1 (by kernel_rfl) (by kernel_rfl) rfl) <| Rc 1 [⟨.ref [11] 1 0 (mY z_1).length 1, []⟩] <| Rk <| Sq <| Sq <| Ro <| Rc 1 [⟨.d (.sl (List.map id l_)), []⟩] <| Rt (some 16) .lenL [] none [.d (.sl (List.map id l_))] (.i (l_.length : Int)) [] (cut_len _) <| Rc 1 [vi 0] <| Rk <| Runs.block ?_
 obtain ⟨e_1, he_1, h⟩ := bind_s h
 refine Runs.loop (fun x : ((List Int) × Int) => iter_Record_l8 x.1 0 l_ (l_.length : Int) x.2) (fun (x : ((List Int) × Int)) (g : Nat) => iter_Record_h8 x.1 0 l_ (l_.length : Int) x.2 g) (iter_Record_P8 seg_ off_ l_ 0 l_ (l_.length : Int)) (fun x g r hr => iter_Record_l8_ok seg_ off_ l_ x.1 0 l_ (l_.length : Int) x.2 g r hr) 1 he_1 Cz ?_
 rintro ⟨o, s⟩ hp
 obtain ⟨ho, g_1, hk_1⟩ := hp
 have ho' : o = .exit 0 := ho
 subst ho'
 refine kB_hit <| kS_nrm <| Runs.canon _ hk_1 <| Sq <| Ro <| Rc 3 [⟨.ref [11] g_1 0 (mY e_1).length 1, []⟩, ⟨.mix [.y 162, .ref [11] g_1 0 (mY e_1).length 1], []⟩, ⟨.tup [], [([6], some (.cells [.y 162, .ref [11] g_1 0 (mY e_1).length 1] 0))]⟩] <| Rk <| Sq <| Runs.gcons (frzB_ref (e := (D.int .u8)) (l := e_1) (id := [6]) (id' := [11]) (v := g_1) (n := 1) (fz := false) (ver := 0) (cs := [.y 162, .ref [11] g_1 0 (mY e_1).length 1]) (cs' := [.y 162, .d (.sl (mY e_1))]) (by kernel_rfl) (by kernel_rfl) (by kernel_rfl) (by decide) (by kernel_rfl) rfl) <| Runs.gnil <| kS_nrm <| Runs.ret ?_
 cases h
 exact Fq
theorem iter_Record_L (seg_ : Int) (off_ : Int) (l_ : (List D)) (r : Record) (h : iter_Record seg_ off_ l_ = some r) : L 20 [.i seg_, .w off_, .d (.sl (List.map id l_))] = some (.d (Record.d r), [.i seg_, .w off_, .d (.sl (List.map id l_))]) := by
 obtain ⟨p, ⟨hne, hf⟩, hr⟩ := iter_Record_ok seg_ off_ l_ r h
 obtain ⟨k, hk⟩ := run_of (F := F20) (args := [.i seg_, .w off_, .d (.sl (List.map id l_))]) (ap := [.i seg_, .w off_, .d (.sl (List.map id l_))]) (bx0 := updW (fun _ => none) []) rfl rfl (by kernel_rfl) ⟨p, ⟨hne, hf⟩, hr⟩
 exact lim_run (k := k) rfl hk
def index_From_Q (b_ : (List Int)) (r : Source) (p : Out × St) : Prop := (∀ i, p.1 ≠ .exit i) ∧ finF F50 [.d (.sl (mY b_))] p.2 = some (.ptr [.d (.sl (mY r.b)), .i r.e], [.d (.sl (mY b_))])
theorem index_From_ok (b_ : (List Int)) (r : Source) (h : index_From b_ = some r) : Runs L F50.body ⟨tmOf [.d (.sl (mY b_))] 0, updW (fun _ => none) []⟩ (index_From_Q b_ r) := by
 unfold index_From at h
 refine Sq <| Ro <| Rc 1 [⟨.nilp, []⟩] <| Rk <| Sq <| Ro <| Rc 1 [⟨.d (.sl (mY b_)), []⟩] ?_
 obtain ⟨z_1, hz_1, h⟩ := bind_s h
 refine Rt (some 4) (.append 1 1 false) [] none [.nils, .d (.sl (mY b_))] (.ref [4] 0 0 (mY z_1).length 1) [([4], some (.arr (mY z_1) 0 false))] (cut_appN (e := (D.int .u8)) (ws := []) (ap_data _) (fun _ => rfl) hz_1 (by kernel_rfl)) <| Rc 3 [⟨.mix [.ref [4] 0 0 (mY z_1).length 1, .i 0], []⟩, ⟨.ptr [6] 0 0, [([6], some (.cells [.ref [4] 0 0 (mY z_1).length 1, .i 0] 0))]⟩, vp [6] 0 0] <| Rk <| Sq <| Runs.gcons (frzB_ref (e := (D.int .u8)) (l := z_1) (id := [6]) (id' := [4]) (v := 0) (n := 1) (fz := false) (ver := 0) (cs := [.ref [4] 0 0 (mY z_1).length 1, .i 0]) (cs' := [.d (.sl (mY z_1)), .i 0]) (by kernel_rfl) (by kernel_rfl) (by kernel_rfl) (by decide) (by kernel_rfl) rfl) <| Runs.gnil <| kS_nrm <| Runs.ret ?_
 cases h
 exact Fq
theorem index_From_L (b_ : (List Int)) (r : Source) (h : index_From b_ = some r) : L 50 [.d (.sl (mY b_))] = some (.ptr [.d (.sl (mY r.b)), .i r.e], [.d (.sl (mY b_))]) := by
 obtain ⟨p, ⟨hne, hf⟩, hr⟩ := index_From_ok b_ r h
 obtain ⟨k, hk⟩ := run_of (F := F50) (args := [.d (.sl (mY b_))]) (ap := [.d (.sl (mY b_))]) (bx0 := updW (fun _ => none) []) rfl rfl (by kernel_rfl) ⟨p, ⟨hne, hf⟩, hr⟩
 exact lim_run (k := k) rfl hk
def index_Source_Wrong_Q (s_ : Source) (e_ : Int) (r : Source) (p : Out × St) : Prop := (∀ i, p.1 ≠ .exit i) ∧ finF F56 [.ptr [0] 0 0, .i e_] p.2 = some (.tup [], [.ptr [.d (.sl (mY r.b)), .i r.e], .i e_])
theorem index_Source_Wrong_ok (s_ : Source) (e_ : Int) (r : Source) (h : index_Source_Wrong s_ e_ = some r) : Runs L F56.body ⟨tmOf [.ptr [0] 0 0, .i e_] 0, updW (fun _ => none) [([0], some (.cells [.d (.sl (mY s_.b)), .i s_.e] 0))]⟩ (index_Source_Wrong_Q s_ e_ r) := by
 unfold index_Source_Wrong at h
 refine Sq <| Sq <| Ro <| Rc 10 [vp [0] 0 0, vb true, vb true, vp [0] 0 0, vp [0] 0 0, vp [0] 0 1, vi s_.e, vb (s_.e == 0), vb (s_.e == 0), vb (s_.e == 0)] ?_
 cases hb_1 : ((s_.e == 0) : Bool) with
 | true =>
  replace h := ite_t hb_1 h
  refine Rc 3 [vi e_, vb (e_ != 0), vb (e_ != 0)] <| Rk ?_
  cases hb_2 : ((e_ != 0) : Bool) with
  | true =>
   replace h := ite_t hb_2 h
   refine Ct <| Ro <| Rc 9 [vp [0] 0 0, vp [0] 0 0, vi e_, vp [0] 0 0, vp [0] 0 1, ⟨.tup [], [([0], some (.cells [.d (.sl (mY s_.b)), .i e_] 0))]⟩, vp [0] 0 0, vp [0] 0 0, ⟨.tup [], [([0], some (.cells [.nils, .i e_] 0))]⟩] <| Rk <| Runs.gcons (frzB_nil (ver := 0) (cs := [.nils, .i e_]) (cs' := [.d (.sl (mY ([] : List Int))), .i e_]) (D.int .u8) (by kernel_rfl) (by kernel_rfl) (by kernel_rfl)) <| Runs.gnil ?_
   obtain rfl := sj h
   exact ⟨Out.nrm_ne, (by kernel_rfl)⟩
  | false =>
   replace h := ite_f hb_2 h
   refine Cf <| Runs.skip <| kS_nrm <| Runs.gsame (by kernel_rfl) <| Runs.gnil ?_
   obtain rfl := sj h
   exact ⟨Out.nrm_ne, (by kernel_rfl)⟩
 | false =>
  replace h := ite_f hb_1 h
  refine Rc 3 [vn, vn, vb false] <| Rk <| Cf <| Runs.skip <| kS_nrm <| Runs.gsame (by kernel_rfl) <| Runs.gnil ?_
  obtain rfl := sj h
  exact ⟨Out.nrm_ne, (by kernel_rfl)⟩
theorem index_Source_Wrong_L (s_ : Source) (e_ : Int) (r : Source) (h : index_Source_Wrong s_ e_ = some r) : L 56 [.ptr [.d (.sl (mY s_.b)), .i s_.e], .i e_] = some (.tup [], [.ptr [.d (.sl (mY r.b)), .i r.e], .i e_]) := by
 obtain ⟨p, ⟨hne, hf⟩, hr⟩ := index_Source_Wrong_ok s_ e_ r h
 obtain ⟨k, hk⟩ := run_of (F := F56) (args := [.ptr [.d (.sl (mY s_.b)), .i s_.e], .i e_]) (ap := [.ptr [0] 0 0, .i e_]) (bx0 := updW (fun _ => none) [([0], some (.cells [.d (.sl (mY s_.b)), .i s_.e] 0))]) rfl rfl (by kernel_rfl) ⟨p, ⟨hne, hf⟩, hr⟩
 exact lim_run (k := k) rfl hk
def index_Source_Take_Q (s_ : Source) (n_ : Int) (r : ((List Int) × Source)) (p : Out × St) : Prop := (∀ i, p.1 ≠ .exit i) ∧ finF F99 [.ptr [0] 0 0, .i n_] p.2 = some (.d (.sl (mY r.1)), [.ptr [.d (.sl (mY r.2.b)), .i r.2.e], .i n_])
theorem index_Source_Take_ok (s_ : Source) (n_ : Int) (r : ((List Int) × Source)) (h : index_Source_Take s_ n_ = some r) : Runs L F99.body ⟨tmOf [.ptr [0] 0 0, .i n_] 0, updW (fun _ => none) [([0], some (.cells [.d (.sl (mY s_.b)), .i s_.e] 0))]⟩ (index_Source_Take_Q s_ n_ r) := by
 unfold index_Source_Take at h
 refine Sq <| Ro <| Rc 1 [⟨.nils, []⟩] <| Rk <| Sq <| Sq <| Ro <| Rc 2 [vp [0] 0 0, vb false] <| Rk <| Cf <| Runs.skip <| kS_nrm <| Sq <| Sq <| Ro <| Rc 3 [vi n_, vb (decide (n_ < 0)), vb (decide (n_ < 0))] ?_
 cases hb_1 : ((decide (n_ < 0)) : Bool) with
 | true =>
  replace h := ite_t hb_1 h
  refine Rc 8 [vn, vn, vn, vn, vn, vn, vn, vb true] <| Rk <| Ct <| Sq <| Ro <| Rc 1 [vp [0] 0 0] ?_
  obtain ⟨r_1, hr_1, h⟩ := bind_s h
  have hc_1 := index_Source_Wrong_L s_ 2 r_1 hr_1
  refine Rt (some 20) (.callf 56) [] none [.ptr [0] 0 0, .i 2] (.tup []) [([0], some (.cells [.d (.sl (mY r_1.b)), .i r_1.e] 0))] (cut_call (call_of (ws := []) (us := [([0], some (.cells [.d (.sl (mY r_1.b)), .i r_1.e] 0))]) (by kernel_rfl) (by kernel_rfl) hc_1 (by kernel_rfl) (by kernel_rfl))) <| Rk <| Sq <| Ro <| Rc 1 [⟨.nils, []⟩] <| Rk <| Sq <| Runs.gcons (frz_nil (D.int .u8) (by kernel_rfl)) <| Runs.gnil <| kS_nrm <| Runs.ret <| kS_ret ?_
  cases h
  exact Fq
 | false =>
  replace h := ite_f hb_1 h
  refine Rc 5 [vi n_, vp [0] 0 0, vp [0] 0 0, vp [0] 0 0, ⟨.d (.sl (mY s_.b)), []⟩] <| Rt (some 16) .lenL [] none [.d (.sl (mY s_.b))] (.i (s_.b.length : Int)) [] (cut_len _) <| Rc 2 [vb (decide (n_ > (s_.b.length : Int))), vb (decide (n_ > (s_.b.length : Int)))] <| Rk ?_
  cases hb_2 : ((decide (n_ > (s_.b.length : Int))) : Bool) with
  | true =>
   replace h := ite_t hb_2 h
   refine Ct <| Sq <| Ro <| Rc 1 [vp [0] 0 0] ?_
   obtain ⟨r_2, hr_2, h⟩ := bind_s h
   have hc_2 := index_Source_Wrong_L s_ 2 r_2 hr_2
   refine Rt (some 20) (.callf 56) [] none [.ptr [0] 0 0, .i 2] (.tup []) [([0], some (.cells [.d (.sl (mY r_2.b)), .i r_2.e] 0))] (cut_call (call_of (ws := []) (us := [([0], some (.cells [.d (.sl (mY r_2.b)), .i r_2.e] 0))]) (by kernel_rfl) (by kernel_rfl) hc_2 (by kernel_rfl) (by kernel_rfl))) <| Rk <| Sq <| Ro <| Rc 1 [⟨.nils, []⟩] <| Rk <| Sq <| Runs.gcons (frz_nil (D.int .u8) (by kernel_rfl)) <| Runs.gnil <| kS_nrm <| Runs.ret <| kS_ret ?_
   cases h
   exact Fq
  | false =>
   replace h := ite_f hb_2 h
   refine Cf <| Runs.skip <| kS_nrm <| Sq <| Ro <| Rc 6 [vp [0] 0 0, vp [0] 0 0, vp [0] 0 0, ⟨.d (.sl (mY s_.b)), []⟩, vi n_, vi n_] ?_
   obtain ⟨z_1, hz_1, h⟩ := bind_s h
   refine Rt (some 27) (.subsl 1 false true true) [] none [.d (.sl (mY s_.b)), .i n_, .i n_] (.d (.sl (mY z_1))) [] (cut_slFTT hz_1 (fun _ => rfl)) <| Rc 1 [⟨.d (.sl (mY z_1)), []⟩] <| Rk <| Sq <| Ro <| Rc 6 [vp [0] 0 0, vp [0] 0 0, vp [0] 0 0, vp [0] 0 0, ⟨.d (.sl (mY s_.b)), []⟩, vi n_] ?_
   obtain ⟨z_2, hz_2, h⟩ := bind_s h
   refine Rt (some 34) (.subsl 1 true false false) [] none [.d (.sl (mY s_.b)), .i n_] (.d (.sl (mY z_2))) [] (cut_slTF hz_2 (fun _ => rfl)) <| Rc 3 [vp [0] 0 0, vp [0] 0 0, ⟨.tup [], [([0], some (.cells [.d (.sl (mY z_2)), .i s_.e] 0))]⟩] <| Rk <| Sq <| Ro <| Rc 2 [⟨.d (.sl (mY z_1)), []⟩, ⟨.d (.sl (mY z_1)), []⟩] <| Rk <| Runs.ret ?_
   cases h
   exact Fq
theorem index_Source_Take_L (s_ : Source) (n_ : Int) (r : ((List Int) × Source)) (h : index_Source_Take s_ n_ = some r) : L 99 [.ptr [.d (.sl (mY s_.b)), .i s_.e], .i n_] = some (.d (.sl (mY r.1)), [.ptr [.d (.sl (mY r.2.b)), .i r.2.e], .i n_]) := by
 obtain ⟨p, ⟨hne, hf⟩, hr⟩ := index_Source_Take_ok s_ n_ r h
 obtain ⟨k, hk⟩ := run_of (F := F99) (args := [.ptr [.d (.sl (mY s_.b)), .i s_.e], .i n_]) (ap := [.ptr [0] 0 0, .i n_]) (bx0 := updW (fun _ => none) [([0], some (.cells [.d (.sl (mY s_.b)), .i s_.e] 0))]) rfl rfl (by kernel_rfl) ⟨p, ⟨hne, hf⟩, hr⟩
 exact lim_run (k := k) rfl hk
def index_Source_Byte_Q (s_ : Source) (r : (Int × Source)) (p : Out × St) : Prop := (∀ i, p.1 ≠ .exit i) ∧ finF F54 [.ptr [0] 0 0] p.2 = some (.y r.1, [.ptr [.d (.sl (mY r.2.b)), .i r.2.e]])
theorem index_Source_Byte_ok (s_ : Source) (r : (Int × Source)) (h : index_Source_Byte s_ = some r) : Runs L F54.body ⟨tmOf [.ptr [0] 0 0] 0, updW (fun _ => none) [([0], some (.cells [.d (.sl (mY s_.b)), .i s_.e] 0))]⟩ (index_Source_Byte_Q s_ r) := by
 unfold index_Source_Byte at h
 refine Sq <| Ro <| Rc 1 [vy 0] <| Rk <| Sq <| Sq <| Ro <| Rc 1 [vp [0] 0 0] ?_
 obtain ⟨r_1, hr_1, h⟩ := bind_s h
 have hc_1 := index_Source_Take_L s_ 1 r_1 hr_1
 refine Rt (some 5) (.callf 99) [] none [.ptr [0] 0 0, .i 1] (.d (.sl (mY r_1.1))) [([0], some (.cells [.d (.sl (mY r_1.2.b)), .i r_1.2.e] 0))] (cut_call (call_of (ws := []) (us := [([0], some (.cells [.d (.sl (mY r_1.2.b)), .i r_1.2.e] 0))]) (by kernel_rfl) (by kernel_rfl) hc_1 (by kernel_rfl) (by kernel_rfl))) <| Rc 1 [⟨.d (.sl (mY r_1.1)), []⟩] <| Rk <| Sq <| Ro <| Rc 1 [⟨.d (.sl (mY r_1.1)), []⟩] <| Rt (some 7) .lenL [] none [.d (.sl (mY r_1.1))] (.i (r_1.1.length : Int)) [] (cut_len _) <| Rc 1 [vb ((r_1.1.length : Int) == 1)] <| Rk ?_
 cases hb_1 : (((r_1.1.length : Int) == 1) : Bool) with
 | true =>
  replace h := ite_t hb_1 h
  refine Ct <| Sq <| Ro <| Rc 1 [⟨.d (.sl (mY r_1.1)), []⟩] ?_
  obtain ⟨z_1, hz_1, h⟩ := bind_s h
  refine Rt (some 10) (.iaddrS 1) [] none [.d (.sl (mY r_1.1)), .i 0] (.elt (.int .u8 z_1) 0) [] (cut_at hz_1 (fun _ => rfl)) <| Rc 2 [vy z_1, vy z_1] <| Rk <| Runs.ret <| kS_ret ?_
  cases h
  exact Fq
 | false =>
  replace h := ite_f hb_1 h
  refine Cf <| Runs.skip <| kS_nrm <| Sq <| Ro <| Rc 1 [vy 0] <| Rk <| Runs.ret ?_
  cases h
  exact Fq
theorem index_Source_Byte_L (s_ : Source) (r : (Int × Source)) (h : index_Source_Byte s_ = some r) : L 54 [.ptr [.d (.sl (mY s_.b)), .i s_.e]] = some (.y r.1, [.ptr [.d (.sl (mY r.2.b)), .i r.2.e]]) := by
 obtain ⟨p, ⟨hne, hf⟩, hr⟩ := index_Source_Byte_ok s_ r h
 obtain ⟨k, hk⟩ := run_of (F := F54) (args := [.ptr [.d (.sl (mY s_.b)), .i s_.e]]) (ap := [.ptr [0] 0 0]) (bx0 := updW (fun _ => none) [([0], some (.cells [.d (.sl (mY s_.b)), .i s_.e] 0))]) rfl rfl (by kernel_rfl) ⟨p, ⟨hne, hf⟩, hr⟩
 exact lim_run (k := k) rfl hk
def index_Source_Err_Q (s_ : Source) (r : Int) (p : Out × St) : Prop := (∀ i, p.1 ≠ .exit i) ∧ finF F57 [.ptr [0] 0 0] p.2 = some (.i r, [.ptr [.d (.sl (mY s_.b)), .i s_.e]])
theorem index_Source_Err_ok (s_ : Source) (r : Int) (h : index_Source_Err s_ = some r) : Runs L F57.body ⟨tmOf [.ptr [0] 0 0] 0, updW (fun _ => none) [([0], some (.cells [.d (.sl (mY s_.b)), .i s_.e] 0))]⟩ (index_Source_Err_Q s_ r) := by
 unfold index_Source_Err at h
 refine Sq <| Ro <| Rc 1 [vi 0] <| Rk <| Sq <| Sq <| Ro <| Rc 2 [vp [0] 0 0, vb false] <| Rk <| Cf <| Runs.skip <| kS_nrm <| Sq <| Ro <| Rc 5 [vp [0] 0 0, vp [0] 0 0, vp [0] 0 1, vi s_.e, vi s_.e] <| Rk <| Runs.ret ?_
 cases h
 exact Fq
theorem index_Source_Err_L (s_ : Source) (r : Int) (h : index_Source_Err s_ = some r) : L 57 [.ptr [.d (.sl (mY s_.b)), .i s_.e]] = some (.i r, [.ptr [.d (.sl (mY s_.b)), .i s_.e]]) := by
 obtain ⟨p, ⟨hne, hf⟩, hr⟩ := index_Source_Err_ok s_ r h
 obtain ⟨k, hk⟩ := run_of (F := F57) (args := [.ptr [.d (.sl (mY s_.b)), .i s_.e]]) (ap := [.ptr [0] 0 0]) (bx0 := updW (fun _ => none) [([0], some (.cells [.d (.sl (mY s_.b)), .i s_.e] 0))]) rfl rfl (by kernel_rfl) ⟨p, ⟨hne, hf⟩, hr⟩
 exact lim_run (k := k) rfl hk
def index_Source_Index_Q (s_ : Source) (r : (Int × Source)) (p : Out × St) : Prop := (∀ i, p.1 ≠ .exit i) ∧ finF F53 [.ptr [0] 0 0] p.2 = some (.i r.1, [.ptr [.d (.sl (mY r.2.b)), .i r.2.e]])
theorem index_Source_Index_ok (s_ : Source) (r : (Int × Source)) (h : index_Source_Index s_ = some r) : Runs L F53.body ⟨tmOf [.ptr [0] 0 0] 0, updW (fun _ => none) [([0], some (.cells [.d (.sl (mY s_.b)), .i s_.e] 0))]⟩ (index_Source_Index_Q s_ r) := by
 unfold index_Source_Index at h
 refine Sq <| Ro <| Rc 1 [vi 0] <| Rk <| Sq <| Ro <| Rc 1 [vp [0] 0 0] ?_
 obtain ⟨r_1, hr_1, h⟩ := bind_s h
 have hc_1 := index_Source_Byte_L s_ r_1 hr_1
 refine Rt (some 6) (.callf 54) [] none [.ptr [0] 0 0] (.y r_1.1) [([0], some (.cells [.d (.sl (mY r_1.2.b)), .i r_1.2.e] 0))] (cut_call (call_of (ws := []) (us := [([0], some (.cells [.d (.sl (mY r_1.2.b)), .i r_1.2.e] 0))]) (by kernel_rfl) (by kernel_rfl) hc_1 (by kernel_rfl) (by kernel_rfl))) <| Rc 2 [vi (IntKind.wrap .i64 r_1.1), vi (IntKind.wrap .i64 r_1.1)] <| Rk <| Sq <| Sq <| Ro <| Rc 2 [vi (IntKind.wrap .i64 r_1.1), vb (decide ((IntKind.wrap .i64 r_1.1) < 128))] <| Rk ?_
 cases hb_1 : ((decide ((IntKind.wrap .i64 r_1.1) < 128)) : Bool) with
 | true =>
  replace h := ite_t hb_1 h
  refine Ct <| Sq <| Ro <| Rc 2 [vi (IntKind.wrap .i64 r_1.1), vi (IntKind.wrap .i64 r_1.1)] <| Rk <| Runs.ret <| kS_ret ?_
  cases h
  exact Fq
 | false =>
  replace h := ite_f hb_1 h
  refine Cf <| Runs.skip <| kS_nrm <| Sq <| Ro <| Rc 4 [vi (IntKind.wrap .i64 r_1.1), vi (bitsOp .and .i64 (IntKind.wrap .i64 r_1.1) 127), vi (shlI .i64 (bitsOp .and .i64 (IntKind.wrap .i64 r_1.1) 127) 8), vp [0] 0 0] ?_
  obtain ⟨r_2, hr_2, h⟩ := bind_s h
  have hc_2 := index_Source_Byte_L r_1.2 r_2 hr_2
  refine Rt (some 15) (.callf 54) [] none [.ptr [0] 0 0] (.y r_2.1) [([0], some (.cells [.d (.sl (mY r_2.2.b)), .i r_2.2.e] 0))] (cut_call (call_of (ws := []) (us := [([0], some (.cells [.d (.sl (mY r_2.2.b)), .i r_2.2.e] 0))]) (by kernel_rfl) (by kernel_rfl) hc_2 (by kernel_rfl) (by kernel_rfl))) <| Rc 3 [vi (IntKind.wrap .i64 r_2.1), vi (bitsOp .or .i64 (shlI .i64 (bitsOp .and .i64 (IntKind.wrap .i64 r_1.1) 127) 8) (IntKind.wrap .i64 r_2.1)), vi (bitsOp .or .i64 (shlI .i64 (bitsOp .and .i64 (IntKind.wrap .i64 r_1.1) 127) 8) (IntKind.wrap .i64 r_2.1))] <| Rk <| Sq <| Sq <| Ro <| Rc 1 [vp [0] 0 0] ?_
  obtain ⟨r_3, hr_3, h⟩ := bind_s h
  have hc_3 := index_Source_Err_L r_2.2 r_3 hr_3
  refine Rt (some 19) (.callf 57) [] none [.ptr [0] 0 0] (.i r_3) [([0], some (.cells [.d (.sl (mY r_2.2.b)), .i r_2.2.e] 0))] (cut_call (call_of (ws := []) (us := [([0], some (.cells [.d (.sl (mY r_2.2.b)), .i r_2.2.e] 0))]) (by kernel_rfl) (by kernel_rfl) hc_3 (by kernel_rfl) (by kernel_rfl))) <| Rc 1 [vb (r_3 != 0)] <| Rk ?_
  cases hb_2 : ((r_3 != 0) : Bool) with
  | true =>
   replace h := ite_t hb_2 h
   refine Ct <| Sq <| Ro <| Rc 1 [vi 0] <| Rk <| Runs.ret <| kS_ret ?_
   cases h
   exact Fq
  | false =>
   replace h := ite_f hb_2 h
   refine Cf <| Runs.skip <| kS_nrm <| Sq <| Ro <| Rc 2 [vi (bitsOp .or .i64 (shlI .i64 (bitsOp .and .i64 (IntKind.wrap .i64 r_1.1) 127) 8) (IntKind.wrap .i64 r_2.1)), vi (bitsOp .or .i64 (shlI .i64 (bitsOp .and .i64 (IntKind.wrap .i64 r_1.1) 127) 8) (IntKind.wrap .i64 r_2.1))] <| Rk <| Runs.ret ?_
   cases h
   exact Fq
theorem index_Source_Index_L (s_ : Source) (r : (Int × Source)) (h : index_Source_Index s_ = some r) : L 53 [.ptr [.d (.sl (mY s_.b)), .i s_.e]] = some (.i r.1, [.ptr [.d (.sl (mY r.2.b)), .i r.2.e]]) := by
 obtain ⟨p, ⟨hne, hf⟩, hr⟩ := index_Source_Index_ok s_ r h
 obtain ⟨k, hk⟩ := run_of (F := F53) (args := [.ptr [.d (.sl (mY s_.b)), .i s_.e]]) (ap := [.ptr [0] 0 0]) (bx0 := updW (fun _ => none) [([0], some (.cells [.d (.sl (mY s_.b)), .i s_.e] 0))]) rfl rfl (by kernel_rfl) ⟨p, ⟨hne, hf⟩, hr⟩
 exact lim_run (k := k) rfl hk
def bits_Word_Q (low_ : Int) (high_ : Int) (r : Int) (p : Out × St) : Prop := (∀ i, p.1 ≠ .exit i) ∧ finF F102 [.y low_, .y high_] p.2 = some (.w r, [.y low_, .y high_])
theorem bits_Word_ok (low_ : Int) (high_ : Int) (r : Int) (h : bits_Word low_ high_ = some r) : Runs L F102.body ⟨tmOf [.y low_, .y high_] 0, updW (fun _ => none) []⟩ (bits_Word_Q low_ high_ r) := by
 unfold bits_Word at h
 refine Sq <| Ro <| Rc 1 [vw 0] <| Rk <| Sq <| Ro <| Rc 7 [vy low_, vw (IntKind.wrap .u16 low_), vy high_, vw (IntKind.wrap .u16 high_), vw (shlI .u16 (IntKind.wrap .u16 high_) 8), vw (bitsOp .or .u16 (IntKind.wrap .u16 low_) (shlI .u16 (IntKind.wrap .u16 high_) 8)), vw (bitsOp .or .u16 (IntKind.wrap .u16 low_) (shlI .u16 (IntKind.wrap .u16 high_) 8))] <| Rk <| Runs.ret ?_
 cases h
 exact Fq
theorem bits_Word_L (low_ : Int) (high_ : Int) (r : Int) (h : bits_Word low_ high_ = some r) : L 102 [.y low_, .y high_] = some (.w r, [.y low_, .y high_]) := by
 obtain ⟨p, ⟨hne, hf⟩, hr⟩ := bits_Word_ok low_ high_ r h
 obtain ⟨k, hk⟩ := run_of (F := F102) (args := [.y low_, .y high_]) (ap := [.y low_, .y high_]) (bx0 := updW (fun _ => none) []) rfl rfl (by kernel_rfl) ⟨p, ⟨hne, hf⟩, hr⟩
 exact lim_run (k := k) rfl hk
def index_Source_Word_Q (s_ : Source) (r : (Int × Source)) (p : Out × St) : Prop := (∀ i, p.1 ≠ .exit i) ∧ finF F64 [.ptr [0] 0 0] p.2 = some (.w r.1, [.ptr [.d (.sl (mY r.2.b)), .i r.2.e]])
theorem index_Source_Word_ok (s_ : Source) (r : (Int × Source)) (h : index_Source_Word s_ = some r) : Runs L F64.body ⟨tmOf [.ptr [0] 0 0] 0, updW (fun _ => none) [([0], some (.cells [.d (.sl (mY s_.b)), .i s_.e] 0))]⟩ (index_Source_Word_Q s_ r) := by
 unfold index_Source_Word at h
 refine Sq <| Ro <| Rc 1 [vw 0] <| Rk <| Sq <| Sq <| Ro <| Rc 1 [vp [0] 0 0] ?_
 obtain ⟨r_1, hr_1, h⟩ := bind_s h
 have hc_1 := index_Source_Take_L s_ 2 r_1 hr_1
 refine Rt (some 5) (.callf 99) [] none [.ptr [0] 0 0, .i 2] (.d (.sl (mY r_1.1))) [([0], some (.cells [.d (.sl (mY r_1.2.b)), .i r_1.2.e] 0))] (cut_call (call_of (ws := []) (us := [([0], some (.cells [.d (.sl (mY r_1.2.b)), .i r_1.2.e] 0))]) (by kernel_rfl) (by kernel_rfl) hc_1 (by kernel_rfl) (by kernel_rfl))) <| Rc 1 [⟨.d (.sl (mY r_1.1)), []⟩] <| Rk <| Sq <| Ro <| Rc 1 [⟨.d (.sl (mY r_1.1)), []⟩] <| Rt (some 7) .lenL [] none [.d (.sl (mY r_1.1))] (.i (r_1.1.length : Int)) [] (cut_len _) <| Rc 1 [vb ((r_1.1.length : Int) == 2)] <| Rk ?_
 cases hb_1 : (((r_1.1.length : Int) == 2) : Bool) with
 | true =>
  replace h := ite_t hb_1 h
  refine Ct <| Sq <| Ro <| Rc 1 [⟨.d (.sl (mY r_1.1)), []⟩] ?_
  obtain ⟨z_1, hz_1, h⟩ := bind_s h
  refine Rt (some 10) (.iaddrS 1) [] none [.d (.sl (mY r_1.1)), .i 0] (.elt (.int .u8 z_1) 0) [] (cut_at hz_1 (fun _ => rfl)) <| Rc 2 [vy z_1, ⟨.d (.sl (mY r_1.1)), []⟩] ?_
  obtain ⟨z_2, hz_2, h⟩ := bind_s h
  refine Rt (some 13) (.iaddrS 1) [] none [.d (.sl (mY r_1.1)), .i 1] (.elt (.int .u8 z_2) 0) [] (cut_at hz_2 (fun _ => rfl)) <| Rc 1 [vy z_2] ?_
  obtain ⟨r_2, hr_2, h⟩ := bind_s h
  have hc_2 := bits_Word_L z_1 z_2 r_2 hr_2
  refine Rt (some 15) (.callf 102) [] none [.y z_1, .y z_2] (.w r_2) [] (cc hc_2) <| Rc 1 [vw r_2] <| Rk <| Runs.ret <| kS_ret ?_
  cases h
  exact Fq
 | false =>
  replace h := ite_f hb_1 h
  refine Cf <| Runs.skip <| kS_nrm <| Sq <| Ro <| Rc 1 [vw 0] <| Rk <| Runs.ret ?_
  cases h
  exact Fq
theorem index_Source_Word_L (s_ : Source) (r : (Int × Source)) (h : index_Source_Word s_ = some r) : L 64 [.ptr [.d (.sl (mY s_.b)), .i s_.e]] = some (.w r.1, [.ptr [.d (.sl (mY r.2.b)), .i r.2.e]]) := by
 obtain ⟨p, ⟨hne, hf⟩, hr⟩ := index_Source_Word_ok s_ r h
 obtain ⟨k, hk⟩ := run_of (F := F64) (args := [.ptr [.d (.sl (mY s_.b)), .i s_.e]]) (ap := [.ptr [0] 0 0]) (bx0 := updW (fun _ => none) [([0], some (.cells [.d (.sl (mY s_.b)), .i s_.e] 0))]) rfl rfl (by kernel_rfl) ⟨p, ⟨hne, hf⟩, hr⟩
 exact lim_run (k := k) rfl hk
def index_Source_Left_Q (s_ : Source) (r : Int) (p : Out × St) : Prop := (∀ i, p.1 ≠ .exit i) ∧ finF F51 [.ptr [0] 0 0] p.2 = some (.i r, [.ptr [.d (.sl (mY s_.b)), .i s_.e]])
theorem index_Source_Left_ok (s_ : Source) (r : Int) (h : index_Source_Left s_ = some r) : Runs L F51.body ⟨tmOf [.ptr [0] 0 0] 0, updW (fun _ => none) [([0], some (.cells [.d (.sl (mY s_.b)), .i s_.e] 0))]⟩ (index_Source_Left_Q s_ r) := by
 unfold index_Source_Left at h
 refine Sq <| Ro <| Rc 1 [vi 0] <| Rk <| Sq <| Sq <| Ro <| Rc 2 [vp [0] 0 0, vb false] <| Rk <| Cf <| Runs.skip <| kS_nrm <| Sq <| Ro <| Rc 4 [vp [0] 0 0, vp [0] 0 0, vp [0] 0 0, ⟨.d (.sl (mY s_.b)), []⟩] <| Rt (some 9) .lenL [] none [.d (.sl (mY s_.b))] (.i (s_.b.length : Int)) [] (cut_len _) <| Rc 1 [vi (s_.b.length : Int)] <| Rk <| Runs.ret ?_
 cases h
 exact Fq
theorem index_Source_Left_L (s_ : Source) (r : Int) (h : index_Source_Left s_ = some r) : L 51 [.ptr [.d (.sl (mY s_.b)), .i s_.e]] = some (.i r, [.ptr [.d (.sl (mY s_.b)), .i s_.e]]) := by
 obtain ⟨p, ⟨hne, hf⟩, hr⟩ := index_Source_Left_ok s_ r h
 obtain ⟨k, hk⟩ := run_of (F := F51) (args := [.ptr [.d (.sl (mY s_.b)), .i s_.e]]) (ap := [.ptr [0] 0 0]) (bx0 := updW (fun _ => none) [([0], some (.cells [.d (.sl (mY s_.b)), .i s_.e] 0))]) rfl rfl (by kernel_rfl) ⟨p, ⟨hne, hf⟩, hr⟩
 exact lim_run (k := k) rfl hk
def index_Source_Name_Q (s_ : Source) (r : ((List UInt8) × Source)) (p : Out × St) : Prop := (∀ i, p.1 ≠ .exit i) ∧ finF F52 [.ptr [0] 0 0] p.2 = some (.d (.str r.1), [.ptr [.d (.sl (mY r.2.b)), .i r.2.e]])
theorem index_Source_Name_ok (s_ : Source) (r : ((List UInt8) × Source)) (h : index_Source_Name s_ = some r) : Runs L F52.body ⟨tmOf [.ptr [0] 0 0] 0, updW (fun _ => none) [([0], some (.cells [.d (.sl (mY s_.b)), .i s_.e] 0))]⟩ (index_Source_Name_Q s_ r) := by
 unfold index_Source_Name at h
 refine Sq <| Ro <| Rc 1 [⟨.d (.str ([] : List UInt8)), []⟩] <| Rk <| Sq <| Ro <| Rc 2 [vp [0] 0 0, vp [0] 0 0] ?_
 obtain ⟨r_1, hr_1, h⟩ := bind_s h
 have hc_1 := index_Source_Byte_L s_ r_1 hr_1
 refine Rt (some 5) (.callf 54) [] none [.ptr [0] 0 0] (.y r_1.1) [([0], some (.cells [.d (.sl (mY r_1.2.b)), .i r_1.2.e] 0))] (cut_call (call_of (ws := []) (us := [([0], some (.cells [.d (.sl (mY r_1.2.b)), .i r_1.2.e] 0))]) (by kernel_rfl) (by kernel_rfl) hc_1 (by kernel_rfl) (by kernel_rfl))) <| Rc 1 [vi (IntKind.wrap .i64 r_1.1)] ?_
 obtain ⟨r_2, hr_2, h⟩ := bind_s h
 have hc_2 := index_Source_Take_L r_1.2 (IntKind.wrap .i64 r_1.1) r_2 hr_2
 refine Rt (some 7) (.callf 99) [] none [.ptr [0] 0 0, .i (IntKind.wrap .i64 r_1.1)] (.d (.sl (mY r_2.1))) [([0], some (.cells [.d (.sl (mY r_2.2.b)), .i r_2.2.e] 0))] (cut_call (call_of (ws := []) (us := [([0], some (.cells [.d (.sl (mY r_2.2.b)), .i r_2.2.e] 0))]) (by kernel_rfl) (by kernel_rfl) hc_2 (by kernel_rfl) (by kernel_rfl))) <| Rt (some 8) .bytesStr [] none [.d (.sl (mY r_2.1))] (.d (.str (b2s r_2.1))) [] (cut_bs _) <| Rc 1 [⟨.d (.str (b2s r_2.1)), []⟩] <| Rk <| Runs.ret ?_
 cases h
 exact Fq
theorem index_Source_Name_L (s_ : Source) (r : ((List UInt8) × Source)) (h : index_Source_Name s_ = some r) : L 52 [.ptr [.d (.sl (mY s_.b)), .i s_.e]] = some (.d (.str r.1), [.ptr [.d (.sl (mY r.2.b)), .i r.2.e]]) := by
 obtain ⟨p, ⟨hne, hf⟩, hr⟩ := index_Source_Name_ok s_ r h
 obtain ⟨k, hk⟩ := run_of (F := F52) (args := [.ptr [.d (.sl (mY s_.b)), .i s_.e]]) (ap := [.ptr [0] 0 0]) (bx0 := updW (fun _ => none) [([0], some (.cells [.d (.sl (mY s_.b)), .i s_.e] 0))]) rfl rfl (by kernel_rfl) ⟨p, ⟨hne, hf⟩, hr⟩
 exact lim_run (k := k) rfl hk
def iter_take_h4 (s0 : Source) (b_902_5 : (List D)) (b_4_0 : Int) (b5_0 : Int) (depth1 : Int) (v_902_5 : Nat) : St := ⟨tab [(0, .ptr [0] 0 0), (1, .i depth1), (4, .ptr [4] 0 0), (5, .ptr [5] 0 0)], tabB [([0], some (.cells [.d (.sl (mY s0.b)), .i s0.e] 0)), ([4], some (.cells [.i b_4_0, .nils, .nils] 0)), ([5], some (.cells [.i b5_0, .nils, .ref [902, 5] v_902_5 0 (List.map id b_902_5).length 3] 0)), ([902, 5], some (.arr (List.map id b_902_5) v_902_5 false))]⟩
def iter_take_h12 (s0 : Source) (b_902_5 : (List D)) (b_4_0 : Int) (b5_0 : Int) (depth1 : Int) (n6 : Int) (v_902_5 : Nat) : St := ⟨tab [(0, .ptr [0] 0 0), (1, .i depth1), (4, .ptr [4] 0 0), (5, .ptr [5] 0 0), (6, .i n6)], tabB [([0], some (.cells [.d (.sl (mY s0.b)), .i s0.e] 0)), ([4], some (.cells [.i b_4_0, .nils, .nils] 0)), ([5], some (.cells [.i b5_0, .nils, .ref [902, 5] v_902_5 0 (List.map id b_902_5).length 3] 0)), ([902, 5], some (.arr (List.map id b_902_5) v_902_5 false))]⟩
def iter_take_h26 (s0 : Source) (b_902_5 : (List D)) (b_4_0 : Int) (b5_0 : Int) (depth1 : Int) (t25 : Int) (t26 : Int) (v_902_5 : Nat) : St := ⟨tab [(0, .ptr [0] 0 0), (1, .i depth1), (4, .ptr [4] 0 0), (5, .ptr [5] 0 0), (25, .i t25), (26, .i t26)], tabB [([0], some (.cells [.d (.sl (mY s0.b)), .i s0.e] 0)), ([4], some (.cells [.i b_4_0, .nils, .nils] 0)), ([5], some (.cells [.i b5_0, .nils, .ref [902, 5] v_902_5 0 (List.map id b_902_5).length 3] 0)), ([902, 5], some (.arr (List.map id b_902_5) v_902_5 false))]⟩
def iter_take_h43 (s0 : Source) (b_902_5 : (List D)) (b_4_0 : Int) (b5_0 : Int) (v_902_5 : Nat) : St := ⟨tab [(4, .ptr [4] 0 0), (5, .ptr [5] 0 0)], tabB [([0], some (.cells [.d (.sl (mY s0.b)), .i s0.e] 0)), ([4], some (.cells [.i b_4_0, .nils, .nils] 0)), ([5], some (.cells [.i b5_0, .nils, .ref [902, 5] v_902_5 0 (List.map id b_902_5).length 3] 0)), ([902, 5], some (.arr (List.map id b_902_5) v_902_5 false))]⟩
def iter_take_Q (s_ : Source) (depth_ : Int) (r : (Block × Source)) (p : Out × St) : Prop := (∀ i, p.1 ≠ .exit i) ∧ finF F65 [.ptr [0] 0 0, .i depth_] p.2 = some (.d (Block.d r.1), [.ptr [.d (.sl (mY r.2.b)), .i r.2.e], .i depth_])
def iter_take_P26 (s_ : Source) (depth_ : Int) (b_4_0 : Int) (b5_0 : Int) (depth1 : Int) (t25 : Int) (e : ((List D) × Source)) (p : Out × St) : Prop := p.1 = .exit 0 ∧ ∃ g : Nat, Canon [] [4, 5] [[0], [4], [5], [902, 5]] p.2 (iter_take_h43 e.2 e.1 b_4_0 b5_0 g)
theorem iter_take_l26_ok (self_ : Source → Int → Option (Block × Source)) (hs_ : ∀ (s_ : Source) (depth_ : Int) (r : (Block × Source)), self_ s_ depth_ = some r → L 65 [.ptr [.d (.sl (mY s_.b)), .i s_.e], .i depth_] = some (.d (Block.d r.1), [.ptr [.d (.sl (mY r.2.b)), .i r.2.e], .i depth_])) (s_ : Source) (depth_ : Int) (s0 : Source) (b_902_5 : (List D)) (b_4_0 : Int) (b5_0 : Int) (depth1 : Int) (t25 : Int) (t26 : Int) (v_902_5 : Nat) (r : (Lp (Source × (List D) × Int) ((List D) × Source))) (h : iter_take_l26 self_ s0 b_902_5 b_4_0 b5_0 depth1 t25 t26 = some r) : Runs L F65l26 (iter_take_h26 s0 b_902_5 b_4_0 b5_0 depth1 t25 t26 v_902_5) (LQ [] [0, 1, 4, 5, 25, 26] [[0], [4], [5], [902, 5]] (fun (x : (Source × (List D) × Int)) (g : Nat) => iter_take_h26 x.1 x.2.1 b_4_0 b5_0 depth1 t25 x.2.2 g) (iter_take_P26 s_ depth_ b_4_0 b5_0 depth1 t25) r) := by
 unfold iter_take_l26 at h
 refine Sq <| Ro <| Rc 1 [vb (decide (t26 < t25))] <| Rk <| Sq ?_
 cases hb_3 : ((decide (t26 < t25)) : Bool) with
 | true =>
  replace h := ite_t hb_3 h
  refine Ct <| Runs.skip <| kS_nrm <| Sq <| Runs.block <| Sq <| Sq <| Ro <| Rc 1 [vp [0] 0 0] ?_
  obtain ⟨r_5, hr_5, h⟩ := bind_s h
  have hc_5 := index_Source_Err_L s0 r_5 hr_5
  refine Rt (some 29) (.callf 57) [] none [.ptr [0] 0 0] (.i r_5) [([0], some (.cells [.d (.sl (mY s0.b)), .i s0.e] 0))] (cut_call (call_of (ws := []) (us := [([0], some (.cells [.d (.sl (mY s0.b)), .i s0.e] 0))]) (by kernel_rfl) (by kernel_rfl) hc_5 (by kernel_rfl) (by kernel_rfl))) <| Rc 1 [vb (r_5 != 0)] <| Rk ?_
  cases hb_4 : ((r_5 != 0) : Bool) with
  | true =>
   replace h := ite_t hb_4 h
   refine Ct <| Runs.exit <| kS_exit <| kB_pass (by decide) <| kS_exit ?_
   obtain rfl := sj h
   exact ⟨nofun, rfl, v_902_5, Cz⟩
  | false =>
   replace h := ite_f hb_4 h
   refine Cf <| Runs.skip <| kS_nrm <| Ro <| Rc 5 [vp [5] 0 2, ⟨.ref [902, 5] v_902_5 0 (List.map id b_902_5).length 3, []⟩, vp [0] 0 0, vi depth1, vi (IntKind.wrap .i64 (depth1 + 1))] ?_
   obtain ⟨r_6, hr_6, h⟩ := bind_s h
   have hc_6 := hs_ s0 (IntKind.wrap .i64 (depth1 + 1)) r_6 hr_6
   refine Rt (some 36) (.callf 65) [] (some [[0], [0, 0]]) [.ptr [0] 0 0, .i (IntKind.wrap .i64 (depth1 + 1))] (.d (Block.d r_6.1)) [([0], some (.cells [.d (.sl (mY r_6.2.b)), .i r_6.2.e] 0))] (cut_call (call_of (ws := []) (us := [([0], some (.cells [.d (.sl (mY r_6.2.b)), .i r_6.2.e] 0))]) (by kernel_rfl) (by kernel_rfl) hc_6 (by kernel_rfl) (by kernel_rfl))) <| Rc 1 [⟨.ref [37] 0 0 (List.map id ([(Block.d r_6.1)] : List D)).length 3, [([37], some (.arr (List.map id ([(Block.d r_6.1)] : List D)) 0 false))]⟩] ?_
   obtain ⟨z_1, hz_1, h⟩ := bind_s h
   refine Rt (some 38) (.append 3 56 false) [] none [.ref [902, 5] v_902_5 0 (List.map id b_902_5).length 3, .ref [37] 0 0 (List.map id ([(Block.d r_6.1)] : List D)).length 3] (.ref [902, 5] (v_902_5 + 1) 0 (List.map id z_1).length 3) [([902, 5], some (.arr (List.map id z_1) (v_902_5 + 1) false))] (cut_appR1 (e := id) (l := b_902_5) (fz := false) (ws := []) (ap_ref (e := id) (l := ([(Block.d r_6.1)] : List D)) (fz := false) (by kernel_rfl) (by kernel_rfl) rfl) (by kernel_rfl) hz_1 (by kernel_rfl) (by kernel_rfl) rfl) <| Rc 2 [vp [5] 0 2, ⟨.tup [], [([5], some (.cells [.i b5_0, .nils, .ref [902, 5] (v_902_5 + 1) 0 (List.map id z_1).length 3] 0))]⟩] <| Rd <| kB_nrm <| kS_nrm <| Ro <| Rc 2 [vi (IntKind.wrap .i64 (t26 + 1)), vi (IntKind.wrap .i64 (t26 + 1))] <| Rd ?_
   obtain rfl := sj h
   exact ⟨rfl, (v_902_5 + 1), Cz⟩
 | false =>
  replace h := ite_f hb_3 h
  refine Cf <| Runs.exit <| kS_exit ?_
  obtain rfl := sj h
  exact ⟨nofun, rfl, v_902_5, Cz⟩
theorem iter_take_j12_ok (self_ : Source → Int → Option (Block × Source)) (hs_ : ∀ (s_ : Source) (depth_ : Int) (r : (Block × Source)), self_ s_ depth_ = some r → L 65 [.ptr [.d (.sl (mY s_.b)), .i s_.e], .i depth_] = some (.d (Block.d r.1), [.ptr [.d (.sl (mY r.2.b)), .i r.2.e], .i depth_])) (s_ : Source) (depth_ : Int) (s0 : Source) (b_902_5 : (List D)) (b_4_0 : Int) (b5_0 : Int) (depth1 : Int) (n6 : Int) (v_902_5 : Nat) (r : (Block × Source)) (h : iter_take_j12 self_ s0 b_902_5 b_4_0 b5_0 depth1 n6 = some r) : Runs L F65b12 (iter_take_h12 s0 b_902_5 b_4_0 b5_0 depth1 n6 v_902_5) (iter_take_Q s_ depth_ r) := by
 unfold iter_take_j12 at h
 refine Sq <| Sq <| Ro <| Rc 2 [vi n6, vb (n6 == 0)] <| Rk ?_
 cases hb_2 : ((n6 == 0) : Bool) with
 | true =>
  replace h := ite_t hb_2 h
  refine Ct <| Sq <| Ro <| Rc 1 [vp [0] 0 0] ?_
  obtain ⟨r_4, hr_4, h⟩ := bind_s h
  have hc_4 := index_Source_Name_L s0 r_4 hr_4
  refine Rt (some 21) (.callf 52) [] none [.ptr [0] 0 0] (.d (.str r_4.1)) [([0], some (.cells [.d (.sl (mY r_4.2.b)), .i r_4.2.e] 0))] (cut_call (call_of (ws := []) (us := [([0], some (.cells [.d (.sl (mY r_4.2.b)), .i r_4.2.e] 0))]) (by kernel_rfl) (by kernel_rfl) hc_4 (by kernel_rfl) (by kernel_rfl))) <| Rt (some 22) .strBytes [] none [.d (.str r_4.1)] (.ref [22] 0 0 (mY (s2b r_4.1)).length 1) [([22], some (.arr (mY (s2b r_4.1)) 0 false))] (cut_sb _ (by kernel_rfl)) <| Rc 2 [vp [5] 0 1, ⟨.tup [], [([5], some (.cells [.i b5_0, .ref [22] 0 0 (mY (s2b r_4.1)).length 1, .ref [902, 5] v_902_5 0 (List.map id b_902_5).length 3] 0))]⟩] <| Rk <| Sq <| Ro <| Rc 2 [⟨.mix [.i b5_0, .ref [22] 0 0 (mY (s2b r_4.1)).length 1, .ref [902, 5] v_902_5 0 (List.map id b_902_5).length 3], []⟩, ⟨.tup [], [([4], some (.cells [.i b5_0, .ref [22] 0 0 (mY (s2b r_4.1)).length 1, .ref [902, 5] v_902_5 0 (List.map id b_902_5).length 3] 0))]⟩] <| Rk <| Sq <| Runs.gcons (frzB_ref (e := (D.int .u8)) (l := (s2b r_4.1)) (id := [4]) (id' := [22]) (v := 0) (n := 1) (fz := false) (ver := 0) (cs := [.i b5_0, .ref [22] 0 0 (mY (s2b r_4.1)).length 1, .ref [902, 5] v_902_5 0 (List.map id b_902_5).length 3]) (cs' := [.i b5_0, .d (.sl (mY (s2b r_4.1))), .ref [902, 5] v_902_5 0 (List.map id b_902_5).length 3]) (by kernel_rfl) (by kernel_rfl) (by kernel_rfl) (by decide) (by kernel_rfl) rfl) ?_
  refine Runs.gcons (frzB_ref (e := id) (l := b_902_5) (id := [4]) (id' := [902, 5]) (v := v_902_5) (n := 3) (fz := false) (ver := 0) (cs := [.i b5_0, .d (.sl (mY (s2b r_4.1))), .ref [902, 5] v_902_5 0 (List.map id b_902_5).length 3]) (cs' := [.i b5_0, .d (.sl (mY (s2b r_4.1))), .d (.sl (List.map id b_902_5))]) (by kernel_rfl) (by kernel_rfl) (by kernel_rfl) (by decide) (by kernel_rfl) rfl) <| Runs.gnil <| kS_nrm <| Runs.ret <| kS_ret ?_
  cases h
  exact Fq
 | false =>
  replace h := ite_f hb_2 h
  refine Cf <| Runs.skip <| kS_nrm <| Sq <| Sq <| Ro <| Rc 2 [vi n6, vi 0] <| Rk <| Runs.block ?_
  obtain ⟨e_1, he_1, h⟩ := bind_s h
  refine Runs.loop (fun x : (Source × (List D) × Int) => iter_take_l26 self_ x.1 x.2.1 b_4_0 b5_0 depth1 n6 x.2.2) (fun (x : (Source × (List D) × Int)) (g : Nat) => iter_take_h26 x.1 x.2.1 b_4_0 b5_0 depth1 n6 x.2.2 g) (iter_take_P26 s_ depth_ b_4_0 b5_0 depth1 n6) (fun x g r hr => iter_take_l26_ok self_ hs_ s_ depth_ x.1 x.2.1 b_4_0 b5_0 depth1 n6 x.2.2 g r hr) v_902_5 he_1 Cz ?_
  rintro ⟨o, s⟩ hp
  obtain ⟨ho, g_1, hk_1⟩ := hp
  have ho' : o = .exit 0 := ho
  subst ho'
  refine kB_hit <| kS_nrm <| Runs.canon _ hk_1 <| Sq <| Ro <| Rc 2 [⟨.mix [.i b5_0, .nils, .ref [902, 5] g_1 0 (List.map id e_1.1).length 3], []⟩, ⟨.tup [], [([4], some (.cells [.i b5_0, .nils, .ref [902, 5] g_1 0 (List.map id e_1.1).length 3] 0))]⟩] <| Rk <| Sq <| Runs.gcons (frzB_nil (ver := 0) (cs := [.i b5_0, .nils, .ref [902, 5] g_1 0 (List.map id e_1.1).length 3]) (cs' := [.i b5_0, .d (.sl (mY ([] : List Int))), .ref [902, 5] g_1 0 (List.map id e_1.1).length 3]) (D.int .u8) (by kernel_rfl) (by kernel_rfl) (by kernel_rfl)) <| Runs.gcons (frzB_ref (e := id) (l := e_1.1) (id := [4]) (id' := [902, 5]) (v := g_1) (n := 3) (fz := false) (ver := 0) (cs := [.i b5_0, .d (.sl (mY ([] : List Int))), .ref [902, 5] g_1 0 (List.map id e_1.1).length 3]) (cs' := [.i b5_0, .d (.sl (mY ([] : List Int))), .d (.sl (List.map id e_1.1))]) (by kernel_rfl) (by kernel_rfl) (by kernel_rfl) (by decide) (by kernel_rfl) rfl) <| Runs.gnil <| kS_nrm <| Runs.ret ?_
  cases h
  exact Fq
theorem iter_take_ok (self_ : Source → Int → Option (Block × Source)) (hs_ : ∀ (s_ : Source) (depth_ : Int) (r : (Block × Source)), self_ s_ depth_ = some r → L 65 [.ptr [.d (.sl (mY s_.b)), .i s_.e], .i depth_] = some (.d (Block.d r.1), [.ptr [.d (.sl (mY r.2.b)), .i r.2.e], .i depth_])) (s_ : Source) (depth_ : Int) (r : (Block × Source)) (h : iter_take_b self_ s_ depth_ = some r) : Runs L F65.body ⟨tmOf [.ptr [0] 0 0, .i depth_] 0, updW (fun _ => none) [([0], some (.cells [.d (.sl (mY s_.b)), .i s_.e] 0))]⟩ (iter_take_Q s_ depth_ r) := by
 unfold iter_take_b at h
 refine Sq <| Ro <| Rc 1 [⟨.ptr [4] 0 0, [([4], some (.cells [.i 0, .nils, .nils] 0))]⟩] <| Rk <| Sq <| Ro <| Rc 1 [vp [0] 0 0] ?_
 obtain ⟨r_1, hr_1, h⟩ := bind_s h
 have hc_1 := index_Source_Word_L s_ r_1 hr_1
 refine Rt (some 8) (.callf 64) [] none [.ptr [0] 0 0] (.w r_1.1) [([0], some (.cells [.d (.sl (mY r_1.2.b)), .i r_1.2.e] 0))] (cut_call (call_of (ws := []) (us := [([0], some (.cells [.d (.sl (mY r_1.2.b)), .i r_1.2.e] 0))]) (by kernel_rfl) (by kernel_rfl) hc_1 (by kernel_rfl) (by kernel_rfl))) <| Rc 4 [vi (IntKind.wrap .i64 r_1.1), ⟨.mix [.i (IntKind.wrap .i64 r_1.1), .nils, .nils], []⟩, ⟨.ptr [5] 0 0, [([5], some (.cells [.i 0, .nils, .nils] 0))]⟩, ⟨.tup [], [([5], some (.cells [.i (IntKind.wrap .i64 r_1.1), .nils, .nils] 0))]⟩] <| Rk <| Runs.canon (iter_take_h4 r_1.2 ([] : List D) 0 (IntKind.wrap .i64 r_1.1) depth_ 0) (Canon.cons (ownB_nil (ver := 0) (v := 0) (cs := [.i (IntKind.wrap .i64 r_1.1), .nils, .nils]) (cs' := [.i (IntKind.wrap .i64 r_1.1), .nils, .ref [902, 5] 0 0 (List.map id ([] : List D)).length 3]) id (by kernel_rfl) (by kernel_rfl) (by kernel_rfl) (by decide) (by kernel_rfl)) Cz) <| Sq <| Ro <| Rc 1 [vp [0] 0 0] ?_
 obtain ⟨r_2, hr_2, h⟩ := bind_s h
 have hc_2 := index_Source_Word_L r_1.2 r_2 hr_2
 refine Rt (some 12) (.callf 64) [] none [.ptr [0] 0 0] (.w r_2.1) [([0], some (.cells [.d (.sl (mY r_2.2.b)), .i r_2.2.e] 0))] (cut_call (call_of (ws := []) (us := [([0], some (.cells [.d (.sl (mY r_2.2.b)), .i r_2.2.e] 0))]) (by kernel_rfl) (by kernel_rfl) hc_2 (by kernel_rfl) (by kernel_rfl))) <| Rc 2 [vi (IntKind.wrap .i64 r_2.1), vi (IntKind.wrap .i64 r_2.1)] <| Rk <| Sq <| Sq <| Ro <| Rc 2 [vi depth_, vb (decide (depth_ > 8))] <| Rk ?_
 cases hb_1 : ((decide (depth_ > 8)) : Bool) with
 | true =>
  replace h := ite_t hb_1 h
  refine Ct <| Ro <| Rc 1 [vp [0] 0 0] ?_
  obtain ⟨r_3, hr_3, h⟩ := bind_s h
  have hc_3 := index_Source_Wrong_L r_2.2 8 r_3 hr_3
  refine Rt (some 17) (.callf 56) [] none [.ptr [0] 0 0, .i 8] (.tup []) [([0], some (.cells [.d (.sl (mY r_3.b)), .i r_3.e] 0))] (cut_call (call_of (ws := []) (us := [([0], some (.cells [.d (.sl (mY r_3.b)), .i r_3.e] 0))]) (by kernel_rfl) (by kernel_rfl) hc_3 (by kernel_rfl) (by kernel_rfl))) <| Rk <| Runs.canon (iter_take_h12 r_3 ([] : List D) 0 (IntKind.wrap .i64 r_1.1) depth_ (IntKind.wrap .i64 r_2.1) 0) Cz ?_
  exact iter_take_j12_ok self_ hs_ s_ depth_ r_3 ([] : List D) 0 (IntKind.wrap .i64 r_1.1) depth_ (IntKind.wrap .i64 r_2.1) 0 r h
 | false =>
  replace h := ite_f hb_1 h
  refine Cf <| Runs.skip <| kS_nrm <| Runs.canon (iter_take_h12 r_2.2 ([] : List D) 0 (IntKind.wrap .i64 r_1.1) depth_ (IntKind.wrap .i64 r_2.1) 0) Cz ?_
  exact iter_take_j12_ok self_ hs_ s_ depth_ r_2.2 ([] : List D) 0 (IntKind.wrap .i64 r_1.1) depth_ (IntKind.wrap .i64 r_2.1) 0 r h
theorem iter_take_L : ∀ (n_ : Nat) (s_ : Source) (depth_ : Int) (r : (Block × Source)) (h : iter_take n_ s_ depth_ = some r), L 65 [.ptr [.d (.sl (mY s_.b)), .i s_.e], .i depth_] = some (.d (Block.d r.1), [.ptr [.d (.sl (mY r.2.b)), .i r.2.e], .i depth_])
 | 0, s_, depth_, r, h => by cases h
 | n_ + 1, s_, depth_, r, h => by
  have h : iter_take_b (iter_take n_) s_ depth_ = some r := h
  obtain ⟨p, ⟨hne, hf⟩, hr⟩ := iter_take_ok (iter_take n_) (fun s_ depth_ r h => iter_take_L n_ s_ depth_ r h) s_ depth_ r h
  obtain ⟨k, hk⟩ := run_of (F := F65) (args := [.ptr [.d (.sl (mY s_.b)), .i s_.e], .i depth_]) (ap := [.ptr [0] 0 0, .i depth_]) (bx0 := updW (fun _ => none) [([0], some (.cells [.d (.sl (mY s_.b)), .i s_.e] 0))]) rfl rfl (by kernel_rfl) ⟨p, ⟨hne, hf⟩, hr⟩
  exact lim_run (k := k) rfl hk
def iter_may_h30 (depth1 : Int) (t44 : (List D)) (t45 : Int) (t46 : Int) : St := ⟨tab [(1, .i depth1), (44, .d (.sl (List.map id t44))), (45, .i t45), (46, .i t46)], tabB []⟩
def iter_may_h49  : St := ⟨tab [], tabB []⟩
def iter_may_Q (b_ : Block) (depth_ : Int) (r : Bool) (p : Out × St) : Prop := (∀ i, p.1 ≠ .exit i) ∧ finF F69 [.d (Block.d b_), .i depth_] p.2 = some (.b r, [.d (Block.d b_), .i depth_])
def iter_may_P30 (b_ : Block) (depth_ : Int) (depth1 : Int) (t44 : (List D)) (t45 : Int) (e : (Bool ⊕ Unit)) (p : Out × St) : Prop := match e with
 | .inl x => p.1 = .ret ∧ finF F69 [.d (Block.d b_), .i depth_] p.2 = some (.b x, [.d (Block.d b_), .i depth_])
 | .inr x => p.1 = .exit 0 ∧ ∃ g : Unit, Canon [] [] [] p.2 (iter_may_h49)
theorem iter_may_l30_ok (self_ : Block → Int → Option Bool) (hs_ : ∀ (b_ : Block) (depth_ : Int) (r : Bool), self_ b_ depth_ = some r → L 69 [.d (Block.d b_), .i depth_] = some (.b r, [.d (Block.d b_), .i depth_])) (b_ : Block) (depth_ : Int) (depth1 : Int) (t44 : (List D)) (t45 : Int) (t46 : Int) (r : (Lp Int (Bool ⊕ Unit))) (h : iter_may_l30 self_ depth1 t44 t45 t46 = some r) : Runs L F69l30 (iter_may_h30 depth1 t44 t45 t46) (LQ [] [1, 44, 45, 46] [] (fun (x : Int) (g : Unit) => iter_may_h30 depth1 t44 t45 x) (iter_may_P30 b_ depth_ depth1 t44 t45) r) := by
 unfold iter_may_l30 at h
 refine Sq <| Ro <| Rc 1 [vb (decide (t46 < t45))] <| Rk <| Sq ?_
 cases hb_8 : ((decide (t46 < t45)) : Bool) with
 | true =>
  replace h := ite_t hb_8 h
  refine Ct <| Runs.skip <| kS_nrm <| Sq <| Runs.block <| Sq <| Ro ?_
  obtain ⟨z_1, hz_1, h⟩ := bind_s h
  obtain ⟨z_2, hz_2, h⟩ := bind_s h
  rw [ofD_eq hz_2] at hz_1
  refine Rt (some 48) (.iaddrS 3) [] none [.d (.sl (List.map id t44)), .i t46] (.elt (Block.d z_2) 0) [] (cut_at1 (e := id) hz_1 rfl) <| Rc 3 [⟨.d (Block.d z_2), []⟩, ⟨.ptr [6] 0 0, [([6], some (.cells [.i 0, .nils, .nils] 0))]⟩, ⟨.tup [], [([6], some (.cells [.i z_2.Times, .d (.sl (mY z_2.Bytes)), .d (.sl (List.map id z_2.Blocks))] 0))]⟩] <| Rk <| Sq <| Ro <| Rc 3 [⟨.d (Block.d z_2), []⟩, vi depth1, vi (IntKind.wrap .i64 (depth1 + 1))] ?_
  obtain ⟨r_1, hr_1, h⟩ := bind_s h
  have hc_1 := hs_ z_2 (IntKind.wrap .i64 (depth1 + 1)) r_1 hr_1
  refine Rt (some 53) (.callf 69) [] none [.d (Block.d z_2), .i (IntKind.wrap .i64 (depth1 + 1))] (.b r_1) [] (cc hc_1) <| Rc 1 [vb (!r_1)] <| Rk ?_
  cases hb_9 : ((!r_1) : Bool) with
  | true =>
   replace h := ite_t hb_9 h
   refine Ct <| Sq <| Ro <| Rc 1 [vb false] <| Rk <| Runs.ret <| kB_ret <| kS_ret ?_
   obtain rfl := sj h
   exact ⟨nofun, rfl, (by kernel_rfl)⟩
  | false =>
   replace h := ite_f hb_9 h
   refine Cf <| Runs.skip <| kB_nrm <| kS_nrm <| Ro <| Rc 2 [vi (IntKind.wrap .i64 (t46 + 1)), vi (IntKind.wrap .i64 (t46 + 1))] <| Rd ?_
   obtain rfl := sj h
   exact ⟨rfl, (), Cz⟩
 | false =>
  replace h := ite_f hb_8 h
  refine Cf <| Runs.exit <| kS_exit ?_
  obtain rfl := sj h
  exact ⟨nofun, rfl, (), Cz⟩
theorem iter_may_ok (self_ : Block → Int → Option Bool) (hs_ : ∀ (b_ : Block) (depth_ : Int) (r : Bool), self_ b_ depth_ = some r → L 69 [.d (Block.d b_), .i depth_] = some (.b r, [.d (Block.d b_), .i depth_])) (b_ : Block) (depth_ : Int) (r : Bool) (h : iter_may_b self_ b_ depth_ = some r) : Runs L F69.body ⟨tmOf [.d (Block.d b_), .i depth_] 0, updW (fun _ => none) []⟩ (iter_may_Q b_ depth_ r) := by
 unfold iter_may_b at h
 refine Sq <| Ro <| Rc 2 [⟨.ptr [2] 0 0, [([2], some (.cells [.i b_.Times, .d (.sl (mY b_.Bytes)), .d (.sl (List.map id b_.Blocks))] 0))]⟩, vb false] <| Rk <| Sq <| Sq <| Ro <| Rc 3 [vi depth_, vb (decide (depth_ > 8)), vb (decide (depth_ > 8))] ?_
 cases hb_1 : ((decide (depth_ > 8)) : Bool) with
 | true =>
  replace h := ite_t hb_1 h
  refine Rc 15 [vn, vn, vn, vb true, vb true, vn, vn, vn, vb true, vb true, vn, vn, vn, vn, vb true] <| Rk <| Ct <| Sq <| Ro <| Rc 1 [vb false] <| Rk <| Runs.ret <| kS_ret ?_
  cases h
  exact Fq
 | false =>
  replace h := ite_f hb_1 h
  refine Rc 5 [vp [2] 0 0, vi b_.Times, vb (decide (b_.Times < 1)), vb (decide (b_.Times < 1)), vb (decide (b_.Times < 1))] ?_
  cases hb_2 : ((decide (b_.Times < 1)) : Bool) with
  | true =>
   replace h := ite_t hb_2 h
   refine Rc 10 [vn, vn, vn, vb true, vb true, vn, vn, vn, vn, vb true] <| Rk <| Ct <| Sq <| Ro <| Rc 1 [vb false] <| Rk <| Runs.ret <| kS_ret ?_
   cases h
   exact Fq
  | false =>
   replace h := ite_f hb_2 h
   refine Rc 5 [vp [2] 0 0, vi b_.Times, vb (decide (b_.Times > 65535)), vb (decide (b_.Times > 65535)), vb (decide (b_.Times > 65535))] ?_
   cases hb_3 : ((decide (b_.Times > 65535)) : Bool) with
   | true =>
    replace h := ite_t hb_3 h
    refine Rc 5 [vn, vn, vn, vn, vb true] <| Rk <| Ct <| Sq <| Ro <| Rc 1 [vb false] <| Rk <| Runs.ret <| kS_ret ?_
    cases h
    exact Fq
   | false =>
    replace h := ite_f hb_3 h
    refine Rc 2 [vp [2] 0 2, ⟨.d (.sl (List.map id b_.Blocks)), []⟩] <| Rt (some 22) .lenL [] none [.d (.sl (List.map id b_.Blocks))] (.i (b_.Blocks.length : Int)) [] (cut_len _) <| Rc 2 [vb (decide ((b_.Blocks.length : Int) > 65535)), vb (decide ((b_.Blocks.length : Int) > 65535))] <| Rk ?_
    cases hb_4 : ((decide ((b_.Blocks.length : Int) > 65535)) : Bool) with
    | true =>
     replace h := ite_t hb_4 h
     refine Ct <| Sq <| Ro <| Rc 1 [vb false] <| Rk <| Runs.ret <| kS_ret ?_
     cases h
     exact Fq
    | false =>
     replace h := ite_f hb_4 h
     refine Cf <| Runs.skip <| kS_nrm <| Sq <| Sq <| Ro <| Rc 2 [vp [2] 0 2, ⟨.d (.sl (List.map id b_.Blocks)), []⟩] <| Rt (some 27) .lenL [] none [.d (.sl (List.map id b_.Blocks))] (.i (b_.Blocks.length : Int)) [] (cut_len _) <| Rc 1 [vb ((b_.Blocks.length : Int) == 0)] <| Rk ?_
     cases hb_5 : (((b_.Blocks.length : Int) == 0) : Bool) with
     | true =>
      replace h := ite_t hb_5 h
      refine Ct <| Sq <| Ro <| Rc 2 [vp [2] 0 1, ⟨.d (.sl (mY b_.Bytes)), []⟩] <| Rt (some 31) .lenL [] none [.d (.sl (mY b_.Bytes))] (.i (b_.Bytes.length : Int)) [] (cut_len _) <| Rc 2 [vb (decide ((b_.Bytes.length : Int) ≥ 1)), vb (decide ((b_.Bytes.length : Int) ≥ 1))] ?_
      cases hb_6 : ((decide ((b_.Bytes.length : Int) ≥ 1)) : Bool) with
      | true =>
       replace h := ite_t hb_6 h
       refine Rc 2 [vp [2] 0 1, ⟨.d (.sl (mY b_.Bytes)), []⟩] <| Rt (some 36) .lenL [] none [.d (.sl (mY b_.Bytes))] (.i (b_.Bytes.length : Int)) [] (cut_len _) <| Rc 3 [vb (decide ((b_.Bytes.length : Int) ≤ 255)), vb (decide ((b_.Bytes.length : Int) ≤ 255)), vb (decide ((b_.Bytes.length : Int) ≤ 255))] <| Rk <| Runs.ret <| kS_ret ?_
       cases h
       exact Fq
      | false =>
       replace h := ite_f hb_6 h
       refine Rc 6 [vn, vn, vn, vn, vb false, vb false] <| Rk <| Runs.ret <| kS_ret ?_
       cases h
       exact Fq
     | false =>
      replace h := ite_f hb_5 h
      refine Cf <| Runs.skip <| kS_nrm <| Sq <| Sq <| Ro <| Rc 2 [vp [2] 0 1, ⟨.d (.sl (mY b_.Bytes)), []⟩] <| Rt (some 41) .lenL [] none [.d (.sl (mY b_.Bytes))] (.i (b_.Bytes.length : Int)) [] (cut_len _) <| Rc 1 [vb (decide ((b_.Bytes.length : Int) > 0))] <| Rk ?_
      cases hb_7 : ((decide ((b_.Bytes.length : Int) > 0)) : Bool) with
      | true =>
       replace h := ite_t hb_7 h
       refine Ct <| Sq <| Ro <| Rc 1 [vb false] <| Rk <| Runs.ret <| kS_ret ?_
       cases h
       exact Fq
      | false =>
       replace h := ite_f hb_7 h
       refine Cf <| Runs.skip <| kS_nrm <| Sq <| Sq <| Ro <| Rc 2 [vp [2] 0 2, ⟨.d (.sl (List.map id b_.Blocks)), []⟩] <| Rt (some 45) .lenL [] none [.d (.sl (List.map id b_.Blocks))] (.i (b_.Blocks.length : Int)) [] (cut_len _) <| Rc 1 [vi 0] <| Rk <| Runs.block ?_
       obtain ⟨e_1, he_1, h⟩ := bind_s h
       refine Runs.loop (fun x : Int => iter_may_l30 self_ depth_ b_.Blocks (b_.Blocks.length : Int) x) (fun (x : Int) (g : Unit) => iter_may_h30 depth_ b_.Blocks (b_.Blocks.length : Int) x) (iter_may_P30 b_ depth_ depth_ b_.Blocks (b_.Blocks.length : Int)) (fun x g r hr => iter_may_l30_ok self_ hs_ b_ depth_ depth_ b_.Blocks (b_.Blocks.length : Int) x  r hr) () he_1 Cz ?_
       rintro ⟨o, s⟩ hp
       cases e_1 with
       | inl e_2 =>
        obtain ⟨ho, hf⟩ := hp
        have ho' : o = .ret := ho
        subst ho'
        refine kB_ret <| kS_ret ?_
        obtain rfl := sj h
        exact ⟨Out.ret_ne, hf⟩
       | inr e_3 =>
        obtain ⟨ho, g_1, hk_1⟩ := hp
        have ho' : o = .exit 0 := ho
        subst ho'
        refine kB_hit <| kS_nrm <| Runs.canon _ hk_1 <| Sq <| Ro <| Rc 1 [vb true] <| Rk <| Runs.ret ?_
        cases h
        exact Fq
theorem iter_may_L : ∀ (n_ : Nat) (b_ : Block) (depth_ : Int) (r : Bool) (h : iter_may n_ b_ depth_ = some r), L 69 [.d (Block.d b_), .i depth_] = some (.b r, [.d (Block.d b_), .i depth_])
 | 0, b_, depth_, r, h => by cases h
 | n_ + 1, b_, depth_, r, h => by
  have h : iter_may_b (iter_may n_) b_ depth_ = some r := h
  obtain ⟨p, ⟨hne, hf⟩, hr⟩ := iter_may_ok (iter_may n_) (fun b_ depth_ r h => iter_may_L n_ b_ depth_ r h) b_ depth_ r h
  obtain ⟨k, hk⟩ := run_of (F := F69) (args := [.d (Block.d b_), .i depth_]) (ap := [.d (Block.d b_), .i depth_]) (bx0 := updW (fun _ => none) []) rfl rfl (by kernel_rfl) ⟨p, ⟨hne, hf⟩, hr⟩
  exact lim_run (k := k) rfl hk
def iter_May_Q (b_ : Block) (r : Bool) (p : Out × St) : Prop := (∀ i, p.1 ≠ .exit i) ∧ finF F27 [.d (Block.d b_)] p.2 = some (.b r, [.d (Block.d b_)])
theorem iter_May_ok (b_ : Block) (r : Bool) (h : iter_May b_ = some r) : Runs L F27.body ⟨tmOf [.d (Block.d b_)] 0, updW (fun _ => none) []⟩ (iter_May_Q b_ r) := by
 unfold iter_May at h
 refine Sq <| Ro <| Rc 2 [⟨.ptr [1] 0 0, [([1], some (.cells [.i b_.Times, .d (.sl (mY b_.Bytes)), .d (.sl (List.map id b_.Blocks))] 0))]⟩, vb false] <| Rk <| Sq <| Ro <| Rc 1 [⟨.d (Block.d b_), []⟩] ?_
 obtain ⟨r_1, hr_1, h⟩ := bind_s h
 have hc_1 := iter_may_L 64 b_ 1 r_1 hr_1
 refine Rt (some 4) (.callf 69) [] none [.d (Block.d b_), .i 1] (.b r_1) [] (cc hc_1) <| Rc 1 [vb r_1] <| Rk <| Runs.ret ?_
 cases h
 exact Fq
theorem iter_May_L (b_ : Block) (r : Bool) (h : iter_May b_ = some r) : L 27 [.d (Block.d b_)] = some (.b r, [.d (Block.d b_)]) := by
 obtain ⟨p, ⟨hne, hf⟩, hr⟩ := iter_May_ok b_ r h
 obtain ⟨k, hk⟩ := run_of (F := F27) (args := [.d (Block.d b_)]) (ap := [.d (Block.d b_)]) (bx0 := updW (fun _ => none) []) rfl rfl (by kernel_rfl) ⟨p, ⟨hne, hf⟩, hr⟩
 exact lim_run (k := k) rfl hk
def iter_Size_h8 (b1 : Block) (n3 : Int) (t10 : (List D)) (t11 : Int) (t12 : Int) : St := ⟨tab [(1, .ptr [1] 0 0), (3, .i n3), (10, .d (.sl (List.map id t10))), (11, .i t11), (12, .i t12)], tabB [([1], some (.cells [.i b1.Times, .d (.sl (mY b1.Bytes)), .d (.sl (List.map id b1.Blocks))] 0))]⟩
def iter_Size_h21 (b1 : Block) (n3 : Int) : St := ⟨tab [(1, .ptr [1] 0 0), (3, .i n3)], tabB [([1], some (.cells [.i b1.Times, .d (.sl (mY b1.Bytes)), .d (.sl (List.map id b1.Blocks))] 0))]⟩
def iter_Size_Q (b_ : Block) (r : Int) (p : Out × St) : Prop := (∀ i, p.1 ≠ .exit i) ∧ finF F28 [.d (Block.d b_)] p.2 = some (.i r, [.d (Block.d b_)])
def iter_Size_P8 (b_ : Block) (b1 : Block) (t10 : (List D)) (t11 : Int) (e : Int) (p : Out × St) : Prop := p.1 = .exit 0 ∧ ∃ g : Unit, Canon [] [1, 3] [[1]] p.2 (iter_Size_h21 b1 e)
theorem iter_Size_l8_ok (self_ : Block → Option Int) (hs_ : ∀ (b_ : Block) (r : Int), self_ b_ = some r → L 28 [.d (Block.d b_)] = some (.i r, [.d (Block.d b_)])) (b_ : Block) (b1 : Block) (n3 : Int) (t10 : (List D)) (t11 : Int) (t12 : Int) (r : (Lp (Int × Int) Int)) (h : iter_Size_l8 self_ b1 n3 t10 t11 t12 = some r) : Runs L F28l8 (iter_Size_h8 b1 n3 t10 t11 t12) (LQ [] [1, 3, 10, 11, 12] [[1]] (fun (x : (Int × Int)) (g : Unit) => iter_Size_h8 b1 x.1 t10 t11 x.2) (iter_Size_P8 b_ b1 t10 t11) r) := by
 unfold iter_Size_l8 at h
 refine Sq <| Ro <| Rc 1 [vb (decide (t12 < t11))] <| Rk <| Sq ?_
 cases hb_1 : ((decide (t12 < t11)) : Bool) with
 | true =>
  replace h := ite_t hb_1 h
  refine Ct <| Runs.skip <| kS_nrm <| Sq <| Runs.block <| Sq <| Ro ?_
  obtain ⟨z_1, hz_1, h⟩ := bind_s h
  obtain ⟨z_2, hz_2, h⟩ := bind_s h
  rw [ofD_eq hz_2] at hz_1
  refine Rt (some 14) (.iaddrS 3) [] none [.d (.sl (List.map id t10)), .i t12] (.elt (Block.d z_2) 0) [] (cut_at1 (e := id) hz_1 rfl) <| Rc 3 [⟨.d (Block.d z_2), []⟩, ⟨.ptr [5] 0 0, [([5], some (.cells [.i 0, .nils, .nils] 0))]⟩, ⟨.tup [], [([5], some (.cells [.i z_2.Times, .d (.sl (mY z_2.Bytes)), .d (.sl (List.map id z_2.Blocks))] 0))]⟩] <| Rk <| Ro <| Rc 2 [vi n3, ⟨.d (Block.d z_2), []⟩] ?_
  obtain ⟨r_1, hr_1, h⟩ := bind_s h
  have hc_1 := hs_ z_2 r_1 hr_1
  refine Rt (some 18) (.callf 28) [] none [.d (Block.d z_2)] (.i r_1) [] (cc hc_1) <| Rc 3 [vi (IntKind.wrap .i64 (n3 + r_1)), vi (mnI (IntKind.wrap .i64 (n3 + r_1)) 65537), vi (mnI (IntKind.wrap .i64 (n3 + r_1)) 65537)] <| Rd <| kB_nrm <| kS_nrm <| Ro <| Rc 2 [vi (IntKind.wrap .i64 (t12 + 1)), vi (IntKind.wrap .i64 (t12 + 1))] <| Rd ?_
  obtain rfl := sj h
  exact ⟨rfl, (), Cz⟩
 | false =>
  replace h := ite_f hb_1 h
  refine Cf <| Runs.exit <| kS_exit ?_
  obtain rfl := sj h
  exact ⟨nofun, rfl, (), Cz⟩
theorem iter_Size_ok (self_ : Block → Option Int) (hs_ : ∀ (b_ : Block) (r : Int), self_ b_ = some r → L 28 [.d (Block.d b_)] = some (.i r, [.d (Block.d b_)])) (b_ : Block) (r : Int) (h : iter_Size_b self_ b_ = some r) : Runs L F28.body ⟨tmOf [.d (Block.d b_)] 0, updW (fun _ => none) []⟩ (iter_Size_Q b_ r) := by
 unfold iter_Size_b at h
 refine Sq <| Ro <| Rc 2 [⟨.ptr [1] 0 0, [([1], some (.cells [.i b_.Times, .d (.sl (mY b_.Bytes)), .d (.sl (List.map id b_.Blocks))] 0))]⟩, vi 0] <| Rk <| Sq <| Ro <| Rc 2 [vp [1] 0 1, ⟨.d (.sl (mY b_.Bytes)), []⟩] <| Rt (some 8) .lenL [] none [.d (.sl (mY b_.Bytes))] (.i (b_.Bytes.length : Int)) [] (cut_len _) <| Rc 1 [vi (b_.Bytes.length : Int)] <| Rk <| Sq <| Sq <| Ro <| Rc 2 [vp [1] 0 2, ⟨.d (.sl (List.map id b_.Blocks)), []⟩] <| Rt (some 11) .lenL [] none [.d (.sl (List.map id b_.Blocks))] (.i (b_.Blocks.length : Int)) [] (cut_len _) <| Rc 1 [vi 0] <| Rk <| Runs.block ?_
 obtain ⟨e_1, he_1, h⟩ := bind_s h
 refine Runs.loop (fun x : (Int × Int) => iter_Size_l8 self_ b_ x.1 b_.Blocks (b_.Blocks.length : Int) x.2) (fun (x : (Int × Int)) (g : Unit) => iter_Size_h8 b_ x.1 b_.Blocks (b_.Blocks.length : Int) x.2) (iter_Size_P8 b_ b_ b_.Blocks (b_.Blocks.length : Int)) (fun x g r hr => iter_Size_l8_ok self_ hs_ b_ b_ x.1 b_.Blocks (b_.Blocks.length : Int) x.2  r hr) () he_1 Cz ?_
 rintro ⟨o, s⟩ hp
 obtain ⟨ho, g_1, hk_1⟩ := hp
 have ho' : o = .exit 0 := ho
 subst ho'
 refine kB_hit <| kS_nrm <| Runs.canon _ hk_1 <| Sq <| Ro <| Rc 8 [vi e_1, vp [1] 0 0, vi b_.Times, vi (mxI b_.Times 0), vi (mnI (mxI b_.Times 0) 65537), vi (IntKind.wrap .i64 (e_1 * (mnI (mxI b_.Times 0) 65537))), vi (mnI (IntKind.wrap .i64 (e_1 * (mnI (mxI b_.Times 0) 65537))) 65537), vi (mnI (IntKind.wrap .i64 (e_1 * (mnI (mxI b_.Times 0) 65537))) 65537)] <| Rk <| Runs.ret ?_
 cases h
 exact Fq
theorem iter_Size_L : ∀ (n_ : Nat) (b_ : Block) (r : Int) (h : iter_Size n_ b_ = some r), L 28 [.d (Block.d b_)] = some (.i r, [.d (Block.d b_)])
 | 0, b_, r, h => by cases h
 | n_ + 1, b_, r, h => by
  have h : iter_Size_b (iter_Size n_) b_ = some r := h
  obtain ⟨p, ⟨hne, hf⟩, hr⟩ := iter_Size_ok (iter_Size n_) (fun b_ r h => iter_Size_L n_ b_ r h) b_ r h
  obtain ⟨k, hk⟩ := run_of (F := F28) (args := [.d (Block.d b_)]) (ap := [.d (Block.d b_)]) (bx0 := updW (fun _ => none) []) rfl rfl (by kernel_rfl) ⟨p, ⟨hne, hf⟩, hr⟩
  exact lim_run (k := k) rfl hk
def slices_Clone_Lbyte_Q (s_ : List Int) (r : (List Int)) (p : Out × St) : Prop := (∀ i, p.1 ≠ .exit i) ∧ finF F67 [.d (.sl (mY s_))] p.2 = some (.arr false 1 (mY r), [.d (.sl (mY s_))])
theorem slices_Clone_Lbyte_ok_cons (x_ : Int) (r_ : List Int) (r : (List Int)) (h : ((grow 1 ([] : List Int) (x_ :: r_)).bind fun z_1 => some z_1) = some r) : Runs L F67.body ⟨tmOf [.d (.sl (mY (x_ :: r_)))] 0, fun _ => none⟩ (slices_Clone_Lbyte_Q (x_ :: r_) r) := by
 refine Sq <| Ro <| Rc 1 [⟨.nils, []⟩] <| Rk <| Sq <| Sq <| Ro <| Rc 2 [⟨.d (.sl (mY (x_ :: r_))), []⟩, vb false] <| Rk <| Cf <| Runs.skip <| kS_nrm <| Sq <| Ro <| Rc 2 [⟨.ref [5] 0 0 (mY ([] : List Int)).length 1, [([5], some (.arr (mY ([] : List Int)) 0 false))]⟩, ⟨.d (.sl (mY (x_ :: r_))), []⟩] ?_
 obtain ⟨z_1, hz_1, h⟩ := bind_s h
 refine Rt (some 7) (.append 1 1 false) [] none [.ref [5] 0 0 (mY ([] : List Int)).length 1, .d (.sl (mY (x_ :: r_)))] (.ref [5] 1 0 (mY z_1).length 1) [([5], some (.arr (mY z_1) 1 false))] (cut_appR (e := (D.int .u8)) (l := ([] : List Int)) (fz := false) (ws := []) (ap_data _) (fun _ => rfl) hz_1 (by kernel_rfl) (by kernel_rfl) rfl) <| Rc 1 [⟨.ref [5] 1 0 (mY z_1).length 1, []⟩] <| Rk <| Runs.ret ?_
 obtain rfl := sj h
 exact ⟨Out.ret_ne, (fin_of (rs := [.ref [5] 1 0 (mY z_1).length 1]) (by kernel_rfl) (by kernel_rfl) (outs_own (id := [5]) (v := 1) (fz := false) (es := List.map (D.int .u8) z_1) (by kernel_rfl) (by decide) rfl outs_nil) (gives_cons (give_same (by kernel_rfl)) gives_nil))⟩
theorem slices_Clone_Lbyte_ok_nil  (r : (List Int)) (h : (some ([] : List Int)) = some r) : Runs L F67.body ⟨tmOf [.nils] 0, fun _ => none⟩ (slices_Clone_Lbyte_Q ([] : List Int) r) := by
 refine Sq <| Ro <| Rc 1 [⟨.nils, []⟩] <| Rk <| Sq <| Sq <| Ro <| Rc 2 [⟨.nils, []⟩, vb true] <| Rk <| Ct <| Sq <| Ro <| Rc 1 [⟨.nils, []⟩] <| Rk <| Sq <| Runs.gcons (own_nil (D.int .u8) (v := 0) (by kernel_rfl) (by kernel_rfl)) <| Runs.gnil <| kS_nrm <| Runs.ret <| kS_ret ?_
 obtain rfl := sj h
 exact ⟨Out.ret_ne, (fin_of (rs := [.ref [2] 0 0 (mY ([] : List Int)).length 1]) (by kernel_rfl) (by kernel_rfl) (outs_own (id := [2]) (v := 0) (fz := false) (es := List.map (D.int .u8) ([] : List Int)) (by kernel_rfl) (by decide) rfl outs_nil) (gives_cons (give_same (by kernel_rfl)) gives_nil))⟩
theorem slices_Clone_Lbyte_ok_empt  (r : (List Int)) (h : ((grow 1 ([] : List Int) ([] : List Int)).bind fun z_1 => some z_1) = some r) : Runs L F67.body ⟨tmOf [.empt] 0, fun _ => none⟩ (slices_Clone_Lbyte_Q ([] : List Int) r) := by
 refine Sq <| Ro <| Rc 1 [⟨.nils, []⟩] <| Rk <| Sq <| Sq <| Ro <| Rc 2 [⟨.empt, []⟩, vb false] <| Rk <| Cf <| Runs.skip <| kS_nrm <| Sq <| Ro <| Rc 2 [⟨.ref [5] 0 0 (mY ([] : List Int)).length 1, [([5], some (.arr (mY ([] : List Int)) 0 false))]⟩, ⟨.empt, []⟩] ?_
 obtain ⟨z_1, hz_1, h⟩ := bind_s h
 refine Rt (some 7) (.append 1 1 false) [] none [.ref [5] 0 0 (mY ([] : List Int)).length 1, .empt] (.ref [5] 1 0 (mY z_1).length 1) [([5], some (.arr (mY z_1) 1 false))] (cut_appR (e := (D.int .u8)) (l := ([] : List Int)) (fz := false) (ws := []) (ap_empt) (fun _ => rfl) hz_1 (by kernel_rfl) (by kernel_rfl) rfl) <| Rc 1 [⟨.ref [5] 1 0 (mY z_1).length 1, []⟩] <| Rk <| Runs.ret ?_
 obtain rfl := sj h
 exact ⟨Out.ret_ne, (fin_of (rs := [.ref [5] 1 0 (mY z_1).length 1]) (by kernel_rfl) (by kernel_rfl) (outs_own (id := [5]) (v := 1) (fz := false) (es := List.map (D.int .u8) z_1) (by kernel_rfl) (by decide) rfl outs_nil) (gives_cons (give_same (by kernel_rfl)) gives_nil))⟩
theorem slices_Clone_Lbyte_L (s_ : List Int) (r : (List Int)) (h : slices_Clone_Lbyte s_ = some r) : L 67 [.d (.sl (mY s_))] = some (.arr false 1 (mY r), [.d (.sl (mY s_))]) := by
 unfold slices_Clone_Lbyte at h
 cases s_ with
 | cons x_ r_ =>
  obtain ⟨p, ⟨hne, hf⟩, hr⟩ := slices_Clone_Lbyte_ok_cons x_ r_ r (by rw [h]; rfl)
  obtain ⟨k, hk⟩ := run_of_cons (F := F67) (x := (D.int .u8) x_) (xs := List.map (D.int .u8) r_) (ap := [.d (.sl (mY (x_ :: r_)))]) (bx0 := fun _ => none) rfl (by kernel_rfl) ⟨p, ⟨hne, hf⟩, hr⟩
  exact lim_run (k := k) rfl hk
 | nil =>
  obtain rfl : r = [] := by unfold grow at h; split at h <;> first | (cases h; rfl) | cases h
  obtain ⟨p, ⟨hne, hf⟩, hr⟩ := slices_Clone_Lbyte_ok_nil [] (by rfl)
  obtain ⟨q, ⟨hne', hf'⟩, hr'⟩ := slices_Clone_Lbyte_ok_empt [] (by rw [h]; rfl)
  obtain ⟨k, hk⟩ := run_of_empty (F := F67) (n := 1) rfl rfl ⟨p, ⟨hne, hf⟩, hr⟩ ⟨q, ⟨hne', hf'⟩, hr'⟩
  exact lim_run (k := k) rfl hk
def math_bits_Mul64_Q (x_ : Int) (y_ : Int) (r : (Int × Int)) (p : Out × St) : Prop := (∀ i, p.1 ≠ .exit i) ∧ finF F134 [.d (.int .u64 x_), .d (.int .u64 y_)] p.2 = some (.tup [.d (.int .u64 r.1), .d (.int .u64 r.2)], [.d (.int .u64 x_), .d (.int .u64 y_)])
theorem math_bits_Mul64_ok (x_ : Int) (y_ : Int) (r : (Int × Int)) (h : math_bits_Mul64 x_ y_ = some r) : Runs L F134.body ⟨tmOf [.d (.int .u64 x_), .d (.int .u64 y_)] 0, updW (fun _ => none) []⟩ (math_bits_Mul64_Q x_ y_ r) := by
 unfold math_bits_Mul64 at h
 refine Sq <| Ro <| Rc 2 [⟨.d (.int .u64 0), []⟩, ⟨.d (.int .u64 0), []⟩] <| Rk <| Sq <| Ro <| Rc 3 [⟨.d (.int .u64 x_), []⟩, ⟨.d (.int .u64 (bitsOp .and .u64 x_ 4294967295)), []⟩, ⟨.d (.int .u64 (bitsOp .and .u64 x_ 4294967295)), []⟩] <| Rk <| Sq <| Ro <| Rc 3 [⟨.d (.int .u64 x_), []⟩, ⟨.d (.int .u64 (shrI .u64 x_ 32)), []⟩, ⟨.d (.int .u64 (shrI .u64 x_ 32)), []⟩] <| Rk <| Sq <| Ro <| Rc 3 [⟨.d (.int .u64 y_), []⟩, ⟨.d (.int .u64 (bitsOp .and .u64 y_ 4294967295)), []⟩, ⟨.d (.int .u64 (bitsOp .and .u64 y_ 4294967295)), []⟩] <| Rk <| Sq <| Ro <| Rc 3 [⟨.d (.int .u64 y_), []⟩, ⟨.d (.int .u64 (shrI .u64 y_ 32)), []⟩, ⟨.d (.int .u64 (shrI .u64 y_ 32)), []⟩] <| Rk <| Sq <| Ro <| Rc 4 [⟨.d (.int .u64 (bitsOp .and .u64 x_ 4294967295)), []⟩, ⟨.d (.int .u64 (bitsOp .and .u64 y_ 4294967295)), []⟩, ⟨.d (.int .u64 (IntKind.wrap .u64 ((bitsOp .and .u64 x_ 4294967295) * (bitsOp .and .u64 y_ 4294967295)))), []⟩, ⟨.d (.int .u64 (IntKind.wrap .u64 ((bitsOp .and .u64 x_ 4294967295) * (bitsOp .and .u64 y_ 4294967295)))), []⟩] <| Rk <| Sq <| Ro <| Rc 7 [⟨.d (.int .u64 (shrI .u64 x_ 32)), []⟩, ⟨.d (.int .u64 (bitsOp .and .u64 y_ 4294967295)), []⟩, ⟨.d (.int .u64 (IntKind.wrap .u64 ((shrI .u64 x_ 32) * (bitsOp .and .u64 y_ 4294967295)))), []⟩, ⟨.d (.int .u64 (IntKind.wrap .u64 ((bitsOp .and .u64 x_ 4294967295) * (bitsOp .and .u64 y_ 4294967295)))), []⟩, ⟨.d (.int .u64 (shrI .u64 (IntKind.wrap .u64 ((bitsOp .and .u64 x_ 4294967295) * (bitsOp .and .u64 y_ 4294967295))) 32)), []⟩, ⟨.d (.int .u64 (IntKind.wrap .u64 ((IntKind.wrap .u64 ((shrI .u64 x_ 32) * (bitsOp .and .u64 y_ 4294967295))) + (shrI .u64 (IntKind.wrap .u64 ((bitsOp .and .u64 x_ 4294967295) * (bitsOp .and .u64 y_ 4294967295))) 32)))), []⟩, ⟨.d (.int .u64 (IntKind.wrap .u64 ((IntKind.wrap .u64 ((shrI .u64 x_ 32) * (bitsOp .and .u64 y_ 4294967295))) + (shrI .u64 (IntKind.wrap .u64 ((bitsOp .and .u64 x_ 4294967295) * (bitsOp .and .u64 y_ 4294967295))) 32)))), []⟩] ?_
 refine Rk <| Sq <| Ro <| Rc 3 [⟨.d (.int .u64 (IntKind.wrap .u64 ((IntKind.wrap .u64 ((shrI .u64 x_ 32) * (bitsOp .and .u64 y_ 4294967295))) + (shrI .u64 (IntKind.wrap .u64 ((bitsOp .and .u64 x_ 4294967295) * (bitsOp .and .u64 y_ 4294967295))) 32)))), []⟩, ⟨.d (.int .u64 (bitsOp .and .u64 (IntKind.wrap .u64 ((IntKind.wrap .u64 ((shrI .u64 x_ 32) * (bitsOp .and .u64 y_ 4294967295))) + (shrI .u64 (IntKind.wrap .u64 ((bitsOp .and .u64 x_ 4294967295) * (bitsOp .and .u64 y_ 4294967295))) 32))) 4294967295)), []⟩, ⟨.d (.int .u64 (bitsOp .and .u64 (IntKind.wrap .u64 ((IntKind.wrap .u64 ((shrI .u64 x_ 32) * (bitsOp .and .u64 y_ 4294967295))) + (shrI .u64 (IntKind.wrap .u64 ((bitsOp .and .u64 x_ 4294967295) * (bitsOp .and .u64 y_ 4294967295))) 32))) 4294967295)), []⟩] <| Rk <| Sq <| Ro <| Rc 3 [⟨.d (.int .u64 (IntKind.wrap .u64 ((IntKind.wrap .u64 ((shrI .u64 x_ 32) * (bitsOp .and .u64 y_ 4294967295))) + (shrI .u64 (IntKind.wrap .u64 ((bitsOp .and .u64 x_ 4294967295) * (bitsOp .and .u64 y_ 4294967295))) 32)))), []⟩, ⟨.d (.int .u64 (shrI .u64 (IntKind.wrap .u64 ((IntKind.wrap .u64 ((shrI .u64 x_ 32) * (bitsOp .and .u64 y_ 4294967295))) + (shrI .u64 (IntKind.wrap .u64 ((bitsOp .and .u64 x_ 4294967295) * (bitsOp .and .u64 y_ 4294967295))) 32))) 32)), []⟩, ⟨.d (.int .u64 (shrI .u64 (IntKind.wrap .u64 ((IntKind.wrap .u64 ((shrI .u64 x_ 32) * (bitsOp .and .u64 y_ 4294967295))) + (shrI .u64 (IntKind.wrap .u64 ((bitsOp .and .u64 x_ 4294967295) * (bitsOp .and .u64 y_ 4294967295))) 32))) 32)), []⟩] ?_
 refine Rk <| Sq <| Ro <| Rc 6 [⟨.d (.int .u64 (bitsOp .and .u64 (IntKind.wrap .u64 ((IntKind.wrap .u64 ((shrI .u64 x_ 32) * (bitsOp .and .u64 y_ 4294967295))) + (shrI .u64 (IntKind.wrap .u64 ((bitsOp .and .u64 x_ 4294967295) * (bitsOp .and .u64 y_ 4294967295))) 32))) 4294967295)), []⟩, ⟨.d (.int .u64 (bitsOp .and .u64 x_ 4294967295)), []⟩, ⟨.d (.int .u64 (shrI .u64 y_ 32)), []⟩, ⟨.d (.int .u64 (IntKind.wrap .u64 ((bitsOp .and .u64 x_ 4294967295) * (shrI .u64 y_ 32)))), []⟩, ⟨.d (.int .u64 (IntKind.wrap .u64 ((bitsOp .and .u64 (IntKind.wrap .u64 ((IntKind.wrap .u64 ((shrI .u64 x_ 32) * (bitsOp .and .u64 y_ 4294967295))) + (shrI .u64 (IntKind.wrap .u64 ((bitsOp .and .u64 x_ 4294967295) * (bitsOp .and .u64 y_ 4294967295))) 32))) 4294967295) + (IntKind.wrap .u64 ((bitsOp .and .u64 x_ 4294967295) * (shrI .u64 y_ 32)))))), []⟩, ⟨.d (.int .u64 (IntKind.wrap .u64 ((bitsOp .and .u64 (IntKind.wrap .u64 ((IntKind.wrap .u64 ((shrI .u64 x_ 32) * (bitsOp .and .u64 y_ 4294967295))) + (shrI .u64 (IntKind.wrap .u64 ((bitsOp .and .u64 x_ 4294967295) * (bitsOp .and .u64 y_ 4294967295))) 32))) 4294967295) + (IntKind.wrap .u64 ((bitsOp .and .u64 x_ 4294967295) * (shrI .u64 y_ 32)))))), []⟩] <| Rk <| Sq <| Ro <| Rc 9 [⟨.d (.int .u64 (shrI .u64 x_ 32)), []⟩, ⟨.d (.int .u64 (shrI .u64 y_ 32)), []⟩, ⟨.d (.int .u64 (IntKind.wrap .u64 ((shrI .u64 x_ 32) * (shrI .u64 y_ 32)))), []⟩, ⟨.d (.int .u64 (shrI .u64 (IntKind.wrap .u64 ((IntKind.wrap .u64 ((shrI .u64 x_ 32) * (bitsOp .and .u64 y_ 4294967295))) + (shrI .u64 (IntKind.wrap .u64 ((bitsOp .and .u64 x_ 4294967295) * (bitsOp .and .u64 y_ 4294967295))) 32))) 32)), []⟩, ⟨.d (.int .u64 (IntKind.wrap .u64 ((IntKind.wrap .u64 ((shrI .u64 x_ 32) * (shrI .u64 y_ 32))) + (shrI .u64 (IntKind.wrap .u64 ((IntKind.wrap .u64 ((shrI .u64 x_ 32) * (bitsOp .and .u64 y_ 4294967295))) + (shrI .u64 (IntKind.wrap .u64 ((bitsOp .and .u64 x_ 4294967295) * (bitsOp .and .u64 y_ 4294967295))) 32))) 32)))), []⟩, ⟨.d (.int .u64 (IntKind.wrap .u64 ((bitsOp .and .u64 (IntKind.wrap .u64 ((IntKind.wrap .u64 ((shrI .u64 x_ 32) * (bitsOp .and .u64 y_ 4294967295))) + (shrI .u64 (IntKind.wrap .u64 ((bitsOp .and .u64 x_ 4294967295) * (bitsOp .and .u64 y_ 4294967295))) 32))) 4294967295) + (IntKind.wrap .u64 ((bitsOp .and .u64 x_ 4294967295) * (shrI .u64 y_ 32)))))), []⟩, ⟨.d (.int .u64 (shrI .u64 (IntKind.wrap .u64 ((bitsOp .and .u64 (IntKind.wrap .u64 ((IntKind.wrap .u64 ((shrI .u64 x_ 32) * (bitsOp .and .u64 y_ 4294967295))) + (shrI .u64 (IntKind.wrap .u64 ((bitsOp .and .u64 x_ 4294967295) * (bitsOp .and .u64 y_ 4294967295))) 32))) 4294967295) + (IntKind.wrap .u64 ((bitsOp .and .u64 x_ 4294967295) * (shrI .u64 y_ 32))))) 32)), []⟩, ⟨.d (.int .u64 (IntKind.wrap .u64 ((IntKind.wrap .u64 ((IntKind.wrap .u64 ((shrI .u64 x_ 32) * (shrI .u64 y_ 32))) + (shrI .u64 (IntKind.wrap .u64 ((IntKind.wrap .u64 ((shrI .u64 x_ 32) * (bitsOp .and .u64 y_ 4294967295))) + (shrI .u64 (IntKind.wrap .u64 ((bitsOp .and .u64 x_ 4294967295) * (bitsOp .and .u64 y_ 4294967295))) 32))) 32))) + (shrI .u64 (IntKind.wrap .u64 ((bitsOp .and .u64 (IntKind.wrap .u64 ((IntKind.wrap .u64 ((shrI .u64 x_ 32) * (bitsOp .and .u64 y_ 4294967295))) + (shrI .u64 (IntKind.wrap .u64 ((bitsOp .and .u64 x_ 4294967295) * (bitsOp .and .u64 y_ 4294967295))) 32))) 4294967295) + (IntKind.wrap .u64 ((bitsOp .and .u64 x_ 4294967295) * (shrI .u64 y_ 32))))) 32)))), []⟩, ⟨.d (.int .u64 (IntKind.wrap .u64 ((IntKind.wrap .u64 ((IntKind.wrap .u64 ((shrI .u64 x_ 32) * (shrI .u64 y_ 32))) + (shrI .u64 (IntKind.wrap .u64 ((IntKind.wrap .u64 ((shrI .u64 x_ 32) * (bitsOp .and .u64 y_ 4294967295))) + (shrI .u64 (IntKind.wrap .u64 ((bitsOp .and .u64 x_ 4294967295) * (bitsOp .and .u64 y_ 4294967295))) 32))) 32))) + (shrI .u64 (IntKind.wrap .u64 ((bitsOp .and .u64 (IntKind.wrap .u64 ((IntKind.wrap .u64 ((shrI .u64 x_ 32) * (bitsOp .and .u64 y_ 4294967295))) + (shrI .u64 (IntKind.wrap .u64 ((bitsOp .and .u64 x_ 4294967295) * (bitsOp .and .u64 y_ 4294967295))) 32))) 4294967295) + (IntKind.wrap .u64 ((bitsOp .and .u64 x_ 4294967295) * (shrI .u64 y_ 32))))) 32)))), []⟩] ?_
 refine Rk <| Sq <| Ro <| Rc 4 [⟨.d (.int .u64 x_), []⟩, ⟨.d (.int .u64 y_), []⟩, ⟨.d (.int .u64 (IntKind.wrap .u64 (x_ * y_))), []⟩, ⟨.d (.int .u64 (IntKind.wrap .u64 (x_ * y_))), []⟩] <| Rk <| Runs.ret ?_
 cases h
 exact Fq
theorem math_bits_Mul64_L (x_ : Int) (y_ : Int) (r : (Int × Int)) (h : math_bits_Mul64 x_ y_ = some r) : L 134 [.d (.int .u64 x_), .d (.int .u64 y_)] = some (.tup [.d (.int .u64 r.1), .d (.int .u64 r.2)], [.d (.int .u64 x_), .d (.int .u64 y_)]) := by
 obtain ⟨p, ⟨hne, hf⟩, hr⟩ := math_bits_Mul64_ok x_ y_ r h
 obtain ⟨k, hk⟩ := run_of (F := F134) (args := [.d (.int .u64 x_), .d (.int .u64 y_)]) (ap := [.d (.int .u64 x_), .d (.int .u64 y_)]) (bx0 := updW (fun _ => none) []) rfl rfl (by kernel_rfl) ⟨p, ⟨hne, hf⟩, hr⟩
 exact lim_run (k := k) rfl hk
def math_bits_Mul_Q (x_ : Int) (y_ : Int) (r : (Int × Int)) (p : Out × St) : Prop := (∀ i, p.1 ≠ .exit i) ∧ finF F103 [.d (.int .u64 x_), .d (.int .u64 y_)] p.2 = some (.tup [.d (.int .u64 r.1), .d (.int .u64 r.2)], [.d (.int .u64 x_), .d (.int .u64 y_)])
theorem math_bits_Mul_ok (x_ : Int) (y_ : Int) (r : (Int × Int)) (h : math_bits_Mul x_ y_ = some r) : Runs L F103.body ⟨tmOf [.d (.int .u64 x_), .d (.int .u64 y_)] 0, updW (fun _ => none) []⟩ (math_bits_Mul_Q x_ y_ r) := by
 unfold math_bits_Mul at h
 refine Sq <| Ro <| Rc 2 [⟨.d (.int .u64 0), []⟩, ⟨.d (.int .u64 0), []⟩] <| Rk <| Sq <| Cf <| Runs.skip <| kS_nrm <| Sq <| Ro <| Rc 2 [⟨.d (.int .u64 x_), []⟩, ⟨.d (.int .u64 y_), []⟩] ?_
 obtain ⟨r_1, hr_1, h⟩ := bind_s h
 have hc_1 := math_bits_Mul64_L x_ y_ r_1 hr_1
 refine Rt (some 25) (.callf 134) [] none [.d (.int .u64 x_), .d (.int .u64 y_)] (.tup [.d (.int .u64 r_1.1), .d (.int .u64 r_1.2)]) [] (cc hc_1) <| Rc 5 [⟨.tup [.d (.int .u64 r_1.1), .d (.int .u64 r_1.2)], []⟩, ⟨.d (.int .u64 r_1.1), []⟩, ⟨.d (.int .u64 r_1.2), []⟩, ⟨.d (.int .u64 r_1.1), []⟩, ⟨.d (.int .u64 r_1.2), []⟩] <| Rk <| Sq <| Ro <| Rc 4 [⟨.d (.int .u64 r_1.1), []⟩, ⟨.d (.int .u64 r_1.2), []⟩, ⟨.d (.int .u64 r_1.1), []⟩, ⟨.d (.int .u64 r_1.2), []⟩] <| Rk <| Runs.ret ?_
 cases h
 exact Fq
theorem math_bits_Mul_L (x_ : Int) (y_ : Int) (r : (Int × Int)) (h : math_bits_Mul x_ y_ = some r) : L 103 [.d (.int .u64 x_), .d (.int .u64 y_)] = some (.tup [.d (.int .u64 r.1), .d (.int .u64 r.2)], [.d (.int .u64 x_), .d (.int .u64 y_)]) := by
 obtain ⟨p, ⟨hne, hf⟩, hr⟩ := math_bits_Mul_ok x_ y_ r h
 obtain ⟨k, hk⟩ := run_of (F := F103) (args := [.d (.int .u64 x_), .d (.int .u64 y_)]) (ap := [.d (.int .u64 x_), .d (.int .u64 y_)]) (bx0 := updW (fun _ => none) []) rfl rfl (by kernel_rfl) ⟨p, ⟨hne, hf⟩, hr⟩
 exact lim_run (k := k) rfl hk
def slices_Repeat_Lbyte_h22n (b_30 : (List Int)) (n8 : Int) (v_30 : Nat) (n_30 : Nat) : St := ⟨tab [(7, .ref [30] v_30 0 n_30 1), (8, .i n8)], tabB [([30], some (.arr (mY b_30) v_30 false))]⟩
def slices_Repeat_Lbyte_h22 (b_30 : (List Int)) (n8 : Int) (v_30 : Nat) : St := slices_Repeat_Lbyte_h22n b_30 n8 v_30 (mY b_30).length
def slices_Repeat_Lbyte_h31 (b_30 : (List Int)) (v_30 : Nat) : St := ⟨tab [(7, .ref [30] v_30 0 (mY b_30).length 1)], tabB [([30], some (.arr (mY b_30) v_30 false))]⟩
def slices_Repeat_Lbyte_Q (x_ : (List Int)) (count_ : Int) (r : (List Int)) (p : Out × St) : Prop := (∀ i, p.1 ≠ .exit i) ∧ finF F68 [.d (.sl (mY x_)), .i count_] p.2 = some (.d (.sl (mY r)), [.d (.sl (mY x_)), .i count_])
def slices_Repeat_Lbyte_P22 (x_ : (List Int)) (count_ : Int)  (e : (List Int)) (p : Out × St) : Prop := p.1 = .exit 0 ∧ ∃ g : Nat, Canon [] [7] [[30]] p.2 (slices_Repeat_Lbyte_h31 e g)
theorem slices_Repeat_Lbyte_l22_ok (x_ : (List Int)) (count_ : Int) (b_30 : (List Int)) (n8 : Int) (v_30 : Nat) (r : (Lp ((List Int) × Int) (List Int))) (h : slices_Repeat_Lbyte_l22 b_30 n8 = some r) : Runs L F68l22 (slices_Repeat_Lbyte_h22 b_30 n8 v_30) (LQ [] [7, 8] [[30]] (fun (x : ((List Int) × Int)) (g : Nat) => slices_Repeat_Lbyte_h22 x.1 x.2 g) (slices_Repeat_Lbyte_P22 x_ count_) r) := by
 unfold slices_Repeat_Lbyte_l22 at h
 refine Sq <| Sq <| Ro <| Rc 2 [vi n8, ⟨.ref [30] v_30 0 (mY b_30).length 1, []⟩] <| Rt (some 36) .lenL [] none [.ref [30] v_30 0 (mY b_30).length 1] (.i (b_30.length : Int)) [] (cut_lenR (e := (D.int .u8)) b_30 rfl) <| Rc 1 [vb (decide (n8 < (b_30.length : Int)))] <| Rk ?_
 cases hb_4 : ((decide (n8 < (b_30.length : Int))) : Bool) with
 | true =>
  replace h := ite_t hb_4 h
  refine Ct <| Runs.skip <| kS_nrm <| Runs.block <| Ro <| Rc 3 [vi n8, ⟨.ref [30] v_30 0 (mY b_30).length 1, []⟩, vi n8] ?_
  obtain ⟨z_2, hz_2, h⟩ := bind_s h
  refine Rt (some 41) (.subsl 1 true false false) [] none [.ref [30] v_30 0 (mY b_30).length 1, .i n8] (.ref [30] v_30 (0 + (n8).toNat) ((b_30.length : Int).toNat - (n8).toNat) 1) [] (cut_subTF (e := (D.int .u8)) (l := b_30) hz_2 rfl) <| Rc 2 [⟨.ref [30] v_30 0 (mY b_30).length 1, []⟩, vi n8] ?_
  obtain ⟨z_3, hz_3, h⟩ := bind_s h
  refine Rt (some 44) (.subsl 1 false true false) [] none [.ref [30] v_30 0 (mY b_30).length 1, .i n8] (.ref [30] v_30 (0 + (0 : Int).toNat) ((n8).toNat - (0 : Int).toNat) 1) [] (cut_subFT (e := (D.int .u8)) (l := b_30) hz_3 rfl) <| Rt (some 45) (.copy 1 false) [] none [.ref [30] v_30 (0 + (n8).toNat) ((b_30.length : Int).toNat - (n8).toNat) 1, .ref [30] v_30 (0 + (0 : Int).toNat) ((n8).toNat - (0 : Int).toNat) 1] (.i ((min z_3.length ((b_30.length : Int).toNat - (n8).toNat) : Nat) : Int)) [([30], some (.arr (mY (cpy b_30 (0 + (n8).toNat) ((b_30.length : Int).toNat - (n8).toNat) z_3)) v_30 false))] (cut_copy (e := (D.int .u8)) (l := b_30) (ys := z_3) (cp_sub (fz := false) hz_3 (by kernel_rfl) (by kernel_rfl)) (szOk_map (e := (D.int .u8)) (fun _ => rfl) _) (by kernel_rfl) (by kernel_rfl) (sub_le hz_2)) <| Rc 2 [vi (IntKind.wrap .i64 (n8 + ((min z_3.length ((b_30.length : Int).toNat - (n8).toNat) : Nat) : Int))), vi (IntKind.wrap .i64 (n8 + ((min z_3.length ((b_30.length : Int).toNat - (n8).toNat) : Nat) : Int)))] <| Rd <| kB_nrm ?_
  obtain rfl := sj h
  exact ⟨rfl, v_30, (Canon.len (f := fun n => slices_Repeat_Lbyte_h22n (cpy b_30 (0 + (n8).toNat) ((b_30.length : Int).toNat - (n8).toNat) z_3) (IntKind.wrap .i64 (n8 + ((min z_3.length ((b_30.length : Int).toNat - (n8).toNat) : Nat) : Int))) v_30 n) ((by simp only [List.length_map, List.length_set, cpy_length] : (mY b_30).length = (mY (cpy b_30 (0 + (n8).toNat) ((b_30.length : Int).toNat - (n8).toNat) z_3)).length)).symm Cz)⟩
 | false =>
  replace h := ite_f hb_4 h
  refine Cf <| Runs.exit <| kS_exit ?_
  obtain rfl := sj h
  exact ⟨nofun, rfl, v_30, Cz⟩
theorem slices_Repeat_Lbyte_ok (x_ : (List Int)) (count_ : Int) (r : (List Int)) (h : slices_Repeat_Lbyte x_ count_ = some r) : Runs L F68.body ⟨tmOf [.d (.sl (mY x_)), .i count_] 0, updW (fun _ => none) []⟩ (slices_Repeat_Lbyte_Q x_ count_ r) := by
 unfold slices_Repeat_Lbyte at h
 refine Sq <| Ro <| Rc 1 [⟨.nils, []⟩] <| Rk <| Sq <| Sq <| Ro <| Rc 2 [vi count_, vb (decide (count_ < 0))] <| Rk ?_
 cases hb_1 : ((decide (count_ < 0)) : Bool) with
 | true =>
  replace h := ite_t hb_1 h
  refine Ct ?_
  cases h
 | false =>
  replace h := ite_f hb_1 h
  refine Cf <| Runs.skip <| kS_nrm <| Sq <| Ro <| Rc 1 [⟨.d (.sl (mY x_)), []⟩] <| Rt (some 14) .lenL [] none [.d (.sl (mY x_))] (.i (x_.length : Int)) [] (cut_len _) <| Rc 3 [⟨.d (.int .u64 (IntKind.wrap .u64 (x_.length : Int))), []⟩, vi count_, ⟨.d (.int .u64 (IntKind.wrap .u64 count_)), []⟩] ?_
  obtain ⟨r_1, hr_1, h⟩ := bind_s h
  have hc_1 := math_bits_Mul_L (IntKind.wrap .u64 (x_.length : Int)) (IntKind.wrap .u64 count_) r_1 hr_1
  refine Rt (some 18) (.callf 103) [] none [.d (.int .u64 (IntKind.wrap .u64 (x_.length : Int))), .d (.int .u64 (IntKind.wrap .u64 count_))] (.tup [.d (.int .u64 r_1.1), .d (.int .u64 r_1.2)]) [] (cc hc_1) <| Rc 5 [⟨.tup [.d (.int .u64 r_1.1), .d (.int .u64 r_1.2)], []⟩, ⟨.d (.int .u64 r_1.1), []⟩, ⟨.d (.int .u64 r_1.2), []⟩, ⟨.d (.int .u64 r_1.1), []⟩, ⟨.d (.int .u64 r_1.2), []⟩] <| Rk <| Sq <| Sq <| Ro <| Rc 3 [⟨.d (.int .u64 r_1.1), []⟩, vb (decide (r_1.1 > 0)), vb (decide (r_1.1 > 0))] ?_
  cases hb_2 : ((decide (r_1.1 > 0)) : Bool) with
  | true =>
   replace h := ite_t hb_2 h
   refine Rc 3 [vn, vn, vb true] <| Rk <| Ct ?_
   cases h
  | false =>
   replace h := ite_f hb_2 h
   refine Rc 3 [⟨.d (.int .u64 r_1.2), []⟩, vb (decide (r_1.2 > 9223372036854775807)), vb (decide (r_1.2 > 9223372036854775807))] <| Rk ?_
   cases hb_3 : ((decide (r_1.2 > 9223372036854775807)) : Bool) with
   | true =>
    replace h := ite_t hb_3 h
    refine Ct ?_
    cases h
   | false =>
    replace h := ite_f hb_3 h
    refine Cf <| Runs.skip <| kS_nrm <| Sq <| Ro <| Rc 2 [⟨.d (.int .u64 r_1.2), []⟩, vi (IntKind.wrap .i64 r_1.2)] ?_
    obtain ⟨z_1, hz_1, h⟩ := bind_s h
    refine Rt (some 30) (.mkslice (.int .u8 0) 1) [] none [.i (IntKind.wrap .i64 r_1.2), .i (IntKind.wrap .i64 r_1.2)] (.ref [30] 0 0 (mY z_1).length 1) [([30], some (.arr (mY z_1) 0 false))] (cut_mk (e := (D.int .u8)) (z := 0) hz_1 rfl (by kernel_rfl)) <| Rc 1 [⟨.ref [30] 0 0 (mY z_1).length 1, []⟩] <| Rk <| Sq <| Ro <| Rc 2 [⟨.ref [30] 0 0 (mY z_1).length 1, []⟩, ⟨.d (.sl (mY x_)), []⟩] <| Rt (some 33) (.copy 1 false) [] none [.ref [30] 0 0 (mY z_1).length 1, .d (.sl (mY x_))] (.i ((min x_.length (mY z_1).length : Nat) : Int)) [([30], some (.arr (mY (cpy z_1 0 (mY z_1).length x_)) 0 false))] (cut_copy (e := (D.int .u8)) (l := z_1) (ys := x_) (cp_data _) (szOk_map (e := (D.int .u8)) (fun _ => rfl) _) (by kernel_rfl) (by kernel_rfl) (by simp [cpy_length])) <| Rc 1 [vi ((min x_.length (mY z_1).length : Nat) : Int)] <| Rk <| Sq <| Runs.block ?_
    obtain ⟨e_1, he_1, h⟩ := bind_s h
    refine Runs.loop (fun x : ((List Int) × Int) => slices_Repeat_Lbyte_l22 x.1 x.2) (fun (x : ((List Int) × Int)) (g : Nat) => slices_Repeat_Lbyte_h22 x.1 x.2 g) (slices_Repeat_Lbyte_P22 x_ count_) (fun x g r hr => slices_Repeat_Lbyte_l22_ok x_ count_ x.1 x.2 g r hr) 0 he_1 (Canon.len (f := fun n => slices_Repeat_Lbyte_h22n (cpy z_1 0 (mY z_1).length x_) ((min x_.length (mY z_1).length : Nat) : Int) 0 n) ((by simp only [List.length_map, List.length_set, cpy_length] : (mY z_1).length = (mY (cpy z_1 0 (mY z_1).length x_)).length)).symm Cz) ?_
    rintro ⟨o, s⟩ hp
    obtain ⟨ho, g_1, hk_1⟩ := hp
    have ho' : o = .exit 0 := ho
    subst ho'
    refine kB_hit <| kS_nrm <| Runs.canon _ hk_1 <| Sq <| Ro <| Rc 2 [⟨.ref [30] g_1 0 (mY e_1).length 1, []⟩, ⟨.ref [30] g_1 0 (mY e_1).length 1, []⟩] <| Rk <| Sq <| Runs.gcons (frz_ref (e := (D.int .u8)) (l := e_1) (id := [30]) (v := g_1) (n := 1) (fz := false) (by kernel_rfl) (by kernel_rfl) rfl) <| Runs.gnil <| kS_nrm <| Runs.ret ?_
    cases h
    exact Fq
theorem slices_Repeat_Lbyte_L (x_ : (List Int)) (count_ : Int) (r : (List Int)) (h : slices_Repeat_Lbyte x_ count_ = some r) : L 68 [.d (.sl (mY x_)), .i count_] = some (.d (.sl (mY r)), [.d (.sl (mY x_)), .i count_]) := by
 obtain ⟨p, ⟨hne, hf⟩, hr⟩ := slices_Repeat_Lbyte_ok x_ count_ r h
 obtain ⟨k, hk⟩ := run_of (F := F68) (args := [.d (.sl (mY x_)), .i count_]) (ap := [.d (.sl (mY x_)), .i count_]) (bx0 := updW (fun _ => none) []) rfl rfl (by kernel_rfl) ⟨p, ⟨hne, hf⟩, hr⟩
 exact lim_run (k := k) rfl hk
def iter_Spread_h16 (b1 : Block) (b_19 : (List Int)) (t21 : (List D)) (t22 : Int) (t23 : Int) (v_19 : Nat) : St := ⟨tab [(1, .ptr [1] 0 0), (4, .ref [19] v_19 0 (mY b_19).length 1), (21, .d (.sl (List.map id t21))), (22, .i t22), (23, .i t23)], tabB [([1], some (.cells [.i b1.Times, .d (.sl (mY b1.Bytes)), .d (.sl (List.map id b1.Blocks))] 0)), ([19], some (.arr (mY b_19) v_19 false))]⟩
def iter_Spread_h31 (b1 : Block) (b_19 : (List Int)) (v_19 : Nat) : St := ⟨tab [(1, .ptr [1] 0 0), (4, .ref [19] v_19 0 (mY b_19).length 1)], tabB [([1], some (.cells [.i b1.Times, .d (.sl (mY b1.Bytes)), .d (.sl (List.map id b1.Blocks))] 0)), ([19], some (.arr (mY b_19) v_19 false))]⟩
def iter_Spread_Q (b_ : Block) (r : ((List Int) × Bool)) (p : Out × St) : Prop := (∀ i, p.1 ≠ .exit i) ∧ finF F26 [.d (Block.d b_)] p.2 = some (.tup [.d (.sl (mY r.1)), .b r.2], [.d (Block.d b_)])
def iter_Spread_P16 (b_ : Block) (b1 : Block) (t21 : (List D)) (t22 : Int) (e : (List Int)) (p : Out × St) : Prop := p.1 = .exit 0 ∧ ∃ g : Nat, Canon [] [1, 4] [[1], [19]] p.2 (iter_Spread_h31 b1 e g)
theorem iter_Spread_l16_ok (self_ : Block → Option ((List Int) × Bool)) (hs_ : ∀ (b_ : Block) (r : ((List Int) × Bool)), self_ b_ = some r → L 26 [.d (Block.d b_)] = some (.tup [.d (.sl (mY r.1)), .b r.2], [.d (Block.d b_)])) (b_ : Block) (b1 : Block) (b_19 : (List Int)) (t21 : (List D)) (t22 : Int) (t23 : Int) (v_19 : Nat) (r : (Lp ((List Int) × Int) (List Int))) (h : iter_Spread_l16 self_ b1 b_19 t21 t22 t23 = some r) : Runs L F26l16 (iter_Spread_h16 b1 b_19 t21 t22 t23 v_19) (LQ [] [1, 4, 21, 22, 23] [[1], [19]] (fun (x : ((List Int) × Int)) (g : Nat) => iter_Spread_h16 b1 x.1 t21 t22 x.2 g) (iter_Spread_P16 b_ b1 t21 t22) r) := by
 unfold iter_Spread_l16 at h
 refine Sq <| Ro <| Rc 1 [vb (decide (t23 < t22))] <| Rk <| Sq ?_
 cases hb_3 : ((decide (t23 < t22)) : Bool) with
 | true =>
  replace h := ite_t hb_3 h
  refine Ct <| Runs.skip <| kS_nrm <| Sq <| Runs.block <| Sq <| Ro ?_
  obtain ⟨z_1, hz_1, h⟩ := bind_s h
  obtain ⟨z_2, hz_2, h⟩ := bind_s h
  rw [ofD_eq hz_2] at hz_1
  refine Rt (some 25) (.iaddrS 3) [] none [.d (.sl (List.map id t21)), .i t23] (.elt (Block.d z_2) 0) [] (cut_at1 (e := id) hz_1 rfl) <| Rc 3 [⟨.d (Block.d z_2), []⟩, ⟨.ptr [6] 0 0, [([6], some (.cells [.i 0, .nils, .nils] 0))]⟩, ⟨.tup [], [([6], some (.cells [.i z_2.Times, .d (.sl (mY z_2.Bytes)), .d (.sl (List.map id z_2.Blocks))] 0))]⟩] <| Rk <| Sq <| Ro <| Rc 1 [⟨.d (Block.d z_2), []⟩] ?_
  obtain ⟨r_4, hr_4, h⟩ := bind_s h
  have hc_4 := hs_ z_2 r_4 hr_4
  refine Rt (some 29) (.callf 26) [] none [.d (Block.d z_2)] (.tup [.d (.sl (mY r_4.1)), .b r_4.2]) [] (cc hc_4) <| Rc 5 [⟨.tup [.d (.sl (mY r_4.1)), .b r_4.2], []⟩, ⟨.d (.sl (mY r_4.1)), []⟩, vb r_4.2, ⟨.d (.sl (mY r_4.1)), []⟩, vb r_4.2] <| Rk <| Ro <| Rc 2 [⟨.ref [19] v_19 0 (mY b_19).length 1, []⟩, ⟨.d (.sl (mY r_4.1)), []⟩] ?_
  obtain ⟨z_3, hz_3, h⟩ := bind_s h
  refine Rt (some 34) (.append 1 1 false) [] none [.ref [19] v_19 0 (mY b_19).length 1, .d (.sl (mY r_4.1))] (.ref [19] (v_19 + 1) 0 (mY z_3).length 1) [([19], some (.arr (mY z_3) (v_19 + 1) false))] (cut_appR (e := (D.int .u8)) (l := b_19) (fz := false) (ws := []) (ap_data _) (fun _ => rfl) hz_3 (by kernel_rfl) (by kernel_rfl) rfl) <| Rc 1 [⟨.ref [19] (v_19 + 1) 0 (mY z_3).length 1, []⟩] <| Rd <| kB_nrm <| kS_nrm <| Ro <| Rc 2 [vi (IntKind.wrap .i64 (t23 + 1)), vi (IntKind.wrap .i64 (t23 + 1))] <| Rd ?_
  obtain rfl := sj h
  exact ⟨rfl, (v_19 + 1), Cz⟩
 | false =>
  replace h := ite_f hb_3 h
  refine Cf <| Runs.exit <| kS_exit ?_
  obtain rfl := sj h
  exact ⟨nofun, rfl, v_19, Cz⟩
theorem iter_Spread_ok (self_ : Block → Option ((List Int) × Bool)) (hs_ : ∀ (b_ : Block) (r : ((List Int) × Bool)), self_ b_ = some r → L 26 [.d (Block.d b_)] = some (.tup [.d (.sl (mY r.1)), .b r.2], [.d (Block.d b_)])) (b_ : Block) (r : ((List Int) × Bool)) (h : iter_Spread_b self_ b_ = some r) : Runs L F26.body ⟨tmOf [.d (Block.d b_)] 0, updW (fun _ => none) []⟩ (iter_Spread_Q b_ r) := by
 unfold iter_Spread_b at h
 refine Sq <| Ro <| Rc 3 [⟨.ptr [1] 0 0, [([1], some (.cells [.i b_.Times, .d (.sl (mY b_.Bytes)), .d (.sl (List.map id b_.Blocks))] 0))]⟩, ⟨.nils, []⟩, vb false] <| Rk <| Sq <| Sq <| Ro <| Rc 1 [⟨.d (Block.d b_), []⟩] ?_
 obtain ⟨r_1, hr_1, h⟩ := bind_s h
 have hc_1 := iter_May_L b_ r_1 hr_1
 refine Rt (some 10) (.callf 27) [] none [.d (Block.d b_)] (.b r_1) [] (cc hc_1) <| Rc 2 [vb (!r_1), vb (!r_1)] ?_
 cases hb_1 : ((!r_1) : Bool) with
 | true =>
  replace h := ite_t hb_1 h
  refine Rc 4 [vn, vn, vn, vb true] <| Rk <| Ct <| Sq <| Ro <| Rc 2 [⟨.nils, []⟩, vb false] <| Rk <| Sq <| Runs.gcons (frz_nil (D.int .u8) (by kernel_rfl)) <| Runs.gnil <| kS_nrm <| Runs.ret <| kS_ret ?_
  cases h
  exact Fq
 | false =>
  replace h := ite_f hb_1 h
  refine Rc 1 [⟨.d (Block.d b_), []⟩] ?_
  obtain ⟨r_2, hr_2, h⟩ := bind_s h
  have hc_2 := iter_Size_L 64 b_ r_2 hr_2
  refine Rt (some 14) (.callf 28) [] none [.d (Block.d b_)] (.i r_2) [] (cc hc_2) <| Rc 2 [vb (decide (r_2 > 65536)), vb (decide (r_2 > 65536))] <| Rk ?_
  cases hb_2 : ((decide (r_2 > 65536)) : Bool) with
  | true =>
   replace h := ite_t hb_2 h
   refine Ct <| Sq <| Ro <| Rc 2 [⟨.nils, []⟩, vb false] <| Rk <| Sq <| Runs.gcons (frz_nil (D.int .u8) (by kernel_rfl)) <| Runs.gnil <| kS_nrm <| Runs.ret <| kS_ret ?_
   cases h
   exact Fq
  | false =>
   replace h := ite_f hb_2 h
   refine Cf <| Runs.skip <| kS_nrm <| Sq <| Ro <| Rc 2 [vp [1] 0 1, ⟨.d (.sl (mY b_.Bytes)), []⟩] ?_
   obtain ⟨r_3, hr_3, h⟩ := bind_s h
   have hc_3 := slices_Clone_Lbyte_L b_.Bytes r_3 hr_3
   refine Rt (some 19) (.callf 67) [] none [.d (.sl (mY b_.Bytes))] (.ref [19] 0 0 (mY r_3).length 1) [([19], some (.arr (mY r_3) 0 false))] (cut_call (call_of (ws := []) (us := []) (by kernel_rfl) (gives_cons (ws := []) (give_same (by kernel_rfl)) gives_nil) hc_3 (by kernel_rfl) (by kernel_rfl))) <| Rc 1 [⟨.ref [19] 0 0 (mY r_3).length 1, []⟩] <| Rk <| Sq <| Sq <| Ro <| Rc 2 [vp [1] 0 2, ⟨.d (.sl (List.map id b_.Blocks)), []⟩] <| Rt (some 22) .lenL [] none [.d (.sl (List.map id b_.Blocks))] (.i (b_.Blocks.length : Int)) [] (cut_len _) <| Rc 1 [vi 0] <| Rk <| Runs.block ?_
   obtain ⟨e_1, he_1, h⟩ := bind_s h
   refine Runs.loop (fun x : ((List Int) × Int) => iter_Spread_l16 self_ b_ x.1 b_.Blocks (b_.Blocks.length : Int) x.2) (fun (x : ((List Int) × Int)) (g : Nat) => iter_Spread_h16 b_ x.1 b_.Blocks (b_.Blocks.length : Int) x.2 g) (iter_Spread_P16 b_ b_ b_.Blocks (b_.Blocks.length : Int)) (fun x g r hr => iter_Spread_l16_ok self_ hs_ b_ b_ x.1 b_.Blocks (b_.Blocks.length : Int) x.2 g r hr) 0 he_1 Cz ?_
   rintro ⟨o, s⟩ hp
   obtain ⟨ho, g_1, hk_1⟩ := hp
   have ho' : o = .exit 0 := ho
   subst ho'
   refine kB_hit <| kS_nrm <| Runs.canon _ hk_1 <| Sq <| Ro <| Rc 3 [⟨.ref [19] g_1 0 (mY e_1).length 1, []⟩, vp [1] 0 0, vi b_.Times] ?_
   obtain ⟨r_4, hr_4, h⟩ := bind_s h
   have hc_4 := slices_Repeat_Lbyte_L e_1 b_.Times r_4 hr_4
   refine Rt (some 39) (.callf 68) [] none [.ref [19] g_1 0 (mY e_1).length 1, .i b_.Times] (.d (.sl (mY r_4))) [([19], some (.arr (mY e_1) g_1 true))] (cut_call (call_of (ws := [([19], some (.arr (mY e_1) g_1 true))]) (us := [([19], some (.arr (mY e_1) g_1 true))]) (by kernel_rfl) (gives_cons (ws := [([19], some (.arr (mY e_1) g_1 true))]) (give_ref (e := (D.int .u8)) (l := e_1) (fz := false) (by kernel_rfl) (by kernel_rfl) rfl) (gives_cons (ws := []) (give_same (by kernel_rfl)) gives_nil)) hc_4 (by kernel_rfl) (by kernel_rfl))) <| Rc 2 [⟨.d (.sl (mY r_4)), []⟩, vb true] <| Rk <| Runs.ret ?_
   cases h
   exact Fq
theorem iter_Spread_L : ∀ (n_ : Nat) (b_ : Block) (r : ((List Int) × Bool)) (h : iter_Spread n_ b_ = some r), L 26 [.d (Block.d b_)] = some (.tup [.d (.sl (mY r.1)), .b r.2], [.d (Block.d b_)])
 | 0, b_, r, h => by cases h
 | n_ + 1, b_, r, h => by
  have h : iter_Spread_b (iter_Spread n_) b_ = some r := h
  obtain ⟨p, ⟨hne, hf⟩, hr⟩ := iter_Spread_ok (iter_Spread n_) (fun b_ r h => iter_Spread_L n_ b_ r h) b_ r h
  obtain ⟨k, hk⟩ := run_of (F := F26) (args := [.d (Block.d b_)]) (ap := [.d (Block.d b_)]) (bx0 := updW (fun _ => none) []) rfl rfl (by kernel_rfl) ⟨p, ⟨hne, hf⟩, hr⟩
  exact lim_run (k := k) rfl hk
def index_Source_End_Q (s_ : Source) (r : (Int × Source)) (p : Out × St) : Prop := (∀ i, p.1 ≠ .exit i) ∧ finF F66 [.ptr [0] 0 0] p.2 = some (.i r.1, [.ptr [.d (.sl (mY r.2.b)), .i r.2.e]])
theorem index_Source_End_ok (s_ : Source) (r : (Int × Source)) (h : index_Source_End s_ = some r) : Runs L F66.body ⟨tmOf [.ptr [0] 0 0] 0, updW (fun _ => none) [([0], some (.cells [.d (.sl (mY s_.b)), .i s_.e] 0))]⟩ (index_Source_End_Q s_ r) := by
 unfold index_Source_End at h
 refine Sq <| Ro <| Rc 1 [vi 0] <| Rk <| Sq <| Sq <| Ro <| Rc 1 [vp [0] 0 0] ?_
 obtain ⟨r_1, hr_1, h⟩ := bind_s h
 have hc_1 := index_Source_Left_L s_ r_1 hr_1
 refine Rt (some 4) (.callf 51) [] none [.ptr [0] 0 0] (.i r_1) [([0], some (.cells [.d (.sl (mY s_.b)), .i s_.e] 0))] (cut_call (call_of (ws := []) (us := [([0], some (.cells [.d (.sl (mY s_.b)), .i s_.e] 0))]) (by kernel_rfl) (by kernel_rfl) hc_1 (by kernel_rfl) (by kernel_rfl))) <| Rc 1 [vb (decide (r_1 > 0))] <| Rk ?_
 cases hb_1 : ((decide (r_1 > 0)) : Bool) with
 | true =>
  replace h := ite_t hb_1 h
  refine Ct <| Ro <| Rc 1 [vp [0] 0 0] ?_
  obtain ⟨r_2, hr_2, h⟩ := bind_s h
  have hc_2 := index_Source_Wrong_L s_ 3 r_2 hr_2
  refine Rt (some 7) (.callf 56) [] none [.ptr [0] 0 0, .i 3] (.tup []) [([0], some (.cells [.d (.sl (mY r_2.b)), .i r_2.e] 0))] (cut_call (call_of (ws := []) (us := [([0], some (.cells [.d (.sl (mY r_2.b)), .i r_2.e] 0))]) (by kernel_rfl) (by kernel_rfl) hc_2 (by kernel_rfl) (by kernel_rfl))) <| Rk <| Sq <| Ro <| Rc 1 [vp [0] 0 0] ?_
  obtain ⟨r_3, hr_3, h⟩ := bind_s h
  have hc_3 := index_Source_Err_L r_2 r_3 hr_3
  refine Rt (some 9) (.callf 57) [] none [.ptr [0] 0 0] (.i r_3) [([0], some (.cells [.d (.sl (mY r_2.b)), .i r_2.e] 0))] (cut_call (call_of (ws := []) (us := [([0], some (.cells [.d (.sl (mY r_2.b)), .i r_2.e] 0))]) (by kernel_rfl) (by kernel_rfl) hc_3 (by kernel_rfl) (by kernel_rfl))) <| Rc 1 [vi r_3] <| Rk <| Runs.ret ?_
  cases h
  exact Fq
 | false =>
  replace h := ite_f hb_1 h
  refine Cf <| Runs.skip <| kS_nrm <| Sq <| Ro <| Rc 1 [vp [0] 0 0] ?_
  obtain ⟨r_4, hr_4, h⟩ := bind_s h
  have hc_4 := index_Source_Err_L s_ r_4 hr_4
  refine Rt (some 9) (.callf 57) [] none [.ptr [0] 0 0] (.i r_4) [([0], some (.cells [.d (.sl (mY s_.b)), .i s_.e] 0))] (cut_call (call_of (ws := []) (us := [([0], some (.cells [.d (.sl (mY s_.b)), .i s_.e] 0))]) (by kernel_rfl) (by kernel_rfl) hc_4 (by kernel_rfl) (by kernel_rfl))) <| Rc 1 [vi r_4] <| Rk <| Runs.ret ?_
  cases h
  exact Fq
theorem index_Source_End_L (s_ : Source) (r : (Int × Source)) (h : index_Source_End s_ = some r) : L 66 [.ptr [.d (.sl (mY s_.b)), .i s_.e]] = some (.i r.1, [.ptr [.d (.sl (mY r.2.b)), .i r.2.e]]) := by
 obtain ⟨p, ⟨hne, hf⟩, hr⟩ := index_Source_End_ok s_ r h
 obtain ⟨k, hk⟩ := run_of (F := F66) (args := [.ptr [.d (.sl (mY s_.b)), .i s_.e]]) (ap := [.ptr [0] 0 0]) (bx0 := updW (fun _ => none) [([0], some (.cells [.d (.sl (mY s_.b)), .i s_.e] 0))]) rfl rfl (by kernel_rfl) ⟨p, ⟨hne, hf⟩, hr⟩
 exact lim_run (k := k) rfl hk
def iter_Get_h6 (b_11 : Source) (b_902_5 : (List Int)) (b_2_0 : Int) (b_2_1 : Int) (d5_0 : Int) (d5_1 : Int) (v_902_5 : Nat) : St := ⟨tab [(2, .ptr [2] 0 0), (4, .ptr [11] 0 0), (5, .ptr [5] 0 0)], tabB [([2], some (.cells [.i b_2_0, .w b_2_1, .nils, .nils] 0)), ([5], some (.cells [.i d5_0, .w d5_1, .ref [902, 5] v_902_5 0 (mY b_902_5).length 1, .nils] 0)), ([11], some (.cells [.d (.sl (mY b_11.b)), .i b_11.e] 0)), ([902, 5], some (.arr (mY b_902_5) v_902_5 false))]⟩
def iter_Get_h8 (b_11 : Source) (b_902_5 : (List Int)) (b_2_0 : Int) (b_2_1 : Int) (d5_0 : Int) (d5_1 : Int) (v_902_5 : Nat) : St := ⟨tab [(2, .ptr [2] 0 0), (4, .ptr [11] 0 0), (5, .ptr [5] 0 0)], tabB [([2], some (.cells [.i b_2_0, .w b_2_1, .nils, .nils] 0)), ([5], some (.cells [.i d5_0, .w d5_1, .ref [902, 5] v_902_5 0 (mY b_902_5).length 1, .nils] 0)), ([11], some (.cells [.d (.sl (mY b_11.b)), .i b_11.e] 0)), ([902, 5], some (.arr (mY b_902_5) v_902_5 false))]⟩
def iter_Get_h38 (b_11 : Source) (b_902_5 : (List Int)) (b_2_0 : Int) (b_2_1 : Int) (d5_0 : Int) (d5_1 : Int) (v_902_5 : Nat) : St := ⟨tab [(2, .ptr [2] 0 0), (4, .ptr [11] 0 0), (5, .ptr [5] 0 0)], tabB [([2], some (.cells [.i b_2_0, .w b_2_1, .nils, .nils] 0)), ([5], some (.cells [.i d5_0, .w d5_1, .ref [902, 5] v_902_5 0 (mY b_902_5).length 1, .nils] 0)), ([11], some (.cells [.d (.sl (mY b_11.b)), .i b_11.e] 0)), ([902, 5], some (.arr (mY b_902_5) v_902_5 false))]⟩
def iter_Get_Q (b_ : (List Int)) (r : (Data × Int)) (p : Out × St) : Prop := (∀ i, p.1 ≠ .exit i) ∧ finF F21 [.d (.sl (mY b_))] p.2 = some (.tup [.d (Data.d r.1), .i r.2], [.d (.sl (mY b_))])
def iter_Get_P8 (b_ : (List Int)) (b_2_0 : Int) (b_2_1 : Int) (d5_0 : Int) (d5_1 : Int) (e : ((List Int) × Source)) (p : Out × St) : Prop := p.1 = .exit 0 ∧ ∃ g : Nat, Canon [] [2, 4, 5] [[2], [5], [11], [902, 5]] p.2 (iter_Get_h38 e.2 e.1 b_2_0 b_2_1 d5_0 d5_1 g)
theorem iter_Get_l8_ok (b_ : (List Int)) (b_11 : Source) (b_902_5 : (List Int)) (b_2_0 : Int) (b_2_1 : Int) (d5_0 : Int) (d5_1 : Int) (v_902_5 : Nat) (r : (Lp (Source × (List Int)) ((List Int) × Source))) (h : iter_Get_l8 b_11 b_902_5 b_2_0 b_2_1 d5_0 d5_1 = some r) : Runs L F21l8 (iter_Get_h8 b_11 b_902_5 b_2_0 b_2_1 d5_0 d5_1 v_902_5) (LQ [] [2, 4, 5] [[2], [5], [11], [902, 5]] (fun (x : (Source × (List Int))) (g : Nat) => iter_Get_h8 x.1 x.2 b_2_0 b_2_1 d5_0 d5_1 g) (iter_Get_P8 b_ b_2_0 b_2_1 d5_0 d5_1) r) := by
 unfold iter_Get_l8 at h
 refine Sq <| Sq <| Ro <| Rc 1 [vp [11] 0 0] ?_
 obtain ⟨r_4, hr_4, h⟩ := bind_s h
 have hc_4 := index_Source_Left_L b_11 r_4 hr_4
 refine Rt (some 18) (.callf 51) [] none [.ptr [11] 0 0] (.i r_4) [([11], some (.cells [.d (.sl (mY b_11.b)), .i b_11.e] 0))] (cut_call (call_of (ws := []) (us := [([11], some (.cells [.d (.sl (mY b_11.b)), .i b_11.e] 0))]) (by kernel_rfl) (by kernel_rfl) hc_4 (by kernel_rfl) (by kernel_rfl))) <| Rc 1 [vb (decide (r_4 > 0))] <| Rk ?_
 cases hb_1 : ((decide (r_4 > 0)) : Bool) with
 | true =>
  replace h := ite_t hb_1 h
  refine Ct <| Runs.skip <| kS_nrm <| Runs.block <| Sq <| Ro <| Rc 1 [vp [11] 0 0] ?_
  obtain ⟨r_5, hr_5, h⟩ := bind_s h
  have hc_5 := iter_take_L 64 b_11 1 r_5 hr_5
  refine Rt (some 21) (.callf 65) [] none [.ptr [11] 0 0, .i 1] (.d (Block.d r_5.1)) [([11], some (.cells [.d (.sl (mY r_5.2.b)), .i r_5.2.e] 0))] (cut_call (call_of (ws := []) (us := [([11], some (.cells [.d (.sl (mY r_5.2.b)), .i r_5.2.e] 0))]) (by kernel_rfl) (by kernel_rfl) hc_5 (by kernel_rfl) (by kernel_rfl))) <| Rc 2 [⟨.ptr [6] 0 0, [([6], some (.cells [.i 0, .nils, .nils] 0))]⟩, ⟨.tup [], [([6], some (.cells [.i r_5.1.Times, .d (.sl (mY r_5.1.Bytes)), .d (.sl (List.map id r_5.1.Blocks))] 0))]⟩] <| Rk <| Sq <| Sq <| Ro <| Rc 1 [vp [11] 0 0] ?_
  obtain ⟨r_6, hr_6, h⟩ := bind_s h
  have hc_6 := index_Source_Err_L r_5.2 r_6 hr_6
  refine Rt (some 23) (.callf 57) [] none [.ptr [11] 0 0] (.i r_6) [([11], some (.cells [.d (.sl (mY r_5.2.b)), .i r_5.2.e] 0))] (cut_call (call_of (ws := []) (us := [([11], some (.cells [.d (.sl (mY r_5.2.b)), .i r_5.2.e] 0))]) (by kernel_rfl) (by kernel_rfl) hc_6 (by kernel_rfl) (by kernel_rfl))) <| Rc 1 [vb (r_6 != 0)] <| Rk ?_
  cases hb_2 : ((r_6 != 0) : Bool) with
  | true =>
   replace h := ite_t hb_2 h
   refine Ct <| Runs.exit <| kS_exit <| kB_pass (by decide) ?_
   obtain rfl := sj h
   exact ⟨nofun, rfl, v_902_5, Cz⟩
  | false =>
   replace h := ite_f hb_2 h
   refine Cf <| Runs.skip <| kS_nrm <| Sq <| Ro <| Rc 1 [⟨.d (Block.d r_5.1), []⟩] ?_
   obtain ⟨r_7, hr_7, h⟩ := bind_s h
   have hc_7 := iter_Spread_L 64 r_5.1 r_7 hr_7
   refine Rt (some 27) (.callf 26) [] none [.d (Block.d r_5.1)] (.tup [.d (.sl (mY r_7.1)), .b r_7.2]) [] (cc hc_7) <| Rc 5 [⟨.tup [.d (.sl (mY r_7.1)), .b r_7.2], []⟩, ⟨.d (.sl (mY r_7.1)), []⟩, vb r_7.2, ⟨.d (.sl (mY r_7.1)), []⟩, vb r_7.2] <| Rk <| Sq <| Runs.block <| Sq <| Ro <| Rc 1 [⟨.d (Block.d r_5.1), []⟩] ?_
   obtain ⟨r_8, hr_8, h⟩ := bind_s h
   have hc_8 := iter_May_L r_5.1 r_8 hr_8
   refine Rt (some 32) (.callf 27) [] none [.d (Block.d r_5.1)] (.b r_8) [] (cc hc_8) <| Rc 2 [vb (!r_8), vb (!r_8)] <| Rk ?_
   cases hb_3 : ((!r_8) : Bool) with
   | true =>
    replace h := ite_t hb_3 h
    refine Ct <| Ro <| Rc 1 [vp [11] 0 0] ?_
    obtain ⟨r_9, hr_9, h⟩ := bind_s h
    have hc_9 := index_Source_Wrong_L r_5.2 3 r_9 hr_9
    refine Rt (some 35) (.callf 56) [] none [.ptr [11] 0 0, .i 3] (.tup []) [([11], some (.cells [.d (.sl (mY r_9.b)), .i r_9.e] 0))] (cut_call (call_of (ws := []) (us := [([11], some (.cells [.d (.sl (mY r_9.b)), .i r_9.e] 0))]) (by kernel_rfl) (by kernel_rfl) hc_9 (by kernel_rfl) (by kernel_rfl))) <| Rd <| kB_nrm <| kS_nrm <| Ro <| Rc 3 [vp [5] 0 2, ⟨.ref [902, 5] v_902_5 0 (mY b_902_5).length 1, []⟩, ⟨.d (.sl (mY r_7.1)), []⟩] ?_
    obtain ⟨z_1, hz_1, h⟩ := bind_s h
    refine Rt (some 57) (.append 1 1 false) [] none [.ref [902, 5] v_902_5 0 (mY b_902_5).length 1, .d (.sl (mY r_7.1))] (.ref [902, 5] (v_902_5 + 1) 0 (mY z_1).length 1) [([902, 5], some (.arr (mY z_1) (v_902_5 + 1) false))] (cut_appR (e := (D.int .u8)) (l := b_902_5) (fz := false) (ws := []) (ap_data _) (fun _ => rfl) hz_1 (by kernel_rfl) (by kernel_rfl) rfl) <| Rc 2 [vp [5] 0 2, ⟨.tup [], [([5], some (.cells [.i d5_0, .w d5_1, .ref [902, 5] (v_902_5 + 1) 0 (mY z_1).length 1, .nils] 0))]⟩] <| Rd <| kB_nrm ?_
    obtain rfl := sj h
    exact ⟨rfl, (v_902_5 + 1), Cz⟩
   | false =>
    replace h := ite_f hb_3 h
    refine Cf <| Sq <| Ro <| Rc 3 [vb r_7.2, vb (!r_7.2), vb (!r_7.2)] ?_
    cases hb_4 : ((!r_7.2) : Bool) with
    | true =>
     replace h := ite_t hb_4 h
     refine Rc 13 [vn, vn, vn, vn, vn, vn, vn, vn, vn, vn, vn, vb true, vb true] <| Rk <| Ct <| Ro <| Rc 1 [vp [11] 0 0] ?_
     obtain ⟨r_10, hr_10, h⟩ := bind_s h
     have hc_10 := index_Source_Wrong_L r_5.2 8 r_10 hr_10
     refine Rt (some 53) (.callf 56) [] none [.ptr [11] 0 0, .i 8] (.tup []) [([11], some (.cells [.d (.sl (mY r_10.b)), .i r_10.e] 0))] (cut_call (call_of (ws := []) (us := [([11], some (.cells [.d (.sl (mY r_10.b)), .i r_10.e] 0))]) (by kernel_rfl) (by kernel_rfl) hc_10 (by kernel_rfl) (by kernel_rfl))) <| Rd <| kB_nrm <| kS_nrm <| Ro <| Rc 3 [vp [5] 0 2, ⟨.ref [902, 5] v_902_5 0 (mY b_902_5).length 1, []⟩, ⟨.d (.sl (mY r_7.1)), []⟩] ?_
     obtain ⟨z_2, hz_2, h⟩ := bind_s h
     refine Rt (some 57) (.append 1 1 false) [] none [.ref [902, 5] v_902_5 0 (mY b_902_5).length 1, .d (.sl (mY r_7.1))] (.ref [902, 5] (v_902_5 + 1) 0 (mY z_2).length 1) [([902, 5], some (.arr (mY z_2) (v_902_5 + 1) false))] (cut_appR (e := (D.int .u8)) (l := b_902_5) (fz := false) (ws := []) (ap_data _) (fun _ => rfl) hz_2 (by kernel_rfl) (by kernel_rfl) rfl) <| Rc 2 [vp [5] 0 2, ⟨.tup [], [([5], some (.cells [.i d5_0, .w d5_1, .ref [902, 5] (v_902_5 + 1) 0 (mY z_2).length 1, .nils] 0))]⟩] <| Rd <| kB_nrm ?_
     obtain rfl := sj h
     exact ⟨rfl, (v_902_5 + 1), Cz⟩
    | false =>
     replace h := ite_f hb_4 h
     refine Rc 2 [vp [5] 0 2, ⟨.ref [902, 5] v_902_5 0 (mY b_902_5).length 1, []⟩] <| Rt (some 42) .lenL [] none [.ref [902, 5] v_902_5 0 (mY b_902_5).length 1] (.i (b_902_5.length : Int)) [] (cut_lenR (e := (D.int .u8)) b_902_5 rfl) <| Rc 1 [⟨.d (.sl (mY r_7.1)), []⟩] <| Rt (some 44) .lenL [] none [.d (.sl (mY r_7.1))] (.i (r_7.1.length : Int)) [] (cut_len _) <| Rc 8 [vi (IntKind.wrap .i64 ((b_902_5.length : Int) + (r_7.1.length : Int))), vp [5] 0 1, vw d5_1, vi (IntKind.wrap .i64 d5_1), vi (IntKind.wrap .i64 (65536 - (IntKind.wrap .i64 d5_1))), vb (decide ((IntKind.wrap .i64 ((b_902_5.length : Int) + (r_7.1.length : Int))) > (IntKind.wrap .i64 (65536 - (IntKind.wrap .i64 d5_1))))), vb (decide ((IntKind.wrap .i64 ((b_902_5.length : Int) + (r_7.1.length : Int))) > (IntKind.wrap .i64 (65536 - (IntKind.wrap .i64 d5_1))))), vb (decide ((IntKind.wrap .i64 ((b_902_5.length : Int) + (r_7.1.length : Int))) > (IntKind.wrap .i64 (65536 - (IntKind.wrap .i64 d5_1)))))] <| Rk ?_
     cases hb_5 : ((decide ((IntKind.wrap .i64 ((b_902_5.length : Int) + (r_7.1.length : Int))) > (IntKind.wrap .i64 (65536 - (IntKind.wrap .i64 d5_1))))) : Bool) with
     | true =>
      replace h := ite_t hb_5 h
      refine Ct <| Ro <| Rc 1 [vp [11] 0 0] ?_
      obtain ⟨r_11, hr_11, h⟩ := bind_s h
      have hc_11 := index_Source_Wrong_L r_5.2 8 r_11 hr_11
      refine Rt (some 53) (.callf 56) [] none [.ptr [11] 0 0, .i 8] (.tup []) [([11], some (.cells [.d (.sl (mY r_11.b)), .i r_11.e] 0))] (cut_call (call_of (ws := []) (us := [([11], some (.cells [.d (.sl (mY r_11.b)), .i r_11.e] 0))]) (by kernel_rfl) (by kernel_rfl) hc_11 (by kernel_rfl) (by kernel_rfl))) <| Rd <| kB_nrm <| kS_nrm <| Ro <| Rc 3 [vp [5] 0 2, ⟨.ref [902, 5] v_902_5 0 (mY b_902_5).length 1, []⟩, ⟨.d (.sl (mY r_7.1)), []⟩] ?_
      obtain ⟨z_3, hz_3, h⟩ := bind_s h
      refine Rt (some 57) (.append 1 1 false) [] none [.ref [902, 5] v_902_5 0 (mY b_902_5).length 1, .d (.sl (mY r_7.1))] (.ref [902, 5] (v_902_5 + 1) 0 (mY z_3).length 1) [([902, 5], some (.arr (mY z_3) (v_902_5 + 1) false))] (cut_appR (e := (D.int .u8)) (l := b_902_5) (fz := false) (ws := []) (ap_data _) (fun _ => rfl) hz_3 (by kernel_rfl) (by kernel_rfl) rfl) <| Rc 2 [vp [5] 0 2, ⟨.tup [], [([5], some (.cells [.i d5_0, .w d5_1, .ref [902, 5] (v_902_5 + 1) 0 (mY z_3).length 1, .nils] 0))]⟩] <| Rd <| kB_nrm ?_
      obtain rfl := sj h
      exact ⟨rfl, (v_902_5 + 1), Cz⟩
     | false =>
      replace h := ite_f hb_5 h
      refine Cf <| Runs.skip <| kB_nrm <| kS_nrm <| Ro <| Rc 3 [vp [5] 0 2, ⟨.ref [902, 5] v_902_5 0 (mY b_902_5).length 1, []⟩, ⟨.d (.sl (mY r_7.1)), []⟩] ?_
      obtain ⟨z_4, hz_4, h⟩ := bind_s h
      refine Rt (some 57) (.append 1 1 false) [] none [.ref [902, 5] v_902_5 0 (mY b_902_5).length 1, .d (.sl (mY r_7.1))] (.ref [902, 5] (v_902_5 + 1) 0 (mY z_4).length 1) [([902, 5], some (.arr (mY z_4) (v_902_5 + 1) false))] (cut_appR (e := (D.int .u8)) (l := b_902_5) (fz := false) (ws := []) (ap_data _) (fun _ => rfl) hz_4 (by kernel_rfl) (by kernel_rfl) rfl) <| Rc 2 [vp [5] 0 2, ⟨.tup [], [([5], some (.cells [.i d5_0, .w d5_1, .ref [902, 5] (v_902_5 + 1) 0 (mY z_4).length 1, .nils] 0))]⟩] <| Rd <| kB_nrm ?_
      obtain rfl := sj h
      exact ⟨rfl, (v_902_5 + 1), Cz⟩
 | false =>
  replace h := ite_f hb_1 h
  refine Cf <| Runs.exit <| kS_exit ?_
  obtain rfl := sj h
  exact ⟨nofun, rfl, v_902_5, Cz⟩
theorem iter_Get_ok (b_ : (List Int)) (r : (Data × Int)) (h : iter_Get b_ = some r) : Runs L F21.body ⟨tmOf [.d (.sl (mY b_))] 0, updW (fun _ => none) []⟩ (iter_Get_Q b_ r) := by
 unfold iter_Get at h
 refine Sq <| Ro <| Rc 2 [⟨.ptr [2] 0 0, [([2], some (.cells [.i 0, .w 0, .nils, .nils] 0))]⟩, vi 0] <| Rk <| Sq <| Ro <| Rc 1 [⟨.d (.sl (mY b_)), []⟩] ?_
 obtain ⟨r_1, hr_1, h⟩ := bind_s h
 have hc_1 := index_From_L b_ r_1 hr_1
 refine Rt (some 11) (.callf 50) [] none [.d (.sl (mY b_))] (.ptr [11] 0 0) [([11], some (.cells [.d (.sl (mY r_1.b)), .i r_1.e] 0))] (cc hc_1) <| Rc 1 [vp [11] 0 0] <| Rk <| Sq <| Ro <| Rc 1 [vp [11] 0 0] ?_
 obtain ⟨r_2, hr_2, h⟩ := bind_s h
 have hc_2 := index_Source_Index_L r_1 r_2 hr_2
 refine Rt (some 13) (.callf 53) [] none [.ptr [11] 0 0] (.i r_2.1) [([11], some (.cells [.d (.sl (mY r_2.2.b)), .i r_2.2.e] 0))] (cut_call (call_of (ws := []) (us := [([11], some (.cells [.d (.sl (mY r_2.2.b)), .i r_2.2.e] 0))]) (by kernel_rfl) (by kernel_rfl) hc_2 (by kernel_rfl) (by kernel_rfl))) <| Rc 1 [vp [11] 0 0] ?_
 obtain ⟨r_3, hr_3, h⟩ := bind_s h
 have hc_3 := index_Source_Word_L r_2.2 r_3 hr_3
 refine Rt (some 15) (.callf 64) [] none [.ptr [11] 0 0] (.w r_3.1) [([11], some (.cells [.d (.sl (mY r_3.2.b)), .i r_3.2.e] 0))] (cut_call (call_of (ws := []) (us := [([11], some (.cells [.d (.sl (mY r_3.2.b)), .i r_3.2.e] 0))]) (by kernel_rfl) (by kernel_rfl) hc_3 (by kernel_rfl) (by kernel_rfl))) <| Rc 3 [⟨.mix [.i r_2.1, .w r_3.1, .nils, .nils], []⟩, ⟨.ptr [5] 0 0, [([5], some (.cells [.i 0, .w 0, .nils, .nils] 0))]⟩, ⟨.tup [], [([5], some (.cells [.i r_2.1, .w r_3.1, .nils, .nils] 0))]⟩] <| Rk <| Runs.canon (iter_Get_h6 r_3.2 ([] : List Int) 0 0 r_2.1 r_3.1 0) (Canon.cons (ownB_nil (ver := 0) (v := 0) (cs := [.i r_2.1, .w r_3.1, .nils, .nils]) (cs' := [.i r_2.1, .w r_3.1, .ref [902, 5] 0 0 (mY ([] : List Int)).length 1, .nils]) (D.int .u8) (by kernel_rfl) (by kernel_rfl) (by kernel_rfl) (by decide) (by kernel_rfl)) Cz) <| Sq <| Runs.block ?_
 obtain ⟨e_1, he_1, h⟩ := bind_s h
 refine Runs.loop (fun x : (Source × (List Int)) => iter_Get_l8 x.1 x.2 0 0 r_2.1 r_3.1) (fun (x : (Source × (List Int))) (g : Nat) => iter_Get_h8 x.1 x.2 0 0 r_2.1 r_3.1 g) (iter_Get_P8 b_ 0 0 r_2.1 r_3.1) (fun x g r hr => iter_Get_l8_ok b_ x.1 x.2 0 0 r_2.1 r_3.1 g r hr) 0 he_1 Cz ?_
 rintro ⟨o, s⟩ hp
 obtain ⟨ho, g_1, hk_1⟩ := hp
 have ho' : o = .exit 0 := ho
 subst ho'
 refine kB_hit <| kS_nrm <| Runs.canon _ hk_1 <| Sq <| Sq <| Ro <| Rc 1 [vp [11] 0 0] ?_
 obtain ⟨r_4, hr_4, h⟩ := bind_s h
 have hc_4 := index_Source_Err_L e_1.2 r_4 hr_4
 refine Rt (some 60) (.callf 57) [] none [.ptr [11] 0 0] (.i r_4) [([11], some (.cells [.d (.sl (mY e_1.2.b)), .i e_1.2.e] 0))] (cut_call (call_of (ws := []) (us := [([11], some (.cells [.d (.sl (mY e_1.2.b)), .i e_1.2.e] 0))]) (by kernel_rfl) (by kernel_rfl) hc_4 (by kernel_rfl) (by kernel_rfl))) <| Rc 2 [vb (r_4 == 0), vb (r_4 == 0)] ?_
 cases hb_1 : ((r_4 == 0) : Bool) with
 | true =>
  replace h := ite_t hb_1 h
  refine Rc 4 [vp [5] 0 0, vi r_2.1, vb (decide (r_2.1 < 1)), vb (decide (r_2.1 < 1))] ?_
  cases hb_2 : ((decide (r_2.1 < 1)) : Bool) with
  | true =>
   replace h := ite_t hb_2 h
   refine Rc 6 [vn, vn, vn, vn, vb true, vb true] <| Rk <| Ct <| Ro <| Rc 1 [vp [11] 0 0] ?_
   obtain ⟨r_5, hr_5, h⟩ := bind_s h
   have hc_5 := index_Source_Wrong_L e_1.2 3 r_5 hr_5
   refine Rt (some 74) (.callf 56) [] none [.ptr [11] 0 0, .i 3] (.tup []) [([11], some (.cells [.d (.sl (mY r_5.b)), .i r_5.e] 0))] (cut_call (call_of (ws := []) (us := [([11], some (.cells [.d (.sl (mY r_5.b)), .i r_5.e] 0))]) (by kernel_rfl) (by kernel_rfl) hc_5 (by kernel_rfl) (by kernel_rfl))) <| Rk <| Sq <| Sq <| Ro <| Rc 1 [vp [11] 0 0] ?_
   obtain ⟨r_6, hr_6, h⟩ := bind_s h
   have hc_6 := index_Source_End_L r_5 r_6 hr_6
   refine Rt (some 76) (.callf 66) [] none [.ptr [11] 0 0] (.i r_6.1) [([11], some (.cells [.d (.sl (mY r_6.2.b)), .i r_6.2.e] 0))] (cut_call (call_of (ws := []) (us := [([11], some (.cells [.d (.sl (mY r_6.2.b)), .i r_6.2.e] 0))]) (by kernel_rfl) (by kernel_rfl) hc_6 (by kernel_rfl) (by kernel_rfl))) <| Rc 1 [vi r_6.1] <| Rk <| Sq <| Ro <| Rc 2 [vi r_6.1, vb (r_6.1 != 0)] <| Rk ?_
   cases hb_3 : ((r_6.1 != 0) : Bool) with
   | true =>
    replace h := ite_t hb_3 h
    refine Ct <| Sq <| Ro <| Rc 4 [⟨.mix [.i 0, .w 0, .nils, .nils], []⟩, vi r_6.1, ⟨.tup [], [([2], some (.cells [.i 0, .w 0, .nils, .nils] 0))]⟩, vi r_6.1] <| Rk <| Sq <| Runs.gcons (frzB_nil (ver := 0) (cs := [.i 0, .w 0, .nils, .nils]) (cs' := [.i 0, .w 0, .d (.sl (mY ([] : List Int))), .nils]) (D.int .u8) (by kernel_rfl) (by kernel_rfl) (by kernel_rfl)) <| Runs.gcons (frzB_nil (ver := 0) (cs := [.i 0, .w 0, .d (.sl (mY ([] : List Int))), .nils]) (cs' := [.i 0, .w 0, .d (.sl (mY ([] : List Int))), .d (.sl (List.map Fixup.d ([] : List Fixup)))]) Fixup.d (by kernel_rfl) (by kernel_rfl) (by kernel_rfl)) <| Runs.gnil <| kS_nrm <| Runs.ret <| kS_ret ?_
    cases h
    exact Fq
   | false =>
    replace h := ite_f hb_3 h
    refine Cf <| Runs.skip <| kS_nrm <| Sq <| Ro <| Rc 3 [⟨.mix [.i r_2.1, .w r_3.1, .ref [902, 5] g_1 0 (mY e_1.1).length 1, .nils], []⟩, ⟨.tup [], [([2], some (.cells [.i r_2.1, .w r_3.1, .ref [902, 5] g_1 0 (mY e_1.1).length 1, .nils] 0))]⟩, vi 0] <| Rk <| Sq <| Runs.gcons (frzB_ref (e := (D.int .u8)) (l := e_1.1) (id := [2]) (id' := [902, 5]) (v := g_1) (n := 1) (fz := false) (ver := 0) (cs := [.i r_2.1, .w r_3.1, .ref [902, 5] g_1 0 (mY e_1.1).length 1, .nils]) (cs' := [.i r_2.1, .w r_3.1, .d (.sl (mY e_1.1)), .nils]) (by kernel_rfl) (by kernel_rfl) (by kernel_rfl) (by decide) (by kernel_rfl) rfl) <| Runs.gcons (frzB_nil (ver := 0) (cs := [.i r_2.1, .w r_3.1, .d (.sl (mY e_1.1)), .nils]) (cs' := [.i r_2.1, .w r_3.1, .d (.sl (mY e_1.1)), .d (.sl (List.map Fixup.d ([] : List Fixup)))]) Fixup.d (by kernel_rfl) (by kernel_rfl) (by kernel_rfl)) <| Runs.gnil <| kS_nrm <| Runs.ret ?_
    cases h
    exact Fq
  | false =>
   replace h := ite_f hb_2 h
   refine Rc 2 [vp [5] 0 2, ⟨.ref [902, 5] g_1 0 (mY e_1.1).length 1, []⟩] <| Rt (some 69) .lenL [] none [.ref [902, 5] g_1 0 (mY e_1.1).length 1] (.i (e_1.1.length : Int)) [] (cut_lenR (e := (D.int .u8)) e_1.1 rfl) <| Rc 3 [vb ((e_1.1.length : Int) == 0), vb ((e_1.1.length : Int) == 0), vb ((e_1.1.length : Int) == 0)] <| Rk ?_
   cases hb_4 : (((e_1.1.length : Int) == 0) : Bool) with
   | true =>
    replace h := ite_t hb_4 h
    refine Ct <| Ro <| Rc 1 [vp [11] 0 0] ?_
    obtain ⟨r_7, hr_7, h⟩ := bind_s h
    have hc_7 := index_Source_Wrong_L e_1.2 3 r_7 hr_7
    refine Rt (some 74) (.callf 56) [] none [.ptr [11] 0 0, .i 3] (.tup []) [([11], some (.cells [.d (.sl (mY r_7.b)), .i r_7.e] 0))] (cut_call (call_of (ws := []) (us := [([11], some (.cells [.d (.sl (mY r_7.b)), .i r_7.e] 0))]) (by kernel_rfl) (by kernel_rfl) hc_7 (by kernel_rfl) (by kernel_rfl))) <| Rk <| Sq <| Sq <| Ro <| Rc 1 [vp [11] 0 0] ?_
    obtain ⟨r_8, hr_8, h⟩ := bind_s h
    have hc_8 := index_Source_End_L r_7 r_8 hr_8
    refine Rt (some 76) (.callf 66) [] none [.ptr [11] 0 0] (.i r_8.1) [([11], some (.cells [.d (.sl (mY r_8.2.b)), .i r_8.2.e] 0))] (cut_call (call_of (ws := []) (us := [([11], some (.cells [.d (.sl (mY r_8.2.b)), .i r_8.2.e] 0))]) (by kernel_rfl) (by kernel_rfl) hc_8 (by kernel_rfl) (by kernel_rfl))) <| Rc 1 [vi r_8.1] <| Rk <| Sq <| Ro <| Rc 2 [vi r_8.1, vb (r_8.1 != 0)] <| Rk ?_
    cases hb_5 : ((r_8.1 != 0) : Bool) with
    | true =>
     replace h := ite_t hb_5 h
     refine Ct <| Sq <| Ro <| Rc 4 [⟨.mix [.i 0, .w 0, .nils, .nils], []⟩, vi r_8.1, ⟨.tup [], [([2], some (.cells [.i 0, .w 0, .nils, .nils] 0))]⟩, vi r_8.1] <| Rk <| Sq <| Runs.gcons (frzB_nil (ver := 0) (cs := [.i 0, .w 0, .nils, .nils]) (cs' := [.i 0, .w 0, .d (.sl (mY ([] : List Int))), .nils]) (D.int .u8) (by kernel_rfl) (by kernel_rfl) (by kernel_rfl)) <| Runs.gcons (frzB_nil (ver := 0) (cs := [.i 0, .w 0, .d (.sl (mY ([] : List Int))), .nils]) (cs' := [.i 0, .w 0, .d (.sl (mY ([] : List Int))), .d (.sl (List.map Fixup.d ([] : List Fixup)))]) Fixup.d (by kernel_rfl) (by kernel_rfl) (by kernel_rfl)) <| Runs.gnil <| kS_nrm <| Runs.ret <| kS_ret ?_
     cases h
     exact Fq
    | false =>
     replace h := ite_f hb_5 h
     refine Cf <| Runs.skip <| kS_nrm <| Sq <| Ro <| Rc 3 [⟨.mix [.i r_2.1, .w r_3.1, .ref [902, 5] g_1 0 (mY e_1.1).length 1, .nils], []⟩, ⟨.tup [], [([2], some (.cells [.i r_2.1, .w r_3.1, .ref [902, 5] g_1 0 (mY e_1.1).length 1, .nils] 0))]⟩, vi 0] <| Rk <| Sq <| Runs.gcons (frzB_ref (e := (D.int .u8)) (l := e_1.1) (id := [2]) (id' := [902, 5]) (v := g_1) (n := 1) (fz := false) (ver := 0) (cs := [.i r_2.1, .w r_3.1, .ref [902, 5] g_1 0 (mY e_1.1).length 1, .nils]) (cs' := [.i r_2.1, .w r_3.1, .d (.sl (mY e_1.1)), .nils]) (by kernel_rfl) (by kernel_rfl) (by kernel_rfl) (by decide) (by kernel_rfl) rfl) <| Runs.gcons (frzB_nil (ver := 0) (cs := [.i r_2.1, .w r_3.1, .d (.sl (mY e_1.1)), .nils]) (cs' := [.i r_2.1, .w r_3.1, .d (.sl (mY e_1.1)), .d (.sl (List.map Fixup.d ([] : List Fixup)))]) Fixup.d (by kernel_rfl) (by kernel_rfl) (by kernel_rfl)) <| Runs.gnil <| kS_nrm <| Runs.ret ?_
     cases h
     exact Fq
   | false =>
    replace h := ite_f hb_4 h
    refine Cf <| Runs.skip <| kS_nrm <| Sq <| Sq <| Ro <| Rc 1 [vp [11] 0 0] ?_
    obtain ⟨r_9, hr_9, h⟩ := bind_s h
    have hc_9 := index_Source_End_L e_1.2 r_9 hr_9
    refine Rt (some 76) (.callf 66) [] none [.ptr [11] 0 0] (.i r_9.1) [([11], some (.cells [.d (.sl (mY r_9.2.b)), .i r_9.2.e] 0))] (cut_call (call_of (ws := []) (us := [([11], some (.cells [.d (.sl (mY r_9.2.b)), .i r_9.2.e] 0))]) (by kernel_rfl) (by kernel_rfl) hc_9 (by kernel_rfl) (by kernel_rfl))) <| Rc 1 [vi r_9.1] <| Rk <| Sq <| Ro <| Rc 2 [vi r_9.1, vb (r_9.1 != 0)] <| Rk ?_
    cases hb_6 : ((r_9.1 != 0) : Bool) with
    | true =>
     replace h := ite_t hb_6 h
     refine Ct <| Sq <| Ro <| Rc 4 [⟨.mix [.i 0, .w 0, .nils, .nils], []⟩, vi r_9.1, ⟨.tup [], [([2], some (.cells [.i 0, .w 0, .nils, .nils] 0))]⟩, vi r_9.1] <| Rk <| Sq <| Runs.gcons (frzB_nil (ver := 0) (cs := [.i 0, .w 0, .nils, .nils]) (cs' := [.i 0, .w 0, .d (.sl (mY ([] : List Int))), .nils]) (D.int .u8) (by kernel_rfl) (by kernel_rfl) (by kernel_rfl)) <| Runs.gcons (frzB_nil (ver := 0) (cs := [.i 0, .w 0, .d (.sl (mY ([] : List Int))), .nils]) (cs' := [.i 0, .w 0, .d (.sl (mY ([] : List Int))), .d (.sl (List.map Fixup.d ([] : List Fixup)))]) Fixup.d (by kernel_rfl) (by kernel_rfl) (by kernel_rfl)) <| Runs.gnil <| kS_nrm <| Runs.ret <| kS_ret ?_
     cases h
     exact Fq
    | false =>
     replace h := ite_f hb_6 h
     refine Cf <| Runs.skip <| kS_nrm <| Sq <| Ro <| Rc 3 [⟨.mix [.i r_2.1, .w r_3.1, .ref [902, 5] g_1 0 (mY e_1.1).length 1, .nils], []⟩, ⟨.tup [], [([2], some (.cells [.i r_2.1, .w r_3.1, .ref [902, 5] g_1 0 (mY e_1.1).length 1, .nils] 0))]⟩, vi 0] <| Rk <| Sq <| Runs.gcons (frzB_ref (e := (D.int .u8)) (l := e_1.1) (id := [2]) (id' := [902, 5]) (v := g_1) (n := 1) (fz := false) (ver := 0) (cs := [.i r_2.1, .w r_3.1, .ref [902, 5] g_1 0 (mY e_1.1).length 1, .nils]) (cs' := [.i r_2.1, .w r_3.1, .d (.sl (mY e_1.1)), .nils]) (by kernel_rfl) (by kernel_rfl) (by kernel_rfl) (by decide) (by kernel_rfl) rfl) <| Runs.gcons (frzB_nil (ver := 0) (cs := [.i r_2.1, .w r_3.1, .d (.sl (mY e_1.1)), .nils]) (cs' := [.i r_2.1, .w r_3.1, .d (.sl (mY e_1.1)), .d (.sl (List.map Fixup.d ([] : List Fixup)))]) Fixup.d (by kernel_rfl) (by kernel_rfl) (by kernel_rfl)) <| Runs.gnil <| kS_nrm <| Runs.ret ?_
     cases h
     exact Fq
 | false =>
  replace h := ite_f hb_1 h
  refine Rc 10 [vn, vn, vn, vn, vn, vn, vn, vn, vn, vb false] <| Rk <| Cf <| Runs.skip <| kS_nrm <| Sq <| Sq <| Ro <| Rc 1 [vp [11] 0 0] ?_
  obtain ⟨r_10, hr_10, h⟩ := bind_s h
  have hc_10 := index_Source_End_L e_1.2 r_10 hr_10
  refine Rt (some 76) (.callf 66) [] none [.ptr [11] 0 0] (.i r_10.1) [([11], some (.cells [.d (.sl (mY r_10.2.b)), .i r_10.2.e] 0))] (cut_call (call_of (ws := []) (us := [([11], some (.cells [.d (.sl (mY r_10.2.b)), .i r_10.2.e] 0))]) (by kernel_rfl) (by kernel_rfl) hc_10 (by kernel_rfl) (by kernel_rfl))) <| Rc 1 [vi r_10.1] <| Rk <| Sq <| Ro <| Rc 2 [vi r_10.1, vb (r_10.1 != 0)] <| Rk ?_
  cases hb_7 : ((r_10.1 != 0) : Bool) with
  | true =>
   replace h := ite_t hb_7 h
   refine Ct <| Sq <| Ro <| Rc 4 [⟨.mix [.i 0, .w 0, .nils, .nils], []⟩, vi r_10.1, ⟨.tup [], [([2], some (.cells [.i 0, .w 0, .nils, .nils] 0))]⟩, vi r_10.1] <| Rk <| Sq <| Runs.gcons (frzB_nil (ver := 0) (cs := [.i 0, .w 0, .nils, .nils]) (cs' := [.i 0, .w 0, .d (.sl (mY ([] : List Int))), .nils]) (D.int .u8) (by kernel_rfl) (by kernel_rfl) (by kernel_rfl)) <| Runs.gcons (frzB_nil (ver := 0) (cs := [.i 0, .w 0, .d (.sl (mY ([] : List Int))), .nils]) (cs' := [.i 0, .w 0, .d (.sl (mY ([] : List Int))), .d (.sl (List.map Fixup.d ([] : List Fixup)))]) Fixup.d (by kernel_rfl) (by kernel_rfl) (by kernel_rfl)) <| Runs.gnil <| kS_nrm <| Runs.ret <| kS_ret ?_
   cases h
   exact Fq
  | false =>
   replace h := ite_f hb_7 h
   refine Cf <| Runs.skip <| kS_nrm <| Sq <| Ro <| Rc 3 [⟨.mix [.i r_2.1, .w r_3.1, .ref [902, 5] g_1 0 (mY e_1.1).length 1, .nils], []⟩, ⟨.tup [], [([2], some (.cells [.i r_2.1, .w r_3.1, .ref [902, 5] g_1 0 (mY e_1.1).length 1, .nils] 0))]⟩, vi 0] <| Rk <| Sq <| Runs.gcons (frzB_ref (e := (D.int .u8)) (l := e_1.1) (id := [2]) (id' := [902, 5]) (v := g_1) (n := 1) (fz := false) (ver := 0) (cs := [.i r_2.1, .w r_3.1, .ref [902, 5] g_1 0 (mY e_1.1).length 1, .nils]) (cs' := [.i r_2.1, .w r_3.1, .d (.sl (mY e_1.1)), .nils]) (by kernel_rfl) (by kernel_rfl) (by kernel_rfl) (by decide) (by kernel_rfl) rfl) <| Runs.gcons (frzB_nil (ver := 0) (cs := [.i r_2.1, .w r_3.1, .d (.sl (mY e_1.1)), .nils]) (cs' := [.i r_2.1, .w r_3.1, .d (.sl (mY e_1.1)), .d (.sl (List.map Fixup.d ([] : List Fixup)))]) Fixup.d (by kernel_rfl) (by kernel_rfl) (by kernel_rfl)) <| Runs.gnil <| kS_nrm <| Runs.ret ?_
   cases h
   exact Fq
theorem iter_Get_L (b_ : (List Int)) (r : (Data × Int)) (h : iter_Get b_ = some r) : L 21 [.d (.sl (mY b_))] = some (.tup [.d (Data.d r.1), .i r.2], [.d (.sl (mY b_))]) := by
 obtain ⟨p, ⟨hne, hf⟩, hr⟩ := iter_Get_ok b_ r h
 obtain ⟨k, hk⟩ := run_of (F := F21) (args := [.d (.sl (mY b_))]) (ap := [.d (.sl (mY b_))]) (bx0 := updW (fun _ => none) []) rfl rfl (by kernel_rfl) ⟨p, ⟨hne, hf⟩, hr⟩
 exact lim_run (k := k) rfl hk
def hansomlaw24_IterMost_Q (n_ : Int) (times_ : Int) (r : Bool) (p : Out × St) : Prop := (∀ i, p.1 ≠ .exit i) ∧ finF F5 [.i n_, .i times_] p.2 = some (.b r, [.i n_, .i times_])
theorem hansomlaw24_IterMost_ok (n_ : Int) (times_ : Int) (r : Bool) (h : hansomlaw24_IterMost n_ times_ = some r) : Runs L F5.body ⟨tmOf [.i n_, .i times_] 0, updW (fun _ => none) []⟩ (hansomlaw24_IterMost_Q n_ times_ r) := by
 unfold hansomlaw24_IterMost at h
 refine Sq <| Ro <| Rc 1 [vb false] <| Rk <| Sq <| Ro <| Rc 4 [vi n_, vi (bitsOp .and .i64 n_ 15), vi (IntKind.wrap .i64 ((bitsOp .and .i64 n_ 15) + 1)), vi (IntKind.wrap .i64 ((bitsOp .and .i64 n_ 15) + 1))] <| Rk <| Sq <| Ro <| Rc 1 [vi (IntKind.wrap .i64 ((bitsOp .and .i64 n_ 15) + 1))] ?_
 obtain ⟨r_1, hr_1, h⟩ := bind_s h
 have hc_1 := hansomlaw24_deeps_L (IntKind.wrap .i64 ((bitsOp .and .i64 n_ 15) + 1)) r_1 hr_1
 refine Rt (some 24) (.callf 25) [] none [.i (IntKind.wrap .i64 ((bitsOp .and .i64 n_ 15) + 1))] (.d (Block.d r_1)) [] (cc hc_1) <| Rc 2 [⟨.ptr [6] 0 0, [([6], some (.cells [.i 0, .nils, .nils] 0))]⟩, ⟨.tup [], [([6], some (.cells [.i r_1.Times, .d (.sl (mY r_1.Bytes)), .d (.sl (List.map id r_1.Blocks))] 0))]⟩] <| Rk <| Sq <| Ro <| Rc 2 [⟨.d (Block.d r_1), []⟩, ⟨.ref [27] 0 0 (List.map id ([(Block.d r_1)] : List D)).length 3, [([27], some (.arr (List.map id ([(Block.d r_1)] : List D)) 0 false))]⟩] ?_
 obtain ⟨r_2, hr_2, h⟩ := bind_s h
 have hc_2 := iter_Record_L 1 0 ([(Block.d r_1)] : List D) r_2 hr_2
 refine Rt (some 28) (.callf 20) [] none [.i 1, .w 0, .ref [27] 0 0 (List.map id ([(Block.d r_1)] : List D)).length 3] (.d (Record.d r_2)) [([27], some (.arr (List.map id ([(Block.d r_1)] : List D)) 0 true))] (cut_call (call_of (ws := [([27], some (.arr (List.map id ([(Block.d r_1)] : List D)) 0 true))]) (us := [([27], some (.arr (List.map id ([(Block.d r_1)] : List D)) 0 true))]) (by kernel_rfl) (gives_cons (ws := []) (give_same (by kernel_rfl)) (gives_cons (ws := []) (give_same (by kernel_rfl)) (gives_cons (ws := [([27], some (.arr (List.map id ([(Block.d r_1)] : List D)) 0 true))]) (give_ref (e := id) (l := ([(Block.d r_1)] : List D)) (fz := false) (by kernel_rfl) (by kernel_rfl) rfl) gives_nil))) hc_2 (by kernel_rfl) (by kernel_rfl))) <| Rc 1 [⟨.d (.sl (mY r_2.Body)), []⟩] ?_
 obtain ⟨r_3, hr_3, h⟩ := bind_s h
 have hc_3 := iter_Get_L r_2.Body r_3 hr_3
 refine Rt (some 30) (.callf 21) [] none [.d (.sl (mY r_2.Body))] (.tup [.d (Data.d r_3.1), .i r_3.2]) [] (cc hc_3) <| Rc 6 [⟨.tup [.d (Data.d r_3.1), .i r_3.2], []⟩, ⟨.d (Data.d r_3.1), []⟩, vi r_3.2, ⟨.ptr [7] 0 0, [([7], some (.cells [.i 0, .w 0, .nils, .nils] 0))]⟩, ⟨.tup [], [([7], some (.cells [.i r_3.1.Seg, .w r_3.1.Off, .d (.sl (mY r_3.1.Bytes)), .d (.sl (List.map Fixup.d r_3.1.Fixups))] 0))]⟩, vi r_3.2] <| Rk <| Sq <| Ro <| Rc 4 [vi times_, vi (bitsOp .and .i64 times_ 63), vi (IntKind.wrap .i64 (65500 + (bitsOp .and .i64 times_ 63))), vi (IntKind.wrap .i64 (65500 + (bitsOp .and .i64 times_ 63)))] <| Rk <| Sq <| Ro <| Rc 5 [vi (IntKind.wrap .i64 (65500 + (bitsOp .and .i64 times_ 63))), ⟨.ref [37] 0 0 (mY ([98] : List Int)).length 1, [([37], some (.arr (mY ([98] : List Int)) 0 false))]⟩, ⟨.mix [.i (IntKind.wrap .i64 (65500 + (bitsOp .and .i64 times_ 63))), .ref [37] 0 0 (mY ([98] : List Int)).length 1, .nils], []⟩, ⟨.ptr [10] 0 0, [([10], some (.cells [.i 0, .nils, .nils] 0))]⟩, ⟨.tup [], [([10], some (.cells [.i (IntKind.wrap .i64 (65500 + (bitsOp .and .i64 times_ 63))), .ref [37] 0 0 (mY ([98] : List Int)).length 1, .nils] 0))]⟩] ?_
 refine Rk <| Sq <| Ro <| Rc 1 [⟨.mix [.i (IntKind.wrap .i64 (65500 + (bitsOp .and .i64 times_ 63))), .ref [37] 0 0 (mY ([98] : List Int)).length 1, .nils], []⟩] ?_
 obtain ⟨r_4, hr_4, h⟩ := bind_s h
 have hc_4 := iter_Spread_L 64 ({ Times := (IntKind.wrap .i64 (65500 + (bitsOp .and .i64 times_ 63))), Bytes := ([98] : List Int), Blocks := ([] : List D) } : Block) r_4 hr_4
 refine Rt (some 41) (.callf 26) [] none [.mix [.i (IntKind.wrap .i64 (65500 + (bitsOp .and .i64 times_ 63))), .ref [37] 0 0 (mY ([98] : List Int)).length 1, .nils]] (.tup [.d (.sl (mY r_4.1)), .b r_4.2]) [([37], some (.arr (mY ([98] : List Int)) 0 true))] (cut_call (call_of (ws := [([37], some (.arr (mY ([98] : List Int)) 0 true))]) (us := [([37], some (.arr (mY ([98] : List Int)) 0 true))]) (by kernel_rfl) (gives_cons (ws := [([37], some (.arr (mY ([98] : List Int)) 0 true))]) (give_mix (snaps_d (snaps_r (e := (D.int .u8)) (l := ([98] : List Int)) (fz := false) (by kernel_rfl) (by kernel_rfl) (hl := rfl) (snaps_n id snaps_nil)))) gives_nil) hc_4 (by kernel_rfl) (by kernel_rfl))) <| Rc 5 [⟨.tup [.d (.sl (mY r_4.1)), .b r_4.2], []⟩, ⟨.d (.sl (mY r_4.1)), []⟩, vb r_4.2, ⟨.d (.sl (mY r_4.1)), []⟩, vb r_4.2] <| Rk <| Sq <| Ro <| Rc 2 [⟨.ref [44] 0 0 (mY ([99] : List Int)).length 1, [([44], some (.arr (mY ([99] : List Int)) 0 false))]⟩, ⟨.mix [.i 257, .ref [44] 0 0 (mY ([99] : List Int)).length 1, .nils], []⟩] <| Rt (some 46) (.bslice (.agg [.int .i64 0, .sl [], .sl []]) 1 [0]) [] none [.mix [.i 257, .ref [44] 0 0 (mY ([99] : List Int)).length 1, .nils]] (.ref [46] 0 0 (List.map id ([(Block.d ({ Times := 257, Bytes := ([99] : List Int), Blocks := ([] : List D) } : Block))] : List D)).length 3) [([44], some (.arr (mY ([99] : List Int)) 0 true)), ([46], some (.arr (List.map id ([(Block.d ({ Times := 257, Bytes := ([99] : List Int), Blocks := ([] : List D) } : Block))] : List D)) 0 false))] (cut_bslice (e := id) (l := ([(Block.d ({ Times := 257, Bytes := ([99] : List Int), Blocks := ([] : List D) } : Block))] : List D)) (ws := [([44], some (.arr (mY ([99] : List Int)) 0 true))]) (ds := [.agg [.int .i64 257, .sl (mY ([99] : List Int)), .sl (List.map id ([] : List D))]]) (snapsM_cons (ws := [([44], some (.arr (mY ([99] : List Int)) 0 true))]) (snap_mix (snaps_d (snaps_r (e := (D.int .u8)) (l := ([99] : List Int)) (fz := false) (by kernel_rfl) (by kernel_rfl) (hl := rfl) (snaps_n id snaps_nil)))) snapsM_nil) (by kernel_rfl) (by kernel_rfl) (by kernel_rfl) (by kernel_rfl)) ?_
 refine Rc 3 [⟨.mix [.i 256, .nils, .ref [46] 0 0 (List.map id ([(Block.d ({ Times := 257, Bytes := ([99] : List Int), Blocks := ([] : List D) } : Block))] : List D)).length 3], []⟩, ⟨.ptr [13] 0 0, [([13], some (.cells [.i 0, .nils, .nils] 0))]⟩, ⟨.tup [], [([13], some (.cells [.i 256, .nils, .ref [46] 0 0 (List.map id ([(Block.d ({ Times := 257, Bytes := ([99] : List Int), Blocks := ([] : List D) } : Block))] : List D)).length 3] 0))]⟩] <| Rk <| Sq <| Ro <| Rc 1 [⟨.mix [.i 256, .nils, .ref [46] 0 0 (List.map id ([(Block.d ({ Times := 257, Bytes := ([99] : List Int), Blocks := ([] : List D) } : Block))] : List D)).length 3], []⟩] ?_
 obtain ⟨r_5, hr_5, h⟩ := bind_s h
 have hc_5 := iter_Spread_L 64 ({ Times := 256, Bytes := ([] : List Int), Blocks := ([(Block.d ({ Times := 257, Bytes := ([99] : List Int), Blocks := ([] : List D) } : Block))] : List D) } : Block) r_5 hr_5
 refine Rt (some 50) (.callf 26) [] none [.mix [.i 256, .nils, .ref [46] 0 0 (List.map id ([(Block.d ({ Times := 257, Bytes := ([99] : List Int), Blocks := ([] : List D) } : Block))] : List D)).length 3]] (.tup [.d (.sl (mY r_5.1)), .b r_5.2]) [([46], some (.arr (List.map id ([(Block.d ({ Times := 257, Bytes := ([99] : List Int), Blocks := ([] : List D) } : Block))] : List D)) 0 true))] (cut_call (call_of (ws := [([46], some (.arr (List.map id ([(Block.d ({ Times := 257, Bytes := ([99] : List Int), Blocks := ([] : List D) } : Block))] : List D)) 0 true))]) (us := [([46], some (.arr (List.map id ([(Block.d ({ Times := 257, Bytes := ([99] : List Int), Blocks := ([] : List D) } : Block))] : List D)) 0 true))]) (by kernel_rfl) (gives_cons (ws := [([46], some (.arr (List.map id ([(Block.d ({ Times := 257, Bytes := ([99] : List Int), Blocks := ([] : List D) } : Block))] : List D)) 0 true))]) (give_mix (snaps_d (snaps_n (D.int .u8) (snaps_r (e := id) (l := ([(Block.d ({ Times := 257, Bytes := ([99] : List Int), Blocks := ([] : List D) } : Block))] : List D)) (fz := false) (by kernel_rfl) (by kernel_rfl) (hl := rfl) snaps_nil)))) gives_nil) hc_5 (by kernel_rfl) (by kernel_rfl))) <| Rc 5 [⟨.tup [.d (.sl (mY r_5.1)), .b r_5.2], []⟩, ⟨.d (.sl (mY r_5.1)), []⟩, vb r_5.2, ⟨.d (.sl (mY r_5.1)), []⟩, vb r_5.2] <| Rk <| Sq <| Ro <| Rc 1 [⟨.mix [.i 256, .nils, .ref [46] 0 0 (List.map id ([(Block.d ({ Times := 257, Bytes := ([99] : List Int), Blocks := ([] : List D) } : Block))] : List D)).length 3], []⟩] ?_
 refine Rt (some 55) (.bslice (.agg [.int .i64 0, .sl [], .sl []]) 1 [0]) [] none [.mix [.i 256, .nils, .ref [46] 0 0 (List.map id ([(Block.d ({ Times := 257, Bytes := ([99] : List Int), Blocks := ([] : List D) } : Block))] : List D)).length 3]] (.ref [55] 0 0 (List.map id ([(Block.d ({ Times := 256, Bytes := ([] : List Int), Blocks := ([(Block.d ({ Times := 257, Bytes := ([99] : List Int), Blocks := ([] : List D) } : Block))] : List D) } : Block))] : List D)).length 3) [([46], some (.arr (List.map id ([(Block.d ({ Times := 257, Bytes := ([99] : List Int), Blocks := ([] : List D) } : Block))] : List D)) 0 true)), ([55], some (.arr (List.map id ([(Block.d ({ Times := 256, Bytes := ([] : List Int), Blocks := ([(Block.d ({ Times := 257, Bytes := ([99] : List Int), Blocks := ([] : List D) } : Block))] : List D) } : Block))] : List D)) 0 false))] (cut_bslice (e := id) (l := ([(Block.d ({ Times := 256, Bytes := ([] : List Int), Blocks := ([(Block.d ({ Times := 257, Bytes := ([99] : List Int), Blocks := ([] : List D) } : Block))] : List D) } : Block))] : List D)) (ws := [([46], some (.arr (List.map id ([(Block.d ({ Times := 257, Bytes := ([99] : List Int), Blocks := ([] : List D) } : Block))] : List D)) 0 true))]) (ds := [.agg [.int .i64 256, .sl (mY ([] : List Int)), .sl (List.map id ([(Block.d ({ Times := 257, Bytes := ([99] : List Int), Blocks := ([] : List D) } : Block))] : List D))]]) (snapsM_cons (ws := [([46], some (.arr (List.map id ([(Block.d ({ Times := 257, Bytes := ([99] : List Int), Blocks := ([] : List D) } : Block))] : List D)) 0 true))]) (snap_mix (snaps_d (snaps_n (D.int .u8) (snaps_r (e := id) (l := ([(Block.d ({ Times := 257, Bytes := ([99] : List Int), Blocks := ([] : List D) } : Block))] : List D)) (fz := true) (by kernel_rfl) (by kernel_rfl) (hl := rfl) snaps_nil)))) snapsM_nil) (by kernel_rfl) (by kernel_rfl) (by kernel_rfl) (by kernel_rfl)) ?_
 obtain ⟨r_6, hr_6, h⟩ := bind_s h
 have hc_6 := iter_Record_L 1 0 ([(Block.d ({ Times := 256, Bytes := ([] : List Int), Blocks := ([(Block.d ({ Times := 257, Bytes := ([99] : List Int), Blocks := ([] : List D) } : Block))] : List D) } : Block))] : List D) r_6 hr_6
 refine Rt (some 56) (.callf 20) [] none [.i 1, .w 0, .ref [55] 0 0 (List.map id ([(Block.d ({ Times := 256, Bytes := ([] : List Int), Blocks := ([(Block.d ({ Times := 257, Bytes := ([99] : List Int), Blocks := ([] : List D) } : Block))] : List D) } : Block))] : List D)).length 3] (.d (Record.d r_6)) [([55], some (.arr (List.map id ([(Block.d ({ Times := 256, Bytes := ([] : List Int), Blocks := ([(Block.d ({ Times := 257, Bytes := ([99] : List Int), Blocks := ([] : List D) } : Block))] : List D) } : Block))] : List D)) 0 true))] (cut_call (call_of (ws := [([55], some (.arr (List.map id ([(Block.d ({ Times := 256, Bytes := ([] : List Int), Blocks := ([(Block.d ({ Times := 257, Bytes := ([99] : List Int), Blocks := ([] : List D) } : Block))] : List D) } : Block))] : List D)) 0 true))]) (us := [([55], some (.arr (List.map id ([(Block.d ({ Times := 256, Bytes := ([] : List Int), Blocks := ([(Block.d ({ Times := 257, Bytes := ([99] : List Int), Blocks := ([] : List D) } : Block))] : List D) } : Block))] : List D)) 0 true))]) (by kernel_rfl) (gives_cons (ws := []) (give_same (by kernel_rfl)) (gives_cons (ws := []) (give_same (by kernel_rfl)) (gives_cons (ws := [([55], some (.arr (List.map id ([(Block.d ({ Times := 256, Bytes := ([] : List Int), Blocks := ([(Block.d ({ Times := 257, Bytes := ([99] : List Int), Blocks := ([] : List D) } : Block))] : List D) } : Block))] : List D)) 0 true))]) (give_ref (e := id) (l := ([(Block.d ({ Times := 256, Bytes := ([] : List Int), Blocks := ([(Block.d ({ Times := 257, Bytes := ([99] : List Int), Blocks := ([] : List D) } : Block))] : List D) } : Block))] : List D)) (fz := false) (by kernel_rfl) (by kernel_rfl) rfl) gives_nil))) hc_6 (by kernel_rfl) (by kernel_rfl))) ?_
 refine Rc 1 [⟨.d (.sl (mY r_6.Body)), []⟩] ?_
 obtain ⟨r_7, hr_7, h⟩ := bind_s h
 have hc_7 := iter_Get_L r_6.Body r_7 hr_7
 refine Rt (some 58) (.callf 21) [] none [.d (.sl (mY r_6.Body))] (.tup [.d (Data.d r_7.1), .i r_7.2]) [] (cc hc_7) <| Rc 6 [⟨.tup [.d (Data.d r_7.1), .i r_7.2], []⟩, ⟨.d (Data.d r_7.1), []⟩, vi r_7.2, ⟨.ptr [16] 0 0, [([16], some (.cells [.i 0, .w 0, .nils, .nils] 0))]⟩, ⟨.tup [], [([16], some (.cells [.i r_7.1.Seg, .w r_7.1.Off, .d (.sl (mY r_7.1.Bytes)), .d (.sl (List.map Fixup.d r_7.1.Fixups))] 0))]⟩, vi r_7.2] <| Rk <| Sq <| Ro <| Rc 6 [vi times_, vi (bitsOp .and .i64 times_ 15), vi (IntKind.wrap .i64 (65535 - (bitsOp .and .i64 times_ 15))), vw (IntKind.wrap .u16 (IntKind.wrap .i64 (65535 - (bitsOp .and .i64 times_ 15)))), ⟨.ref [66] 0 0 (mY ([99] : List Int)).length 1, [([66], some (.arr (mY ([99] : List Int)) 0 false))]⟩, ⟨.mix [.i 17, .ref [66] 0 0 (mY ([99] : List Int)).length 1, .nils], []⟩] <| Rt (some 68) (.bslice (.agg [.int .i64 0, .sl [], .sl []]) 1 [0]) [] none [.mix [.i 17, .ref [66] 0 0 (mY ([99] : List Int)).length 1, .nils]] (.ref [68] 0 0 (List.map id ([(Block.d ({ Times := 17, Bytes := ([99] : List Int), Blocks := ([] : List D) } : Block))] : List D)).length 3) [([66], some (.arr (mY ([99] : List Int)) 0 true)), ([68], some (.arr (List.map id ([(Block.d ({ Times := 17, Bytes := ([99] : List Int), Blocks := ([] : List D) } : Block))] : List D)) 0 false))] (cut_bslice (e := id) (l := ([(Block.d ({ Times := 17, Bytes := ([99] : List Int), Blocks := ([] : List D) } : Block))] : List D)) (ws := [([66], some (.arr (mY ([99] : List Int)) 0 true))]) (ds := [.agg [.int .i64 17, .sl (mY ([99] : List Int)), .sl (List.map id ([] : List D))]]) (snapsM_cons (ws := [([66], some (.arr (mY ([99] : List Int)) 0 true))]) (snap_mix (snaps_d (snaps_r (e := (D.int .u8)) (l := ([99] : List Int)) (fz := false) (by kernel_rfl) (by kernel_rfl) (hl := rfl) (snaps_n id snaps_nil)))) snapsM_nil) (by kernel_rfl) (by kernel_rfl) (by kernel_rfl) (by kernel_rfl)) ?_
 obtain ⟨r_8, hr_8, h⟩ := bind_s h
 have hc_8 := iter_Record_L 1 (IntKind.wrap .u16 (IntKind.wrap .i64 (65535 - (bitsOp .and .i64 times_ 15)))) ([(Block.d ({ Times := 17, Bytes := ([99] : List Int), Blocks := ([] : List D) } : Block))] : List D) r_8 hr_8
 refine Rt (some 69) (.callf 20) [] none [.i 1, .w (IntKind.wrap .u16 (IntKind.wrap .i64 (65535 - (bitsOp .and .i64 times_ 15)))), .ref [68] 0 0 (List.map id ([(Block.d ({ Times := 17, Bytes := ([99] : List Int), Blocks := ([] : List D) } : Block))] : List D)).length 3] (.d (Record.d r_8)) [([68], some (.arr (List.map id ([(Block.d ({ Times := 17, Bytes := ([99] : List Int), Blocks := ([] : List D) } : Block))] : List D)) 0 true))] (cut_call (call_of (ws := [([68], some (.arr (List.map id ([(Block.d ({ Times := 17, Bytes := ([99] : List Int), Blocks := ([] : List D) } : Block))] : List D)) 0 true))]) (us := [([68], some (.arr (List.map id ([(Block.d ({ Times := 17, Bytes := ([99] : List Int), Blocks := ([] : List D) } : Block))] : List D)) 0 true))]) (by kernel_rfl) (gives_cons (ws := []) (give_same (by kernel_rfl)) (gives_cons (ws := []) (give_same (by kernel_rfl)) (gives_cons (ws := [([68], some (.arr (List.map id ([(Block.d ({ Times := 17, Bytes := ([99] : List Int), Blocks := ([] : List D) } : Block))] : List D)) 0 true))]) (give_ref (e := id) (l := ([(Block.d ({ Times := 17, Bytes := ([99] : List Int), Blocks := ([] : List D) } : Block))] : List D)) (fz := false) (by kernel_rfl) (by kernel_rfl) rfl) gives_nil))) hc_8 (by kernel_rfl) (by kernel_rfl))) <| Rc 1 [⟨.d (.sl (mY r_8.Body)), []⟩] ?_
 obtain ⟨r_9, hr_9, h⟩ := bind_s h
 have hc_9 := iter_Get_L r_8.Body r_9 hr_9
 refine Rt (some 71) (.callf 21) [] none [.d (.sl (mY r_8.Body))] (.tup [.d (Data.d r_9.1), .i r_9.2]) [] (cc hc_9) <| Rc 6 [⟨.tup [.d (Data.d r_9.1), .i r_9.2], []⟩, ⟨.d (Data.d r_9.1), []⟩, vi r_9.2, ⟨.ptr [18] 0 0, [([18], some (.cells [.i 0, .w 0, .nils, .nils] 0))]⟩, ⟨.tup [], [([18], some (.cells [.i r_9.1.Seg, .w r_9.1.Off, .d (.sl (mY r_9.1.Bytes)), .d (.sl (List.map Fixup.d r_9.1.Fixups))] 0))]⟩, vi r_9.2] <| Rk <| Sq <| Ro ?_
 obtain ⟨r_10, hr_10, h⟩ := bind_s h
 have hc_10 := hansomlaw24_awake_L r_10 hr_10
 refine Rt (some 74) (.callf 22) [] none [] (.b r_10) [] (cc hc_10) <| Rc 1 [vb r_10] ?_
 cases hb_1 : (r_10 : Bool) with
 | true =>
  replace h := ite_t hb_1 h
  refine Rc 1 [⟨.d (Block.d r_1), []⟩] ?_
  obtain ⟨r_11, hr_11, h⟩ := bind_s h
  have hc_11 := iter_May_L r_1 r_11 hr_11
  refine Rt (some 77) (.callf 27) [] none [.d (Block.d r_1)] (.b r_11) [] (cc hc_11) <| Rc 5 [vi (IntKind.wrap .i64 ((bitsOp .and .i64 n_ 15) + 1)), vb (decide ((IntKind.wrap .i64 ((bitsOp .and .i64 n_ 15) + 1)) ≤ 8)), vb (r_11 == (decide ((IntKind.wrap .i64 ((bitsOp .and .i64 n_ 15) + 1)) ≤ 8))), vb (r_11 == (decide ((IntKind.wrap .i64 ((bitsOp .and .i64 n_ 15) + 1)) ≤ 8))), vb (r_11 == (decide ((IntKind.wrap .i64 ((bitsOp .and .i64 n_ 15) + 1)) ≤ 8)))] ?_
  cases hb_2 : ((r_11 == (decide ((IntKind.wrap .i64 ((bitsOp .and .i64 n_ 15) + 1)) ≤ 8))) : Bool) with
  | true =>
   replace h := ite_t hb_2 h
   refine Rc 7 [vi r_3.2, vb (r_3.2 == 0), vi (IntKind.wrap .i64 ((bitsOp .and .i64 n_ 15) + 1)), vb (decide ((IntKind.wrap .i64 ((bitsOp .and .i64 n_ 15) + 1)) ≤ 8)), vb ((r_3.2 == 0) == (decide ((IntKind.wrap .i64 ((bitsOp .and .i64 n_ 15) + 1)) ≤ 8))), vb ((r_3.2 == 0) == (decide ((IntKind.wrap .i64 ((bitsOp .and .i64 n_ 15) + 1)) ≤ 8))), vb ((r_3.2 == 0) == (decide ((IntKind.wrap .i64 ((bitsOp .and .i64 n_ 15) + 1)) ≤ 8)))] ?_
   cases hb_3 : (((r_3.2 == 0) == (decide ((IntKind.wrap .i64 ((bitsOp .and .i64 n_ 15) + 1)) ≤ 8))) : Bool) with
   | true =>
    replace h := ite_t hb_3 h
    refine Rc 3 [vi r_3.2, vb (r_3.2 == 0), vb (r_3.2 == 0)] ?_
    cases hb_4 : ((r_3.2 == 0) : Bool) with
    | true =>
     replace h := ite_t hb_4 h
     refine Rc 2 [vp [7] 0 2, ⟨.d (.sl (mY r_3.1.Bytes)), []⟩] <| Rt (some 95) .bytesStr [] none [.d (.sl (mY r_3.1.Bytes))] (.d (.str (b2s r_3.1.Bytes))) [] (cut_bs _) <| Rc 3 [vb ((b2s r_3.1.Bytes) == ([97] : List UInt8)), vb ((b2s r_3.1.Bytes) == ([97] : List UInt8)), vb ((b2s r_3.1.Bytes) == ([97] : List UInt8))] ?_
     cases hb_5 : (((b2s r_3.1.Bytes) == ([97] : List UInt8)) : Bool) with
     | true =>
      replace h := ite_t hb_5 h
      refine Rc 11 [vn, vn, vb true, vb true, vb true, vb r_4.2, vi (IntKind.wrap .i64 (65500 + (bitsOp .and .i64 times_ 63))), vb (decide ((IntKind.wrap .i64 (65500 + (bitsOp .and .i64 times_ 63))) ≤ 65535)), vb (r_4.2 == (decide ((IntKind.wrap .i64 (65500 + (bitsOp .and .i64 times_ 63))) ≤ 65535))), vb (r_4.2 == (decide ((IntKind.wrap .i64 (65500 + (bitsOp .and .i64 times_ 63))) ≤ 65535))), vb (r_4.2 == (decide ((IntKind.wrap .i64 (65500 + (bitsOp .and .i64 times_ 63))) ≤ 65535)))] ?_
      cases hb_6 : ((r_4.2 == (decide ((IntKind.wrap .i64 (65500 + (bitsOp .and .i64 times_ 63))) ≤ 65535))) : Bool) with
      | true =>
       replace h := ite_t hb_6 h
       refine Rc 3 [vb r_4.2, vb (!r_4.2), vb (!r_4.2)] ?_
       cases hb_7 : ((!r_4.2) : Bool) with
       | true =>
        replace h := ite_t hb_7 h
        refine Rc 11 [vn, vn, vn, vn, vb true, vb true, vb true, vb r_5.2, vb (!r_5.2), vb (!r_5.2), vb (!r_5.2)] ?_
        cases hb_8 : ((!r_5.2) : Bool) with
        | true =>
         replace h := ite_t hb_8 h
         refine Rc 1 [⟨.mix [.i 256, .nils, .ref [46] 0 0 (List.map id ([(Block.d ({ Times := 257, Bytes := ([99] : List Int), Blocks := ([] : List D) } : Block))] : List D)).length 3], []⟩] ?_
         obtain ⟨r_12, hr_12, h⟩ := bind_s h
         have hc_12 := iter_Size_L 64 ({ Times := 256, Bytes := ([] : List Int), Blocks := ([(Block.d ({ Times := 257, Bytes := ([99] : List Int), Blocks := ([] : List D) } : Block))] : List D) } : Block) r_12 hr_12
         refine Rt (some 125) (.callf 28) [] none [.mix [.i 256, .nils, .ref [46] 0 0 (List.map id ([(Block.d ({ Times := 257, Bytes := ([99] : List Int), Blocks := ([] : List D) } : Block))] : List D)).length 3]] (.i r_12) [([46], some (.arr (List.map id ([(Block.d ({ Times := 257, Bytes := ([99] : List Int), Blocks := ([] : List D) } : Block))] : List D)) 0 true))] (cut_call (call_of (ws := [([46], some (.arr (List.map id ([(Block.d ({ Times := 257, Bytes := ([99] : List Int), Blocks := ([] : List D) } : Block))] : List D)) 0 true))]) (us := [([46], some (.arr (List.map id ([(Block.d ({ Times := 257, Bytes := ([99] : List Int), Blocks := ([] : List D) } : Block))] : List D)) 0 true))]) (by kernel_rfl) (gives_cons (ws := [([46], some (.arr (List.map id ([(Block.d ({ Times := 257, Bytes := ([99] : List Int), Blocks := ([] : List D) } : Block))] : List D)) 0 true))]) (give_mix (snaps_d (snaps_n (D.int .u8) (snaps_r (e := id) (l := ([(Block.d ({ Times := 257, Bytes := ([99] : List Int), Blocks := ([] : List D) } : Block))] : List D)) (fz := true) (by kernel_rfl) (by kernel_rfl) (hl := rfl) snaps_nil)))) gives_nil) hc_12 (by kernel_rfl) (by kernel_rfl))) <| Rc 3 [vb (r_12 == 65537), vb (r_12 == 65537), vb (r_12 == 65537)] ?_
         cases hb_9 : ((r_12 == 65537) : Bool) with
         | true =>
          replace h := ite_t hb_9 h
          refine Rc 4 [vi r_7.2, vb (r_7.2 == 8), vb (r_7.2 == 8), vb (r_7.2 == 8)] ?_
          cases hb_10 : ((r_7.2 == 8) : Bool) with
          | true =>
           replace h := ite_t hb_10 h
           refine Rc 4 [vi r_9.2, vb (r_9.2 == 8), vb (r_9.2 == 8), vb (r_9.2 == 8)] ?_
           cases hb_11 : ((r_9.2 == 8) : Bool) with
           | true =>
            replace h := ite_t hb_11 h
            refine Rc 1 [⟨.mix [.i 1, .nils, .nils], []⟩] ?_
            obtain ⟨r_13, hr_13, h⟩ := bind_s h
            have hc_13 := iter_May_L ({ Times := 1, Bytes := ([] : List Int), Blocks := ([] : List D) } : Block) r_13 hr_13
            refine Rt (some 138) (.callf 27) [] none [.mix [.i 1, .nils, .nils]] (.b r_13) [] (cut_call (call_of (ws := []) (us := []) (by kernel_rfl) (gives_cons (ws := []) (give_mix (snaps_d (snaps_n (D.int .u8) (snaps_n id snaps_nil)))) gives_nil) hc_13 (by kernel_rfl) (by kernel_rfl))) <| Rc 3 [vb (!r_13), vb (!r_13), vb (!r_13)] ?_
            cases hb_12 : ((!r_13) : Bool) with
            | true =>
             replace h := ite_t hb_12 h
             refine Rc 2 [⟨.ref [142] 0 0 (mY ([1] : List Int)).length 1, [([142], some (.arr (mY ([1] : List Int)) 0 false))]⟩, ⟨.mix [.i 0, .ref [142] 0 0 (mY ([1] : List Int)).length 1, .nils], []⟩] ?_
             obtain ⟨r_14, hr_14, h⟩ := bind_s h
             have hc_14 := iter_May_L ({ Times := 0, Bytes := ([1] : List Int), Blocks := ([] : List D) } : Block) r_14 hr_14
             refine Rt (some 144) (.callf 27) [] none [.mix [.i 0, .ref [142] 0 0 (mY ([1] : List Int)).length 1, .nils]] (.b r_14) [([142], some (.arr (mY ([1] : List Int)) 0 true))] (cut_call (call_of (ws := [([142], some (.arr (mY ([1] : List Int)) 0 true))]) (us := [([142], some (.arr (mY ([1] : List Int)) 0 true))]) (by kernel_rfl) (gives_cons (ws := [([142], some (.arr (mY ([1] : List Int)) 0 true))]) (give_mix (snaps_d (snaps_r (e := (D.int .u8)) (l := ([1] : List Int)) (fz := false) (by kernel_rfl) (by kernel_rfl) (hl := rfl) (snaps_n id snaps_nil)))) gives_nil) hc_14 (by kernel_rfl) (by kernel_rfl))) <| Rc 3 [vb (!r_14), vb (!r_14), vb (!r_14)] <| Rk <| Runs.ret ?_
             cases h
             exact Fq
            | false =>
             replace h := ite_f hb_12 h
             refine Rc 6 [vn, vn, vn, vn, vb false, vb false] <| Rk <| Runs.ret ?_
             cases h
             exact Fq
           | false =>
            replace h := ite_f hb_11 h
            refine Rc 11 [vn, vn, vn, vb false, vb false, vn, vn, vn, vn, vb false, vb false] <| Rk <| Runs.ret ?_
            cases h
            exact Fq
          | false =>
           replace h := ite_f hb_10 h
           refine Rc 15 [vn, vn, vb false, vb false, vn, vn, vn, vb false, vb false, vn, vn, vn, vn, vb false, vb false] <| Rk <| Runs.ret ?_
           cases h
           exact Fq
         | false =>
          replace h := ite_f hb_9 h
          refine Rc 19 [vn, vn, vb false, vb false, vn, vn, vb false, vb false, vn, vn, vn, vb false, vb false, vn, vn, vn, vn, vb false, vb false] <| Rk <| Runs.ret ?_
          cases h
          exact Fq
        | false =>
         replace h := ite_f hb_8 h
         refine Rc 24 [vn, vn, vn, vb false, vb false, vn, vn, vb false, vb false, vn, vn, vb false, vb false, vn, vn, vn, vb false, vb false, vn, vn, vn, vn, vb false, vb false] <| Rk <| Runs.ret ?_
         cases h
         exact Fq
       | false =>
        replace h := ite_f hb_7 h
        refine Rc 1 [⟨.d (.sl (mY r_4.1)), []⟩] <| Rt (some 114) .lenL [] none [.d (.sl (mY r_4.1))] (.i (r_4.1.length : Int)) [] (cut_len _) <| Rc 5 [vi (IntKind.wrap .i64 (65500 + (bitsOp .and .i64 times_ 63))), vb ((r_4.1.length : Int) == (IntKind.wrap .i64 (65500 + (bitsOp .and .i64 times_ 63)))), vb ((r_4.1.length : Int) == (IntKind.wrap .i64 (65500 + (bitsOp .and .i64 times_ 63)))), vb ((r_4.1.length : Int) == (IntKind.wrap .i64 (65500 + (bitsOp .and .i64 times_ 63)))), vb ((r_4.1.length : Int) == (IntKind.wrap .i64 (65500 + (bitsOp .and .i64 times_ 63))))] ?_
        cases hb_13 : (((r_4.1.length : Int) == (IntKind.wrap .i64 (65500 + (bitsOp .and .i64 times_ 63)))) : Bool) with
        | true =>
         replace h := ite_t hb_13 h
         refine Rc 4 [vb r_5.2, vb (!r_5.2), vb (!r_5.2), vb (!r_5.2)] ?_
         cases hb_14 : ((!r_5.2) : Bool) with
         | true =>
          replace h := ite_t hb_14 h
          refine Rc 1 [⟨.mix [.i 256, .nils, .ref [46] 0 0 (List.map id ([(Block.d ({ Times := 257, Bytes := ([99] : List Int), Blocks := ([] : List D) } : Block))] : List D)).length 3], []⟩] ?_
          obtain ⟨r_15, hr_15, h⟩ := bind_s h
          have hc_15 := iter_Size_L 64 ({ Times := 256, Bytes := ([] : List Int), Blocks := ([(Block.d ({ Times := 257, Bytes := ([99] : List Int), Blocks := ([] : List D) } : Block))] : List D) } : Block) r_15 hr_15
          refine Rt (some 125) (.callf 28) [] none [.mix [.i 256, .nils, .ref [46] 0 0 (List.map id ([(Block.d ({ Times := 257, Bytes := ([99] : List Int), Blocks := ([] : List D) } : Block))] : List D)).length 3]] (.i r_15) [([46], some (.arr (List.map id ([(Block.d ({ Times := 257, Bytes := ([99] : List Int), Blocks := ([] : List D) } : Block))] : List D)) 0 true))] (cut_call (call_of (ws := [([46], some (.arr (List.map id ([(Block.d ({ Times := 257, Bytes := ([99] : List Int), Blocks := ([] : List D) } : Block))] : List D)) 0 true))]) (us := [([46], some (.arr (List.map id ([(Block.d ({ Times := 257, Bytes := ([99] : List Int), Blocks := ([] : List D) } : Block))] : List D)) 0 true))]) (by kernel_rfl) (gives_cons (ws := [([46], some (.arr (List.map id ([(Block.d ({ Times := 257, Bytes := ([99] : List Int), Blocks := ([] : List D) } : Block))] : List D)) 0 true))]) (give_mix (snaps_d (snaps_n (D.int .u8) (snaps_r (e := id) (l := ([(Block.d ({ Times := 257, Bytes := ([99] : List Int), Blocks := ([] : List D) } : Block))] : List D)) (fz := true) (by kernel_rfl) (by kernel_rfl) (hl := rfl) snaps_nil)))) gives_nil) hc_15 (by kernel_rfl) (by kernel_rfl))) <| Rc 3 [vb (r_15 == 65537), vb (r_15 == 65537), vb (r_15 == 65537)] ?_
          cases hb_15 : ((r_15 == 65537) : Bool) with
          | true =>
           replace h := ite_t hb_15 h
           refine Rc 4 [vi r_7.2, vb (r_7.2 == 8), vb (r_7.2 == 8), vb (r_7.2 == 8)] ?_
           cases hb_16 : ((r_7.2 == 8) : Bool) with
           | true =>
            replace h := ite_t hb_16 h
            refine Rc 4 [vi r_9.2, vb (r_9.2 == 8), vb (r_9.2 == 8), vb (r_9.2 == 8)] ?_
            cases hb_17 : ((r_9.2 == 8) : Bool) with
            | true =>
             replace h := ite_t hb_17 h
             refine Rc 1 [⟨.mix [.i 1, .nils, .nils], []⟩] ?_
             obtain ⟨r_16, hr_16, h⟩ := bind_s h
             have hc_16 := iter_May_L ({ Times := 1, Bytes := ([] : List Int), Blocks := ([] : List D) } : Block) r_16 hr_16
             refine Rt (some 138) (.callf 27) [] none [.mix [.i 1, .nils, .nils]] (.b r_16) [] (cut_call (call_of (ws := []) (us := []) (by kernel_rfl) (gives_cons (ws := []) (give_mix (snaps_d (snaps_n (D.int .u8) (snaps_n id snaps_nil)))) gives_nil) hc_16 (by kernel_rfl) (by kernel_rfl))) <| Rc 3 [vb (!r_16), vb (!r_16), vb (!r_16)] ?_
             cases hb_18 : ((!r_16) : Bool) with
             | true =>
              replace h := ite_t hb_18 h
              refine Rc 2 [⟨.ref [142] 0 0 (mY ([1] : List Int)).length 1, [([142], some (.arr (mY ([1] : List Int)) 0 false))]⟩, ⟨.mix [.i 0, .ref [142] 0 0 (mY ([1] : List Int)).length 1, .nils], []⟩] ?_
              obtain ⟨r_17, hr_17, h⟩ := bind_s h
              have hc_17 := iter_May_L ({ Times := 0, Bytes := ([1] : List Int), Blocks := ([] : List D) } : Block) r_17 hr_17
              refine Rt (some 144) (.callf 27) [] none [.mix [.i 0, .ref [142] 0 0 (mY ([1] : List Int)).length 1, .nils]] (.b r_17) [([142], some (.arr (mY ([1] : List Int)) 0 true))] (cut_call (call_of (ws := [([142], some (.arr (mY ([1] : List Int)) 0 true))]) (us := [([142], some (.arr (mY ([1] : List Int)) 0 true))]) (by kernel_rfl) (gives_cons (ws := [([142], some (.arr (mY ([1] : List Int)) 0 true))]) (give_mix (snaps_d (snaps_r (e := (D.int .u8)) (l := ([1] : List Int)) (fz := false) (by kernel_rfl) (by kernel_rfl) (hl := rfl) (snaps_n id snaps_nil)))) gives_nil) hc_17 (by kernel_rfl) (by kernel_rfl))) <| Rc 3 [vb (!r_17), vb (!r_17), vb (!r_17)] <| Rk <| Runs.ret ?_
              cases h
              exact Fq
             | false =>
              replace h := ite_f hb_18 h
              refine Rc 6 [vn, vn, vn, vn, vb false, vb false] <| Rk <| Runs.ret ?_
              cases h
              exact Fq
            | false =>
             replace h := ite_f hb_17 h
             refine Rc 11 [vn, vn, vn, vb false, vb false, vn, vn, vn, vn, vb false, vb false] <| Rk <| Runs.ret ?_
             cases h
             exact Fq
           | false =>
            replace h := ite_f hb_16 h
            refine Rc 15 [vn, vn, vb false, vb false, vn, vn, vn, vb false, vb false, vn, vn, vn, vn, vb false, vb false] <| Rk <| Runs.ret ?_
            cases h
            exact Fq
          | false =>
           replace h := ite_f hb_15 h
           refine Rc 19 [vn, vn, vb false, vb false, vn, vn, vb false, vb false, vn, vn, vn, vb false, vb false, vn, vn, vn, vn, vb false, vb false] <| Rk <| Runs.ret ?_
           cases h
           exact Fq
         | false =>
          replace h := ite_f hb_14 h
          refine Rc 24 [vn, vn, vn, vb false, vb false, vn, vn, vb false, vb false, vn, vn, vb false, vb false, vn, vn, vn, vb false, vb false, vn, vn, vn, vn, vb false, vb false] <| Rk <| Runs.ret ?_
          cases h
          exact Fq
        | false =>
         replace h := ite_f hb_13 h
         refine Rc 28 [vn, vn, vb false, vb false, vn, vn, vn, vb false, vb false, vn, vn, vb false, vb false, vn, vn, vb false, vb false, vn, vn, vn, vb false, vb false, vn, vn, vn, vn, vb false, vb false] <| Rk <| Runs.ret ?_
         cases h
         exact Fq
      | false =>
       replace h := ite_f hb_6 h
       refine Rc 38 [vn, vn, vn, vn, vn, vn, vn, vn, vb false, vb false, vn, vn, vb false, vb false, vn, vn, vn, vb false, vb false, vn, vn, vb false, vb false, vn, vn, vb false, vb false, vn, vn, vn, vb false, vb false, vn, vn, vn, vn, vb false, vb false] <| Rk <| Runs.ret ?_
       cases h
       exact Fq
     | false =>
      replace h := ite_f hb_5 h
      refine Rc 5 [vi r_3.2, vb (r_3.2 == 8), vb (r_3.2 == 8), vb (r_3.2 == 8), vb (r_3.2 == 8)] ?_
      cases hb_19 : ((r_3.2 == 8) : Bool) with
      | true =>
       replace h := ite_t hb_19 h
       refine Rc 6 [vb r_4.2, vi (IntKind.wrap .i64 (65500 + (bitsOp .and .i64 times_ 63))), vb (decide ((IntKind.wrap .i64 (65500 + (bitsOp .and .i64 times_ 63))) ≤ 65535)), vb (r_4.2 == (decide ((IntKind.wrap .i64 (65500 + (bitsOp .and .i64 times_ 63))) ≤ 65535))), vb (r_4.2 == (decide ((IntKind.wrap .i64 (65500 + (bitsOp .and .i64 times_ 63))) ≤ 65535))), vb (r_4.2 == (decide ((IntKind.wrap .i64 (65500 + (bitsOp .and .i64 times_ 63))) ≤ 65535)))] ?_
       cases hb_20 : ((r_4.2 == (decide ((IntKind.wrap .i64 (65500 + (bitsOp .and .i64 times_ 63))) ≤ 65535))) : Bool) with
       | true =>
        replace h := ite_t hb_20 h
        refine Rc 3 [vb r_4.2, vb (!r_4.2), vb (!r_4.2)] ?_
        cases hb_21 : ((!r_4.2) : Bool) with
        | true =>
         replace h := ite_t hb_21 h
         refine Rc 11 [vn, vn, vn, vn, vb true, vb true, vb true, vb r_5.2, vb (!r_5.2), vb (!r_5.2), vb (!r_5.2)] ?_
         cases hb_22 : ((!r_5.2) : Bool) with
         | true =>
          replace h := ite_t hb_22 h
          refine Rc 1 [⟨.mix [.i 256, .nils, .ref [46] 0 0 (List.map id ([(Block.d ({ Times := 257, Bytes := ([99] : List Int), Blocks := ([] : List D) } : Block))] : List D)).length 3], []⟩] ?_
          obtain ⟨r_18, hr_18, h⟩ := bind_s h
          have hc_18 := iter_Size_L 64 ({ Times := 256, Bytes := ([] : List Int), Blocks := ([(Block.d ({ Times := 257, Bytes := ([99] : List Int), Blocks := ([] : List D) } : Block))] : List D) } : Block) r_18 hr_18
          refine Rt (some 125) (.callf 28) [] none [.mix [.i 256, .nils, .ref [46] 0 0 (List.map id ([(Block.d ({ Times := 257, Bytes := ([99] : List Int), Blocks := ([] : List D) } : Block))] : List D)).length 3]] (.i r_18) [([46], some (.arr (List.map id ([(Block.d ({ Times := 257, Bytes := ([99] : List Int), Blocks := ([] : List D) } : Block))] : List D)) 0 true))] (cut_call (call_of (ws := [([46], some (.arr (List.map id ([(Block.d ({ Times := 257, Bytes := ([99] : List Int), Blocks := ([] : List D) } : Block))] : List D)) 0 true))]) (us := [([46], some (.arr (List.map id ([(Block.d ({ Times := 257, Bytes := ([99] : List Int), Blocks := ([] : List D) } : Block))] : List D)) 0 true))]) (by kernel_rfl) (gives_cons (ws := [([46], some (.arr (List.map id ([(Block.d ({ Times := 257, Bytes := ([99] : List Int), Blocks := ([] : List D) } : Block))] : List D)) 0 true))]) (give_mix (snaps_d (snaps_n (D.int .u8) (snaps_r (e := id) (l := ([(Block.d ({ Times := 257, Bytes := ([99] : List Int), Blocks := ([] : List D) } : Block))] : List D)) (fz := true) (by kernel_rfl) (by kernel_rfl) (hl := rfl) snaps_nil)))) gives_nil) hc_18 (by kernel_rfl) (by kernel_rfl))) <| Rc 3 [vb (r_18 == 65537), vb (r_18 == 65537), vb (r_18 == 65537)] ?_
          cases hb_23 : ((r_18 == 65537) : Bool) with
          | true =>
           replace h := ite_t hb_23 h
           refine Rc 4 [vi r_7.2, vb (r_7.2 == 8), vb (r_7.2 == 8), vb (r_7.2 == 8)] ?_
           cases hb_24 : ((r_7.2 == 8) : Bool) with
           | true =>
            replace h := ite_t hb_24 h
            refine Rc 4 [vi r_9.2, vb (r_9.2 == 8), vb (r_9.2 == 8), vb (r_9.2 == 8)] ?_
            cases hb_25 : ((r_9.2 == 8) : Bool) with
            | true =>
             replace h := ite_t hb_25 h
             refine Rc 1 [⟨.mix [.i 1, .nils, .nils], []⟩] ?_
             obtain ⟨r_19, hr_19, h⟩ := bind_s h
             have hc_19 := iter_May_L ({ Times := 1, Bytes := ([] : List Int), Blocks := ([] : List D) } : Block) r_19 hr_19
             refine Rt (some 138) (.callf 27) [] none [.mix [.i 1, .nils, .nils]] (.b r_19) [] (cut_call (call_of (ws := []) (us := []) (by kernel_rfl) (gives_cons (ws := []) (give_mix (snaps_d (snaps_n (D.int .u8) (snaps_n id snaps_nil)))) gives_nil) hc_19 (by kernel_rfl) (by kernel_rfl))) <| Rc 3 [vb (!r_19), vb (!r_19), vb (!r_19)] ?_
             cases hb_26 : ((!r_19) : Bool) with
             | true =>
              replace h := ite_t hb_26 h
              refine Rc 2 [⟨.ref [142] 0 0 (mY ([1] : List Int)).length 1, [([142], some (.arr (mY ([1] : List Int)) 0 false))]⟩, ⟨.mix [.i 0, .ref [142] 0 0 (mY ([1] : List Int)).length 1, .nils], []⟩] ?_
              obtain ⟨r_20, hr_20, h⟩ := bind_s h
              have hc_20 := iter_May_L ({ Times := 0, Bytes := ([1] : List Int), Blocks := ([] : List D) } : Block) r_20 hr_20
              refine Rt (some 144) (.callf 27) [] none [.mix [.i 0, .ref [142] 0 0 (mY ([1] : List Int)).length 1, .nils]] (.b r_20) [([142], some (.arr (mY ([1] : List Int)) 0 true))] (cut_call (call_of (ws := [([142], some (.arr (mY ([1] : List Int)) 0 true))]) (us := [([142], some (.arr (mY ([1] : List Int)) 0 true))]) (by kernel_rfl) (gives_cons (ws := [([142], some (.arr (mY ([1] : List Int)) 0 true))]) (give_mix (snaps_d (snaps_r (e := (D.int .u8)) (l := ([1] : List Int)) (fz := false) (by kernel_rfl) (by kernel_rfl) (hl := rfl) (snaps_n id snaps_nil)))) gives_nil) hc_20 (by kernel_rfl) (by kernel_rfl))) <| Rc 3 [vb (!r_20), vb (!r_20), vb (!r_20)] <| Rk <| Runs.ret ?_
              cases h
              exact Fq
             | false =>
              replace h := ite_f hb_26 h
              refine Rc 6 [vn, vn, vn, vn, vb false, vb false] <| Rk <| Runs.ret ?_
              cases h
              exact Fq
            | false =>
             replace h := ite_f hb_25 h
             refine Rc 11 [vn, vn, vn, vb false, vb false, vn, vn, vn, vn, vb false, vb false] <| Rk <| Runs.ret ?_
             cases h
             exact Fq
           | false =>
            replace h := ite_f hb_24 h
            refine Rc 15 [vn, vn, vb false, vb false, vn, vn, vn, vb false, vb false, vn, vn, vn, vn, vb false, vb false] <| Rk <| Runs.ret ?_
            cases h
            exact Fq
          | false =>
           replace h := ite_f hb_23 h
           refine Rc 19 [vn, vn, vb false, vb false, vn, vn, vb false, vb false, vn, vn, vn, vb false, vb false, vn, vn, vn, vn, vb false, vb false] <| Rk <| Runs.ret ?_
           cases h
           exact Fq
         | false =>
          replace h := ite_f hb_22 h
          refine Rc 24 [vn, vn, vn, vb false, vb false, vn, vn, vb false, vb false, vn, vn, vb false, vb false, vn, vn, vn, vb false, vb false, vn, vn, vn, vn, vb false, vb false] <| Rk <| Runs.ret ?_
          cases h
          exact Fq
        | false =>
         replace h := ite_f hb_21 h
         refine Rc 1 [⟨.d (.sl (mY r_4.1)), []⟩] <| Rt (some 114) .lenL [] none [.d (.sl (mY r_4.1))] (.i (r_4.1.length : Int)) [] (cut_len _) <| Rc 5 [vi (IntKind.wrap .i64 (65500 + (bitsOp .and .i64 times_ 63))), vb ((r_4.1.length : Int) == (IntKind.wrap .i64 (65500 + (bitsOp .and .i64 times_ 63)))), vb ((r_4.1.length : Int) == (IntKind.wrap .i64 (65500 + (bitsOp .and .i64 times_ 63)))), vb ((r_4.1.length : Int) == (IntKind.wrap .i64 (65500 + (bitsOp .and .i64 times_ 63)))), vb ((r_4.1.length : Int) == (IntKind.wrap .i64 (65500 + (bitsOp .and .i64 times_ 63))))] ?_
         cases hb_27 : (((r_4.1.length : Int) == (IntKind.wrap .i64 (65500 + (bitsOp .and .i64 times_ 63)))) : Bool) with
         | true =>
          replace h := ite_t hb_27 h
          refine Rc 4 [vb r_5.2, vb (!r_5.2), vb (!r_5.2), vb (!r_5.2)] ?_
          cases hb_28 : ((!r_5.2) : Bool) with
          | true =>
           replace h := ite_t hb_28 h
           refine Rc 1 [⟨.mix [.i 256, .nils, .ref [46] 0 0 (List.map id ([(Block.d ({ Times := 257, Bytes := ([99] : List Int), Blocks := ([] : List D) } : Block))] : List D)).length 3], []⟩] ?_
           obtain ⟨r_21, hr_21, h⟩ := bind_s h
           have hc_21 := iter_Size_L 64 ({ Times := 256, Bytes := ([] : List Int), Blocks := ([(Block.d ({ Times := 257, Bytes := ([99] : List Int), Blocks := ([] : List D) } : Block))] : List D) } : Block) r_21 hr_21
           refine Rt (some 125) (.callf 28) [] none [.mix [.i 256, .nils, .ref [46] 0 0 (List.map id ([(Block.d ({ Times := 257, Bytes := ([99] : List Int), Blocks := ([] : List D) } : Block))] : List D)).length 3]] (.i r_21) [([46], some (.arr (List.map id ([(Block.d ({ Times := 257, Bytes := ([99] : List Int), Blocks := ([] : List D) } : Block))] : List D)) 0 true))] (cut_call (call_of (ws := [([46], some (.arr (List.map id ([(Block.d ({ Times := 257, Bytes := ([99] : List Int), Blocks := ([] : List D) } : Block))] : List D)) 0 true))]) (us := [([46], some (.arr (List.map id ([(Block.d ({ Times := 257, Bytes := ([99] : List Int), Blocks := ([] : List D) } : Block))] : List D)) 0 true))]) (by kernel_rfl) (gives_cons (ws := [([46], some (.arr (List.map id ([(Block.d ({ Times := 257, Bytes := ([99] : List Int), Blocks := ([] : List D) } : Block))] : List D)) 0 true))]) (give_mix (snaps_d (snaps_n (D.int .u8) (snaps_r (e := id) (l := ([(Block.d ({ Times := 257, Bytes := ([99] : List Int), Blocks := ([] : List D) } : Block))] : List D)) (fz := true) (by kernel_rfl) (by kernel_rfl) (hl := rfl) snaps_nil)))) gives_nil) hc_21 (by kernel_rfl) (by kernel_rfl))) <| Rc 3 [vb (r_21 == 65537), vb (r_21 == 65537), vb (r_21 == 65537)] ?_
           cases hb_29 : ((r_21 == 65537) : Bool) with
           | true =>
            replace h := ite_t hb_29 h
            refine Rc 4 [vi r_7.2, vb (r_7.2 == 8), vb (r_7.2 == 8), vb (r_7.2 == 8)] ?_
            cases hb_30 : ((r_7.2 == 8) : Bool) with
            | true =>
             replace h := ite_t hb_30 h
             refine Rc 4 [vi r_9.2, vb (r_9.2 == 8), vb (r_9.2 == 8), vb (r_9.2 == 8)] ?_
             cases hb_31 : ((r_9.2 == 8) : Bool) with
             | true =>
              replace h := ite_t hb_31 h
              refine Rc 1 [⟨.mix [.i 1, .nils, .nils], []⟩] ?_
              obtain ⟨r_22, hr_22, h⟩ := bind_s h
              have hc_22 := iter_May_L ({ Times := 1, Bytes := ([] : List Int), Blocks := ([] : List D) } : Block) r_22 hr_22
              refine Rt (some 138) (.callf 27) [] none [.mix [.i 1, .nils, .nils]] (.b r_22) [] (cut_call (call_of (ws := []) (us := []) (by kernel_rfl) (gives_cons (ws := []) (give_mix (snaps_d (snaps_n (D.int .u8) (snaps_n id snaps_nil)))) gives_nil) hc_22 (by kernel_rfl) (by kernel_rfl))) <| Rc 3 [vb (!r_22), vb (!r_22), vb (!r_22)] ?_
              cases hb_32 : ((!r_22) : Bool) with
              | true =>
               replace h := ite_t hb_32 h
               refine Rc 2 [⟨.ref [142] 0 0 (mY ([1] : List Int)).length 1, [([142], some (.arr (mY ([1] : List Int)) 0 false))]⟩, ⟨.mix [.i 0, .ref [142] 0 0 (mY ([1] : List Int)).length 1, .nils], []⟩] ?_
               obtain ⟨r_23, hr_23, h⟩ := bind_s h
               have hc_23 := iter_May_L ({ Times := 0, Bytes := ([1] : List Int), Blocks := ([] : List D) } : Block) r_23 hr_23
               refine Rt (some 144) (.callf 27) [] none [.mix [.i 0, .ref [142] 0 0 (mY ([1] : List Int)).length 1, .nils]] (.b r_23) [([142], some (.arr (mY ([1] : List Int)) 0 true))] (cut_call (call_of (ws := [([142], some (.arr (mY ([1] : List Int)) 0 true))]) (us := [([142], some (.arr (mY ([1] : List Int)) 0 true))]) (by kernel_rfl) (gives_cons (ws := [([142], some (.arr (mY ([1] : List Int)) 0 true))]) (give_mix (snaps_d (snaps_r (e := (D.int .u8)) (l := ([1] : List Int)) (fz := false) (by kernel_rfl) (by kernel_rfl) (hl := rfl) (snaps_n id snaps_nil)))) gives_nil) hc_23 (by kernel_rfl) (by kernel_rfl))) <| Rc 3 [vb (!r_23), vb (!r_23), vb (!r_23)] <| Rk <| Runs.ret ?_
               cases h
               exact Fq
              | false =>
               replace h := ite_f hb_32 h
               refine Rc 6 [vn, vn, vn, vn, vb false, vb false] <| Rk <| Runs.ret ?_
               cases h
               exact Fq
             | false =>
              replace h := ite_f hb_31 h
              refine Rc 11 [vn, vn, vn, vb false, vb false, vn, vn, vn, vn, vb false, vb false] <| Rk <| Runs.ret ?_
              cases h
              exact Fq
            | false =>
             replace h := ite_f hb_30 h
             refine Rc 15 [vn, vn, vb false, vb false, vn, vn, vn, vb false, vb false, vn, vn, vn, vn, vb false, vb false] <| Rk <| Runs.ret ?_
             cases h
             exact Fq
           | false =>
            replace h := ite_f hb_29 h
            refine Rc 19 [vn, vn, vb false, vb false, vn, vn, vb false, vb false, vn, vn, vn, vb false, vb false, vn, vn, vn, vn, vb false, vb false] <| Rk <| Runs.ret ?_
            cases h
            exact Fq
          | false =>
           replace h := ite_f hb_28 h
           refine Rc 24 [vn, vn, vn, vb false, vb false, vn, vn, vb false, vb false, vn, vn, vb false, vb false, vn, vn, vn, vb false, vb false, vn, vn, vn, vn, vb false, vb false] <| Rk <| Runs.ret ?_
           cases h
           exact Fq
         | false =>
          replace h := ite_f hb_27 h
          refine Rc 28 [vn, vn, vb false, vb false, vn, vn, vn, vb false, vb false, vn, vn, vb false, vb false, vn, vn, vb false, vb false, vn, vn, vn, vb false, vb false, vn, vn, vn, vn, vb false, vb false] <| Rk <| Runs.ret ?_
          cases h
          exact Fq
       | false =>
        replace h := ite_f hb_20 h
        refine Rc 38 [vn, vn, vn, vn, vn, vn, vn, vn, vb false, vb false, vn, vn, vb false, vb false, vn, vn, vn, vb false, vb false, vn, vn, vb false, vb false, vn, vn, vb false, vb false, vn, vn, vn, vb false, vb false, vn, vn, vn, vn, vb false, vb false] <| Rk <| Runs.ret ?_
        cases h
        exact Fq
      | false =>
       replace h := ite_f hb_19 h
       refine Rc 44 [vn, vn, vn, vn, vb false, vb false, vn, vn, vn, vn, vn, vn, vn, vn, vb false, vb false, vn, vn, vb false, vb false, vn, vn, vn, vb false, vb false, vn, vn, vb false, vb false, vn, vn, vb false, vb false, vn, vn, vn, vb false, vb false, vn, vn, vn, vn, vb false, vb false] <| Rk <| Runs.ret ?_
       cases h
       exact Fq
    | false =>
     replace h := ite_f hb_4 h
     refine Rc 11 [vn, vn, vn, vn, vb false, vb false, vi r_3.2, vb (r_3.2 == 8), vb (r_3.2 == 8), vb (r_3.2 == 8), vb (r_3.2 == 8)] ?_
     cases hb_33 : ((r_3.2 == 8) : Bool) with
     | true =>
      replace h := ite_t hb_33 h
      refine Rc 6 [vb r_4.2, vi (IntKind.wrap .i64 (65500 + (bitsOp .and .i64 times_ 63))), vb (decide ((IntKind.wrap .i64 (65500 + (bitsOp .and .i64 times_ 63))) ≤ 65535)), vb (r_4.2 == (decide ((IntKind.wrap .i64 (65500 + (bitsOp .and .i64 times_ 63))) ≤ 65535))), vb (r_4.2 == (decide ((IntKind.wrap .i64 (65500 + (bitsOp .and .i64 times_ 63))) ≤ 65535))), vb (r_4.2 == (decide ((IntKind.wrap .i64 (65500 + (bitsOp .and .i64 times_ 63))) ≤ 65535)))] ?_
      cases hb_34 : ((r_4.2 == (decide ((IntKind.wrap .i64 (65500 + (bitsOp .and .i64 times_ 63))) ≤ 65535))) : Bool) with
      | true =>
       replace h := ite_t hb_34 h
       refine Rc 3 [vb r_4.2, vb (!r_4.2), vb (!r_4.2)] ?_
       cases hb_35 : ((!r_4.2) : Bool) with
       | true =>
        replace h := ite_t hb_35 h
        refine Rc 11 [vn, vn, vn, vn, vb true, vb true, vb true, vb r_5.2, vb (!r_5.2), vb (!r_5.2), vb (!r_5.2)] ?_
        cases hb_36 : ((!r_5.2) : Bool) with
        | true =>
         replace h := ite_t hb_36 h
         refine Rc 1 [⟨.mix [.i 256, .nils, .ref [46] 0 0 (List.map id ([(Block.d ({ Times := 257, Bytes := ([99] : List Int), Blocks := ([] : List D) } : Block))] : List D)).length 3], []⟩] ?_
         obtain ⟨r_24, hr_24, h⟩ := bind_s h
         have hc_24 := iter_Size_L 64 ({ Times := 256, Bytes := ([] : List Int), Blocks := ([(Block.d ({ Times := 257, Bytes := ([99] : List Int), Blocks := ([] : List D) } : Block))] : List D) } : Block) r_24 hr_24
         refine Rt (some 125) (.callf 28) [] none [.mix [.i 256, .nils, .ref [46] 0 0 (List.map id ([(Block.d ({ Times := 257, Bytes := ([99] : List Int), Blocks := ([] : List D) } : Block))] : List D)).length 3]] (.i r_24) [([46], some (.arr (List.map id ([(Block.d ({ Times := 257, Bytes := ([99] : List Int), Blocks := ([] : List D) } : Block))] : List D)) 0 true))] (cut_call (call_of (ws := [([46], some (.arr (List.map id ([(Block.d ({ Times := 257, Bytes := ([99] : List Int), Blocks := ([] : List D) } : Block))] : List D)) 0 true))]) (us := [([46], some (.arr (List.map id ([(Block.d ({ Times := 257, Bytes := ([99] : List Int), Blocks := ([] : List D) } : Block))] : List D)) 0 true))]) (by kernel_rfl) (gives_cons (ws := [([46], some (.arr (List.map id ([(Block.d ({ Times := 257, Bytes := ([99] : List Int), Blocks := ([] : List D) } : Block))] : List D)) 0 true))]) (give_mix (snaps_d (snaps_n (D.int .u8) (snaps_r (e := id) (l := ([(Block.d ({ Times := 257, Bytes := ([99] : List Int), Blocks := ([] : List D) } : Block))] : List D)) (fz := true) (by kernel_rfl) (by kernel_rfl) (hl := rfl) snaps_nil)))) gives_nil) hc_24 (by kernel_rfl) (by kernel_rfl))) <| Rc 3 [vb (r_24 == 65537), vb (r_24 == 65537), vb (r_24 == 65537)] ?_
         cases hb_37 : ((r_24 == 65537) : Bool) with
         | true =>
          replace h := ite_t hb_37 h
          refine Rc 4 [vi r_7.2, vb (r_7.2 == 8), vb (r_7.2 == 8), vb (r_7.2 == 8)] ?_
          cases hb_38 : ((r_7.2 == 8) : Bool) with
          | true =>
           replace h := ite_t hb_38 h
           refine Rc 4 [vi r_9.2, vb (r_9.2 == 8), vb (r_9.2 == 8), vb (r_9.2 == 8)] ?_
           cases hb_39 : ((r_9.2 == 8) : Bool) with
           | true =>
            replace h := ite_t hb_39 h
            refine Rc 1 [⟨.mix [.i 1, .nils, .nils], []⟩] ?_
            obtain ⟨r_25, hr_25, h⟩ := bind_s h
            have hc_25 := iter_May_L ({ Times := 1, Bytes := ([] : List Int), Blocks := ([] : List D) } : Block) r_25 hr_25
            refine Rt (some 138) (.callf 27) [] none [.mix [.i 1, .nils, .nils]] (.b r_25) [] (cut_call (call_of (ws := []) (us := []) (by kernel_rfl) (gives_cons (ws := []) (give_mix (snaps_d (snaps_n (D.int .u8) (snaps_n id snaps_nil)))) gives_nil) hc_25 (by kernel_rfl) (by kernel_rfl))) <| Rc 3 [vb (!r_25), vb (!r_25), vb (!r_25)] ?_
            cases hb_40 : ((!r_25) : Bool) with
            | true =>
             replace h := ite_t hb_40 h
             refine Rc 2 [⟨.ref [142] 0 0 (mY ([1] : List Int)).length 1, [([142], some (.arr (mY ([1] : List Int)) 0 false))]⟩, ⟨.mix [.i 0, .ref [142] 0 0 (mY ([1] : List Int)).length 1, .nils], []⟩] ?_
             obtain ⟨r_26, hr_26, h⟩ := bind_s h
             have hc_26 := iter_May_L ({ Times := 0, Bytes := ([1] : List Int), Blocks := ([] : List D) } : Block) r_26 hr_26
             refine Rt (some 144) (.callf 27) [] none [.mix [.i 0, .ref [142] 0 0 (mY ([1] : List Int)).length 1, .nils]] (.b r_26) [([142], some (.arr (mY ([1] : List Int)) 0 true))] (cut_call (call_of (ws := [([142], some (.arr (mY ([1] : List Int)) 0 true))]) (us := [([142], some (.arr (mY ([1] : List Int)) 0 true))]) (by kernel_rfl) (gives_cons (ws := [([142], some (.arr (mY ([1] : List Int)) 0 true))]) (give_mix (snaps_d (snaps_r (e := (D.int .u8)) (l := ([1] : List Int)) (fz := false) (by kernel_rfl) (by kernel_rfl) (hl := rfl) (snaps_n id snaps_nil)))) gives_nil) hc_26 (by kernel_rfl) (by kernel_rfl))) <| Rc 3 [vb (!r_26), vb (!r_26), vb (!r_26)] <| Rk <| Runs.ret ?_
             cases h
             exact Fq
            | false =>
             replace h := ite_f hb_40 h
             refine Rc 6 [vn, vn, vn, vn, vb false, vb false] <| Rk <| Runs.ret ?_
             cases h
             exact Fq
           | false =>
            replace h := ite_f hb_39 h
            refine Rc 11 [vn, vn, vn, vb false, vb false, vn, vn, vn, vn, vb false, vb false] <| Rk <| Runs.ret ?_
            cases h
            exact Fq
          | false =>
           replace h := ite_f hb_38 h
           refine Rc 15 [vn, vn, vb false, vb false, vn, vn, vn, vb false, vb false, vn, vn, vn, vn, vb false, vb false] <| Rk <| Runs.ret ?_
           cases h
           exact Fq
         | false =>
          replace h := ite_f hb_37 h
          refine Rc 19 [vn, vn, vb false, vb false, vn, vn, vb false, vb false, vn, vn, vn, vb false, vb false, vn, vn, vn, vn, vb false, vb false] <| Rk <| Runs.ret ?_
          cases h
          exact Fq
        | false =>
         replace h := ite_f hb_36 h
         refine Rc 24 [vn, vn, vn, vb false, vb false, vn, vn, vb false, vb false, vn, vn, vb false, vb false, vn, vn, vn, vb false, vb false, vn, vn, vn, vn, vb false, vb false] <| Rk <| Runs.ret ?_
         cases h
         exact Fq
       | false =>
        replace h := ite_f hb_35 h
        refine Rc 1 [⟨.d (.sl (mY r_4.1)), []⟩] <| Rt (some 114) .lenL [] none [.d (.sl (mY r_4.1))] (.i (r_4.1.length : Int)) [] (cut_len _) <| Rc 5 [vi (IntKind.wrap .i64 (65500 + (bitsOp .and .i64 times_ 63))), vb ((r_4.1.length : Int) == (IntKind.wrap .i64 (65500 + (bitsOp .and .i64 times_ 63)))), vb ((r_4.1.length : Int) == (IntKind.wrap .i64 (65500 + (bitsOp .and .i64 times_ 63)))), vb ((r_4.1.length : Int) == (IntKind.wrap .i64 (65500 + (bitsOp .and .i64 times_ 63)))), vb ((r_4.1.length : Int) == (IntKind.wrap .i64 (65500 + (bitsOp .and .i64 times_ 63))))] ?_
        cases hb_41 : (((r_4.1.length : Int) == (IntKind.wrap .i64 (65500 + (bitsOp .and .i64 times_ 63)))) : Bool) with
        | true =>
         replace h := ite_t hb_41 h
         refine Rc 4 [vb r_5.2, vb (!r_5.2), vb (!r_5.2), vb (!r_5.2)] ?_
         cases hb_42 : ((!r_5.2) : Bool) with
         | true =>
          replace h := ite_t hb_42 h
          refine Rc 1 [⟨.mix [.i 256, .nils, .ref [46] 0 0 (List.map id ([(Block.d ({ Times := 257, Bytes := ([99] : List Int), Blocks := ([] : List D) } : Block))] : List D)).length 3], []⟩] ?_
          obtain ⟨r_27, hr_27, h⟩ := bind_s h
          have hc_27 := iter_Size_L 64 ({ Times := 256, Bytes := ([] : List Int), Blocks := ([(Block.d ({ Times := 257, Bytes := ([99] : List Int), Blocks := ([] : List D) } : Block))] : List D) } : Block) r_27 hr_27
          refine Rt (some 125) (.callf 28) [] none [.mix [.i 256, .nils, .ref [46] 0 0 (List.map id ([(Block.d ({ Times := 257, Bytes := ([99] : List Int), Blocks := ([] : List D) } : Block))] : List D)).length 3]] (.i r_27) [([46], some (.arr (List.map id ([(Block.d ({ Times := 257, Bytes := ([99] : List Int), Blocks := ([] : List D) } : Block))] : List D)) 0 true))] (cut_call (call_of (ws := [([46], some (.arr (List.map id ([(Block.d ({ Times := 257, Bytes := ([99] : List Int), Blocks := ([] : List D) } : Block))] : List D)) 0 true))]) (us := [([46], some (.arr (List.map id ([(Block.d ({ Times := 257, Bytes := ([99] : List Int), Blocks := ([] : List D) } : Block))] : List D)) 0 true))]) (by kernel_rfl) (gives_cons (ws := [([46], some (.arr (List.map id ([(Block.d ({ Times := 257, Bytes := ([99] : List Int), Blocks := ([] : List D) } : Block))] : List D)) 0 true))]) (give_mix (snaps_d (snaps_n (D.int .u8) (snaps_r (e := id) (l := ([(Block.d ({ Times := 257, Bytes := ([99] : List Int), Blocks := ([] : List D) } : Block))] : List D)) (fz := true) (by kernel_rfl) (by kernel_rfl) (hl := rfl) snaps_nil)))) gives_nil) hc_27 (by kernel_rfl) (by kernel_rfl))) <| Rc 3 [vb (r_27 == 65537), vb (r_27 == 65537), vb (r_27 == 65537)] ?_
          cases hb_43 : ((r_27 == 65537) : Bool) with
          | true =>
           replace h := ite_t hb_43 h
           refine Rc 4 [vi r_7.2, vb (r_7.2 == 8), vb (r_7.2 == 8), vb (r_7.2 == 8)] ?_
           cases hb_44 : ((r_7.2 == 8) : Bool) with
           | true =>
            replace h := ite_t hb_44 h
            refine Rc 4 [vi r_9.2, vb (r_9.2 == 8), vb (r_9.2 == 8), vb (r_9.2 == 8)] ?_
            cases hb_45 : ((r_9.2 == 8) : Bool) with
            | true =>
             replace h := ite_t hb_45 h
             refine Rc 1 [⟨.mix [.i 1, .nils, .nils], []⟩] ?_
             obtain ⟨r_28, hr_28, h⟩ := bind_s h
             have hc_28 := iter_May_L ({ Times := 1, Bytes := ([] : List Int), Blocks := ([] : List D) } : Block) r_28 hr_28
             refine Rt (some 138) (.callf 27) [] none [.mix [.i 1, .nils, .nils]] (.b r_28) [] (cut_call (call_of (ws := []) (us := []) (by kernel_rfl) (gives_cons (ws := []) (give_mix (snaps_d (snaps_n (D.int .u8) (snaps_n id snaps_nil)))) gives_nil) hc_28 (by kernel_rfl) (by kernel_rfl))) <| Rc 3 [vb (!r_28), vb (!r_28), vb (!r_28)] ?_
             cases hb_46 : ((!r_28) : Bool) with
             | true =>
              replace h := ite_t hb_46 h
              refine Rc 2 [⟨.ref [142] 0 0 (mY ([1] : List Int)).length 1, [([142], some (.arr (mY ([1] : List Int)) 0 false))]⟩, ⟨.mix [.i 0, .ref [142] 0 0 (mY ([1] : List Int)).length 1, .nils], []⟩] ?_
              obtain ⟨r_29, hr_29, h⟩ := bind_s h
              have hc_29 := iter_May_L ({ Times := 0, Bytes := ([1] : List Int), Blocks := ([] : List D) } : Block) r_29 hr_29
              refine Rt (some 144) (.callf 27) [] none [.mix [.i 0, .ref [142] 0 0 (mY ([1] : List Int)).length 1, .nils]] (.b r_29) [([142], some (.arr (mY ([1] : List Int)) 0 true))] (cut_call (call_of (ws := [([142], some (.arr (mY ([1] : List Int)) 0 true))]) (us := [([142], some (.arr (mY ([1] : List Int)) 0 true))]) (by kernel_rfl) (gives_cons (ws := [([142], some (.arr (mY ([1] : List Int)) 0 true))]) (give_mix (snaps_d (snaps_r (e := (D.int .u8)) (l := ([1] : List Int)) (fz := false) (by kernel_rfl) (by kernel_rfl) (hl := rfl) (snaps_n id snaps_nil)))) gives_nil) hc_29 (by kernel_rfl) (by kernel_rfl))) <| Rc 3 [vb (!r_29), vb (!r_29), vb (!r_29)] <| Rk <| Runs.ret ?_
              cases h
              exact Fq
             | false =>
              replace h := ite_f hb_46 h
              refine Rc 6 [vn, vn, vn, vn, vb false, vb false] <| Rk <| Runs.ret ?_
              cases h
              exact Fq
            | false =>
             replace h := ite_f hb_45 h
             refine Rc 11 [vn, vn, vn, vb false, vb false, vn, vn, vn, vn, vb false, vb false] <| Rk <| Runs.ret ?_
             cases h
             exact Fq
           | false =>
            replace h := ite_f hb_44 h
            refine Rc 15 [vn, vn, vb false, vb false, vn, vn, vn, vb false, vb false, vn, vn, vn, vn, vb false, vb false] <| Rk <| Runs.ret ?_
            cases h
            exact Fq
          | false =>
           replace h := ite_f hb_43 h
           refine Rc 19 [vn, vn, vb false, vb false, vn, vn, vb false, vb false, vn, vn, vn, vb false, vb false, vn, vn, vn, vn, vb false, vb false] <| Rk <| Runs.ret ?_
           cases h
           exact Fq
         | false =>
          replace h := ite_f hb_42 h
          refine Rc 24 [vn, vn, vn, vb false, vb false, vn, vn, vb false, vb false, vn, vn, vb false, vb false, vn, vn, vn, vb false, vb false, vn, vn, vn, vn, vb false, vb false] <| Rk <| Runs.ret ?_
          cases h
          exact Fq
        | false =>
         replace h := ite_f hb_41 h
         refine Rc 28 [vn, vn, vb false, vb false, vn, vn, vn, vb false, vb false, vn, vn, vb false, vb false, vn, vn, vb false, vb false, vn, vn, vn, vb false, vb false, vn, vn, vn, vn, vb false, vb false] <| Rk <| Runs.ret ?_
         cases h
         exact Fq
      | false =>
       replace h := ite_f hb_34 h
       refine Rc 38 [vn, vn, vn, vn, vn, vn, vn, vn, vb false, vb false, vn, vn, vb false, vb false, vn, vn, vn, vb false, vb false, vn, vn, vb false, vb false, vn, vn, vb false, vb false, vn, vn, vn, vb false, vb false, vn, vn, vn, vn, vb false, vb false] <| Rk <| Runs.ret ?_
       cases h
       exact Fq
     | false =>
      replace h := ite_f hb_33 h
      refine Rc 44 [vn, vn, vn, vn, vb false, vb false, vn, vn, vn, vn, vn, vn, vn, vn, vb false, vb false, vn, vn, vb false, vb false, vn, vn, vn, vb false, vb false, vn, vn, vb false, vb false, vn, vn, vb false, vb false, vn, vn, vn, vb false, vb false, vn, vn, vn, vn, vb false, vb false] <| Rk <| Runs.ret ?_
      cases h
      exact Fq
   | false =>
    replace h := ite_f hb_3 h
    refine Rc 58 [vn, vn, vn, vn, vn, vn, vn, vn, vn, vn, vn, vn, vb false, vb false, vn, vn, vn, vn, vb false, vb false, vn, vn, vn, vn, vn, vn, vn, vn, vb false, vb false, vn, vn, vb false, vb false, vn, vn, vn, vb false, vb false, vn, vn, vb false, vb false, vn, vn, vb false, vb false, vn, vn, vn, vb false, vb false, vn, vn, vn, vn, vb false, vb false] <| Rk <| Runs.ret ?_
    cases h
    exact Fq
  | false =>
   replace h := ite_f hb_2 h
   refine Rc 65 [vn, vn, vn, vn, vn, vb false, vb false, vn, vn, vn, vn, vn, vn, vn, vn, vn, vn, vn, vn, vb false, vb false, vn, vn, vn, vn, vb false, vb false, vn, vn, vn, vn, vn, vn, vn, vn, vb false, vb false, vn, vn, vb false, vb false, vn, vn, vn, vb false, vb false, vn, vn, vb false, vb false, vn, vn, vb false, vb false, vn, vn, vn, vb false, vb false, vn, vn, vn, vn, vb false, vb false] <| Rk <| Runs.ret ?_
   cases h
   exact Fq
 | false =>
  replace h := ite_f hb_1 h
  refine Rc 72 [vn, vn, vn, vn, vn, vb false, vb false, vn, vn, vn, vn, vn, vb false, vb false, vn, vn, vn, vn, vn, vn, vn, vn, vn, vn, vn, vn, vb false, vb false, vn, vn, vn, vn, vb false, vb false, vn, vn, vn, vn, vn, vn, vn, vn, vb false, vb false, vn, vn, vb false, vb false, vn, vn, vn, vb false, vb false, vn, vn, vb false, vb false, vn, vn, vb false, vb false, vn, vn, vn, vb false, vb false, vn, vn, vn, vn, vb false, vb false] <| Rk <| Runs.ret ?_
  cases h
  exact Fq
theorem hansomlaw24_IterMost_L (n_ : Int) (times_ : Int) (r : Bool) (h : hansomlaw24_IterMost n_ times_ = some r) : L 5 [.i n_, .i times_] = some (.b r, [.i n_, .i times_]) := by
 obtain ⟨p, ⟨hne, hf⟩, hr⟩ := hansomlaw24_IterMost_ok n_ times_ r h
 obtain ⟨k, hk⟩ := run_of (F := F5) (args := [.i n_, .i times_]) (ap := [.i n_, .i times_]) (bx0 := updW (fun _ => none) []) rfl rfl (by kernel_rfl) ⟨p, ⟨hne, hf⟩, hr⟩
 exact lim_run (k := k) rfl hk
end Go.Es.Itm
