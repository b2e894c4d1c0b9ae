/- The interpreter answers as plain Lean does: part 1. No condition. -/
import Derived.Test.YtedmdailpfbboaaItsF
import Derived.Test.YtedmdailpfbboaaItsP
import Derived.KernelRfl
set_option linter.unusedVariables false
set_option linter.unusedSimpArgs false
set_option maxRecDepth 100000
set_option maxHeartbeats 4000000
namespace Go.Es.Its
theorem hansomlaw24_awake_L (r : Bool) (h : hansomlaw24_awake = some r) : L 48 [] = some (.d (.bool r), []) := by
  cases h
  exact (lim_iff (F := tab1)).2 ⟨100, by kernel_rfl⟩
def hansomref24_Near_h2 (b2 : Block) (b_902_4 : (List D)) (x4_0 : Int) (deep1 : Int) (v_902_4 : Nat) : St := ⟨tab [(1, .i deep1), (2, .ptr [2] 0 0), (4, .ptr [4] 0 0)], tabB [([2], some (.cells [.i b2.Times, .d (.sl (mY b2.Bytes)), .d (.sl (List.map id b2.Blocks))] 0)), ([4], some (.cells [.i x4_0, .nils, .ref [902, 4] v_902_4 0 (List.map id b_902_4).length 3] 0)), ([902, 4], some (.arr (List.map id b_902_4) v_902_4 false))]⟩
def hansomref24_Near_h7 (b2 : Block) (b_902_4 : (List D)) (x4_0 : Int) (deep1 : Int) (t18 : Bool) (v_902_4 : Nat) : St := ⟨tab [(1, .i deep1), (2, .ptr [2] 0 0), (4, .ptr [4] 0 0), (18, .b t18)], tabB [([2], some (.cells [.i b2.Times, .d (.sl (mY b2.Bytes)), .d (.sl (List.map id b2.Blocks))] 0)), ([4], some (.cells [.i x4_0, .nils, .ref [902, 4] v_902_4 0 (List.map id b_902_4).length 3] 0)), ([902, 4], some (.arr (List.map id b_902_4) v_902_4 false))]⟩
def hansomref24_Near_h12 (b2 : Block) (b_902_4 : (List D)) (x4_0 : Int) (deep1 : Int) (i5 : Int) (v_902_4 : Nat) : St := ⟨tab [(1, .i deep1), (2, .ptr [2] 0 0), (4, .ptr [4] 0 0), (5, .i i5)], tabB [([2], some (.cells [.i b2.Times, .d (.sl (mY b2.Bytes)), .d (.sl (List.map id b2.Blocks))] 0)), ([4], some (.cells [.i x4_0, .nils, .ref [902, 4] v_902_4 0 (List.map id b_902_4).length 3] 0)), ([902, 4], some (.arr (List.map id b_902_4) v_902_4 false))]⟩
def hansomref24_Near_h23 (b_902_4 : (List D)) (x4_0 : Int) (v_902_4 : Nat) : St := ⟨tab [(4, .ptr [4] 0 0)], tabB [([4], some (.cells [.i x4_0, .nils, .ref [902, 4] v_902_4 0 (List.map id b_902_4).length 3] 0)), ([902, 4], some (.arr (List.map id b_902_4) v_902_4 false))]⟩
def hansomref24_Near_Q (b_ : Block) (deep_ : Int) (r : Block) (p : Out × St) : Prop := (∀ i, p.1 ≠ .exit i) ∧ finF F45 [.d (Block.d b_), .i deep_] p.2 = some (.d (Block.d r), [.d (Block.d b_), .i deep_])
def hansomref24_Near_P12 (b_ : Block) (deep_ : Int) (b2 : Block) (x4_0 : Int) (deep1 : Int) (e : (List D)) (p : Out × St) : Prop := p.1 = .exit 0 ∧ ∃ g : Nat, Canon [] [4] [[4], [902, 4]] p.2 (hansomref24_Near_h23 e x4_0 g)
theorem hansomref24_Near_l12_ok (self_ : Block → Int → Option Block) (hs_ : ∀ (b_ : Block) (deep_ : Int) (r : Block), self_ b_ deep_ = some r → L 45 [.d (Block.d b_), .i deep_] = some (.d (Block.d r), [.d (Block.d b_), .i deep_])) (b_ : Block) (deep_ : Int) (b2 : Block) (b_902_4 : (List D)) (x4_0 : Int) (deep1 : Int) (i5 : Int) (v_902_4 : Nat) (r : (Lp ((List D) × Int) (List D))) (h : hansomref24_Near_l12 self_ b2 b_902_4 x4_0 deep1 i5 = some r) : Runs L F45l12 (hansomref24_Near_h12 b2 b_902_4 x4_0 deep1 i5 v_902_4) (LQ [] [1, 2, 4, 5] [[2], [4], [902, 4]] (fun (x : ((List D) × Int)) (g : Nat) => hansomref24_Near_h12 b2 x.1 x4_0 deep1 x.2 g) (hansomref24_Near_P12 b_ deep_ b2 x4_0 deep1) r) := by
 unfold hansomref24_Near_l12 at h
 refine Sq <| Sq <| Ro <| Rc 3 [vi i5, vp [2] 0 2, ⟨.d (.sl (List.map id b2.Blocks)), []⟩] <| Rt (some 22) .lenL [] none [.d (.sl (List.map id b2.Blocks))] (.i (b2.Blocks.length : Int)) [] (cut_len _) <| Rc 2 [vb (decide (i5 < (b2.Blocks.length : Int))), vb (decide (i5 < (b2.Blocks.length : Int)))] ?_
 cases hb_3 : ((decide (i5 < (b2.Blocks.length : Int))) : Bool) with
 | true =>
  replace h := ite_t hb_3 h
  refine Rc 3 [vi i5, vb (decide (i5 < 3)), vb (decide (i5 < 3))] <| Rk ?_
  cases hb_4 : ((decide (i5 < 3)) : Bool) with
  | true =>
   replace h := ite_t hb_4 h
   refine Ct <| Runs.skip <| kS_nrm <| Sq <| Runs.block <| Ro <| Rc 5 [vp [4] 0 2, ⟨.ref [902, 4] v_902_4 0 (List.map id b_902_4).length 3, []⟩, vp [2] 0 2, ⟨.d (.sl (List.map id b2.Blocks)), []⟩, vi i5] ?_
   obtain ⟨z_1, hz_1, h⟩ := bind_s h
   obtain ⟨z_2, hz_2, h⟩ := bind_s h
   rw [ofD_eq hz_2] at hz_1
   refine Rt (some 35) (.iaddrS 3) [] none [.d (.sl (List.map id b2.Blocks)), .i i5] (.elt (Block.d z_2) 0) [] (cut_at1 (e := id) hz_1 rfl) <| Rc 3 [⟨.d (Block.d z_2), []⟩, vi deep1, vi (IntKind.wrap .i64 (deep1 - 1))] ?_
   obtain ⟨r_1, hr_1, h⟩ := bind_s h
   have hc_1 := hs_ z_2 (IntKind.wrap .i64 (deep1 - 1)) r_1 hr_1
   refine Rt (some 39) (.callf 45) [] (some []) [.d (Block.d z_2), .i (IntKind.wrap .i64 (deep1 - 1))] (.d (Block.d r_1)) [] (cc hc_1) <| Rc 1 [⟨.ref [40] 0 0 (List.map id ([(Block.d r_1)] : List D)).length 3, [([40], some (.arr (List.map id ([(Block.d r_1)] : List D)) 0 false))]⟩] ?_
   obtain ⟨z_3, hz_3, h⟩ := bind_s h
   refine Rt (some 41) (.append 3 56 false) [] none [.ref [902, 4] v_902_4 0 (List.map id b_902_4).length 3, .ref [40] 0 0 (List.map id ([(Block.d r_1)] : List D)).length 3] (.ref [902, 4] (v_902_4 + 1) 0 (List.map id z_3).length 3) [([40], some (.arr (List.map id ([(Block.d r_1)] : List D)) 0 true)), ([902, 4], some (.arr (List.map id z_3) (v_902_4 + 1) false))] (cut_appR1 (e := id) (l := b_902_4) (fz := false) (ws := [([40], some (.arr (List.map id ([(Block.d r_1)] : List D)) 0 true))]) (ap_ref (e := id) (l := ([(Block.d r_1)] : List D)) (fz := false) (by kernel_rfl) (by kernel_rfl) rfl) (by kernel_rfl) hz_3 (by kernel_rfl) (by kernel_rfl) rfl) <| Rc 2 [vp [4] 0 2, ⟨.tup [], [([4], some (.cells [.i x4_0, .nils, .ref [902, 4] (v_902_4 + 1) 0 (List.map id z_3).length 3] 0))]⟩] <| Rd <| kB_nrm <| kS_nrm <| Ro <| Rc 3 [vi i5, vi (IntKind.wrap .i64 (i5 + 1)), vi (IntKind.wrap .i64 (i5 + 1))] <| Rd ?_
   obtain rfl := sj h
   exact ⟨rfl, (v_902_4 + 1), Cz⟩
  | false =>
   replace h := ite_f hb_4 h
   refine Cf <| Runs.exit <| kS_exit ?_
   obtain rfl := sj h
   exact ⟨nofun, rfl, v_902_4, Cz⟩
 | false =>
  replace h := ite_f hb_3 h
  refine Rc 3 [vn, vn, vb false] <| Rk <| Cf <| Runs.exit <| kS_exit ?_
  obtain rfl := sj h
  exact ⟨nofun, rfl, v_902_4, Cz⟩
theorem hansomref24_Near_j7_ok (self_ : Block → Int → Option Block) (hs_ : ∀ (b_ : Block) (deep_ : Int) (r : Block), self_ b_ deep_ = some r → L 45 [.d (Block.d b_), .i deep_] = some (.d (Block.d r), [.d (Block.d b_), .i deep_])) (b_ : Block) (deep_ : Int) (b2 : Block) (b_902_4 : (List D)) (x4_0 : Int) (deep1 : Int) (t18 : Bool) (v_902_4 : Nat) (r : Block) (h : hansomref24_Near_j7 self_ b2 b_902_4 x4_0 deep1 t18 = some r) : Runs L F45b7 (hansomref24_Near_h7 b2 b_902_4 x4_0 deep1 t18 v_902_4) (kS L F45c27 (hansomref24_Near_Q b_ deep_ r)) := by
 unfold hansomref24_Near_j7 at h
 cases hb_2 : (t18 : Bool) with
 | true =>
  replace h := ite_t hb_2 h
  refine Ct <| Sq <| Sq <| Ro <| Rc 1 [vi 0] <| Rk <| Runs.block ?_
  obtain ⟨e_1, he_1, h⟩ := bind_s h
  refine Runs.loop (fun x : ((List D) × Int) => hansomref24_Near_l12 self_ b2 x.1 x4_0 deep1 x.2) (fun (x : ((List D) × Int)) (g : Nat) => hansomref24_Near_h12 b2 x.1 x4_0 deep1 x.2 g) (hansomref24_Near_P12 b_ deep_ b2 x4_0 deep1) (fun x g r hr => hansomref24_Near_l12_ok self_ hs_ b_ deep_ b2 x.1 x4_0 deep1 x.2 g r hr) v_902_4 he_1 Cz ?_
  rintro ⟨o, s⟩ hp
  obtain ⟨ho, g_1, hk_1⟩ := hp
  have ho' : o = .exit 0 := ho
  subst ho'
  refine kB_hit <| kS_nrm <| Runs.canon _ hk_1 <| Sq <| Ro <| Rc 2 [⟨.mix [.i x4_0, .nils, .ref [902, 4] g_1 0 (List.map id e_1).length 3], []⟩, ⟨.tup [], [([4], some (.cells [.i x4_0, .nils, .ref [902, 4] g_1 0 (List.map id e_1).length 3] 0))]⟩] <| Rk <| Sq <| Runs.gcons (frzB_nil (ver := 0) (cs := [.i x4_0, .nils, .ref [902, 4] g_1 0 (List.map id e_1).length 3]) (cs' := [.i x4_0, .d (.sl (mY ([] : List Int))), .ref [902, 4] g_1 0 (List.map id e_1).length 3]) (D.int .u8) (by kernel_rfl) (by kernel_rfl) (by kernel_rfl)) <| Runs.gcons (frzB_ref (e := id) (l := e_1) (id := [4]) (id' := [902, 4]) (v := g_1) (n := 3) (fz := false) (ver := 0) (cs := [.i x4_0, .d (.sl (mY ([] : List Int))), .ref [902, 4] g_1 0 (List.map id e_1).length 3]) (cs' := [.i x4_0, .d (.sl (mY ([] : List Int))), .d (.sl (List.map id e_1))]) (by kernel_rfl) (by kernel_rfl) (by kernel_rfl) (by decide) (by kernel_rfl) rfl) <| Runs.gnil <| kS_nrm <| Runs.ret <| kS_ret ?_
  cases h
  exact Fq
 | false =>
  replace h := ite_f hb_2 h
  refine Cf <| Runs.skip <| kS_nrm <| Sq <| Ro <| Rc 8 [vp [2] 0 0, vi b2.Times, vy (IntKind.wrap .u8 b2.Times), ⟨.ref [47] 0 0 (mY ([(IntKind.wrap .u8 b2.Times)] : List Int)).length 1, [([47], some (.arr (mY ([(IntKind.wrap .u8 b2.Times)] : List Int)) 0 false))]⟩, vp [2] 0 1, ⟨.d (.sl (mY b2.Bytes)), []⟩, vp [2] 0 1, ⟨.d (.sl (mY b2.Bytes)), []⟩] <| Rt (some 52) .lenL [] none [.d (.sl (mY b2.Bytes))] (.i (b2.Bytes.length : Int)) [] (cut_len _) <| Rc 1 [vi (mnI (b2.Bytes.length : Int) 5)] ?_
  obtain ⟨z_1, hz_1, h⟩ := bind_s h
  refine Rt (some 54) (.subsl 1 false true false) [] none [.d (.sl (mY b2.Bytes)), .i (mnI (b2.Bytes.length : Int) 5)] (.d (.sl (mY z_1))) [] (cut_slFT hz_1 (fun _ => rfl)) ?_
  obtain ⟨z_2, hz_2, h⟩ := bind_s h
  refine Rt (some 55) (.append 1 1 false) [] none [.ref [47] 0 0 (mY ([(IntKind.wrap .u8 b2.Times)] : List Int)).length 1, .d (.sl (mY z_1))] (.ref [47] 1 0 (mY z_2).length 1) [([47], some (.arr (mY z_2) 1 false))] (cut_appR (e := (D.int .u8)) (l := ([(IntKind.wrap .u8 b2.Times)] : List Int)) (fz := false) (ws := []) (ap_data _) (fun _ => rfl) hz_2 (by kernel_rfl) (by kernel_rfl) rfl) <| Rc 2 [vp [4] 0 1, ⟨.tup [], [([4], some (.cells [.i x4_0, .ref [47] 1 0 (mY z_2).length 1, .ref [902, 4] v_902_4 0 (List.map id b_902_4).length 3] 0))]⟩] <| Rk <| Sq <| Ro <| Rc 2 [⟨.mix [.i x4_0, .ref [47] 1 0 (mY z_2).length 1, .ref [902, 4] v_902_4 0 (List.map id b_902_4).length 3], []⟩, ⟨.tup [], [([4], some (.cells [.i x4_0, .ref [47] 1 0 (mY z_2).length 1, .ref [902, 4] v_902_4 0 (List.map id b_902_4).length 3] 0))]⟩] <| Rk <| Sq <| Runs.gcons (frzB_ref (e := (D.int .u8)) (l := z_2) (id := [4]) (id' := [47]) (v := 1) (n := 1) (fz := false) (ver := 0) (cs := [.i x4_0, .ref [47] 1 0 (mY z_2).length 1, .ref [902, 4] v_902_4 0 (List.map id b_902_4).length 3]) (cs' := [.i x4_0, .d (.sl (mY z_2)), .ref [902, 4] v_902_4 0 (List.map id b_902_4).length 3]) (by kernel_rfl) (by kernel_rfl) (by kernel_rfl) (by decide) (by kernel_rfl) rfl) <| Runs.gcons (frzB_ref (e := id) (l := b_902_4) (id := [4]) (id' := [902, 4]) (v := v_902_4) (n := 3) (fz := false) (ver := 0) (cs := [.i x4_0, .d (.sl (mY z_2)), .ref [902, 4] v_902_4 0 (List.map id b_902_4).length 3]) (cs' := [.i x4_0, .d (.sl (mY z_2)), .d (.sl (List.map id b_902_4))]) (by kernel_rfl) (by kernel_rfl) (by kernel_rfl) (by decide) (by kernel_rfl) rfl) ?_
  refine Runs.gnil <| kS_nrm <| Runs.ret ?_
  cases h
  exact Fq
theorem hansomref24_Near_ok (self_ : Block → Int → Option Block) (hs_ : ∀ (b_ : Block) (deep_ : Int) (r : Block), self_ b_ deep_ = some r → L 45 [.d (Block.d b_), .i deep_] = some (.d (Block.d r), [.d (Block.d b_), .i deep_])) (b_ : Block) (deep_ : Int) (r : Block) (h : hansomref24_Near_b self_ b_ deep_ = some r) : Runs L F45.body ⟨tmOf [.d (Block.d b_), .i deep_] 0, updW (fun _ => none) []⟩ (hansomref24_Near_Q b_ deep_ r) := by
 unfold hansomref24_Near_b at h
 refine Sq <| Ro <| Rc 2 [⟨.ptr [2] 0 0, [([2], some (.cells [.i b_.Times, .d (.sl (mY b_.Bytes)), .d (.sl (List.map id b_.Blocks))] 0))]⟩, ⟨.ptr [4] 0 0, [([4], some (.cells [.i 0, .nils, .nils] 0))]⟩] <| Rk <| Runs.canon (hansomref24_Near_h2 b_ ([] : List D) 0 deep_ 0) (Canon.cons (ownB_nil (ver := 0) (v := 0) (cs := [.i 0, .nils, .nils]) (cs' := [.i 0, .nils, .ref [902, 4] 0 0 (List.map id ([] : List D)).length 3]) id (by kernel_rfl) (by kernel_rfl) (by kernel_rfl) (by decide) (by kernel_rfl)) Cz) <| Sq <| Ro <| Rc 6 [vp [2] 0 0, vi b_.Times, vi (bitsOp .and .i64 b_.Times 3), vi (IntKind.wrap .i64 ((bitsOp .and .i64 b_.Times 3) + 1)), vp [4] 0 0, ⟨.tup [], [([4], some (.cells [.i (IntKind.wrap .i64 ((bitsOp .and .i64 b_.Times 3) + 1)), .nils, .ref [902, 4] 0 0 (List.map id ([] : List D)).length 3] 0))]⟩] <| Rk <| Sq <| Sq <| Ro <| Rc 3 [vi deep_, vb (decide (deep_ > 1)), vb (decide (deep_ > 1))] ?_
 cases hb_1 : ((decide (deep_ > 1)) : Bool) with
 | true =>
  replace h := ite_t hb_1 h
  refine Rc 2 [vp [2] 0 2, ⟨.d (.sl (List.map id b_.Blocks)), []⟩] <| Rt (some 16) .lenL [] none [.d (.sl (List.map id b_.Blocks))] (.i (b_.Blocks.length : Int)) [] (cut_len _) <| Rc 2 [vb (decide ((b_.Blocks.length : Int) > 0)), vb (decide ((b_.Blocks.length : Int) > 0))] <| Rk <| Runs.canon (hansomref24_Near_h7 b_ ([] : List D) (IntKind.wrap .i64 ((bitsOp .and .i64 b_.Times 3) + 1)) deep_ (decide ((b_.Blocks.length : Int) > 0)) 0) Cz ?_
  exact hansomref24_Near_j7_ok self_ hs_ b_ deep_ b_ ([] : List D) (IntKind.wrap .i64 ((bitsOp .and .i64 b_.Times 3) + 1)) deep_ (decide ((b_.Blocks.length : Int) > 0)) 0 r h
 | false =>
  replace h := ite_f hb_1 h
  refine Rc 5 [vn, vn, vn, vn, vb false] <| Rk <| Runs.canon (hansomref24_Near_h7 b_ ([] : List D) (IntKind.wrap .i64 ((bitsOp .and .i64 b_.Times 3) + 1)) deep_ false 0) Cz ?_
  exact hansomref24_Near_j7_ok self_ hs_ b_ deep_ b_ ([] : List D) (IntKind.wrap .i64 ((bitsOp .and .i64 b_.Times 3) + 1)) deep_ false 0 r h
theorem hansomref24_Near_L : ∀ (n_ : Nat) (b_ : Block) (deep_ : Int) (r : Block) (h : hansomref24_Near n_ b_ deep_ = some r), L 45 [.d (Block.d b_), .i deep_] = some (.d (Block.d r), [.d (Block.d b_), .i deep_])
 | 0, b_, deep_, r, h => by cases h
 | n_ + 1, b_, deep_, r, h => by
  have h : hansomref24_Near_b (hansomref24_Near n_) b_ deep_ = some r := h
  obtain ⟨p, ⟨hne, hf⟩, hr⟩ := hansomref24_Near_ok (hansomref24_Near n_) (fun b_ deep_ r h => hansomref24_Near_L n_ b_ deep_ r h) b_ deep_ r h
  obtain ⟨k, hk⟩ := run_of (F := F45) (args := [.d (Block.d b_), .i deep_]) (ap := [.d (Block.d b_), .i deep_]) (bx0 := updW (fun _ => none) []) rfl rfl (by kernel_rfl) ⟨p, ⟨hne, hf⟩, hr⟩
  exact lim_run (k := k) rfl hk
def hansomref24_Spread_h8 (b1 : Block) (once3 : (List UInt8)) (s4 : (List UInt8)) (i5 : Int) : St := ⟨tab [(1, .ptr [1] 0 0), (3, .d (.str once3)), (4, .d (.str s4)), (5, .i i5)], tabB [([1], some (.cells [.i b1.Times, .d (.sl (mY b1.Bytes)), .d (.sl (List.map id b1.Blocks))] 0))]⟩
def hansomref24_Spread_h19 (b1 : Block) (once3 : (List UInt8)) (s4 : (List UInt8)) : St := ⟨tab [(1, .ptr [1] 0 0), (3, .d (.str once3)), (4, .d (.str s4))], tabB [([1], some (.cells [.i b1.Times, .d (.sl (mY b1.Bytes)), .d (.sl (List.map id b1.Blocks))] 0))]⟩
def hansomref24_Spread_h23 (b1 : Block) (once3 : (List UInt8)) (s4 : (List UInt8)) (i6 : Int) : St := ⟨tab [(1, .ptr [1] 0 0), (3, .d (.str once3)), (4, .d (.str s4)), (6, .i i6)], tabB [([1], some (.cells [.i b1.Times, .d (.sl (mY b1.Bytes)), .d (.sl (List.map id b1.Blocks))] 0))]⟩
def hansomref24_Spread_h34 (s4 : (List UInt8)) : St := ⟨tab [(4, .d (.str s4))], tabB []⟩
def hansomref24_Spread_Q (b_ : Block) (r : (List UInt8)) (p : Out × St) : Prop := (∀ i, p.1 ≠ .exit i) ∧ finF F46 [.d (Block.d b_)] p.2 = some (.d (.str r), [.d (Block.d b_)])
def hansomref24_Spread_P8 (b_ : Block) (b1 : Block) (s4 : (List UInt8)) (e : (List UInt8)) (p : Out × St) : Prop := p.1 = .exit 0 ∧ ∃ g : Unit, Canon [] [1, 3, 4] [[1]] p.2 (hansomref24_Spread_h19 b1 e s4)
def hansomref24_Spread_P23 (b_ : Block) (b1 : Block) (once3 : (List UInt8)) (e : (List UInt8)) (p : Out × St) : Prop := p.1 = .exit 2 ∧ ∃ g : Unit, Canon [] [4] [] p.2 (hansomref24_Spread_h34 e)
theorem hansomref24_Spread_l8_ok (self_ : Block → Option (List UInt8)) (hs_ : ∀ (b_ : Block) (r : (List UInt8)), self_ b_ = some r → L 46 [.d (Block.d b_)] = some (.d (.str r), [.d (Block.d b_)])) (b_ : Block) (b1 : Block) (once3 : (List UInt8)) (s4 : (List UInt8)) (i5 : Int) (r : (Lp ((List UInt8) × Int) (List UInt8))) (h : hansomref24_Spread_l8 self_ b1 once3 s4 i5 = some r) : Runs L F46l8 (hansomref24_Spread_h8 b1 once3 s4 i5) (LQ [] [1, 3, 4, 5] [[1]] (fun (x : ((List UInt8) × Int)) (g : Unit) => hansomref24_Spread_h8 b1 x.1 s4 x.2) (hansomref24_Spread_P8 b_ b1 s4) r) := by
 unfold hansomref24_Spread_l8 at h
 refine Sq <| Sq <| Ro <| Rc 3 [vi i5, vp [1] 0 2, ⟨.d (.sl (List.map id b1.Blocks)), []⟩] <| Rt (some 13) .lenL [] none [.d (.sl (List.map id b1.Blocks))] (.i (b1.Blocks.length : Int)) [] (cut_len _) <| Rc 1 [vb (decide (i5 < (b1.Blocks.length : Int)))] <| Rk ?_
 cases hb_1 : ((decide (i5 < (b1.Blocks.length : Int))) : Bool) with
 | true =>
  replace h := ite_t hb_1 h
  refine Ct <| Runs.skip <| kS_nrm <| Sq <| Runs.block <| Ro <| Rc 4 [⟨.d (.str once3), []⟩, vp [1] 0 2, ⟨.d (.sl (List.map id b1.Blocks)), []⟩, vi i5] ?_
  obtain ⟨z_1, hz_1, h⟩ := bind_s h
  obtain ⟨z_2, hz_2, h⟩ := bind_s h
  rw [ofD_eq hz_2] at hz_1
  refine Rt (some 21) (.iaddrS 3) [] none [.d (.sl (List.map id b1.Blocks)), .i i5] (.elt (Block.d z_2) 0) [] (cut_at1 (e := id) hz_1 rfl) <| Rc 1 [⟨.d (Block.d z_2), []⟩] ?_
  obtain ⟨r_1, hr_1, h⟩ := bind_s h
  have hc_1 := hs_ z_2 r_1 hr_1
  refine Rt (some 23) (.callf 46) [] none [.d (Block.d z_2)] (.d (.str r_1)) [] (cc hc_1) ?_
  obtain ⟨z_3, hz_3, h⟩ := bind_s h
  refine Rt (some 24) (.bin .add) [] none [.d (.str once3), .d (.str r_1)] (.d (.str z_3)) [] (cut_cat hz_3) <| Rc 1 [⟨.d (.str z_3), []⟩] <| Rd <| kB_nrm <| kS_nrm <| Ro <| Rc 3 [vi i5, vi (IntKind.wrap .i64 (i5 + 1)), vi (IntKind.wrap .i64 (i5 + 1))] <| Rd ?_
  obtain rfl := sj h
  exact ⟨rfl, (), Cz⟩
 | false =>
  replace h := ite_f hb_1 h
  refine Cf <| Runs.exit <| kS_exit ?_
  obtain rfl := sj h
  exact ⟨nofun, rfl, (), Cz⟩
theorem hansomref24_Spread_l23_ok (self_ : Block → Option (List UInt8)) (hs_ : ∀ (b_ : Block) (r : (List UInt8)), self_ b_ = some r → L 46 [.d (Block.d b_)] = some (.d (.str r), [.d (Block.d b_)])) (b_ : Block) (b1 : Block) (once3 : (List UInt8)) (s4 : (List UInt8)) (i6 : Int) (r : (Lp ((List UInt8) × Int) (List UInt8))) (h : hansomref24_Spread_l23 self_ b1 once3 s4 i6 = some r) : Runs L F46l23 (hansomref24_Spread_h23 b1 once3 s4 i6) (LQ [] [1, 3, 4, 6] [[1]] (fun (x : ((List UInt8) × Int)) (g : Unit) => hansomref24_Spread_h23 b1 once3 x.1 x.2) (hansomref24_Spread_P23 b_ b1 once3) r) := by
 unfold hansomref24_Spread_l23 at h
 refine Sq <| Sq <| Ro <| Rc 4 [vi i6, vp [1] 0 0, vi b1.Times, vb (decide (i6 < b1.Times))] <| Rk ?_
 cases hb_1 : ((decide (i6 < b1.Times)) : Bool) with
 | true =>
  replace h := ite_t hb_1 h
  refine Ct <| Runs.skip <| kS_nrm <| Sq <| Runs.block <| Ro <| Rc 2 [⟨.d (.str s4), []⟩, ⟨.d (.str once3), []⟩] ?_
  obtain ⟨z_1, hz_1, h⟩ := bind_s h
  refine Rt (some 33) (.bin .add) [] none [.d (.str s4), .d (.str once3)] (.d (.str z_1)) [] (cut_cat hz_1) <| Rc 1 [⟨.d (.str z_1), []⟩] <| Rd <| kB_nrm <| kS_nrm <| Ro <| Rc 3 [vi i6, vi (IntKind.wrap .i64 (i6 + 1)), vi (IntKind.wrap .i64 (i6 + 1))] <| Rd ?_
  obtain rfl := sj h
  exact ⟨rfl, (), Cz⟩
 | false =>
  replace h := ite_f hb_1 h
  refine Cf <| Runs.exit <| kS_exit ?_
  obtain rfl := sj h
  exact ⟨nofun, rfl, (), Cz⟩
theorem hansomref24_Spread_ok (self_ : Block → Option (List UInt8)) (hs_ : ∀ (b_ : Block) (r : (List UInt8)), self_ b_ = some r → L 46 [.d (Block.d b_)] = some (.d (.str r), [.d (Block.d b_)])) (b_ : Block) (r : (List UInt8)) (h : hansomref24_Spread_b self_ b_ = some r) : Runs L F46.body ⟨tmOf [.d (Block.d b_)] 0, updW (fun _ => none) []⟩ (hansomref24_Spread_Q b_ r) := by
 unfold hansomref24_Spread_b at h
 refine Sq <| Ro <| Rc 2 [⟨.ptr [1] 0 0, [([1], some (.cells [.i b_.Times, .d (.sl (mY b_.Bytes)), .d (.sl (List.map id b_.Blocks))] 0))]⟩, ⟨.d (.str ([] : List UInt8)), []⟩] <| Rk <| Sq <| Ro <| Rc 2 [vp [1] 0 1, ⟨.d (.sl (mY b_.Bytes)), []⟩] <| Rt (some 9) .bytesStr [] none [.d (.sl (mY b_.Bytes))] (.d (.str (b2s b_.Bytes))) [] (cut_bs _) <| Rc 2 [⟨.d (.str (b2s b_.Bytes)), []⟩, ⟨.d (.str ([] : List UInt8)), []⟩] <| Rk <| Sq <| Sq <| Ro <| Rc 1 [vi 0] <| Rk <| Runs.block ?_
 obtain ⟨e_1, he_1, h⟩ := bind_s h
 refine Runs.loop (fun x : ((List UInt8) × Int) => hansomref24_Spread_l8 self_ b_ x.1 ([] : List UInt8) x.2) (fun (x : ((List UInt8) × Int)) (g : Unit) => hansomref24_Spread_h8 b_ x.1 ([] : List UInt8) x.2) (hansomref24_Spread_P8 b_ b_ ([] : List UInt8)) (fun x g r hr => hansomref24_Spread_l8_ok self_ hs_ b_ b_ x.1 ([] : List UInt8) x.2  r hr) () he_1 Cz ?_
 rintro ⟨o, s⟩ hp
 obtain ⟨ho, g_1, hk_1⟩ := hp
 have ho' : o = .exit 0 := ho
 subst ho'
 refine kB_hit <| kS_nrm <| Runs.canon _ hk_1 <| Sq <| Sq <| Ro <| Rc 1 [vi 0] <| Rk <| Runs.block ?_
 obtain ⟨e_2, he_2, h⟩ := bind_s h
 refine Runs.loop (fun x : ((List UInt8) × Int) => hansomref24_Spread_l23 self_ b_ e_1 x.1 x.2) (fun (x : ((List UInt8) × Int)) (g : Unit) => hansomref24_Spread_h23 b_ e_1 x.1 x.2) (hansomref24_Spread_P23 b_ b_ e_1) (fun x g r hr => hansomref24_Spread_l23_ok self_ hs_ b_ b_ e_1 x.1 x.2  r hr) () he_2 Cz ?_
 rintro ⟨o, s⟩ hp
 obtain ⟨ho, g_2, hk_2⟩ := hp
 have ho' : o = .exit 2 := ho
 subst ho'
 refine kB_hit <| kS_nrm <| Runs.canon _ hk_2 <| Sq <| Ro <| Rc 2 [⟨.d (.str e_2), []⟩, ⟨.d (.str e_2), []⟩] <| Rk <| Runs.ret ?_
 cases h
 exact Fq
theorem hansomref24_Spread_L : ∀ (n_ : Nat) (b_ : Block) (r : (List UInt8)) (h : hansomref24_Spread n_ b_ = some r), L 46 [.d (Block.d b_)] = some (.d (.str r), [.d (Block.d b_)])
 | 0, b_, r, h => by cases h
 | n_ + 1, b_, r, h => by
  have h : hansomref24_Spread_b (hansomref24_Spread n_) b_ = some r := h
  obtain ⟨p, ⟨hne, hf⟩, hr⟩ := hansomref24_Spread_ok (hansomref24_Spread n_) (fun b_ r h => hansomref24_Spread_L n_ b_ r h) b_ r h
  obtain ⟨k, hk⟩ := run_of (F := F46) (args := [.d (Block.d b_)]) (ap := [.d (Block.d b_)]) (bx0 := updW (fun _ => none) []) rfl rfl (by kernel_rfl) ⟨p, ⟨hne, hf⟩, hr⟩
  exact lim_run (k := k) rfl hk
def iter_may_h30 (depth1 : Int) (t44 : (List D)) (t45 : Int) (t46 : Int) : St := ⟨tab [(1, .i depth1), (44, .d (.sl (List.map id t44))), (45, .i t45), (46, .i t46)], tabB []⟩
def iter_may_h49  : St := ⟨tab [], tabB []⟩
def iter_may_Q (b_ : Block) (depth_ : Int) (r : Bool) (p : Out × St) : Prop := (∀ i, p.1 ≠ .exit i) ∧ finF F72 [.d (Block.d b_), .i depth_] p.2 = some (.b r, [.d (Block.d b_), .i depth_])
def iter_may_P30 (b_ : Block) (depth_ : Int) (depth1 : Int) (t44 : (List D)) (t45 : Int) (e : (Bool ⊕ Unit)) (p : Out × St) : Prop := match e with
 | .inl x => p.1 = .ret ∧ finF F72 [.d (Block.d b_), .i depth_] p.2 = some (.b x, [.d (Block.d b_), .i depth_])
 | .inr x => p.1 = .exit 0 ∧ ∃ g : Unit, Canon [] [] [] p.2 (iter_may_h49)
theorem iter_may_l30_ok (self_ : Block → Int → Option Bool) (hs_ : ∀ (b_ : Block) (depth_ : Int) (r : Bool), self_ b_ depth_ = some r → L 72 [.d (Block.d b_), .i depth_] = some (.b r, [.d (Block.d b_), .i depth_])) (b_ : Block) (depth_ : Int) (depth1 : Int) (t44 : (List D)) (t45 : Int) (t46 : Int) (r : (Lp Int (Bool ⊕ Unit))) (h : iter_may_l30 self_ depth1 t44 t45 t46 = some r) : Runs L F72l30 (iter_may_h30 depth1 t44 t45 t46) (LQ [] [1, 44, 45, 46] [] (fun (x : Int) (g : Unit) => iter_may_h30 depth1 t44 t45 x) (iter_may_P30 b_ depth_ depth1 t44 t45) r) := by
 unfold iter_may_l30 at h
 refine Sq <| Ro <| Rc 1 [vb (decide (t46 < t45))] <| Rk <| Sq ?_
 cases hb_8 : ((decide (t46 < t45)) : Bool) with
 | true =>
  replace h := ite_t hb_8 h
  refine Ct <| Runs.skip <| kS_nrm <| Sq <| Runs.block <| Sq <| Ro ?_
  obtain ⟨z_1, hz_1, h⟩ := bind_s h
  obtain ⟨z_2, hz_2, h⟩ := bind_s h
  rw [ofD_eq hz_2] at hz_1
  refine Rt (some 48) (.iaddrS 3) [] none [.d (.sl (List.map id t44)), .i t46] (.elt (Block.d z_2) 0) [] (cut_at1 (e := id) hz_1 rfl) <| Rc 3 [⟨.d (Block.d z_2), []⟩, ⟨.ptr [6] 0 0, [([6], some (.cells [.i 0, .nils, .nils] 0))]⟩, ⟨.tup [], [([6], some (.cells [.i z_2.Times, .d (.sl (mY z_2.Bytes)), .d (.sl (List.map id z_2.Blocks))] 0))]⟩] <| Rk <| Sq <| Ro <| Rc 3 [⟨.d (Block.d z_2), []⟩, vi depth1, vi (IntKind.wrap .i64 (depth1 + 1))] ?_
  obtain ⟨r_1, hr_1, h⟩ := bind_s h
  have hc_1 := hs_ z_2 (IntKind.wrap .i64 (depth1 + 1)) r_1 hr_1
  refine Rt (some 53) (.callf 72) [] none [.d (Block.d z_2), .i (IntKind.wrap .i64 (depth1 + 1))] (.b r_1) [] (cc hc_1) <| Rc 1 [vb (!r_1)] <| Rk ?_
  cases hb_9 : ((!r_1) : Bool) with
  | true =>
   replace h := ite_t hb_9 h
   refine Ct <| Sq <| Ro <| Rc 1 [vb false] <| Rk <| Runs.ret <| kB_ret <| kS_ret ?_
   obtain rfl := sj h
   exact ⟨nofun, rfl, (by kernel_rfl)⟩
  | false =>
   replace h := ite_f hb_9 h
   refine Cf <| Runs.skip <| kB_nrm <| kS_nrm <| Ro <| Rc 2 [vi (IntKind.wrap .i64 (t46 + 1)), vi (IntKind.wrap .i64 (t46 + 1))] <| Rd ?_
   obtain rfl := sj h
   exact ⟨rfl, (), Cz⟩
 | false =>
  replace h := ite_f hb_8 h
  refine Cf <| Runs.exit <| kS_exit ?_
  obtain rfl := sj h
  exact ⟨nofun, rfl, (), Cz⟩
theorem iter_may_ok (self_ : Block → Int → Option Bool) (hs_ : ∀ (b_ : Block) (depth_ : Int) (r : Bool), self_ b_ depth_ = some r → L 72 [.d (Block.d b_), .i depth_] = some (.b r, [.d (Block.d b_), .i depth_])) (b_ : Block) (depth_ : Int) (r : Bool) (h : iter_may_b self_ b_ depth_ = some r) : Runs L F72.body ⟨tmOf [.d (Block.d b_), .i depth_] 0, updW (fun _ => none) []⟩ (iter_may_Q b_ depth_ r) := by
 unfold iter_may_b at h
 refine Sq <| Ro <| Rc 2 [⟨.ptr [2] 0 0, [([2], some (.cells [.i b_.Times, .d (.sl (mY b_.Bytes)), .d (.sl (List.map id b_.Blocks))] 0))]⟩, vb false] <| Rk <| Sq <| Sq <| Ro <| Rc 3 [vi depth_, vb (decide (depth_ > 8)), vb (decide (depth_ > 8))] ?_
 cases hb_1 : ((decide (depth_ > 8)) : Bool) with
 | true =>
  replace h := ite_t hb_1 h
  refine Rc 15 [vn, vn, vn, vb true, vb true, vn, vn, vn, vb true, vb true, vn, vn, vn, vn, vb true] <| Rk <| Ct <| Sq <| Ro <| Rc 1 [vb false] <| Rk <| Runs.ret <| kS_ret ?_
  cases h
  exact Fq
 | false =>
  replace h := ite_f hb_1 h
  refine Rc 5 [vp [2] 0 0, vi b_.Times, vb (decide (b_.Times < 1)), vb (decide (b_.Times < 1)), vb (decide (b_.Times < 1))] ?_
  cases hb_2 : ((decide (b_.Times < 1)) : Bool) with
  | true =>
   replace h := ite_t hb_2 h
   refine Rc 10 [vn, vn, vn, vb true, vb true, vn, vn, vn, vn, vb true] <| Rk <| Ct <| Sq <| Ro <| Rc 1 [vb false] <| Rk <| Runs.ret <| kS_ret ?_
   cases h
   exact Fq
  | false =>
   replace h := ite_f hb_2 h
   refine Rc 5 [vp [2] 0 0, vi b_.Times, vb (decide (b_.Times > 65535)), vb (decide (b_.Times > 65535)), vb (decide (b_.Times > 65535))] ?_
   cases hb_3 : ((decide (b_.Times > 65535)) : Bool) with
   | true =>
    replace h := ite_t hb_3 h
    refine Rc 5 [vn, vn, vn, vn, vb true] <| Rk <| Ct <| Sq <| Ro <| Rc 1 [vb false] <| Rk <| Runs.ret <| kS_ret ?_
    cases h
    exact Fq
   | false =>
    replace h := ite_f hb_3 h
    refine Rc 2 [vp [2] 0 2, ⟨.d (.sl (List.map id b_.Blocks)), []⟩] <| Rt (some 22) .lenL [] none [.d (.sl (List.map id b_.Blocks))] (.i (b_.Blocks.length : Int)) [] (cut_len _) <| Rc 2 [vb (decide ((b_.Blocks.length : Int) > 65535)), vb (decide ((b_.Blocks.length : Int) > 65535))] <| Rk ?_
    cases hb_4 : ((decide ((b_.Blocks.length : Int) > 65535)) : Bool) with
    | true =>
     replace h := ite_t hb_4 h
     refine Ct <| Sq <| Ro <| Rc 1 [vb false] <| Rk <| Runs.ret <| kS_ret ?_
     cases h
     exact Fq
    | false =>
     replace h := ite_f hb_4 h
     refine Cf <| Runs.skip <| kS_nrm <| Sq <| Sq <| Ro <| Rc 2 [vp [2] 0 2, ⟨.d (.sl (List.map id b_.Blocks)), []⟩] <| Rt (some 27) .lenL [] none [.d (.sl (List.map id b_.Blocks))] (.i (b_.Blocks.length : Int)) [] (cut_len _) <| Rc 1 [vb ((b_.Blocks.length : Int) == 0)] <| Rk ?_
     cases hb_5 : (((b_.Blocks.length : Int) == 0) : Bool) with
     | true =>
      replace h := ite_t hb_5 h
      refine Ct <| Sq <| Ro <| Rc 2 [vp [2] 0 1, ⟨.d (.sl (mY b_.Bytes)), []⟩] <| Rt (some 31) .lenL [] none [.d (.sl (mY b_.Bytes))] (.i (b_.Bytes.length : Int)) [] (cut_len _) <| Rc 2 [vb (decide ((b_.Bytes.length : Int) ≥ 1)), vb (decide ((b_.Bytes.length : Int) ≥ 1))] ?_
      cases hb_6 : ((decide ((b_.Bytes.length : Int) ≥ 1)) : Bool) with
      | true =>
       replace h := ite_t hb_6 h
       refine Rc 2 [vp [2] 0 1, ⟨.d (.sl (mY b_.Bytes)), []⟩] <| Rt (some 36) .lenL [] none [.d (.sl (mY b_.Bytes))] (.i (b_.Bytes.length : Int)) [] (cut_len _) <| Rc 3 [vb (decide ((b_.Bytes.length : Int) ≤ 255)), vb (decide ((b_.Bytes.length : Int) ≤ 255)), vb (decide ((b_.Bytes.length : Int) ≤ 255))] <| Rk <| Runs.ret <| kS_ret ?_
       cases h
       exact Fq
      | false =>
       replace h := ite_f hb_6 h
       refine Rc 6 [vn, vn, vn, vn, vb false, vb false] <| Rk <| Runs.ret <| kS_ret ?_
       cases h
       exact Fq
     | false =>
      replace h := ite_f hb_5 h
      refine Cf <| Runs.skip <| kS_nrm <| Sq <| Sq <| Ro <| Rc 2 [vp [2] 0 1, ⟨.d (.sl (mY b_.Bytes)), []⟩] <| Rt (some 41) .lenL [] none [.d (.sl (mY b_.Bytes))] (.i (b_.Bytes.length : Int)) [] (cut_len _) <| Rc 1 [vb (decide ((b_.Bytes.length : Int) > 0))] <| Rk ?_
      cases hb_7 : ((decide ((b_.Bytes.length : Int) > 0)) : Bool) with
      | true =>
       replace h := ite_t hb_7 h
       refine Ct <| Sq <| Ro <| Rc 1 [vb false] <| Rk <| Runs.ret <| kS_ret ?_
       cases h
       exact Fq
      | false =>
       replace h := ite_f hb_7 h
       refine Cf <| Runs.skip <| kS_nrm <| Sq <| Sq <| Ro <| Rc 2 [vp [2] 0 2, ⟨.d (.sl (List.map id b_.Blocks)), []⟩] <| Rt (some 45) .lenL [] none [.d (.sl (List.map id b_.Blocks))] (.i (b_.Blocks.length : Int)) [] (cut_len _) <| Rc 1 [vi 0] <| Rk <| Runs.block ?_
       obtain ⟨e_1, he_1, h⟩ := bind_s h
       refine Runs.loop (fun x : Int => iter_may_l30 self_ depth_ b_.Blocks (b_.Blocks.length : Int) x) (fun (x : Int) (g : Unit) => iter_may_h30 depth_ b_.Blocks (b_.Blocks.length : Int) x) (iter_may_P30 b_ depth_ depth_ b_.Blocks (b_.Blocks.length : Int)) (fun x g r hr => iter_may_l30_ok self_ hs_ b_ depth_ depth_ b_.Blocks (b_.Blocks.length : Int) x  r hr) () he_1 Cz ?_
       rintro ⟨o, s⟩ hp
       cases e_1 with
       | inl e_2 =>
        obtain ⟨ho, hf⟩ := hp
        have ho' : o = .ret := ho
        subst ho'
        refine kB_ret <| kS_ret ?_
        obtain rfl := sj h
        exact ⟨Out.ret_ne, hf⟩
       | inr e_3 =>
        obtain ⟨ho, g_1, hk_1⟩ := hp
        have ho' : o = .exit 0 := ho
        subst ho'
        refine kB_hit <| kS_nrm <| Runs.canon _ hk_1 <| Sq <| Ro <| Rc 1 [vb true] <| Rk <| Runs.ret ?_
        cases h
        exact Fq
theorem iter_may_L : ∀ (n_ : Nat) (b_ : Block) (depth_ : Int) (r : Bool) (h : iter_may n_ b_ depth_ = some r), L 72 [.d (Block.d b_), .i depth_] = some (.b r, [.d (Block.d b_), .i depth_])
 | 0, b_, depth_, r, h => by cases h
 | n_ + 1, b_, depth_, r, h => by
  have h : iter_may_b (iter_may n_) b_ depth_ = some r := h
  obtain ⟨p, ⟨hne, hf⟩, hr⟩ := iter_may_ok (iter_may n_) (fun b_ depth_ r h => iter_may_L n_ b_ depth_ r h) b_ depth_ r h
  obtain ⟨k, hk⟩ := run_of (F := F72) (args := [.d (Block.d b_), .i depth_]) (ap := [.d (Block.d b_), .i depth_]) (bx0 := updW (fun _ => none) []) rfl rfl (by kernel_rfl) ⟨p, ⟨hne, hf⟩, hr⟩
  exact lim_run (k := k) rfl hk
def iter_May_Q (b_ : Block) (r : Bool) (p : Out × St) : Prop := (∀ i, p.1 ≠ .exit i) ∧ finF F49 [.d (Block.d b_)] p.2 = some (.b r, [.d (Block.d b_)])
theorem iter_May_ok (b_ : Block) (r : Bool) (h : iter_May b_ = some r) : Runs L F49.body ⟨tmOf [.d (Block.d b_)] 0, updW (fun _ => none) []⟩ (iter_May_Q b_ r) := by
 unfold iter_May at h
 refine Sq <| Ro <| Rc 2 [⟨.ptr [1] 0 0, [([1], some (.cells [.i b_.Times, .d (.sl (mY b_.Bytes)), .d (.sl (List.map id b_.Blocks))] 0))]⟩, vb false] <| Rk <| Sq <| Ro <| Rc 1 [⟨.d (Block.d b_), []⟩] ?_
 obtain ⟨r_1, hr_1, h⟩ := bind_s h
 have hc_1 := iter_may_L 64 b_ 1 r_1 hr_1
 refine Rt (some 4) (.callf 72) [] none [.d (Block.d b_), .i 1] (.b r_1) [] (cc hc_1) <| Rc 1 [vb r_1] <| Rk <| Runs.ret ?_
 cases h
 exact Fq
theorem iter_May_L (b_ : Block) (r : Bool) (h : iter_May b_ = some r) : L 49 [.d (Block.d b_)] = some (.b r, [.d (Block.d b_)]) := by
 obtain ⟨p, ⟨hne, hf⟩, hr⟩ := iter_May_ok b_ r h
 obtain ⟨k, hk⟩ := run_of (F := F49) (args := [.d (Block.d b_)]) (ap := [.d (Block.d b_)]) (bx0 := updW (fun _ => none) []) rfl rfl (by kernel_rfl) ⟨p, ⟨hne, hf⟩, hr⟩
 exact lim_run (k := k) rfl hk
def iter_Size_h8 (b1 : Block) (n3 : Int) (t10 : (List D)) (t11 : Int) (t12 : Int) : St := ⟨tab [(1, .ptr [1] 0 0), (3, .i n3), (10, .d (.sl (List.map id t10))), (11, .i t11), (12, .i t12)], tabB [([1], some (.cells [.i b1.Times, .d (.sl (mY b1.Bytes)), .d (.sl (List.map id b1.Blocks))] 0))]⟩
def iter_Size_h21 (b1 : Block) (n3 : Int) : St := ⟨tab [(1, .ptr [1] 0 0), (3, .i n3)], tabB [([1], some (.cells [.i b1.Times, .d (.sl (mY b1.Bytes)), .d (.sl (List.map id b1.Blocks))] 0))]⟩
def iter_Size_Q (b_ : Block) (r : Int) (p : Out × St) : Prop := (∀ i, p.1 ≠ .exit i) ∧ finF F50 [.d (Block.d b_)] p.2 = some (.i r, [.d (Block.d b_)])
def iter_Size_P8 (b_ : Block) (b1 : Block) (t10 : (List D)) (t11 : Int) (e : Int) (p : Out × St) : Prop := p.1 = .exit 0 ∧ ∃ g : Unit, Canon [] [1, 3] [[1]] p.2 (iter_Size_h21 b1 e)
theorem iter_Size_l8_ok (self_ : Block → Option Int) (hs_ : ∀ (b_ : Block) (r : Int), self_ b_ = some r → L 50 [.d (Block.d b_)] = some (.i r, [.d (Block.d b_)])) (b_ : Block) (b1 : Block) (n3 : Int) (t10 : (List D)) (t11 : Int) (t12 : Int) (r : (Lp (Int × Int) Int)) (h : iter_Size_l8 self_ b1 n3 t10 t11 t12 = some r) : Runs L F50l8 (iter_Size_h8 b1 n3 t10 t11 t12) (LQ [] [1, 3, 10, 11, 12] [[1]] (fun (x : (Int × Int)) (g : Unit) => iter_Size_h8 b1 x.1 t10 t11 x.2) (iter_Size_P8 b_ b1 t10 t11) r) := by
 unfold iter_Size_l8 at h
 refine Sq <| Ro <| Rc 1 [vb (decide (t12 < t11))] <| Rk <| Sq ?_
 cases hb_1 : ((decide (t12 < t11)) : Bool) with
 | true =>
  replace h := ite_t hb_1 h
  refine Ct <| Runs.skip <| kS_nrm <| Sq <| Runs.block <| Sq <| Ro ?_
  obtain ⟨z_1, hz_1, h⟩ := bind_s h
  obtain ⟨z_2, hz_2, h⟩ := bind_s h
  rw [ofD_eq hz_2] at hz_1
  refine Rt (some 14) (.iaddrS 3) [] none [.d (.sl (List.map id t10)), .i t12] (.elt (Block.d z_2) 0) [] (cut_at1 (e := id) hz_1 rfl) <| Rc 3 [⟨.d (Block.d z_2), []⟩, ⟨.ptr [5] 0 0, [([5], some (.cells [.i 0, .nils, .nils] 0))]⟩, ⟨.tup [], [([5], some (.cells [.i z_2.Times, .d (.sl (mY z_2.Bytes)), .d (.sl (List.map id z_2.Blocks))] 0))]⟩] <| Rk <| Ro <| Rc 2 [vi n3, ⟨.d (Block.d z_2), []⟩] ?_
  obtain ⟨r_1, hr_1, h⟩ := bind_s h
  have hc_1 := hs_ z_2 r_1 hr_1
  refine Rt (some 18) (.callf 50) [] none [.d (Block.d z_2)] (.i r_1) [] (cc hc_1) <| Rc 3 [vi (IntKind.wrap .i64 (n3 + r_1)), vi (mnI (IntKind.wrap .i64 (n3 + r_1)) 65537), vi (mnI (IntKind.wrap .i64 (n3 + r_1)) 65537)] <| Rd <| kB_nrm <| kS_nrm <| Ro <| Rc 2 [vi (IntKind.wrap .i64 (t12 + 1)), vi (IntKind.wrap .i64 (t12 + 1))] <| Rd ?_
  obtain rfl := sj h
  exact ⟨rfl, (), Cz⟩
 | false =>
  replace h := ite_f hb_1 h
  refine Cf <| Runs.exit <| kS_exit ?_
  obtain rfl := sj h
  exact ⟨nofun, rfl, (), Cz⟩
theorem iter_Size_ok (self_ : Block → Option Int) (hs_ : ∀ (b_ : Block) (r : Int), self_ b_ = some r → L 50 [.d (Block.d b_)] = some (.i r, [.d (Block.d b_)])) (b_ : Block) (r : Int) (h : iter_Size_b self_ b_ = some r) : Runs L F50.body ⟨tmOf [.d (Block.d b_)] 0, updW (fun _ => none) []⟩ (iter_Size_Q b_ r) := by
 unfold iter_Size_b at h
 refine Sq <| Ro <| Rc 2 [⟨.ptr [1] 0 0, [([1], some (.cells [.i b_.Times, .d (.sl (mY b_.Bytes)), .d (.sl (List.map id b_.Blocks))] 0))]⟩, vi 0] <| Rk <| Sq <| Ro <| Rc 2 [vp [1] 0 1, ⟨.d (.sl (mY b_.Bytes)), []⟩] <| Rt (some 8) .lenL [] none [.d (.sl (mY b_.Bytes))] (.i (b_.Bytes.length : Int)) [] (cut_len _) <| Rc 1 [vi (b_.Bytes.length : Int)] <| Rk <| Sq <| Sq <| Ro <| Rc 2 [vp [1] 0 2, ⟨.d (.sl (List.map id b_.Blocks)), []⟩] <| Rt (some 11) .lenL [] none [.d (.sl (List.map id b_.Blocks))] (.i (b_.Blocks.length : Int)) [] (cut_len _) <| Rc 1 [vi 0] <| Rk <| Runs.block ?_
 obtain ⟨e_1, he_1, h⟩ := bind_s h
 refine Runs.loop (fun x : (Int × Int) => iter_Size_l8 self_ b_ x.1 b_.Blocks (b_.Blocks.length : Int) x.2) (fun (x : (Int × Int)) (g : Unit) => iter_Size_h8 b_ x.1 b_.Blocks (b_.Blocks.length : Int) x.2) (iter_Size_P8 b_ b_ b_.Blocks (b_.Blocks.length : Int)) (fun x g r hr => iter_Size_l8_ok self_ hs_ b_ b_ x.1 b_.Blocks (b_.Blocks.length : Int) x.2  r hr) () he_1 Cz ?_
 rintro ⟨o, s⟩ hp
 obtain ⟨ho, g_1, hk_1⟩ := hp
 have ho' : o = .exit 0 := ho
 subst ho'
 refine kB_hit <| kS_nrm <| Runs.canon _ hk_1 <| Sq <| Ro <| Rc 8 [vi e_1, vp [1] 0 0, vi b_.Times, vi (mxI b_.Times 0), vi (mnI (mxI b_.Times 0) 65537), vi (IntKind.wrap .i64 (e_1 * (mnI (mxI b_.Times 0) 65537))), vi (mnI (IntKind.wrap .i64 (e_1 * (mnI (mxI b_.Times 0) 65537))) 65537), vi (mnI (IntKind.wrap .i64 (e_1 * (mnI (mxI b_.Times 0) 65537))) 65537)] <| Rk <| Runs.ret ?_
 cases h
 exact Fq
theorem iter_Size_L : ∀ (n_ : Nat) (b_ : Block) (r : Int) (h : iter_Size n_ b_ = some r), L 50 [.d (Block.d b_)] = some (.i r, [.d (Block.d b_)])
 | 0, b_, r, h => by cases h
 | n_ + 1, b_, r, h => by
  have h : iter_Size_b (iter_Size n_) b_ = some r := h
  obtain ⟨p, ⟨hne, hf⟩, hr⟩ := iter_Size_ok (iter_Size n_) (fun b_ r h => iter_Size_L n_ b_ r h) b_ r h
  obtain ⟨k, hk⟩ := run_of (F := F50) (args := [.d (Block.d b_)]) (ap := [.d (Block.d b_)]) (bx0 := updW (fun _ => none) []) rfl rfl (by kernel_rfl) ⟨p, ⟨hne, hf⟩, hr⟩
  exact lim_run (k := k) rfl hk
def slices_Clone_Lbyte_Q (s_ : List Int) (r : (List Int)) (p : Out × St) : Prop := (∀ i, p.1 ≠ .exit i) ∧ finF F70 [.d (.sl (mY s_))] p.2 = some (.arr false 1 (mY r), [.d (.sl (mY s_))])
theorem slices_Clone_Lbyte_ok_cons (x_ : Int) (r_ : List Int) (r : (List Int)) (h : ((grow 1 ([] : List Int) (x_ :: r_)).bind fun z_1 => some z_1) = some r) : Runs L F70.body ⟨tmOf [.d (.sl (mY (x_ :: r_)))] 0, fun _ => none⟩ (slices_Clone_Lbyte_Q (x_ :: r_) r) := by
 refine Sq <| Ro <| Rc 1 [⟨.nils, []⟩] <| Rk <| Sq <| Sq <| Ro <| Rc 2 [⟨.d (.sl (mY (x_ :: r_))), []⟩, vb false] <| Rk <| Cf <| Runs.skip <| kS_nrm <| Sq <| Ro <| Rc 2 [⟨.ref [5] 0 0 (mY ([] : List Int)).length 1, [([5], some (.arr (mY ([] : List Int)) 0 false))]⟩, ⟨.d (.sl (mY (x_ :: r_))), []⟩] ?_
 obtain ⟨z_1, hz_1, h⟩ := bind_s h
 refine Rt (some 7) (.append 1 1 false) [] none [.ref [5] 0 0 (mY ([] : List Int)).length 1, .d (.sl (mY (x_ :: r_)))] (.ref [5] 1 0 (mY z_1).length 1) [([5], some (.arr (mY z_1) 1 false))] (cut_appR (e := (D.int .u8)) (l := ([] : List Int)) (fz := false) (ws := []) (ap_data _) (fun _ => rfl) hz_1 (by kernel_rfl) (by kernel_rfl) rfl) <| Rc 1 [⟨.ref [5] 1 0 (mY z_1).length 1, []⟩] <| Rk <| Runs.ret ?_
 obtain rfl := sj h
 exact ⟨Out.ret_ne, (fin_of (rs := [.ref [5] 1 0 (mY z_1).length 1]) (by kernel_rfl) (by kernel_rfl) (outs_own (id := [5]) (v := 1) (fz := false) (es := List.map (D.int .u8) z_1) (by kernel_rfl) (by decide) rfl outs_nil) (gives_cons (give_same (by kernel_rfl)) gives_nil))⟩
theorem slices_Clone_Lbyte_ok_nil  (r : (List Int)) (h : (some ([] : List Int)) = some r) : Runs L F70.body ⟨tmOf [.nils] 0, fun _ => none⟩ (slices_Clone_Lbyte_Q ([] : List Int) r) := by
 refine Sq <| Ro <| Rc 1 [⟨.nils, []⟩] <| Rk <| Sq <| Sq <| Ro <| Rc 2 [⟨.nils, []⟩, vb true] <| Rk <| Ct <| Sq <| Ro <| Rc 1 [⟨.nils, []⟩] <| Rk <| Sq <| Runs.gcons (own_nil (D.int .u8) (v := 0) (by kernel_rfl) (by kernel_rfl)) <| Runs.gnil <| kS_nrm <| Runs.ret <| kS_ret ?_
 obtain rfl := sj h
 exact ⟨Out.ret_ne, (fin_of (rs := [.ref [2] 0 0 (mY ([] : List Int)).length 1]) (by kernel_rfl) (by kernel_rfl) (outs_own (id := [2]) (v := 0) (fz := false) (es := List.map (D.int .u8) ([] : List Int)) (by kernel_rfl) (by decide) rfl outs_nil) (gives_cons (give_same (by kernel_rfl)) gives_nil))⟩
theorem slices_Clone_Lbyte_ok_empt  (r : (List Int)) (h : ((grow 1 ([] : List Int) ([] : List Int)).bind fun z_1 => some z_1) = some r) : Runs L F70.body ⟨tmOf [.empt] 0, fun _ => none⟩ (slices_Clone_Lbyte_Q ([] : List Int) r) := by
 refine Sq <| Ro <| Rc 1 [⟨.nils, []⟩] <| Rk <| Sq <| Sq <| Ro <| Rc 2 [⟨.empt, []⟩, vb false] <| Rk <| Cf <| Runs.skip <| kS_nrm <| Sq <| Ro <| Rc 2 [⟨.ref [5] 0 0 (mY ([] : List Int)).length 1, [([5], some (.arr (mY ([] : List Int)) 0 false))]⟩, ⟨.empt, []⟩] ?_
 obtain ⟨z_1, hz_1, h⟩ := bind_s h
 refine Rt (some 7) (.append 1 1 false) [] none [.ref [5] 0 0 (mY ([] : List Int)).length 1, .empt] (.ref [5] 1 0 (mY z_1).length 1) [([5], some (.arr (mY z_1) 1 false))] (cut_appR (e := (D.int .u8)) (l := ([] : List Int)) (fz := false) (ws := []) (ap_empt) (fun _ => rfl) hz_1 (by kernel_rfl) (by kernel_rfl) rfl) <| Rc 1 [⟨.ref [5] 1 0 (mY z_1).length 1, []⟩] <| Rk <| Runs.ret ?_
 obtain rfl := sj h
 exact ⟨Out.ret_ne, (fin_of (rs := [.ref [5] 1 0 (mY z_1).length 1]) (by kernel_rfl) (by kernel_rfl) (outs_own (id := [5]) (v := 1) (fz := false) (es := List.map (D.int .u8) z_1) (by kernel_rfl) (by decide) rfl outs_nil) (gives_cons (give_same (by kernel_rfl)) gives_nil))⟩
theorem slices_Clone_Lbyte_L (s_ : List Int) (r : (List Int)) (h : slices_Clone_Lbyte s_ = some r) : L 70 [.d (.sl (mY s_))] = some (.arr false 1 (mY r), [.d (.sl (mY s_))]) := by
 unfold slices_Clone_Lbyte at h
 cases s_ with
 | cons x_ r_ =>
  obtain ⟨p, ⟨hne, hf⟩, hr⟩ := slices_Clone_Lbyte_ok_cons x_ r_ r (by rw [h]; rfl)
  obtain ⟨k, hk⟩ := run_of_cons (F := F70) (x := (D.int .u8) x_) (xs := List.map (D.int .u8) r_) (ap := [.d (.sl (mY (x_ :: r_)))]) (bx0 := fun _ => none) rfl (by kernel_rfl) ⟨p, ⟨hne, hf⟩, hr⟩
  exact lim_run (k := k) rfl hk
 | nil =>
  obtain rfl : r = [] := by unfold grow at h; split at h <;> first | (cases h; rfl) | cases h
  obtain ⟨p, ⟨hne, hf⟩, hr⟩ := slices_Clone_Lbyte_ok_nil [] (by rfl)
  obtain ⟨q, ⟨hne', hf'⟩, hr'⟩ := slices_Clone_Lbyte_ok_empt [] (by rw [h]; rfl)
  obtain ⟨k, hk⟩ := run_of_empty (F := F70) (n := 1) rfl rfl ⟨p, ⟨hne, hf⟩, hr⟩ ⟨q, ⟨hne', hf'⟩, hr'⟩
  exact lim_run (k := k) rfl hk
def math_bits_Mul64_Q (x_ : Int) (y_ : Int) (r : (Int × Int)) (p : Out × St) : Prop := (∀ i, p.1 ≠ .exit i) ∧ finF F76 [.d (.int .u64 x_), .d (.int .u64 y_)] p.2 = some (.tup [.d (.int .u64 r.1), .d (.int .u64 r.2)], [.d (.int .u64 x_), .d (.int .u64 y_)])
theorem math_bits_Mul64_ok (x_ : Int) (y_ : Int) (r : (Int × Int)) (h : math_bits_Mul64 x_ y_ = some r) : Runs L F76.body ⟨tmOf [.d (.int .u64 x_), .d (.int .u64 y_)] 0, updW (fun _ => none) []⟩ (math_bits_Mul64_Q x_ y_ r) := by
 unfold math_bits_Mul64 at h
 refine Sq <| Ro <| Rc 2 [⟨.d (.int .u64 0), []⟩, ⟨.d (.int .u64 0), []⟩] <| Rk <| Sq <| Ro <| Rc 3 [⟨.d (.int .u64 x_), []⟩, ⟨.d (.int .u64 (bitsOp .and .u64 x_ 4294967295)), []⟩, ⟨.d (.int .u64 (bitsOp .and .u64 x_ 4294967295)), []⟩] <| Rk <| Sq <| Ro <| Rc 3 [⟨.d (.int .u64 x_), []⟩, ⟨.d (.int .u64 (shrI .u64 x_ 32)), []⟩, ⟨.d (.int .u64 (shrI .u64 x_ 32)), []⟩] <| Rk <| Sq <| Ro <| Rc 3 [⟨.d (.int .u64 y_), []⟩, ⟨.d (.int .u64 (bitsOp .and .u64 y_ 4294967295)), []⟩, ⟨.d (.int .u64 (bitsOp .and .u64 y_ 4294967295)), []⟩] <| Rk <| Sq <| Ro <| Rc 3 [⟨.d (.int .u64 y_), []⟩, ⟨.d (.int .u64 (shrI .u64 y_ 32)), []⟩, ⟨.d (.int .u64 (shrI .u64 y_ 32)), []⟩] <| Rk <| Sq <| Ro <| Rc 4 [⟨.d (.int .u64 (bitsOp .and .u64 x_ 4294967295)), []⟩, ⟨.d (.int .u64 (bitsOp .and .u64 y_ 4294967295)), []⟩, ⟨.d (.int .u64 (IntKind.wrap .u64 ((bitsOp .and .u64 x_ 4294967295) * (bitsOp .and .u64 y_ 4294967295)))), []⟩, ⟨.d (.int .u64 (IntKind.wrap .u64 ((bitsOp .and .u64 x_ 4294967295) * (bitsOp .and .u64 y_ 4294967295)))), []⟩] <| Rk <| Sq <| Ro <| Rc 7 [⟨.d (.int .u64 (shrI .u64 x_ 32)), []⟩, ⟨.d (.int .u64 (bitsOp .and .u64 y_ 4294967295)), []⟩, ⟨.d (.int .u64 (IntKind.wrap .u64 ((shrI .u64 x_ 32) * (bitsOp .and .u64 y_ 4294967295)))), []⟩, ⟨.d (.int .u64 (IntKind.wrap .u64 ((bitsOp .and .u64 x_ 4294967295) * (bitsOp .and .u64 y_ 4294967295)))), []⟩, ⟨.d (.int .u64 (shrI .u64 (IntKind.wrap .u64 ((bitsOp .and .u64 x_ 4294967295) * (bitsOp .and .u64 y_ 4294967295))) 32)), []⟩, ⟨.d (.int .u64 (IntKind.wrap .u64 ((IntKind.wrap .u64 ((shrI .u64 x_ 32) * (bitsOp .and .u64 y_ 4294967295))) + (shrI .u64 (IntKind.wrap .u64 ((bitsOp .and .u64 x_ 4294967295) * (bitsOp .and .u64 y_ 4294967295))) 32)))), []⟩, ⟨.d (.int .u64 (IntKind.wrap .u64 ((IntKind.wrap .u64 ((shrI .u64 x_ 32) * (bitsOp .and .u64 y_ 4294967295))) + (shrI .u64 (IntKind.wrap .u64 ((bitsOp .and .u64 x_ 4294967295) * (bitsOp .and .u64 y_ 4294967295))) 32)))), []⟩] ?_
 refine Rk <| Sq <| Ro <| Rc 3 [⟨.d (.int .u64 (IntKind.wrap .u64 ((IntKind.wrap .u64 ((shrI .u64 x_ 32) * (bitsOp .and .u64 y_ 4294967295))) + (shrI .u64 (IntKind.wrap .u64 ((bitsOp .and .u64 x_ 4294967295) * (bitsOp .and .u64 y_ 4294967295))) 32)))), []⟩, ⟨.d (.int .u64 (bitsOp .and .u64 (IntKind.wrap .u64 ((IntKind.wrap .u64 ((shrI .u64 x_ 32) * (bitsOp .and .u64 y_ 4294967295))) + (shrI .u64 (IntKind.wrap .u64 ((bitsOp .and .u64 x_ 4294967295) * (bitsOp .and .u64 y_ 4294967295))) 32))) 4294967295)), []⟩, ⟨.d (.int .u64 (bitsOp .and .u64 (IntKind.wrap .u64 ((IntKind.wrap .u64 ((shrI .u64 x_ 32) * (bitsOp .and .u64 y_ 4294967295))) + (shrI .u64 (IntKind.wrap .u64 ((bitsOp .and .u64 x_ 4294967295) * (bitsOp .and .u64 y_ 4294967295))) 32))) 4294967295)), []⟩] <| Rk <| Sq <| Ro <| Rc 3 [⟨.d (.int .u64 (IntKind.wrap .u64 ((IntKind.wrap .u64 ((shrI .u64 x_ 32) * (bitsOp .and .u64 y_ 4294967295))) + (shrI .u64 (IntKind.wrap .u64 ((bitsOp .and .u64 x_ 4294967295) * (bitsOp .and .u64 y_ 4294967295))) 32)))), []⟩, ⟨.d (.int .u64 (shrI .u64 (IntKind.wrap .u64 ((IntKind.wrap .u64 ((shrI .u64 x_ 32) * (bitsOp .and .u64 y_ 4294967295))) + (shrI .u64 (IntKind.wrap .u64 ((bitsOp .and .u64 x_ 4294967295) * (bitsOp .and .u64 y_ 4294967295))) 32))) 32)), []⟩, ⟨.d (.int .u64 (shrI .u64 (IntKind.wrap .u64 ((IntKind.wrap .u64 ((shrI .u64 x_ 32) * (bitsOp .and .u64 y_ 4294967295))) + (shrI .u64 (IntKind.wrap .u64 ((bitsOp .and .u64 x_ 4294967295) * (bitsOp .and .u64 y_ 4294967295))) 32))) 32)), []⟩] ?_
 refine Rk <| Sq <| Ro <| Rc 6 [⟨.d (.int .u64 (bitsOp .and .u64 (IntKind.wrap .u64 ((IntKind.wrap .u64 ((shrI .u64 x_ 32) * (bitsOp .and .u64 y_ 4294967295))) + (shrI .u64 (IntKind.wrap .u64 ((bitsOp .and .u64 x_ 4294967295) * (bitsOp .and .u64 y_ 4294967295))) 32))) 4294967295)), []⟩, ⟨.d (.int .u64 (bitsOp .and .u64 x_ 4294967295)), []⟩, ⟨.d (.int .u64 (shrI .u64 y_ 32)), []⟩, ⟨.d (.int .u64 (IntKind.wrap .u64 ((bitsOp .and .u64 x_ 4294967295) * (shrI .u64 y_ 32)))), []⟩, ⟨.d (.int .u64 (IntKind.wrap .u64 ((bitsOp .and .u64 (IntKind.wrap .u64 ((IntKind.wrap .u64 ((shrI .u64 x_ 32) * (bitsOp .and .u64 y_ 4294967295))) + (shrI .u64 (IntKind.wrap .u64 ((bitsOp .and .u64 x_ 4294967295) * (bitsOp .and .u64 y_ 4294967295))) 32))) 4294967295) + (IntKind.wrap .u64 ((bitsOp .and .u64 x_ 4294967295) * (shrI .u64 y_ 32)))))), []⟩, ⟨.d (.int .u64 (IntKind.wrap .u64 ((bitsOp .and .u64 (IntKind.wrap .u64 ((IntKind.wrap .u64 ((shrI .u64 x_ 32) * (bitsOp .and .u64 y_ 4294967295))) + (shrI .u64 (IntKind.wrap .u64 ((bitsOp .and .u64 x_ 4294967295) * (bitsOp .and .u64 y_ 4294967295))) 32))) 4294967295) + (IntKind.wrap .u64 ((bitsOp .and .u64 x_ 4294967295) * (shrI .u64 y_ 32)))))), []⟩] <| Rk <| Sq <| Ro <| Rc 9 [⟨.d (.int .u64 (shrI .u64 x_ 32)), []⟩, ⟨.d (.int .u64 (shrI .u64 y_ 32)), []⟩, ⟨.d (.int .u64 (IntKind.wrap .u64 ((shrI .u64 x_ 32) * (shrI .u64 y_ 32)))), []⟩, ⟨.d (.int .u64 (shrI .u64 (IntKind.wrap .u64 ((IntKind.wrap .u64 ((shrI .u64 x_ 32) * (bitsOp .and .u64 y_ 4294967295))) + (shrI .u64 (IntKind.wrap .u64 ((bitsOp .and .u64 x_ 4294967295) * (bitsOp .and .u64 y_ 4294967295))) 32))) 32)), []⟩, ⟨.d (.int .u64 (IntKind.wrap .u64 ((IntKind.wrap .u64 ((shrI .u64 x_ 32) * (shrI .u64 y_ 32))) + (shrI .u64 (IntKind.wrap .u64 ((IntKind.wrap .u64 ((shrI .u64 x_ 32) * (bitsOp .and .u64 y_ 4294967295))) + (shrI .u64 (IntKind.wrap .u64 ((bitsOp .and .u64 x_ 4294967295) * (bitsOp .and .u64 y_ 4294967295))) 32))) 32)))), []⟩, ⟨.d (.int .u64 (IntKind.wrap .u64 ((bitsOp .and .u64 (IntKind.wrap .u64 ((IntKind.wrap .u64 ((shrI .u64 x_ 32) * (bitsOp .and .u64 y_ 4294967295))) + (shrI .u64 (IntKind.wrap .u64 ((bitsOp .and .u64 x_ 4294967295) * (bitsOp .and .u64 y_ 4294967295))) 32))) 4294967295) + (IntKind.wrap .u64 ((bitsOp .and .u64 x_ 4294967295) * (shrI .u64 y_ 32)))))), []⟩, ⟨.d (.int .u64 (shrI .u64 (IntKind.wrap .u64 ((bitsOp .and .u64 (IntKind.wrap .u64 ((IntKind.wrap .u64 ((shrI .u64 x_ 32) * (bitsOp .and .u64 y_ 4294967295))) + (shrI .u64 (IntKind.wrap .u64 ((bitsOp .and .u64 x_ 4294967295) * (bitsOp .and .u64 y_ 4294967295))) 32))) 4294967295) + (IntKind.wrap .u64 ((bitsOp .and .u64 x_ 4294967295) * (shrI .u64 y_ 32))))) 32)), []⟩, ⟨.d (.int .u64 (IntKind.wrap .u64 ((IntKind.wrap .u64 ((IntKind.wrap .u64 ((shrI .u64 x_ 32) * (shrI .u64 y_ 32))) + (shrI .u64 (IntKind.wrap .u64 ((IntKind.wrap .u64 ((shrI .u64 x_ 32) * (bitsOp .and .u64 y_ 4294967295))) + (shrI .u64 (IntKind.wrap .u64 ((bitsOp .and .u64 x_ 4294967295) * (bitsOp .and .u64 y_ 4294967295))) 32))) 32))) + (shrI .u64 (IntKind.wrap .u64 ((bitsOp .and .u64 (IntKind.wrap .u64 ((IntKind.wrap .u64 ((shrI .u64 x_ 32) * (bitsOp .and .u64 y_ 4294967295))) + (shrI .u64 (IntKind.wrap .u64 ((bitsOp .and .u64 x_ 4294967295) * (bitsOp .and .u64 y_ 4294967295))) 32))) 4294967295) + (IntKind.wrap .u64 ((bitsOp .and .u64 x_ 4294967295) * (shrI .u64 y_ 32))))) 32)))), []⟩, ⟨.d (.int .u64 (IntKind.wrap .u64 ((IntKind.wrap .u64 ((IntKind.wrap .u64 ((shrI .u64 x_ 32) * (shrI .u64 y_ 32))) + (shrI .u64 (IntKind.wrap .u64 ((IntKind.wrap .u64 ((shrI .u64 x_ 32) * (bitsOp .and .u64 y_ 4294967295))) + (shrI .u64 (IntKind.wrap .u64 ((bitsOp .and .u64 x_ 4294967295) * (bitsOp .and .u64 y_ 4294967295))) 32))) 32))) + (shrI .u64 (IntKind.wrap .u64 ((bitsOp .and .u64 (IntKind.wrap .u64 ((IntKind.wrap .u64 ((shrI .u64 x_ 32) * (bitsOp .and .u64 y_ 4294967295))) + (shrI .u64 (IntKind.wrap .u64 ((bitsOp .and .u64 x_ 4294967295) * (bitsOp .and .u64 y_ 4294967295))) 32))) 4294967295) + (IntKind.wrap .u64 ((bitsOp .and .u64 x_ 4294967295) * (shrI .u64 y_ 32))))) 32)))), []⟩] ?_
 refine Rk <| Sq <| Ro <| Rc 4 [⟨.d (.int .u64 x_), []⟩, ⟨.d (.int .u64 y_), []⟩, ⟨.d (.int .u64 (IntKind.wrap .u64 (x_ * y_))), []⟩, ⟨.d (.int .u64 (IntKind.wrap .u64 (x_ * y_))), []⟩] <| Rk <| Runs.ret ?_
 cases h
 exact Fq
theorem math_bits_Mul64_L (x_ : Int) (y_ : Int) (r : (Int × Int)) (h : math_bits_Mul64 x_ y_ = some r) : L 76 [.d (.int .u64 x_), .d (.int .u64 y_)] = some (.tup [.d (.int .u64 r.1), .d (.int .u64 r.2)], [.d (.int .u64 x_), .d (.int .u64 y_)]) := by
 obtain ⟨p, ⟨hne, hf⟩, hr⟩ := math_bits_Mul64_ok x_ y_ r h
 obtain ⟨k, hk⟩ := run_of (F := F76) (args := [.d (.int .u64 x_), .d (.int .u64 y_)]) (ap := [.d (.int .u64 x_), .d (.int .u64 y_)]) (bx0 := updW (fun _ => none) []) rfl rfl (by kernel_rfl) ⟨p, ⟨hne, hf⟩, hr⟩
 exact lim_run (k := k) rfl hk
def math_bits_Mul_Q (x_ : Int) (y_ : Int) (r : (Int × Int)) (p : Out × St) : Prop := (∀ i, p.1 ≠ .exit i) ∧ finF F74 [.d (.int .u64 x_), .d (.int .u64 y_)] p.2 = some (.tup [.d (.int .u64 r.1), .d (.int .u64 r.2)], [.d (.int .u64 x_), .d (.int .u64 y_)])
theorem math_bits_Mul_ok (x_ : Int) (y_ : Int) (r : (Int × Int)) (h : math_bits_Mul x_ y_ = some r) : Runs L F74.body ⟨tmOf [.d (.int .u64 x_), .d (.int .u64 y_)] 0, updW (fun _ => none) []⟩ (math_bits_Mul_Q x_ y_ r) := by
 unfold math_bits_Mul at h
 refine Sq <| Ro <| Rc 2 [⟨.d (.int .u64 0), []⟩, ⟨.d (.int .u64 0), []⟩] <| Rk <| Sq <| Cf <| Runs.skip <| kS_nrm <| Sq <| Ro <| Rc 2 [⟨.d (.int .u64 x_), []⟩, ⟨.d (.int .u64 y_), []⟩] ?_
 obtain ⟨r_1, hr_1, h⟩ := bind_s h
 have hc_1 := math_bits_Mul64_L x_ y_ r_1 hr_1
 refine Rt (some 25) (.callf 76) [] none [.d (.int .u64 x_), .d (.int .u64 y_)] (.tup [.d (.int .u64 r_1.1), .d (.int .u64 r_1.2)]) [] (cc hc_1) <| Rc 5 [⟨.tup [.d (.int .u64 r_1.1), .d (.int .u64 r_1.2)], []⟩, ⟨.d (.int .u64 r_1.1), []⟩, ⟨.d (.int .u64 r_1.2), []⟩, ⟨.d (.int .u64 r_1.1), []⟩, ⟨.d (.int .u64 r_1.2), []⟩] <| Rk <| Sq <| Ro <| Rc 4 [⟨.d (.int .u64 r_1.1), []⟩, ⟨.d (.int .u64 r_1.2), []⟩, ⟨.d (.int .u64 r_1.1), []⟩, ⟨.d (.int .u64 r_1.2), []⟩] <| Rk <| Runs.ret ?_
 cases h
 exact Fq
theorem math_bits_Mul_L (x_ : Int) (y_ : Int) (r : (Int × Int)) (h : math_bits_Mul x_ y_ = some r) : L 74 [.d (.int .u64 x_), .d (.int .u64 y_)] = some (.tup [.d (.int .u64 r.1), .d (.int .u64 r.2)], [.d (.int .u64 x_), .d (.int .u64 y_)]) := by
 obtain ⟨p, ⟨hne, hf⟩, hr⟩ := math_bits_Mul_ok x_ y_ r h
 obtain ⟨k, hk⟩ := run_of (F := F74) (args := [.d (.int .u64 x_), .d (.int .u64 y_)]) (ap := [.d (.int .u64 x_), .d (.int .u64 y_)]) (bx0 := updW (fun _ => none) []) rfl rfl (by kernel_rfl) ⟨p, ⟨hne, hf⟩, hr⟩
 exact lim_run (k := k) rfl hk
def slices_Repeat_Lbyte_h22n (b_30 : (List Int)) (n8 : Int) (v_30 : Nat) (n_30 : Nat) : St := ⟨tab [(7, .ref [30] v_30 0 n_30 1), (8, .i n8)], tabB [([30], some (.arr (mY b_30) v_30 false))]⟩
def slices_Repeat_Lbyte_h22 (b_30 : (List Int)) (n8 : Int) (v_30 : Nat) : St := slices_Repeat_Lbyte_h22n b_30 n8 v_30 (mY b_30).length
def slices_Repeat_Lbyte_h31 (b_30 : (List Int)) (v_30 : Nat) : St := ⟨tab [(7, .ref [30] v_30 0 (mY b_30).length 1)], tabB [([30], some (.arr (mY b_30) v_30 false))]⟩
def slices_Repeat_Lbyte_Q (x_ : (List Int)) (count_ : Int) (r : (List Int)) (p : Out × St) : Prop := (∀ i, p.1 ≠ .exit i) ∧ finF F71 [.d (.sl (mY x_)), .i count_] p.2 = some (.d (.sl (mY r)), [.d (.sl (mY x_)), .i count_])
def slices_Repeat_Lbyte_P22 (x_ : (List Int)) (count_ : Int)  (e : (List Int)) (p : Out × St) : Prop := p.1 = .exit 0 ∧ ∃ g : Nat, Canon [] [7] [[30]] p.2 (slices_Repeat_Lbyte_h31 e g)
theorem slices_Repeat_Lbyte_l22_ok (x_ : (List Int)) (count_ : Int) (b_30 : (List Int)) (n8 : Int) (v_30 : Nat) (r : (Lp ((List Int) × Int) (List Int))) (h : slices_Repeat_Lbyte_l22 b_30 n8 = some r) : Runs L F71l22 (slices_Repeat_Lbyte_h22 b_30 n8 v_30) (LQ [] [7, 8] [[30]] (fun (x : ((List Int) × Int)) (g : Nat) => slices_Repeat_Lbyte_h22 x.1 x.2 g) (slices_Repeat_Lbyte_P22 x_ count_) r) := by
 unfold slices_Repeat_Lbyte_l22 at h
 refine Sq <| Sq <| Ro <| Rc 2 [vi n8, ⟨.ref [30] v_30 0 (mY b_30).length 1, []⟩] <| Rt (some 36) .lenL [] none [.ref [30] v_30 0 (mY b_30).length 1] (.i (b_30.length : Int)) [] (cut_lenR (e := (D.int .u8)) b_30 rfl) <| Rc 1 [vb (decide (n8 < (b_30.length : Int)))] <| Rk ?_
 cases hb_4 : ((decide (n8 < (b_30.length : Int))) : Bool) with
 | true =>
  replace h := ite_t hb_4 h
  refine Ct <| Runs.skip <| kS_nrm <| Runs.block <| Ro <| Rc 3 [vi n8, ⟨.ref [30] v_30 0 (mY b_30).length 1, []⟩, vi n8] ?_
  obtain ⟨z_2, hz_2, h⟩ := bind_s h
  refine Rt (some 41) (.subsl 1 true false false) [] none [.ref [30] v_30 0 (mY b_30).length 1, .i n8] (.ref [30] v_30 (0 + (n8).toNat) ((b_30.length : Int).toNat - (n8).toNat) 1) [] (cut_subTF (e := (D.int .u8)) (l := b_30) hz_2 rfl) <| Rc 2 [⟨.ref [30] v_30 0 (mY b_30).length 1, []⟩, vi n8] ?_
  obtain ⟨z_3, hz_3, h⟩ := bind_s h
  refine Rt (some 44) (.subsl 1 false true false) [] none [.ref [30] v_30 0 (mY b_30).length 1, .i n8] (.ref [30] v_30 (0 + (0 : Int).toNat) ((n8).toNat - (0 : Int).toNat) 1) [] (cut_subFT (e := (D.int .u8)) (l := b_30) hz_3 rfl) <| Rt (some 45) (.copy 1 false) [] none [.ref [30] v_30 (0 + (n8).toNat) ((b_30.length : Int).toNat - (n8).toNat) 1, .ref [30] v_30 (0 + (0 : Int).toNat) ((n8).toNat - (0 : Int).toNat) 1] (.i ((min z_3.length ((b_30.length : Int).toNat - (n8).toNat) : Nat) : Int)) [([30], some (.arr (mY (cpy b_30 (0 + (n8).toNat) ((b_30.length : Int).toNat - (n8).toNat) z_3)) v_30 false))] (cut_copy (e := (D.int .u8)) (l := b_30) (ys := z_3) (cp_sub (fz := false) hz_3 (by kernel_rfl) (by kernel_rfl)) (szOk_map (e := (D.int .u8)) (fun _ => rfl) _) (by kernel_rfl) (by kernel_rfl) (sub_le hz_2)) <| Rc 2 [vi (IntKind.wrap .i64 (n8 + ((min z_3.length ((b_30.length : Int).toNat - (n8).toNat) : Nat) : Int))), vi (IntKind.wrap .i64 (n8 + ((min z_3.length ((b_30.length : Int).toNat - (n8).toNat) : Nat) : Int)))] <| Rd <| kB_nrm ?_
  obtain rfl := sj h
  exact ⟨rfl, v_30, (Canon.len (f := fun n => slices_Repeat_Lbyte_h22n (cpy b_30 (0 + (n8).toNat) ((b_30.length : Int).toNat - (n8).toNat) z_3) (IntKind.wrap .i64 (n8 + ((min z_3.length ((b_30.length : Int).toNat - (n8).toNat) : Nat) : Int))) v_30 n) ((by simp only [List.length_map, List.length_set, cpy_length] : (mY b_30).length = (mY (cpy b_30 (0 + (n8).toNat) ((b_30.length : Int).toNat - (n8).toNat) z_3)).length)).symm Cz)⟩
 | false =>
  replace h := ite_f hb_4 h
  refine Cf <| Runs.exit <| kS_exit ?_
  obtain rfl := sj h
  exact ⟨nofun, rfl, v_30, Cz⟩
theorem slices_Repeat_Lbyte_ok (x_ : (List Int)) (count_ : Int) (r : (List Int)) (h : slices_Repeat_Lbyte x_ count_ = some r) : Runs L F71.body ⟨tmOf [.d (.sl (mY x_)), .i count_] 0, updW (fun _ => none) []⟩ (slices_Repeat_Lbyte_Q x_ count_ r) := by
 unfold slices_Repeat_Lbyte at h
 refine Sq <| Ro <| Rc 1 [⟨.nils, []⟩] <| Rk <| Sq <| Sq <| Ro <| Rc 2 [vi count_, vb (decide (count_ < 0))] <| Rk ?_
 cases hb_1 : ((decide (count_ < 0)) : Bool) with
 | true =>
  replace h := ite_t hb_1 h
  refine Ct ?_
  cases h
 | false =>
  replace h := ite_f hb_1 h
  refine Cf <| Runs.skip <| kS_nrm <| Sq <| Ro <| Rc 1 [⟨.d (.sl (mY x_)), []⟩] <| Rt (some 14) .lenL [] none [.d (.sl (mY x_))] (.i (x_.length : Int)) [] (cut_len _) <| Rc 3 [⟨.d (.int .u64 (IntKind.wrap .u64 (x_.length : Int))), []⟩, vi count_, ⟨.d (.int .u64 (IntKind.wrap .u64 count_)), []⟩] ?_
  obtain ⟨r_1, hr_1, h⟩ := bind_s h
  have hc_1 := math_bits_Mul_L (IntKind.wrap .u64 (x_.length : Int)) (IntKind.wrap .u64 count_) r_1 hr_1
  refine Rt (some 18) (.callf 74) [] none [.d (.int .u64 (IntKind.wrap .u64 (x_.length : Int))), .d (.int .u64 (IntKind.wrap .u64 count_))] (.tup [.d (.int .u64 r_1.1), .d (.int .u64 r_1.2)]) [] (cc hc_1) <| Rc 5 [⟨.tup [.d (.int .u64 r_1.1), .d (.int .u64 r_1.2)], []⟩, ⟨.d (.int .u64 r_1.1), []⟩, ⟨.d (.int .u64 r_1.2), []⟩, ⟨.d (.int .u64 r_1.1), []⟩, ⟨.d (.int .u64 r_1.2), []⟩] <| Rk <| Sq <| Sq <| Ro <| Rc 3 [⟨.d (.int .u64 r_1.1), []⟩, vb (decide (r_1.1 > 0)), vb (decide (r_1.1 > 0))] ?_
  cases hb_2 : ((decide (r_1.1 > 0)) : Bool) with
  | true =>
   replace h := ite_t hb_2 h
   refine Rc 3 [vn, vn, vb true] <| Rk <| Ct ?_
   cases h
  | false =>
   replace h := ite_f hb_2 h
   refine Rc 3 [⟨.d (.int .u64 r_1.2), []⟩, vb (decide (r_1.2 > 9223372036854775807)), vb (decide (r_1.2 > 9223372036854775807))] <| Rk ?_
   cases hb_3 : ((decide (r_1.2 > 9223372036854775807)) : Bool) with
   | true =>
    replace h := ite_t hb_3 h
    refine Ct ?_
    cases h
   | false =>
    replace h := ite_f hb_3 h
    refine Cf <| Runs.skip <| kS_nrm <| Sq <| Ro <| Rc 2 [⟨.d (.int .u64 r_1.2), []⟩, vi (IntKind.wrap .i64 r_1.2)] ?_
    obtain ⟨z_1, hz_1, h⟩ := bind_s h
    refine Rt (some 30) (.mkslice (.int .u8 0) 1) [] none [.i (IntKind.wrap .i64 r_1.2), .i (IntKind.wrap .i64 r_1.2)] (.ref [30] 0 0 (mY z_1).length 1) [([30], some (.arr (mY z_1) 0 false))] (cut_mk (e := (D.int .u8)) (z := 0) hz_1 rfl (by kernel_rfl)) <| Rc 1 [⟨.ref [30] 0 0 (mY z_1).length 1, []⟩] <| Rk <| Sq <| Ro <| Rc 2 [⟨.ref [30] 0 0 (mY z_1).length 1, []⟩, ⟨.d (.sl (mY x_)), []⟩] <| Rt (some 33) (.copy 1 false) [] none [.ref [30] 0 0 (mY z_1).length 1, .d (.sl (mY x_))] (.i ((min x_.length (mY z_1).length : Nat) : Int)) [([30], some (.arr (mY (cpy z_1 0 (mY z_1).length x_)) 0 false))] (cut_copy (e := (D.int .u8)) (l := z_1) (ys := x_) (cp_data _) (szOk_map (e := (D.int .u8)) (fun _ => rfl) _) (by kernel_rfl) (by kernel_rfl) (by simp [cpy_length])) <| Rc 1 [vi ((min x_.length (mY z_1).length : Nat) : Int)] <| Rk <| Sq <| Runs.block ?_
    obtain ⟨e_1, he_1, h⟩ := bind_s h
    refine Runs.loop (fun x : ((List Int) × Int) => slices_Repeat_Lbyte_l22 x.1 x.2) (fun (x : ((List Int) × Int)) (g : Nat) => slices_Repeat_Lbyte_h22 x.1 x.2 g) (slices_Repeat_Lbyte_P22 x_ count_) (fun x g r hr => slices_Repeat_Lbyte_l22_ok x_ count_ x.1 x.2 g r hr) 0 he_1 (Canon.len (f := fun n => slices_Repeat_Lbyte_h22n (cpy z_1 0 (mY z_1).length x_) ((min x_.length (mY z_1).length : Nat) : Int) 0 n) ((by simp only [List.length_map, List.length_set, cpy_length] : (mY z_1).length = (mY (cpy z_1 0 (mY z_1).length x_)).length)).symm Cz) ?_
    rintro ⟨o, s⟩ hp
    obtain ⟨ho, g_1, hk_1⟩ := hp
    have ho' : o = .exit 0 := ho
    subst ho'
    refine kB_hit <| kS_nrm <| Runs.canon _ hk_1 <| Sq <| Ro <| Rc 2 [⟨.ref [30] g_1 0 (mY e_1).length 1, []⟩, ⟨.ref [30] g_1 0 (mY e_1).length 1, []⟩] <| Rk <| Sq <| Runs.gcons (frz_ref (e := (D.int .u8)) (l := e_1) (id := [30]) (v := g_1) (n := 1) (fz := false) (by kernel_rfl) (by kernel_rfl) rfl) <| Runs.gnil <| kS_nrm <| Runs.ret ?_
    cases h
    exact Fq
theorem slices_Repeat_Lbyte_L (x_ : (List Int)) (count_ : Int) (r : (List Int)) (h : slices_Repeat_Lbyte x_ count_ = some r) : L 71 [.d (.sl (mY x_)), .i count_] = some (.d (.sl (mY r)), [.d (.sl (mY x_)), .i count_]) := by
 obtain ⟨p, ⟨hne, hf⟩, hr⟩ := slices_Repeat_Lbyte_ok x_ count_ r h
 obtain ⟨k, hk⟩ := run_of (F := F71) (args := [.d (.sl (mY x_)), .i count_]) (ap := [.d (.sl (mY x_)), .i count_]) (bx0 := updW (fun _ => none) []) rfl rfl (by kernel_rfl) ⟨p, ⟨hne, hf⟩, hr⟩
 exact lim_run (k := k) rfl hk
def iter_Spread_h16 (b1 : Block) (b_19 : (List Int)) (t21 : (List D)) (t22 : Int) (t23 : Int) (v_19 : Nat) : St := ⟨tab [(1, .ptr [1] 0 0), (4, .ref [19] v_19 0 (mY b_19).length 1), (21, .d (.sl (List.map id t21))), (22, .i t22), (23, .i t23)], tabB [([1], some (.cells [.i b1.Times, .d (.sl (mY b1.Bytes)), .d (.sl (List.map id b1.Blocks))] 0)), ([19], some (.arr (mY b_19) v_19 false))]⟩
def iter_Spread_h31 (b1 : Block) (b_19 : (List Int)) (v_19 : Nat) : St := ⟨tab [(1, .ptr [1] 0 0), (4, .ref [19] v_19 0 (mY b_19).length 1)], tabB [([1], some (.cells [.i b1.Times, .d (.sl (mY b1.Bytes)), .d (.sl (List.map id b1.Blocks))] 0)), ([19], some (.arr (mY b_19) v_19 false))]⟩
def iter_Spread_Q (b_ : Block) (r : ((List Int) × Bool)) (p : Out × St) : Prop := (∀ i, p.1 ≠ .exit i) ∧ finF F47 [.d (Block.d b_)] p.2 = some (.tup [.d (.sl (mY r.1)), .b r.2], [.d (Block.d b_)])
def iter_Spread_P16 (b_ : Block) (b1 : Block) (t21 : (List D)) (t22 : Int) (e : (List Int)) (p : Out × St) : Prop := p.1 = .exit 0 ∧ ∃ g : Nat, Canon [] [1, 4] [[1], [19]] p.2 (iter_Spread_h31 b1 e g)
theorem iter_Spread_l16_ok (self_ : Block → Option ((List Int) × Bool)) (hs_ : ∀ (b_ : Block) (r : ((List Int) × Bool)), self_ b_ = some r → L 47 [.d (Block.d b_)] = some (.tup [.d (.sl (mY r.1)), .b r.2], [.d (Block.d b_)])) (b_ : Block) (b1 : Block) (b_19 : (List Int)) (t21 : (List D)) (t22 : Int) (t23 : Int) (v_19 : Nat) (r : (Lp ((List Int) × Int) (List Int))) (h : iter_Spread_l16 self_ b1 b_19 t21 t22 t23 = some r) : Runs L F47l16 (iter_Spread_h16 b1 b_19 t21 t22 t23 v_19) (LQ [] [1, 4, 21, 22, 23] [[1], [19]] (fun (x : ((List Int) × Int)) (g : Nat) => iter_Spread_h16 b1 x.1 t21 t22 x.2 g) (iter_Spread_P16 b_ b1 t21 t22) r) := by
 unfold iter_Spread_l16 at h
 refine Sq <| Ro <| Rc 1 [vb (decide (t23 < t22))] <| Rk <| Sq ?_
 cases hb_3 : ((decide (t23 < t22)) : Bool) with
 | true =>
  replace h := ite_t hb_3 h
  refine Ct <| Runs.skip <| kS_nrm <| Sq <| Runs.block <| Sq <| Ro ?_
  obtain ⟨z_1, hz_1, h⟩ := bind_s h
  obtain ⟨z_2, hz_2, h⟩ := bind_s h
  rw [ofD_eq hz_2] at hz_1
  refine Rt (some 25) (.iaddrS 3) [] none [.d (.sl (List.map id t21)), .i t23] (.elt (Block.d z_2) 0) [] (cut_at1 (e := id) hz_1 rfl) <| Rc 3 [⟨.d (Block.d z_2), []⟩, ⟨.ptr [6] 0 0, [([6], some (.cells [.i 0, .nils, .nils] 0))]⟩, ⟨.tup [], [([6], some (.cells [.i z_2.Times, .d (.sl (mY z_2.Bytes)), .d (.sl (List.map id z_2.Blocks))] 0))]⟩] <| Rk <| Sq <| Ro <| Rc 1 [⟨.d (Block.d z_2), []⟩] ?_
  obtain ⟨r_4, hr_4, h⟩ := bind_s h
  have hc_4 := hs_ z_2 r_4 hr_4
  refine Rt (some 29) (.callf 47) [] none [.d (Block.d z_2)] (.tup [.d (.sl (mY r_4.1)), .b r_4.2]) [] (cc hc_4) <| Rc 5 [⟨.tup [.d (.sl (mY r_4.1)), .b r_4.2], []⟩, ⟨.d (.sl (mY r_4.1)), []⟩, vb r_4.2, ⟨.d (.sl (mY r_4.1)), []⟩, vb r_4.2] <| Rk <| Ro <| Rc 2 [⟨.ref [19] v_19 0 (mY b_19).length 1, []⟩, ⟨.d (.sl (mY r_4.1)), []⟩] ?_
  obtain ⟨z_3, hz_3, h⟩ := bind_s h
  refine Rt (some 34) (.append 1 1 false) [] none [.ref [19] v_19 0 (mY b_19).length 1, .d (.sl (mY r_4.1))] (.ref [19] (v_19 + 1) 0 (mY z_3).length 1) [([19], some (.arr (mY z_3) (v_19 + 1) false))] (cut_appR (e := (D.int .u8)) (l := b_19) (fz := false) (ws := []) (ap_data _) (fun _ => rfl) hz_3 (by kernel_rfl) (by kernel_rfl) rfl) <| Rc 1 [⟨.ref [19] (v_19 + 1) 0 (mY z_3).length 1, []⟩] <| Rd <| kB_nrm <| kS_nrm <| Ro <| Rc 2 [vi (IntKind.wrap .i64 (t23 + 1)), vi (IntKind.wrap .i64 (t23 + 1))] <| Rd ?_
  obtain rfl := sj h
  exact ⟨rfl, (v_19 + 1), Cz⟩
 | false =>
  replace h := ite_f hb_3 h
  refine Cf <| Runs.exit <| kS_exit ?_
  obtain rfl := sj h
  exact ⟨nofun, rfl, v_19, Cz⟩
theorem iter_Spread_ok (self_ : Block → Option ((List Int) × Bool)) (hs_ : ∀ (b_ : Block) (r : ((List Int) × Bool)), self_ b_ = some r → L 47 [.d (Block.d b_)] = some (.tup [.d (.sl (mY r.1)), .b r.2], [.d (Block.d b_)])) (b_ : Block) (r : ((List Int) × Bool)) (h : iter_Spread_b self_ b_ = some r) : Runs L F47.body ⟨tmOf [.d (Block.d b_)] 0, updW (fun _ => none) []⟩ (iter_Spread_Q b_ r) := by
 unfold iter_Spread_b at h
 refine Sq <| Ro <| Rc 3 [⟨.ptr [1] 0 0, [([1], some (.cells [.i b_.Times, .d (.sl (mY b_.Bytes)), .d (.sl (List.map id b_.Blocks))] 0))]⟩, ⟨.nils, []⟩, vb false] <| Rk <| Sq <| Sq <| Ro <| Rc 1 [⟨.d (Block.d b_), []⟩] ?_
 obtain ⟨r_1, hr_1, h⟩ := bind_s h
 have hc_1 := iter_May_L b_ r_1 hr_1
 refine Rt (some 10) (.callf 49) [] none [.d (Block.d b_)] (.b r_1) [] (cc hc_1) <| Rc 2 [vb (!r_1), vb (!r_1)] ?_
 cases hb_1 : ((!r_1) : Bool) with
 | true =>
  replace h := ite_t hb_1 h
  refine Rc 4 [vn, vn, vn, vb true] <| Rk <| Ct <| Sq <| Ro <| Rc 2 [⟨.nils, []⟩, vb false] <| Rk <| Sq <| Runs.gcons (frz_nil (D.int .u8) (by kernel_rfl)) <| Runs.gnil <| kS_nrm <| Runs.ret <| kS_ret ?_
  cases h
  exact Fq
 | false =>
  replace h := ite_f hb_1 h
  refine Rc 1 [⟨.d (Block.d b_), []⟩] ?_
  obtain ⟨r_2, hr_2, h⟩ := bind_s h
  have hc_2 := iter_Size_L 64 b_ r_2 hr_2
  refine Rt (some 14) (.callf 50) [] none [.d (Block.d b_)] (.i r_2) [] (cc hc_2) <| Rc 2 [vb (decide (r_2 > 65536)), vb (decide (r_2 > 65536))] <| Rk ?_
  cases hb_2 : ((decide (r_2 > 65536)) : Bool) with
  | true =>
   replace h := ite_t hb_2 h
   refine Ct <| Sq <| Ro <| Rc 2 [⟨.nils, []⟩, vb false] <| Rk <| Sq <| Runs.gcons (frz_nil (D.int .u8) (by kernel_rfl)) <| Runs.gnil <| kS_nrm <| Runs.ret <| kS_ret ?_
   cases h
   exact Fq
  | false =>
   replace h := ite_f hb_2 h
   refine Cf <| Runs.skip <| kS_nrm <| Sq <| Ro <| Rc 2 [vp [1] 0 1, ⟨.d (.sl (mY b_.Bytes)), []⟩] ?_
   obtain ⟨r_3, hr_3, h⟩ := bind_s h
   have hc_3 := slices_Clone_Lbyte_L b_.Bytes r_3 hr_3
   refine Rt (some 19) (.callf 70) [] none [.d (.sl (mY b_.Bytes))] (.ref [19] 0 0 (mY r_3).length 1) [([19], some (.arr (mY r_3) 0 false))] (cut_call (call_of (ws := []) (us := []) (by kernel_rfl) (gives_cons (ws := []) (give_same (by kernel_rfl)) gives_nil) hc_3 (by kernel_rfl) (by kernel_rfl))) <| Rc 1 [⟨.ref [19] 0 0 (mY r_3).length 1, []⟩] <| Rk <| Sq <| Sq <| Ro <| Rc 2 [vp [1] 0 2, ⟨.d (.sl (List.map id b_.Blocks)), []⟩] <| Rt (some 22) .lenL [] none [.d (.sl (List.map id b_.Blocks))] (.i (b_.Blocks.length : Int)) [] (cut_len _) <| Rc 1 [vi 0] <| Rk <| Runs.block ?_
   obtain ⟨e_1, he_1, h⟩ := bind_s h
   refine Runs.loop (fun x : ((List Int) × Int) => iter_Spread_l16 self_ b_ x.1 b_.Blocks (b_.Blocks.length : Int) x.2) (fun (x : ((List Int) × Int)) (g : Nat) => iter_Spread_h16 b_ x.1 b_.Blocks (b_.Blocks.length : Int) x.2 g) (iter_Spread_P16 b_ b_ b_.Blocks (b_.Blocks.length : Int)) (fun x g r hr => iter_Spread_l16_ok self_ hs_ b_ b_ x.1 b_.Blocks (b_.Blocks.length : Int) x.2 g r hr) 0 he_1 Cz ?_
   rintro ⟨o, s⟩ hp
   obtain ⟨ho, g_1, hk_1⟩ := hp
   have ho' : o = .exit 0 := ho
   subst ho'
   refine kB_hit <| kS_nrm <| Runs.canon _ hk_1 <| Sq <| Ro <| Rc 3 [⟨.ref [19] g_1 0 (mY e_1).length 1, []⟩, vp [1] 0 0, vi b_.Times] ?_
   obtain ⟨r_4, hr_4, h⟩ := bind_s h
   have hc_4 := slices_Repeat_Lbyte_L e_1 b_.Times r_4 hr_4
   refine Rt (some 39) (.callf 71) [] none [.ref [19] g_1 0 (mY e_1).length 1, .i b_.Times] (.d (.sl (mY r_4))) [([19], some (.arr (mY e_1) g_1 true))] (cut_call (call_of (ws := [([19], some (.arr (mY e_1) g_1 true))]) (us := [([19], some (.arr (mY e_1) g_1 true))]) (by kernel_rfl) (gives_cons (ws := [([19], some (.arr (mY e_1) g_1 true))]) (give_ref (e := (D.int .u8)) (l := e_1) (fz := false) (by kernel_rfl) (by kernel_rfl) rfl) (gives_cons (ws := []) (give_same (by kernel_rfl)) gives_nil)) hc_4 (by kernel_rfl) (by kernel_rfl))) <| Rc 2 [⟨.d (.sl (mY r_4)), []⟩, vb true] <| Rk <| Runs.ret ?_
   cases h
   exact Fq
theorem iter_Spread_L : ∀ (n_ : Nat) (b_ : Block) (r : ((List Int) × Bool)) (h : iter_Spread n_ b_ = some r), L 47 [.d (Block.d b_)] = some (.tup [.d (.sl (mY r.1)), .b r.2], [.d (Block.d b_)])
 | 0, b_, r, h => by cases h
 | n_ + 1, b_, r, h => by
  have h : iter_Spread_b (iter_Spread n_) b_ = some r := h
  obtain ⟨p, ⟨hne, hf⟩, hr⟩ := iter_Spread_ok (iter_Spread n_) (fun b_ r h => iter_Spread_L n_ b_ r h) b_ r h
  obtain ⟨k, hk⟩ := run_of (F := F47) (args := [.d (Block.d b_)]) (ap := [.d (Block.d b_)]) (bx0 := updW (fun _ => none) []) rfl rfl (by kernel_rfl) ⟨p, ⟨hne, hf⟩, hr⟩
  exact lim_run (k := k) rfl hk
def bits_Low_Q (w_ : Int) (r : Int) (p : Out × St) : Prop := (∀ i, p.1 ≠ .exit i) ∧ finF F67 [.w w_] p.2 = some (.y r, [.w w_])
theorem bits_Low_ok (w_ : Int) (r : Int) (h : bits_Low w_ = some r) : Runs L F67.body ⟨tmOf [.w w_] 0, updW (fun _ => none) []⟩ (bits_Low_Q w_ r) := by
 unfold bits_Low at h
 refine Sq <| Ro <| Rc 1 [vy 0] <| Rk <| Sq <| Ro <| Rc 3 [vw w_, vy (IntKind.wrap .u8 w_), vy (IntKind.wrap .u8 w_)] <| Rk <| Runs.ret ?_
 cases h
 exact Fq
theorem bits_Low_L (w_ : Int) (r : Int) (h : bits_Low w_ = some r) : L 67 [.w w_] = some (.y r, [.w w_]) := by
 obtain ⟨p, ⟨hne, hf⟩, hr⟩ := bits_Low_ok w_ r h
 obtain ⟨k, hk⟩ := run_of (F := F67) (args := [.w w_]) (ap := [.w w_]) (bx0 := updW (fun _ => none) []) rfl rfl (by kernel_rfl) ⟨p, ⟨hne, hf⟩, hr⟩
 exact lim_run (k := k) rfl hk
def bits_High_Q (w_ : Int) (r : Int) (p : Out × St) : Prop := (∀ i, p.1 ≠ .exit i) ∧ finF F68 [.w w_] p.2 = some (.y r, [.w w_])
theorem bits_High_ok (w_ : Int) (r : Int) (h : bits_High w_ = some r) : Runs L F68.body ⟨tmOf [.w w_] 0, updW (fun _ => none) []⟩ (bits_High_Q w_ r) := by
 unfold bits_High at h
 refine Sq <| Ro <| Rc 1 [vy 0] <| Rk <| Sq <| Ro <| Rc 4 [vw w_, vw (shrI .u16 w_ 8), vy (IntKind.wrap .u8 (shrI .u16 w_ 8)), vy (IntKind.wrap .u8 (shrI .u16 w_ 8))] <| Rk <| Runs.ret ?_
 cases h
 exact Fq
theorem bits_High_L (w_ : Int) (r : Int) (h : bits_High w_ = some r) : L 68 [.w w_] = some (.y r, [.w w_]) := by
 obtain ⟨p, ⟨hne, hf⟩, hr⟩ := bits_High_ok w_ r h
 obtain ⟨k, hk⟩ := run_of (F := F68) (args := [.w w_]) (ap := [.w w_]) (bx0 := updW (fun _ => none) []) rfl rfl (by kernel_rfl) ⟨p, ⟨hne, hf⟩, hr⟩
 exact lim_run (k := k) rfl hk
def index_Two_Q (w_ : Int) (r : (List Int)) (p : Out × St) : Prop := (∀ i, p.1 ≠ .exit i) ∧ finF F20 [.w w_] p.2 = some (.arr false 1 (mY r), [.w w_])
theorem index_Two_ok (w_ : Int) (r : (List Int)) (h : index_Two w_ = some r) : Runs L F20.body ⟨tmOf [.w w_] 0, updW (fun _ => none) []⟩ (index_Two_Q w_ r) := by
 unfold index_Two at h
 refine Sq <| Ro <| Rc 1 [⟨.nils, []⟩] <| Rk <| Sq <| Ro <| Rc 1 [vw w_] ?_
 obtain ⟨r_1, hr_1, h⟩ := bind_s h
 have hc_1 := bits_Low_L w_ r_1 hr_1
 refine Rt (some 4) (.callf 67) [] none [.w w_] (.y r_1) [] (cc hc_1) <| Rc 1 [vw w_] ?_
 obtain ⟨r_2, hr_2, h⟩ := bind_s h
 have hc_2 := bits_High_L w_ r_2 hr_2
 refine Rt (some 6) (.callf 68) [] none [.w w_] (.y r_2) [] (cc hc_2) <| Rc 2 [⟨.ref [7] 0 0 (mY ([r_1, r_2] : List Int)).length 1, [([7], some (.arr (mY ([r_1, r_2] : List Int)) 0 false))]⟩, ⟨.ref [7] 0 0 (mY ([r_1, r_2] : List Int)).length 1, []⟩] <| Rk <| Runs.ret ?_
 obtain rfl := sj h
 exact ⟨Out.ret_ne, (fin_of (rs := [.ref [7] 0 0 (mY ([r_1, r_2] : List Int)).length 1]) (by kernel_rfl) (by kernel_rfl) (outs_own (id := [7]) (v := 0) (fz := false) (es := List.map (D.int .u8) ([r_1, r_2] : List Int)) (by kernel_rfl) (by decide) rfl outs_nil) (gives_cons (give_same (by kernel_rfl)) gives_nil))⟩
theorem index_Two_L (w_ : Int) (r : (List Int)) (h : index_Two w_ = some r) : L 20 [.w w_] = some (.arr false 1 (mY r), [.w w_]) := by
 obtain ⟨p, ⟨hne, hf⟩, hr⟩ := index_Two_ok w_ r h
 obtain ⟨k, hk⟩ := run_of (F := F20) (args := [.w w_]) (ap := [.w w_]) (bx0 := updW (fun _ => none) []) rfl rfl (by kernel_rfl) ⟨p, ⟨hne, hf⟩, hr⟩
 exact lim_run (k := k) rfl hk
def index_Name_Q (s_ : (List UInt8)) (r : (List Int)) (p : Out × St) : Prop := (∀ i, p.1 ≠ .exit i) ∧ finF F18 [.d (.str s_)] p.2 = some (.d (.sl (mY r)), [.d (.str s_)])
theorem index_Name_ok (s_ : (List UInt8)) (r : (List Int)) (h : index_Name s_ = some r) : Runs L F18.body ⟨tmOf [.d (.str s_)] 0, updW (fun _ => none) []⟩ (index_Name_Q s_ r) := by
 unfold index_Name at h
 refine Sq <| Ro <| Rc 1 [⟨.nils, []⟩] <| Rk <| Sq <| Ro <| Rc 2 [⟨.d (.str s_), []⟩, ⟨.d (.str s_), []⟩] <| Rt (some 5) .lenS [] none [.d (.str s_)] (.i (s_.length : Int)) [] (cut_lenS _) <| Rc 1 [vi (mnI (s_.length : Int) 255)] ?_
 obtain ⟨z_1, hz_1, h⟩ := bind_s h
 refine Rt (some 7) (.substr false true) [] none [.d (.str s_), .i (mnI (s_.length : Int) 255)] (.d (.str z_1)) [] (cut_strFT hz_1) <| Rc 1 [⟨.d (.str z_1), []⟩] <| Rk <| Sq <| Ro <| Rc 1 [⟨.d (.str z_1), []⟩] <| Rt (some 9) .lenS [] none [.d (.str z_1)] (.i (z_1.length : Int)) [] (cut_lenS _) <| Rc 3 [vy (IntKind.wrap .u8 (z_1.length : Int)), ⟨.ref [11] 0 0 (mY ([(IntKind.wrap .u8 (z_1.length : Int))] : List Int)).length 1, [([11], some (.arr (mY ([(IntKind.wrap .u8 (z_1.length : Int))] : List Int)) 0 false))]⟩, ⟨.d (.str z_1), []⟩] ?_
 obtain ⟨z_2, hz_2, h⟩ := bind_s h
 refine Rt (some 13) (.append 1 1 true) [] none [.ref [11] 0 0 (mY ([(IntKind.wrap .u8 (z_1.length : Int))] : List Int)).length 1, .d (.str z_1)] (.ref [11] 1 0 (mY z_2).length 1) [([11], some (.arr (mY z_2) 1 false))] (cut_appR (e := (D.int .u8)) (l := ([(IntKind.wrap .u8 (z_1.length : Int))] : List Int)) (fz := false) (ws := []) (ap_str _) (fun _ => rfl) hz_2 (by kernel_rfl) (by kernel_rfl) rfl) <| Rc 1 [⟨.ref [11] 1 0 (mY z_2).length 1, []⟩] <| Rk <| Sq <| Runs.gcons (frz_ref (e := (D.int .u8)) (l := z_2) (id := [11]) (v := 1) (n := 1) (fz := false) (by kernel_rfl) (by kernel_rfl) rfl) <| Runs.gnil <| kS_nrm <| Runs.ret ?_
 cases h
 exact Fq
theorem index_Name_L (s_ : (List UInt8)) (r : (List Int)) (h : index_Name s_ = some r) : L 18 [.d (.str s_)] = some (.d (.sl (mY r)), [.d (.str s_)]) := by
 obtain ⟨p, ⟨hne, hf⟩, hr⟩ := index_Name_ok s_ r h
 obtain ⟨k, hk⟩ := run_of (F := F18) (args := [.d (.str s_)]) (ap := [.d (.str s_)]) (bx0 := updW (fun _ => none) []) rfl rfl (by kernel_rfl) ⟨p, ⟨hne, hf⟩, hr⟩
 exact lim_run (k := k) rfl hk
def iter_Put_h16 (b_9 : (List Int)) (t27 : (List D)) (t28 : Int) (t29 : Int) (v_9 : Nat) : St := ⟨tab [(3, .ref [9] v_9 0 (mY b_9).length 1), (27, .d (.sl (List.map id t27))), (28, .i t28), (29, .i t29)], tabB [([9], some (.arr (mY b_9) v_9 false))]⟩
def iter_Put_h29 (b_9 : (List Int)) (v_9 : Nat) : St := ⟨tab [(3, .ref [9] v_9 0 (mY b_9).length 1)], tabB [([9], some (.arr (mY b_9) v_9 false))]⟩
def iter_Put_Q (b_ : Block) (r : (List Int)) (p : Out × St) : Prop := (∀ i, p.1 ≠ .exit i) ∧ finF F51 [.d (Block.d b_)] p.2 = some (.d (.sl (mY r)), [.d (Block.d b_)])
def iter_Put_P16 (b_ : Block) (t27 : (List D)) (t28 : Int) (e : (List Int)) (p : Out × St) : Prop := p.1 = .exit 0 ∧ ∃ g : Nat, Canon [] [3] [[9]] p.2 (iter_Put_h29 e g)
theorem iter_Put_l16_ok (self_ : Block → Option (List Int)) (hs_ : ∀ (b_ : Block) (r : (List Int)), self_ b_ = some r → L 51 [.d (Block.d b_)] = some (.d (.sl (mY r)), [.d (Block.d b_)])) (b_ : Block) (b_9 : (List Int)) (t27 : (List D)) (t28 : Int) (t29 : Int) (v_9 : Nat) (r : (Lp ((List Int) × Int) (List Int))) (h : iter_Put_l16 self_ b_9 t27 t28 t29 = some r) : Runs L F51l16 (iter_Put_h16 b_9 t27 t28 t29 v_9) (LQ [] [3, 27, 28, 29] [[9]] (fun (x : ((List Int) × Int)) (g : Nat) => iter_Put_h16 x.1 t27 t28 x.2 g) (iter_Put_P16 b_ t27 t28) r) := by
 unfold iter_Put_l16 at h
 refine Sq <| Ro <| Rc 1 [vb (decide (t29 < t28))] <| Rk <| Sq ?_
 cases hb_2 : ((decide (t29 < t28)) : Bool) with
 | true =>
  replace h := ite_t hb_2 h
  refine Ct <| Runs.skip <| kS_nrm <| Sq <| Runs.block <| Sq <| Ro ?_
  obtain ⟨z_3, hz_3, h⟩ := bind_s h
  obtain ⟨z_4, hz_4, h⟩ := bind_s h
  rw [ofD_eq hz_4] at hz_3
  refine Rt (some 31) (.iaddrS 3) [] none [.d (.sl (List.map id t27)), .i t29] (.elt (Block.d z_4) 0) [] (cut_at1 (e := id) hz_3 rfl) <| Rc 3 [⟨.d (Block.d z_4), []⟩, ⟨.ptr [5] 0 0, [([5], some (.cells [.i 0, .nils, .nils] 0))]⟩, ⟨.tup [], [([5], some (.cells [.i z_4.Times, .d (.sl (mY z_4.Bytes)), .d (.sl (List.map id z_4.Blocks))] 0))]⟩] <| Rk <| Ro <| Rc 2 [⟨.ref [9] v_9 0 (mY b_9).length 1, []⟩, ⟨.d (Block.d z_4), []⟩] ?_
  obtain ⟨r_4, hr_4, h⟩ := bind_s h
  have hc_4 := hs_ z_4 r_4 hr_4
  refine Rt (some 35) (.callf 51) [] none [.d (Block.d z_4)] (.d (.sl (mY r_4))) [] (cc hc_4) ?_
  obtain ⟨z_5, hz_5, h⟩ := bind_s h
  refine Rt (some 36) (.append 1 1 false) [] none [.ref [9] v_9 0 (mY b_9).length 1, .d (.sl (mY r_4))] (.ref [9] (v_9 + 1) 0 (mY z_5).length 1) [([9], some (.arr (mY z_5) (v_9 + 1) false))] (cut_appR (e := (D.int .u8)) (l := b_9) (fz := false) (ws := []) (ap_data _) (fun _ => rfl) hz_5 (by kernel_rfl) (by kernel_rfl) rfl) <| Rc 1 [⟨.ref [9] (v_9 + 1) 0 (mY z_5).length 1, []⟩] <| Rd <| kB_nrm <| kS_nrm <| Ro <| Rc 2 [vi (IntKind.wrap .i64 (t29 + 1)), vi (IntKind.wrap .i64 (t29 + 1))] <| Rd ?_
  obtain rfl := sj h
  exact ⟨rfl, (v_9 + 1), Cz⟩
 | false =>
  replace h := ite_f hb_2 h
  refine Cf <| Runs.exit <| kS_exit ?_
  obtain rfl := sj h
  exact ⟨nofun, rfl, v_9, Cz⟩
theorem iter_Put_ok (self_ : Block → Option (List Int)) (hs_ : ∀ (b_ : Block) (r : (List Int)), self_ b_ = some r → L 51 [.d (Block.d b_)] = some (.d (.sl (mY r)), [.d (Block.d b_)])) (b_ : Block) (r : (List Int)) (h : iter_Put_b self_ b_ = some r) : Runs L F51.body ⟨tmOf [.d (Block.d b_)] 0, updW (fun _ => none) []⟩ (iter_Put_Q b_ r) := by
 unfold iter_Put_b at h
 refine Sq <| Ro <| Rc 2 [⟨.ptr [1] 0 0, [([1], some (.cells [.i b_.Times, .d (.sl (mY b_.Bytes)), .d (.sl (List.map id b_.Blocks))] 0))]⟩, ⟨.nils, []⟩] <| Rk <| Sq <| Ro <| Rc 3 [vp [1] 0 0, vi b_.Times, vw (IntKind.wrap .u16 b_.Times)] ?_
 obtain ⟨r_1, hr_1, h⟩ := bind_s h
 have hc_1 := index_Two_L (IntKind.wrap .u16 b_.Times) r_1 hr_1
 refine Rt (some 9) (.callf 20) [] (some []) [.w (IntKind.wrap .u16 b_.Times)] (.ref [9] 0 0 (mY r_1).length 1) [([9], some (.arr (mY r_1) 0 false))] (cut_call (call_of (ws := []) (us := []) (by kernel_rfl) (gives_cons (ws := []) (give_same (by kernel_rfl)) gives_nil) hc_1 (by kernel_rfl) (by kernel_rfl))) <| Rc 2 [vp [1] 0 2, ⟨.d (.sl (List.map id b_.Blocks)), []⟩] <| Rt (some 12) .lenL [] none [.d (.sl (List.map id b_.Blocks))] (.i (b_.Blocks.length : Int)) [] (cut_len _) <| Rc 1 [vw (IntKind.wrap .u16 (b_.Blocks.length : Int))] ?_
 obtain ⟨r_2, hr_2, h⟩ := bind_s h
 have hc_2 := index_Two_L (IntKind.wrap .u16 (b_.Blocks.length : Int)) r_2 hr_2
 refine Rt (some 14) (.callf 20) [] none [.w (IntKind.wrap .u16 (b_.Blocks.length : Int))] (.ref [14] 0 0 (mY r_2).length 1) [([14], some (.arr (mY r_2) 0 false))] (cut_call (call_of (ws := []) (us := []) (by kernel_rfl) (gives_cons (ws := []) (give_same (by kernel_rfl)) gives_nil) hc_2 (by kernel_rfl) (by kernel_rfl))) ?_
 obtain ⟨z_1, hz_1, h⟩ := bind_s h
 refine Rt (some 15) (.append 1 1 false) [] none [.ref [9] 0 0 (mY r_1).length 1, .ref [14] 0 0 (mY r_2).length 1] (.ref [9] 1 0 (mY z_1).length 1) [([14], some (.arr (mY r_2) 0 true)), ([9], some (.arr (mY z_1) 1 false))] (cut_appR (e := (D.int .u8)) (l := r_1) (fz := false) (ws := [([14], some (.arr (mY r_2) 0 true))]) (ap_ref (e := (D.int .u8)) (l := r_2) (fz := false) (by kernel_rfl) (by kernel_rfl) rfl) (fun _ => rfl) hz_1 (by kernel_rfl) (by kernel_rfl) rfl) <| Rc 1 [⟨.ref [9] 1 0 (mY z_1).length 1, []⟩] <| Rk <| Sq <| Sq <| Ro <| Rc 2 [vp [1] 0 2, ⟨.d (.sl (List.map id b_.Blocks)), []⟩] <| Rt (some 18) .lenL [] none [.d (.sl (List.map id b_.Blocks))] (.i (b_.Blocks.length : Int)) [] (cut_len _) <| Rc 1 [vb ((b_.Blocks.length : Int) == 0)] <| Rk ?_
 cases hb_1 : (((b_.Blocks.length : Int) == 0) : Bool) with
 | true =>
  replace h := ite_t hb_1 h
  refine Ct <| Sq <| Ro <| Rc 3 [⟨.ref [9] 1 0 (mY z_1).length 1, []⟩, vp [1] 0 1, ⟨.d (.sl (mY b_.Bytes)), []⟩] <| Rt (some 23) .bytesStr [] none [.d (.sl (mY b_.Bytes))] (.d (.str (b2s b_.Bytes))) [] (cut_bs _) ?_
  obtain ⟨r_3, hr_3, h⟩ := bind_s h
  have hc_3 := index_Name_L (b2s b_.Bytes) r_3 hr_3
  refine Rt (some 24) (.callf 18) [] none [.d (.str (b2s b_.Bytes))] (.d (.sl (mY r_3))) [] (cc hc_3) ?_
  obtain ⟨z_2, hz_2, h⟩ := bind_s h
  refine Rt (some 25) (.append 1 1 false) [] none [.ref [9] 1 0 (mY z_1).length 1, .d (.sl (mY r_3))] (.ref [9] 2 0 (mY z_2).length 1) [([9], some (.arr (mY z_2) 2 false))] (cut_appR (e := (D.int .u8)) (l := z_1) (fz := false) (ws := []) (ap_data _) (fun _ => rfl) hz_2 (by kernel_rfl) (by kernel_rfl) rfl) <| Rc 1 [⟨.ref [9] 2 0 (mY z_2).length 1, []⟩] <| Rk <| Sq <| Runs.gcons (frz_ref (e := (D.int .u8)) (l := z_2) (id := [9]) (v := 2) (n := 1) (fz := false) (by kernel_rfl) (by kernel_rfl) rfl) <| Runs.gnil <| kS_nrm <| Runs.ret <| kS_ret ?_
  cases h
  exact Fq
 | false =>
  replace h := ite_f hb_1 h
  refine Cf <| Runs.skip <| kS_nrm <| Sq <| Sq <| Ro <| Rc 2 [vp [1] 0 2, ⟨.d (.sl (List.map id b_.Blocks)), []⟩] <| Rt (some 28) .lenL [] none [.d (.sl (List.map id b_.Blocks))] (.i (b_.Blocks.length : Int)) [] (cut_len _) <| Rc 1 [vi 0] <| Rk <| Runs.block ?_
  obtain ⟨e_1, he_1, h⟩ := bind_s h
  refine Runs.loop (fun x : ((List Int) × Int) => iter_Put_l16 self_ x.1 b_.Blocks (b_.Blocks.length : Int) x.2) (fun (x : ((List Int) × Int)) (g : Nat) => iter_Put_h16 x.1 b_.Blocks (b_.Blocks.length : Int) x.2 g) (iter_Put_P16 b_ b_.Blocks (b_.Blocks.length : Int)) (fun x g r hr => iter_Put_l16_ok self_ hs_ b_ x.1 b_.Blocks (b_.Blocks.length : Int) x.2 g r hr) 1 he_1 Cz ?_
  rintro ⟨o, s⟩ hp
  obtain ⟨ho, g_1, hk_1⟩ := hp
  have ho' : o = .exit 0 := ho
  subst ho'
  refine kB_hit <| kS_nrm <| Runs.canon _ hk_1 <| Sq <| Ro <| Rc 2 [⟨.ref [9] g_1 0 (mY e_1).length 1, []⟩, ⟨.ref [9] g_1 0 (mY e_1).length 1, []⟩] <| Rk <| Sq <| Runs.gcons (frz_ref (e := (D.int .u8)) (l := e_1) (id := [9]) (v := g_1) (n := 1) (fz := false) (by kernel_rfl) (by kernel_rfl) rfl) <| Runs.gnil <| kS_nrm <| Runs.ret ?_
  cases h
  exact Fq
theorem iter_Put_L : ∀ (n_ : Nat) (b_ : Block) (r : (List Int)) (h : iter_Put n_ b_ = some r), L 51 [.d (Block.d b_)] = some (.d (.sl (mY r)), [.d (Block.d b_)])
 | 0, b_, r, h => by cases h
 | n_ + 1, b_, r, h => by
  have h : iter_Put_b (iter_Put n_) b_ = some r := h
  obtain ⟨p, ⟨hne, hf⟩, hr⟩ := iter_Put_ok (iter_Put n_) (fun b_ r h => iter_Put_L n_ b_ r h) b_ r h
  obtain ⟨k, hk⟩ := run_of (F := F51) (args := [.d (Block.d b_)]) (ap := [.d (Block.d b_)]) (bx0 := updW (fun _ => none) []) rfl rfl (by kernel_rfl) ⟨p, ⟨hne, hf⟩, hr⟩
  exact lim_run (k := k) rfl hk
def hansomref18_Bytes_h8 (n0 : Int) (many1 : Int) (s5 : (List UInt8)) (i6 : Int) : St := ⟨tab [(0, .d (.int .u64 n0)), (1, .i many1), (5, .d (.str s5)), (6, .i i6)], tabB []⟩
def hansomref18_Bytes_h21 (s5 : (List UInt8)) : St := ⟨tab [(5, .d (.str s5))], tabB []⟩
def hansomref18_Bytes_Q (n_ : Int) (many_ : Int) (r : (List UInt8)) (p : Out × St) : Prop := (∀ i, p.1 ≠ .exit i) ∧ finF F21 [.d (.int .u64 n_), .i many_] p.2 = some (.d (.str r), [.d (.int .u64 n_), .i many_])
def hansomref18_Bytes_P8 (n_ : Int) (many_ : Int) (many1 : Int) (e : (List UInt8)) (p : Out × St) : Prop := p.1 = .exit 0 ∧ ∃ g : Unit, Canon [] [5] [] p.2 (hansomref18_Bytes_h21 e)
theorem hansomref18_Bytes_l8_ok (n_ : Int) (many_ : Int) (n0 : Int) (many1 : Int) (s5 : (List UInt8)) (i6 : Int) (r : (Lp (Int × (List UInt8) × Int) (List UInt8))) (h : hansomref18_Bytes_l8 n0 many1 s5 i6 = some r) : Runs L F21l8 (hansomref18_Bytes_h8 n0 many1 s5 i6) (LQ [] [0, 1, 5, 6] [] (fun (x : (Int × (List UInt8) × Int)) (g : Unit) => hansomref18_Bytes_h8 x.1 many1 x.2.1 x.2.2) (hansomref18_Bytes_P8 n_ many_ many1) r) := by
 unfold hansomref18_Bytes_l8 at h
 refine Sq <| Sq <| Ro <| Rc 3 [vi i6, vi many1, vb (decide (i6 < many1))] <| Rk ?_
 cases hb_1 : ((decide (i6 < many1)) : Bool) with
 | true =>
  replace h := ite_t hb_1 h
  refine Ct <| Runs.skip <| kS_nrm <| Sq <| Runs.block <| Sq <| Ro <| Rc 5 [⟨.d (.str s5), []⟩, ⟨.d (.int .u64 n0), []⟩, ⟨.d (.int .u64 (Int.tmod n0 256)), []⟩, vy (IntKind.wrap .u8 (Int.tmod n0 256)), ⟨.ref [16] 0 0 (mY ([(IntKind.wrap .u8 (Int.tmod n0 256))] : List Int)).length 1, [([16], some (.arr (mY ([(IntKind.wrap .u8 (Int.tmod n0 256))] : List Int)) 0 false))]⟩] <| Rt (some 17) .bytesStr [] none [.ref [16] 0 0 (mY ([(IntKind.wrap .u8 (Int.tmod n0 256))] : List Int)).length 1] (.d (.str (b2s ([(IntKind.wrap .u8 (Int.tmod n0 256))] : List Int)))) [] (cut_bsR (l := ([(IntKind.wrap .u8 (Int.tmod n0 256))] : List Int)) (fz := false) (by kernel_rfl) (by kernel_rfl) rfl) ?_
  obtain ⟨z_1, hz_1, h⟩ := bind_s h
  refine Rt (some 18) (.bin .add) [] none [.d (.str s5), .d (.str (b2s ([(IntKind.wrap .u8 (Int.tmod n0 256))] : List Int)))] (.d (.str z_1)) [] (cut_cat hz_1) <| Rc 1 [⟨.d (.str z_1), []⟩] <| Rk <| Ro <| Rc 3 [⟨.d (.int .u64 n0), []⟩, ⟨.d (.int .u64 (IntKind.wrap .u64 (Int.tdiv n0 256))), []⟩, ⟨.d (.int .u64 (IntKind.wrap .u64 (Int.tdiv n0 256))), []⟩] <| Rd <| kB_nrm <| kS_nrm <| Ro <| Rc 3 [vi i6, vi (IntKind.wrap .i64 (i6 + 1)), vi (IntKind.wrap .i64 (i6 + 1))] <| Rd ?_
  obtain rfl := sj h
  exact ⟨rfl, (), Cz⟩
 | false =>
  replace h := ite_f hb_1 h
  refine Cf <| Runs.exit <| kS_exit ?_
  obtain rfl := sj h
  exact ⟨nofun, rfl, (), Cz⟩
theorem hansomref18_Bytes_ok (n_ : Int) (many_ : Int) (r : (List UInt8)) (h : hansomref18_Bytes n_ many_ = some r) : Runs L F21.body ⟨tmOf [.d (.int .u64 n_), .i many_] 0, updW (fun _ => none) []⟩ (hansomref18_Bytes_Q n_ many_ r) := by
 unfold hansomref18_Bytes at h
 refine Sq <| Ro <| Rc 1 [⟨.d (.str ([] : List UInt8)), []⟩] <| Rk <| Sq <| Ro <| Rc 1 [⟨.d (.str ([] : List UInt8)), []⟩] <| Rk <| Sq <| Sq <| Ro <| Rc 1 [vi 0] <| Rk <| Runs.block ?_
 obtain ⟨e_1, he_1, h⟩ := bind_s h
 refine Runs.loop (fun x : (Int × (List UInt8) × Int) => hansomref18_Bytes_l8 x.1 many_ x.2.1 x.2.2) (fun (x : (Int × (List UInt8) × Int)) (g : Unit) => hansomref18_Bytes_h8 x.1 many_ x.2.1 x.2.2) (hansomref18_Bytes_P8 n_ many_ many_) (fun x g r hr => hansomref18_Bytes_l8_ok n_ many_ x.1 many_ x.2.1 x.2.2  r hr) () he_1 Cz ?_
 rintro ⟨o, s⟩ hp
 obtain ⟨ho, g_1, hk_1⟩ := hp
 have ho' : o = .exit 0 := ho
 subst ho'
 refine kB_hit <| kS_nrm <| Runs.canon _ hk_1 <| Sq <| Ro <| Rc 2 [⟨.d (.str e_1), []⟩, ⟨.d (.str e_1), []⟩] <| Rk <| Runs.ret ?_
 cases h
 exact Fq
theorem hansomref18_Bytes_L (n_ : Int) (many_ : Int) (r : (List UInt8)) (h : hansomref18_Bytes n_ many_ = some r) : L 21 [.d (.int .u64 n_), .i many_] = some (.d (.str r), [.d (.int .u64 n_), .i many_]) := by
 obtain ⟨p, ⟨hne, hf⟩, hr⟩ := hansomref18_Bytes_ok n_ many_ r h
 obtain ⟨k, hk⟩ := run_of (F := F21) (args := [.d (.int .u64 n_), .i many_]) (ap := [.d (.int .u64 n_), .i many_]) (bx0 := updW (fun _ => none) []) rfl rfl (by kernel_rfl) ⟨p, ⟨hne, hf⟩, hr⟩
 exact lim_run (k := k) rfl hk
def hansomref18_Name_Q (s_ : (List UInt8)) (r : (List UInt8)) (p : Out × St) : Prop := (∀ i, p.1 ≠ .exit i) ∧ finF F19 [.d (.str s_)] p.2 = some (.d (.str r), [.d (.str s_)])
theorem hansomref18_Name_ok (s_ : (List UInt8)) (r : (List UInt8)) (h : hansomref18_Name s_ = some r) : Runs L F19.body ⟨tmOf [.d (.str s_)] 0, updW (fun _ => none) []⟩ (hansomref18_Name_Q s_ r) := by
 unfold hansomref18_Name at h
 refine Sq <| Ro <| Rc 1 [⟨.d (.str ([] : List UInt8)), []⟩] <| Rk <| Sq <| Sq <| Ro <| Rc 1 [⟨.d (.str s_), []⟩] <| Rt (some 4) .lenS [] none [.d (.str s_)] (.i (s_.length : Int)) [] (cut_lenS _) <| Rc 1 [vb (decide ((s_.length : Int) > 255))] <| Rk ?_
 cases hb_1 : ((decide ((s_.length : Int) > 255)) : Bool) with
 | true =>
  replace h := ite_t hb_1 h
  refine Ct <| Ro <| Rc 1 [⟨.d (.str s_), []⟩] ?_
  obtain ⟨z_1, hz_1, h⟩ := bind_s h
  refine Rt (some 7) (.substr false true) [] none [.d (.str s_), .i 255] (.d (.str z_1)) [] (cut_strFT hz_1) <| Rc 1 [⟨.d (.str z_1), []⟩] <| Rk <| Sq <| Ro <| Rc 1 [⟨.d (.str z_1), []⟩] <| Rt (some 9) .lenS [] none [.d (.str z_1)] (.i (z_1.length : Int)) [] (cut_lenS _) <| Rc 2 [vy (IntKind.wrap .u8 (z_1.length : Int)), ⟨.ref [11] 0 0 (mY ([(IntKind.wrap .u8 (z_1.length : Int))] : List Int)).length 1, [([11], some (.arr (mY ([(IntKind.wrap .u8 (z_1.length : Int))] : List Int)) 0 false))]⟩] <| Rt (some 12) .bytesStr [] none [.ref [11] 0 0 (mY ([(IntKind.wrap .u8 (z_1.length : Int))] : List Int)).length 1] (.d (.str (b2s ([(IntKind.wrap .u8 (z_1.length : Int))] : List Int)))) [] (cut_bsR (l := ([(IntKind.wrap .u8 (z_1.length : Int))] : List Int)) (fz := false) (by kernel_rfl) (by kernel_rfl) rfl) <| Rc 1 [⟨.d (.str z_1), []⟩] ?_
  obtain ⟨z_2, hz_2, h⟩ := bind_s h
  refine Rt (some 14) (.bin .add) [] none [.d (.str (b2s ([(IntKind.wrap .u8 (z_1.length : Int))] : List Int))), .d (.str z_1)] (.d (.str z_2)) [] (cut_cat hz_2) <| Rc 1 [⟨.d (.str z_2), []⟩] <| Rk <| Runs.ret ?_
  cases h
  exact Fq
 | false =>
  replace h := ite_f hb_1 h
  refine Cf <| Runs.skip <| kS_nrm <| Sq <| Ro <| Rc 1 [⟨.d (.str s_), []⟩] <| Rt (some 9) .lenS [] none [.d (.str s_)] (.i (s_.length : Int)) [] (cut_lenS _) <| Rc 2 [vy (IntKind.wrap .u8 (s_.length : Int)), ⟨.ref [11] 0 0 (mY ([(IntKind.wrap .u8 (s_.length : Int))] : List Int)).length 1, [([11], some (.arr (mY ([(IntKind.wrap .u8 (s_.length : Int))] : List Int)) 0 false))]⟩] <| Rt (some 12) .bytesStr [] none [.ref [11] 0 0 (mY ([(IntKind.wrap .u8 (s_.length : Int))] : List Int)).length 1] (.d (.str (b2s ([(IntKind.wrap .u8 (s_.length : Int))] : List Int)))) [] (cut_bsR (l := ([(IntKind.wrap .u8 (s_.length : Int))] : List Int)) (fz := false) (by kernel_rfl) (by kernel_rfl) rfl) <| Rc 1 [⟨.d (.str s_), []⟩] ?_
  obtain ⟨z_3, hz_3, h⟩ := bind_s h
  refine Rt (some 14) (.bin .add) [] none [.d (.str (b2s ([(IntKind.wrap .u8 (s_.length : Int))] : List Int))), .d (.str s_)] (.d (.str z_3)) [] (cut_cat hz_3) <| Rc 1 [⟨.d (.str z_3), []⟩] <| Rk <| Runs.ret ?_
  cases h
  exact Fq
theorem hansomref18_Name_L (s_ : (List UInt8)) (r : (List UInt8)) (h : hansomref18_Name s_ = some r) : L 19 [.d (.str s_)] = some (.d (.str r), [.d (.str s_)]) := by
 obtain ⟨p, ⟨hne, hf⟩, hr⟩ := hansomref18_Name_ok s_ r h
 obtain ⟨k, hk⟩ := run_of (F := F19) (args := [.d (.str s_)]) (ap := [.d (.str s_)]) (bx0 := updW (fun _ => none) []) rfl rfl (by kernel_rfl) ⟨p, ⟨hne, hf⟩, hr⟩
 exact lim_run (k := k) rfl hk
def hansomref24_Put_h16 (b1 : Block) (s3 : (List UInt8)) (i4 : Int) : St := ⟨tab [(1, .ptr [1] 0 0), (3, .d (.str s3)), (4, .i i4)], tabB [([1], some (.cells [.i b1.Times, .d (.sl (mY b1.Bytes)), .d (.sl (List.map id b1.Blocks))] 0))]⟩
def hansomref24_Put_h27 (s3 : (List UInt8)) : St := ⟨tab [(3, .d (.str s3))], tabB []⟩
def hansomref24_Put_Q (b_ : Block) (r : (List UInt8)) (p : Out × St) : Prop := (∀ i, p.1 ≠ .exit i) ∧ finF F52 [.d (Block.d b_)] p.2 = some (.d (.str r), [.d (Block.d b_)])
def hansomref24_Put_P16 (b_ : Block) (b1 : Block) (e : (List UInt8)) (p : Out × St) : Prop := p.1 = .exit 0 ∧ ∃ g : Unit, Canon [] [3] [] p.2 (hansomref24_Put_h27 e)
theorem hansomref24_Put_l16_ok (self_ : Block → Option (List UInt8)) (hs_ : ∀ (b_ : Block) (r : (List UInt8)), self_ b_ = some r → L 52 [.d (Block.d b_)] = some (.d (.str r), [.d (Block.d b_)])) (b_ : Block) (b1 : Block) (s3 : (List UInt8)) (i4 : Int) (r : (Lp ((List UInt8) × Int) (List UInt8))) (h : hansomref24_Put_l16 self_ b1 s3 i4 = some r) : Runs L F52l16 (hansomref24_Put_h16 b1 s3 i4) (LQ [] [1, 3, 4] [[1]] (fun (x : ((List UInt8) × Int)) (g : Unit) => hansomref24_Put_h16 b1 x.1 x.2) (hansomref24_Put_P16 b_ b1) r) := by
 unfold hansomref24_Put_l16 at h
 refine Sq <| Sq <| Ro <| Rc 3 [vi i4, vp [1] 0 2, ⟨.d (.sl (List.map id b1.Blocks)), []⟩] <| Rt (some 28) .lenL [] none [.d (.sl (List.map id b1.Blocks))] (.i (b1.Blocks.length : Int)) [] (cut_len _) <| Rc 1 [vb (decide (i4 < (b1.Blocks.length : Int)))] <| Rk ?_
 cases hb_2 : ((decide (i4 < (b1.Blocks.length : Int))) : Bool) with
 | true =>
  replace h := ite_t hb_2 h
  refine Ct <| Runs.skip <| kS_nrm <| Sq <| Runs.block <| Ro <| Rc 4 [⟨.d (.str s3), []⟩, vp [1] 0 2, ⟨.d (.sl (List.map id b1.Blocks)), []⟩, vi i4] ?_
  obtain ⟨z_3, hz_3, h⟩ := bind_s h
  obtain ⟨z_4, hz_4, h⟩ := bind_s h
  rw [ofD_eq hz_4] at hz_3
  refine Rt (some 36) (.iaddrS 3) [] none [.d (.sl (List.map id b1.Blocks)), .i i4] (.elt (Block.d z_4) 0) [] (cut_at1 (e := id) hz_3 rfl) <| Rc 1 [⟨.d (Block.d z_4), []⟩] ?_
  obtain ⟨r_4, hr_4, h⟩ := bind_s h
  have hc_4 := hs_ z_4 r_4 hr_4
  refine Rt (some 38) (.callf 52) [] none [.d (Block.d z_4)] (.d (.str r_4)) [] (cc hc_4) ?_
  obtain ⟨z_5, hz_5, h⟩ := bind_s h
  refine Rt (some 39) (.bin .add) [] none [.d (.str s3), .d (.str r_4)] (.d (.str z_5)) [] (cut_cat hz_5) <| Rc 1 [⟨.d (.str z_5), []⟩] <| Rd <| kB_nrm <| kS_nrm <| Ro <| Rc 3 [vi i4, vi (IntKind.wrap .i64 (i4 + 1)), vi (IntKind.wrap .i64 (i4 + 1))] <| Rd ?_
  obtain rfl := sj h
  exact ⟨rfl, (), Cz⟩
 | false =>
  replace h := ite_f hb_2 h
  refine Cf <| Runs.exit <| kS_exit ?_
  obtain rfl := sj h
  exact ⟨nofun, rfl, (), Cz⟩
theorem hansomref24_Put_ok (self_ : Block → Option (List UInt8)) (hs_ : ∀ (b_ : Block) (r : (List UInt8)), self_ b_ = some r → L 52 [.d (Block.d b_)] = some (.d (.str r), [.d (Block.d b_)])) (b_ : Block) (r : (List UInt8)) (h : hansomref24_Put_b self_ b_ = some r) : Runs L F52.body ⟨tmOf [.d (Block.d b_)] 0, updW (fun _ => none) []⟩ (hansomref24_Put_Q b_ r) := by
 unfold hansomref24_Put_b at h
 refine Sq <| Ro <| Rc 2 [⟨.ptr [1] 0 0, [([1], some (.cells [.i b_.Times, .d (.sl (mY b_.Bytes)), .d (.sl (List.map id b_.Blocks))] 0))]⟩, ⟨.d (.str ([] : List UInt8)), []⟩] <| Rk <| Sq <| Ro <| Rc 3 [vp [1] 0 0, vi b_.Times, ⟨.d (.int .u64 (IntKind.wrap .u64 b_.Times)), []⟩] ?_
 obtain ⟨r_1, hr_1, h⟩ := bind_s h
 have hc_1 := hansomref18_Bytes_L (IntKind.wrap .u64 b_.Times) 2 r_1 hr_1
 refine Rt (some 8) (.callf 21) [] (some []) [.d (.int .u64 (IntKind.wrap .u64 b_.Times)), .i 2] (.d (.str r_1)) [] (cc hc_1) <| Rc 2 [vp [1] 0 2, ⟨.d (.sl (List.map id b_.Blocks)), []⟩] <| Rt (some 11) .lenL [] none [.d (.sl (List.map id b_.Blocks))] (.i (b_.Blocks.length : Int)) [] (cut_len _) <| Rc 1 [⟨.d (.int .u64 (IntKind.wrap .u64 (b_.Blocks.length : Int))), []⟩] ?_
 obtain ⟨r_2, hr_2, h⟩ := bind_s h
 have hc_2 := hansomref18_Bytes_L (IntKind.wrap .u64 (b_.Blocks.length : Int)) 2 r_2 hr_2
 refine Rt (some 13) (.callf 21) [] none [.d (.int .u64 (IntKind.wrap .u64 (b_.Blocks.length : Int))), .i 2] (.d (.str r_2)) [] (cc hc_2) ?_
 obtain ⟨z_1, hz_1, h⟩ := bind_s h
 refine Rt (some 14) (.bin .add) [] none [.d (.str r_1), .d (.str r_2)] (.d (.str z_1)) [] (cut_cat hz_1) <| Rc 1 [⟨.d (.str z_1), []⟩] <| Rk <| Sq <| Sq <| Ro <| Rc 2 [vp [1] 0 2, ⟨.d (.sl (List.map id b_.Blocks)), []⟩] <| Rt (some 17) .lenL [] none [.d (.sl (List.map id b_.Blocks))] (.i (b_.Blocks.length : Int)) [] (cut_len _) <| Rc 1 [vb ((b_.Blocks.length : Int) == 0)] <| Rk ?_
 cases hb_1 : (((b_.Blocks.length : Int) == 0) : Bool) with
 | true =>
  replace h := ite_t hb_1 h
  refine Ct <| Sq <| Ro <| Rc 3 [⟨.d (.str z_1), []⟩, vp [1] 0 1, ⟨.d (.sl (mY b_.Bytes)), []⟩] <| Rt (some 22) .bytesStr [] none [.d (.sl (mY b_.Bytes))] (.d (.str (b2s b_.Bytes))) [] (cut_bs _) ?_
  obtain ⟨r_3, hr_3, h⟩ := bind_s h
  have hc_3 := hansomref18_Name_L (b2s b_.Bytes) r_3 hr_3
  refine Rt (some 23) (.callf 19) [] none [.d (.str (b2s b_.Bytes))] (.d (.str r_3)) [] (cc hc_3) ?_
  obtain ⟨z_2, hz_2, h⟩ := bind_s h
  refine Rt (some 24) (.bin .add) [] none [.d (.str z_1), .d (.str r_3)] (.d (.str z_2)) [] (cut_cat hz_2) <| Rc 1 [⟨.d (.str z_2), []⟩] <| Rk <| Runs.ret <| kS_ret ?_
  cases h
  exact Fq
 | false =>
  replace h := ite_f hb_1 h
  refine Cf <| Runs.skip <| kS_nrm <| Sq <| Sq <| Ro <| Rc 1 [vi 0] <| Rk <| Runs.block ?_
  obtain ⟨e_1, he_1, h⟩ := bind_s h
  refine Runs.loop (fun x : ((List UInt8) × Int) => hansomref24_Put_l16 self_ b_ x.1 x.2) (fun (x : ((List UInt8) × Int)) (g : Unit) => hansomref24_Put_h16 b_ x.1 x.2) (hansomref24_Put_P16 b_ b_) (fun x g r hr => hansomref24_Put_l16_ok self_ hs_ b_ b_ x.1 x.2  r hr) () he_1 Cz ?_
  rintro ⟨o, s⟩ hp
  obtain ⟨ho, g_1, hk_1⟩ := hp
  have ho' : o = .exit 0 := ho
  subst ho'
  refine kB_hit <| kS_nrm <| Runs.canon _ hk_1 <| Sq <| Ro <| Rc 2 [⟨.d (.str e_1), []⟩, ⟨.d (.str e_1), []⟩] <| Rk <| Runs.ret ?_
  cases h
  exact Fq
theorem hansomref24_Put_L : ∀ (n_ : Nat) (b_ : Block) (r : (List UInt8)) (h : hansomref24_Put n_ b_ = some r), L 52 [.d (Block.d b_)] = some (.d (.str r), [.d (Block.d b_)])
 | 0, b_, r, h => by cases h
 | n_ + 1, b_, r, h => by
  have h : hansomref24_Put_b (hansomref24_Put n_) b_ = some r := h
  obtain ⟨p, ⟨hne, hf⟩, hr⟩ := hansomref24_Put_ok (hansomref24_Put n_) (fun b_ r h => hansomref24_Put_L n_ b_ r h) b_ r h
  obtain ⟨k, hk⟩ := run_of (F := F52) (args := [.d (Block.d b_)]) (ap := [.d (Block.d b_)]) (bx0 := updW (fun _ => none) []) rfl rfl (by kernel_rfl) ⟨p, ⟨hne, hf⟩, hr⟩
  exact lim_run (k := k) rfl hk
def hansomlaw24_IterSpreads_Q (b_ : Block) (deep_ : Int) (r : Bool) (p : Out × St) : Prop := (∀ i, p.1 ≠ .exit i) ∧ finF F9 [.d (Block.d b_), .i deep_] p.2 = some (.b r, [.d (Block.d b_), .i deep_])
theorem hansomlaw24_IterSpreads_ok (b_ : Block) (deep_ : Int) (r : Bool) (h : hansomlaw24_IterSpreads b_ deep_ = some r) : Runs L F9.body ⟨tmOf [.d (Block.d b_), .i deep_] 0, updW (fun _ => none) []⟩ (hansomlaw24_IterSpreads_Q b_ deep_ r) := by
 unfold hansomlaw24_IterSpreads at h
 refine Sq <| Ro <| Rc 2 [⟨.ptr [2] 0 0, [([2], some (.cells [.i b_.Times, .d (.sl (mY b_.Bytes)), .d (.sl (List.map id b_.Blocks))] 0))]⟩, vb false] <| Rk <| Sq <| Ro <| Rc 4 [⟨.d (Block.d b_), []⟩, vi deep_, vi (bitsOp .and .i64 deep_ 3), vi (IntKind.wrap .i64 ((bitsOp .and .i64 deep_ 3) + 1))] ?_
 obtain ⟨r_1, hr_1, h⟩ := bind_s h
 have hc_1 := hansomref24_Near_L 64 b_ (IntKind.wrap .i64 ((bitsOp .and .i64 deep_ 3) + 1)) r_1 hr_1
 refine Rt (some 13) (.callf 45) [] none [.d (Block.d b_), .i (IntKind.wrap .i64 ((bitsOp .and .i64 deep_ 3) + 1))] (.d (Block.d r_1)) [] (cc hc_1) <| Rc 2 [⟨.ptr [5] 0 0, [([5], some (.cells [.i 0, .nils, .nils] 0))]⟩, ⟨.tup [], [([5], some (.cells [.i r_1.Times, .d (.sl (mY r_1.Bytes)), .d (.sl (List.map id r_1.Blocks))] 0))]⟩] <| Rk <| Sq <| Ro <| Rc 1 [⟨.d (Block.d r_1), []⟩] ?_
 obtain ⟨r_2, hr_2, h⟩ := bind_s h
 have hc_2 := hansomref24_Spread_L 64 r_1 r_2 hr_2
 refine Rt (some 15) (.callf 46) [] none [.d (Block.d r_1)] (.d (.str r_2)) [] (cc hc_2) <| Rc 1 [⟨.d (.str r_2), []⟩] <| Rk <| Sq <| Ro <| Rc 1 [⟨.d (Block.d r_1), []⟩] ?_
 obtain ⟨r_3, hr_3, h⟩ := bind_s h
 have hc_3 := iter_Spread_L 64 r_1 r_3 hr_3
 refine Rt (some 18) (.callf 47) [] none [.d (Block.d r_1)] (.tup [.d (.sl (mY r_3.1)), .b r_3.2]) [] (cc hc_3) <| Rc 5 [⟨.tup [.d (.sl (mY r_3.1)), .b r_3.2], []⟩, ⟨.d (.sl (mY r_3.1)), []⟩, vb r_3.2, ⟨.d (.sl (mY r_3.1)), []⟩, vb r_3.2] <| Rk <| Sq <| Ro ?_
 obtain ⟨r_4, hr_4, h⟩ := bind_s h
 have hc_4 := hansomlaw24_awake_L r_4 hr_4
 refine Rt (some 21) (.callf 48) [] none [] (.b r_4) [] (cc hc_4) <| Rc 1 [vb r_4] ?_
 cases hb_1 : (r_4 : Bool) with
 | true =>
  replace h := ite_t hb_1 h
  refine Rc 1 [⟨.d (Block.d r_1), []⟩] ?_
  obtain ⟨r_5, hr_5, h⟩ := bind_s h
  have hc_5 := iter_May_L r_1 r_5 hr_5
  refine Rt (some 24) (.callf 49) [] none [.d (Block.d r_1)] (.b r_5) [] (cc hc_5) <| Rc 2 [vb r_5, vb r_5] ?_
  cases hb_2 : (r_5 : Bool) with
  | true =>
   replace h := ite_t hb_2 h
   refine Rc 3 [vb r_3.2, vb r_3.2, vb r_3.2] ?_
   cases hb_3 : (r_3.2 : Bool) with
   | true =>
    replace h := ite_t hb_3 h
    refine Rc 1 [⟨.d (.sl (mY r_3.1)), []⟩] <| Rt (some 31) .bytesStr [] none [.d (.sl (mY r_3.1))] (.d (.str (b2s r_3.1))) [] (cut_bs _) <| Rc 4 [⟨.d (.str r_2), []⟩, vb ((b2s r_3.1) == r_2), vb ((b2s r_3.1) == r_2), vb ((b2s r_3.1) == r_2)] ?_
    cases hb_4 : (((b2s r_3.1) == r_2) : Bool) with
    | true =>
     replace h := ite_t hb_4 h
     refine Rc 1 [⟨.d (Block.d r_1), []⟩] ?_
     obtain ⟨r_6, hr_6, h⟩ := bind_s h
     have hc_6 := iter_Size_L 64 r_1 r_6 hr_6
     refine Rt (some 37) (.callf 50) [] none [.d (Block.d r_1)] (.i r_6) [] (cc hc_6) <| Rc 1 [⟨.d (.str r_2), []⟩] <| Rt (some 39) .lenS [] none [.d (.str r_2)] (.i (r_2.length : Int)) [] (cut_lenS _) <| Rc 3 [vb (r_6 == (r_2.length : Int)), vb (r_6 == (r_2.length : Int)), vb (r_6 == (r_2.length : Int))] ?_
     cases hb_5 : ((r_6 == (r_2.length : Int)) : Bool) with
     | true =>
      replace h := ite_t hb_5 h
      refine Rc 1 [⟨.d (Block.d r_1), []⟩] ?_
      obtain ⟨r_7, hr_7, h⟩ := bind_s h
      have hc_7 := iter_Put_L 64 r_1 r_7 hr_7
      refine Rt (some 44) (.callf 51) [] (some []) [.d (Block.d r_1)] (.d (.sl (mY r_7))) [] (cc hc_7) <| Rt (some 45) .bytesStr [[47]] none [.d (.sl (mY r_7))] (.d (.str (b2s r_7))) [] (cut_bs _) <| Rc 1 [⟨.d (Block.d r_1), []⟩] ?_
      obtain ⟨r_8, hr_8, h⟩ := bind_s h
      have hc_8 := hansomref24_Put_L 64 r_1 r_8 hr_8
      refine Rt (some 47) (.callf 52) [] (some []) [.d (Block.d r_1)] (.d (.str r_8)) [] (cc hc_8) <| Rc 3 [vb ((b2s r_7) == r_8), vb ((b2s r_7) == r_8), vb ((b2s r_7) == r_8)] <| Rk <| Runs.ret ?_
      cases h
      exact Fq
     | false =>
      replace h := ite_f hb_5 h
      refine Rc 8 [vn, vn, vn, vn, vn, vn, vb false, vb false] <| Rk <| Runs.ret ?_
      cases h
      exact Fq
    | false =>
     replace h := ite_f hb_4 h
     refine Rc 15 [vn, vn, vn, vn, vn, vb false, vb false, vn, vn, vn, vn, vn, vn, vb false, vb false] <| Rk <| Runs.ret ?_
     cases h
     exact Fq
   | false =>
    replace h := ite_f hb_3 h
    refine Rc 21 [vn, vn, vn, vn, vb false, vb false, vn, vn, vn, vn, vn, vb false, vb false, vn, vn, vn, vn, vn, vn, vb false, vb false] <| Rk <| Runs.ret ?_
    cases h
    exact Fq
  | false =>
   replace h := ite_f hb_2 h
   refine Rc 24 [vn, vb false, vb false, vn, vn, vn, vn, vb false, vb false, vn, vn, vn, vn, vn, vb false, vb false, vn, vn, vn, vn, vn, vn, vb false, vb false] <| Rk <| Runs.ret ?_
   cases h
   exact Fq
 | false =>
  replace h := ite_f hb_1 h
  refine Rc 28 [vn, vn, vb false, vb false, vn, vb false, vb false, vn, vn, vn, vn, vb false, vb false, vn, vn, vn, vn, vn, vb false, vb false, vn, vn, vn, vn, vn, vn, vb false, vb false] <| Rk <| Runs.ret ?_
  cases h
  exact Fq
theorem hansomlaw24_IterSpreads_L (b_ : Block) (deep_ : Int) (r : Bool) (h : hansomlaw24_IterSpreads b_ deep_ = some r) : L 9 [.d (Block.d b_), .i deep_] = some (.b r, [.d (Block.d b_), .i deep_]) := by
 obtain ⟨p, ⟨hne, hf⟩, hr⟩ := hansomlaw24_IterSpreads_ok b_ deep_ r h
 obtain ⟨k, hk⟩ := run_of (F := F9) (args := [.d (Block.d b_), .i deep_]) (ap := [.d (Block.d b_), .i deep_]) (bx0 := updW (fun _ => none) []) rfl rfl (by kernel_rfl) ⟨p, ⟨hne, hf⟩, hr⟩
 exact lim_run (k := k) rfl hk
end Go.Es.Its
