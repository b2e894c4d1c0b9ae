/- The interpreter answers as plain Lean does: part 2. No condition. -/
import Derived.Test.YtbdmoaofbacfpaaDoorPkjF
import Derived.Test.YtbdmoaofbacfpaaDoorPkjP
import Derived.KernelRfl
import Derived.Test.YtbdmoaofbacfpaaDoorPkjS0
set_option linter.unusedVariables false
set_option linter.unusedSimpArgs false
set_option maxRecDepth 100000
set_option maxHeartbeats 4000000
namespace Go.Es.Pkj
theorem pick_build_j10_ok (first_ : Int) (reg_ : Int) (r_ : Row) (ops_ : (A2 Operand)) (r6 : Row) (ops7 : (A2 Operand)) (b_8 : Choice) (c9 : Choice) (r : Choice) (h : pick_build_j10 r6 ops7 b_8 c9 = some r) : Runs L F30b10 (pick_build_h10 r6 ops7 b_8 c9) (pick_build_Q first_ reg_ r_ ops_ r) := by
 unfold pick_build_j10 at h
 refine Sq <| Sq <| Ro <| Rc 6 [vp [6] 0 1, vi r6.A, vp [6] 0 2, vi r6.B, ⟨.d (.agg [.int .i64 r6.A, .int .i64 r6.B]), []⟩, vi 0] <| Rk <| Runs.block ?_
 obtain ⟨e_1, he_1, h⟩ := bind_s h
 refine Runs.loop (fun x : (Choice × Int) => pick_build_l14 ops7 b_8 x.1 ({ a0 := r6.A, a1 := r6.B } : (A2 Int)) x.2) (fun (x : (Choice × Int)) (g : Unit) => pick_build_h14 ops7 b_8 x.1 ({ a0 := r6.A, a1 := r6.B } : (A2 Int)) x.2) (pick_build_P14 first_ reg_ r_ ops_ ops7 b_8 ({ a0 := r6.A, a1 := r6.B } : (A2 Int))) (fun x g r hr => pick_build_l14_ok first_ reg_ r_ ops_ ops7 b_8 x.1 ({ a0 := r6.A, a1 := r6.B } : (A2 Int)) x.2  r hr) () he_1 Cz ?_
 rintro ⟨o, s⟩ hp
 obtain ⟨ho, g_1, hk_1⟩ := hp
 have ho' : o = .exit 0 := ho
 subst ho'
 refine kB_hit <| kS_nrm <| Runs.canon _ hk_1 <| Sq <| Ro <| Rc 2 [⟨.d (Choice.d e_1), []⟩, ⟨.tup [], [([8], some (.cells [.b e_1.I.Lock, .i e_1.I.Rep, .i e_1.I.Seg, .y e_1.I.Op, .i e_1.I.Mod, .i e_1.I.Reg, .i e_1.I.RM, .w e_1.I.Disp, .w e_1.I.Imm, .w e_1.I.Sel, .i e_1.Disp.N, .i e_1.Disp.From, .i e_1.Disp.Which, .i e_1.Disp.Type_, .i e_1.Disp.Wants, .b e_1.Disp.Known, .i e_1.Imm.N, .i e_1.Imm.From, .i e_1.Imm.Which, .i e_1.Imm.Type_, .i e_1.Imm.Wants, .b e_1.Imm.Known, .b e_1.HasD, .b e_1.HasI, .b e_1.Jumps] 0))]⟩] <| Rk <| Runs.ret ?_
 cases h
 exact Fq
theorem pick_build_ok (first_ : Int) (reg_ : Int) (r_ : Row) (ops_ : (A2 Operand)) (r : Choice) (h : pick_build first_ reg_ r_ ops_ = some r) : Runs L F30.body ⟨tmOf [.y first_, .i reg_, .d (Row.d r_), .d (.agg [.int .i64 ops_.a0.Kind, .int .i64 ops_.a0.N, .int .i64 ops_.a0.RM, .int .i64 ops_.a0.V.N, .int .i64 ops_.a0.V.From, .int .i64 ops_.a0.V.Which, .int .i64 ops_.a0.V.Type_, .int .i64 ops_.a0.V.Wants, .bool ops_.a0.V.Known, .int .i64 ops_.a0.Type_, .int .i64 ops_.a0.Over, .bool ops_.a0.Short, .int .i64 ops_.a1.Kind, .int .i64 ops_.a1.N, .int .i64 ops_.a1.RM, .int .i64 ops_.a1.V.N, .int .i64 ops_.a1.V.From, .int .i64 ops_.a1.V.Which, .int .i64 ops_.a1.V.Type_, .int .i64 ops_.a1.V.Wants, .bool ops_.a1.V.Known, .int .i64 ops_.a1.Type_, .int .i64 ops_.a1.Over, .bool ops_.a1.Short])] 0, updW (fun _ => none) []⟩ (pick_build_Q first_ reg_ r_ ops_ r) := by
 unfold pick_build at h
 refine Sq <| Ro <| Rc 3 [⟨.ptr [6] 0 0, [([6], some (.cells [.i r_.Name, .i r_.A, .i r_.B, .b r_.Mod] 0))]⟩, ⟨.ptr [7] 0 0, [([7], some (.cells [.i ops_.a0.Kind, .i ops_.a0.N, .i ops_.a0.RM, .i ops_.a0.V.N, .i ops_.a0.V.From, .i ops_.a0.V.Which, .i ops_.a0.V.Type_, .i ops_.a0.V.Wants, .b ops_.a0.V.Known, .i ops_.a0.Type_, .i ops_.a0.Over, .b ops_.a0.Short, .i ops_.a1.Kind, .i ops_.a1.N, .i ops_.a1.RM, .i ops_.a1.V.N, .i ops_.a1.V.From, .i ops_.a1.V.Which, .i ops_.a1.V.Type_, .i ops_.a1.V.Wants, .b ops_.a1.V.Known, .i ops_.a1.Type_, .i ops_.a1.Over, .b ops_.a1.Short] 0))]⟩, ⟨.ptr [8] 0 0, [([8], some (.cells [.b false, .i 0, .i 0, .y 0, .i 0, .i 0, .i 0, .w 0, .w 0, .w 0, .i 0, .i 0, .i 0, .i 0, .i 0, .b false, .i 0, .i 0, .i 0, .i 0, .i 0, .b false, .b false, .b false, .b false] 0))]⟩] <| Rk <| Sq <| Ro <| Rc 5 [vy first_, ⟨.d (.agg [.bool false, .int .i64 0, .int .i64 0, .int .u8 first_, .int .i64 0, .int .i64 0, .int .i64 0, .int .u16 0, .int .u16 0, .int .u16 0]), []⟩, ⟨.d (.agg [.bool false, .int .i64 0, .int .i64 0, .int .u8 first_, .int .i64 0, .int .i64 0, .int .i64 0, .int .u16 0, .int .u16 0, .int .u16 0, .int .i64 0, .int .i64 0, .int .i64 0, .int .i64 0, .int .i64 0, .bool false, .int .i64 0, .int .i64 0, .int .i64 0, .int .i64 0, .int .i64 0, .bool false, .bool false, .bool false, .bool false]), []⟩, ⟨.ptr [9] 0 0, [([9], some (.cells [.b false, .i 0, .i 0, .y 0, .i 0, .i 0, .i 0, .w 0, .w 0, .w 0, .i 0, .i 0, .i 0, .i 0, .i 0, .b false, .i 0, .i 0, .i 0, .i 0, .i 0, .b false, .b false, .b false, .b false] 0))]⟩, ⟨.tup [], [([9], some (.cells [.b false, .i 0, .i 0, .y first_, .i 0, .i 0, .i 0, .w 0, .w 0, .w 0, .i 0, .i 0, .i 0, .i 0, .i 0, .b false, .i 0, .i 0, .i 0, .i 0, .i 0, .b false, .b false, .b false, .b false] 0))]⟩] ?_
 refine Rk <| Sq <| Sq <| Ro <| Rc 3 [vp [6] 0 3, vb r_.Mod, vb r_.Mod] ?_
 cases hb_1 : (r_.Mod : Bool) with
 | true =>
  replace h := ite_t hb_1 h
  refine Rc 1 [vy first_] ?_
  obtain ⟨r_1, hr_1, h⟩ := bind_s h
  have hc_1 := isa_Grouped_L first_ r_1 hr_1
  refine Rt (some 19) (.callf 25) [] none [.y first_] (.b r_1) [] (cc hc_1) <| Rc 1 [vb r_1] <| Rk ?_
  cases hb_2 : (r_1 : Bool) with
  | true =>
   replace h := ite_t hb_2 h
   refine Ct <| Ro <| Rc 4 [vi reg_, vp [9] 0 0, vp [9] 0 5, ⟨.tup [], [([9], some (.cells [.b false, .i 0, .i 0, .y first_, .i 0, .i reg_, .i 0, .w 0, .w 0, .w 0, .i 0, .i 0, .i 0, .i 0, .i 0, .b false, .i 0, .i 0, .i 0, .i 0, .i 0, .b false, .b false, .b false, .b false] 0))]⟩] <| Rk <| Runs.canon (pick_build_h10 ({ r_ with Mod := true } : Row) ops_ ({ I := ({ Lock := false, Rep := 0, Seg := 0, Op := 0, Mod := 0, Reg := 0, RM := 0, Disp := 0, Imm := 0, Sel := 0 } : Inst), Disp := ({ N := 0, From := 0, Which := 0, Type_ := 0, Wants := 0, Known := false } : api_Value), Imm := ({ N := 0, From := 0, Which := 0, Type_ := 0, Wants := 0, Known := false } : api_Value), HasD := false, HasI := false, Jumps := false } : Choice) ({ I := ({ Lock := false, Rep := 0, Seg := 0, Op := first_, Mod := 0, Reg := reg_, RM := 0, Disp := 0, Imm := 0, Sel := 0 } : Inst), Disp := ({ N := 0, From := 0, Which := 0, Type_ := 0, Wants := 0, Known := false } : api_Value), Imm := ({ N := 0, From := 0, Which := 0, Type_ := 0, Wants := 0, Known := false } : api_Value), HasD := false, HasI := false, Jumps := false } : Choice)) Cz ?_
   exact pick_build_j10_ok first_ reg_ r_ ops_ ({ r_ with Mod := true } : Row) ops_ ({ I := ({ Lock := false, Rep := 0, Seg := 0, Op := 0, Mod := 0, Reg := 0, RM := 0, Disp := 0, Imm := 0, Sel := 0 } : Inst), Disp := ({ N := 0, From := 0, Which := 0, Type_ := 0, Wants := 0, Known := false } : api_Value), Imm := ({ N := 0, From := 0, Which := 0, Type_ := 0, Wants := 0, Known := false } : api_Value), HasD := false, HasI := false, Jumps := false } : Choice) ({ I := ({ Lock := false, Rep := 0, Seg := 0, Op := first_, Mod := 0, Reg := reg_, RM := 0, Disp := 0, Imm := 0, Sel := 0 } : Inst), Disp := ({ N := 0, From := 0, Which := 0, Type_ := 0, Wants := 0, Known := false } : api_Value), Imm := ({ N := 0, From := 0, Which := 0, Type_ := 0, Wants := 0, Known := false } : api_Value), HasD := false, HasI := false, Jumps := false } : Choice) r h
  | false =>
   replace h := ite_f hb_2 h
   refine Cf <| Runs.skip <| kS_nrm <| Runs.canon (pick_build_h10 ({ r_ with Mod := true } : Row) ops_ ({ I := ({ Lock := false, Rep := 0, Seg := 0, Op := 0, Mod := 0, Reg := 0, RM := 0, Disp := 0, Imm := 0, Sel := 0 } : Inst), Disp := ({ N := 0, From := 0, Which := 0, Type_ := 0, Wants := 0, Known := false } : api_Value), Imm := ({ N := 0, From := 0, Which := 0, Type_ := 0, Wants := 0, Known := false } : api_Value), HasD := false, HasI := false, Jumps := false } : Choice) ({ I := ({ Lock := false, Rep := 0, Seg := 0, Op := first_, Mod := 0, Reg := 0, RM := 0, Disp := 0, Imm := 0, Sel := 0 } : Inst), Disp := ({ N := 0, From := 0, Which := 0, Type_ := 0, Wants := 0, Known := false } : api_Value), Imm := ({ N := 0, From := 0, Which := 0, Type_ := 0, Wants := 0, Known := false } : api_Value), HasD := false, HasI := false, Jumps := false } : Choice)) Cz ?_
   exact pick_build_j10_ok first_ reg_ r_ ops_ ({ r_ with Mod := true } : Row) ops_ ({ I := ({ Lock := false, Rep := 0, Seg := 0, Op := 0, Mod := 0, Reg := 0, RM := 0, Disp := 0, Imm := 0, Sel := 0 } : Inst), Disp := ({ N := 0, From := 0, Which := 0, Type_ := 0, Wants := 0, Known := false } : api_Value), Imm := ({ N := 0, From := 0, Which := 0, Type_ := 0, Wants := 0, Known := false } : api_Value), HasD := false, HasI := false, Jumps := false } : Choice) ({ I := ({ Lock := false, Rep := 0, Seg := 0, Op := first_, Mod := 0, Reg := 0, RM := 0, Disp := 0, Imm := 0, Sel := 0 } : Inst), Disp := ({ N := 0, From := 0, Which := 0, Type_ := 0, Wants := 0, Known := false } : api_Value), Imm := ({ N := 0, From := 0, Which := 0, Type_ := 0, Wants := 0, Known := false } : api_Value), HasD := false, HasI := false, Jumps := false } : Choice) r h
 | false =>
  replace h := ite_f hb_1 h
  refine Rc 3 [vn, vn, vb false] <| Rk <| Cf <| Runs.skip <| kS_nrm <| Runs.canon (pick_build_h10 ({ r_ with Mod := false } : Row) ops_ ({ I := ({ Lock := false, Rep := 0, Seg := 0, Op := 0, Mod := 0, Reg := 0, RM := 0, Disp := 0, Imm := 0, Sel := 0 } : Inst), Disp := ({ N := 0, From := 0, Which := 0, Type_ := 0, Wants := 0, Known := false } : api_Value), Imm := ({ N := 0, From := 0, Which := 0, Type_ := 0, Wants := 0, Known := false } : api_Value), HasD := false, HasI := false, Jumps := false } : Choice) ({ I := ({ Lock := false, Rep := 0, Seg := 0, Op := first_, Mod := 0, Reg := 0, RM := 0, Disp := 0, Imm := 0, Sel := 0 } : Inst), Disp := ({ N := 0, From := 0, Which := 0, Type_ := 0, Wants := 0, Known := false } : api_Value), Imm := ({ N := 0, From := 0, Which := 0, Type_ := 0, Wants := 0, Known := false } : api_Value), HasD := false, HasI := false, Jumps := false } : Choice)) Cz ?_
  exact pick_build_j10_ok first_ reg_ r_ ops_ ({ r_ with Mod := false } : Row) ops_ ({ I := ({ Lock := false, Rep := 0, Seg := 0, Op := 0, Mod := 0, Reg := 0, RM := 0, Disp := 0, Imm := 0, Sel := 0 } : Inst), Disp := ({ N := 0, From := 0, Which := 0, Type_ := 0, Wants := 0, Known := false } : api_Value), Imm := ({ N := 0, From := 0, Which := 0, Type_ := 0, Wants := 0, Known := false } : api_Value), HasD := false, HasI := false, Jumps := false } : Choice) ({ I := ({ Lock := false, Rep := 0, Seg := 0, Op := first_, Mod := 0, Reg := 0, RM := 0, Disp := 0, Imm := 0, Sel := 0 } : Inst), Disp := ({ N := 0, From := 0, Which := 0, Type_ := 0, Wants := 0, Known := false } : api_Value), Imm := ({ N := 0, From := 0, Which := 0, Type_ := 0, Wants := 0, Known := false } : api_Value), HasD := false, HasI := false, Jumps := false } : Choice) r h
theorem pick_build_L (first_ : Int) (reg_ : Int) (r_ : Row) (ops_ : (A2 Operand)) (r : Choice) (h : pick_build first_ reg_ r_ ops_ = some r) : L 30 [.y first_, .i reg_, .d (Row.d r_), .d (.agg [.int .i64 ops_.a0.Kind, .int .i64 ops_.a0.N, .int .i64 ops_.a0.RM, .int .i64 ops_.a0.V.N, .int .i64 ops_.a0.V.From, .int .i64 ops_.a0.V.Which, .int .i64 ops_.a0.V.Type_, .int .i64 ops_.a0.V.Wants, .bool ops_.a0.V.Known, .int .i64 ops_.a0.Type_, .int .i64 ops_.a0.Over, .bool ops_.a0.Short, .int .i64 ops_.a1.Kind, .int .i64 ops_.a1.N, .int .i64 ops_.a1.RM, .int .i64 ops_.a1.V.N, .int .i64 ops_.a1.V.From, .int .i64 ops_.a1.V.Which, .int .i64 ops_.a1.V.Type_, .int .i64 ops_.a1.V.Wants, .bool ops_.a1.V.Known, .int .i64 ops_.a1.Type_, .int .i64 ops_.a1.Over, .bool ops_.a1.Short])] = some (.d (Choice.d r), [.y first_, .i reg_, .d (Row.d r_), .d (.agg [.int .i64 ops_.a0.Kind, .int .i64 ops_.a0.N, .int .i64 ops_.a0.RM, .int .i64 ops_.a0.V.N, .int .i64 ops_.a0.V.From, .int .i64 ops_.a0.V.Which, .int .i64 ops_.a0.V.Type_, .int .i64 ops_.a0.V.Wants, .bool ops_.a0.V.Known, .int .i64 ops_.a0.Type_, .int .i64 ops_.a0.Over, .bool ops_.a0.Short, .int .i64 ops_.a1.Kind, .int .i64 ops_.a1.N, .int .i64 ops_.a1.RM, .int .i64 ops_.a1.V.N, .int .i64 ops_.a1.V.From, .int .i64 ops_.a1.V.Which, .int .i64 ops_.a1.V.Type_, .int .i64 ops_.a1.V.Wants, .bool ops_.a1.V.Known, .int .i64 ops_.a1.Type_, .int .i64 ops_.a1.Over, .bool ops_.a1.Short])]) := by
 obtain ⟨p, ⟨hne, hf⟩, hr⟩ := pick_build_ok first_ reg_ r_ ops_ r h
 obtain ⟨k, hk⟩ := run_of (F := F30) (args := [.y first_, .i reg_, .d (Row.d r_), .d (.agg [.int .i64 ops_.a0.Kind, .int .i64 ops_.a0.N, .int .i64 ops_.a0.RM, .int .i64 ops_.a0.V.N, .int .i64 ops_.a0.V.From, .int .i64 ops_.a0.V.Which, .int .i64 ops_.a0.V.Type_, .int .i64 ops_.a0.V.Wants, .bool ops_.a0.V.Known, .int .i64 ops_.a0.Type_, .int .i64 ops_.a0.Over, .bool ops_.a0.Short, .int .i64 ops_.a1.Kind, .int .i64 ops_.a1.N, .int .i64 ops_.a1.RM, .int .i64 ops_.a1.V.N, .int .i64 ops_.a1.V.From, .int .i64 ops_.a1.V.Which, .int .i64 ops_.a1.V.Type_, .int .i64 ops_.a1.V.Wants, .bool ops_.a1.V.Known, .int .i64 ops_.a1.Type_, .int .i64 ops_.a1.Over, .bool ops_.a1.Short])]) (ap := [.y first_, .i reg_, .d (Row.d r_), .d (.agg [.int .i64 ops_.a0.Kind, .int .i64 ops_.a0.N, .int .i64 ops_.a0.RM, .int .i64 ops_.a0.V.N, .int .i64 ops_.a0.V.From, .int .i64 ops_.a0.V.Which, .int .i64 ops_.a0.V.Type_, .int .i64 ops_.a0.V.Wants, .bool ops_.a0.V.Known, .int .i64 ops_.a0.Type_, .int .i64 ops_.a0.Over, .bool ops_.a0.Short, .int .i64 ops_.a1.Kind, .int .i64 ops_.a1.N, .int .i64 ops_.a1.RM, .int .i64 ops_.a1.V.N, .int .i64 ops_.a1.V.From, .int .i64 ops_.a1.V.Which, .int .i64 ops_.a1.V.Type_, .int .i64 ops_.a1.V.Wants, .bool ops_.a1.V.Known, .int .i64 ops_.a1.Type_, .int .i64 ops_.a1.Over, .bool ops_.a1.Short])]) (bx0 := updW (fun _ => none) []) rfl rfl (by kernel_rfl) ⟨p, ⟨hne, hf⟩, hr⟩
 exact lim_run (k := k) rfl hk
def inst_Row_Q (i_ : Inst) (r : (Row × Bool)) (p : Out × St) : Prop := (∀ i, p.1 ≠ .exit i) ∧ finF F34 [.d (Inst.d i_)] p.2 = some (.tup [.d (Row.d r.1), .b r.2], [.d (Inst.d i_)])
theorem inst_Row_ok (i_ : Inst) (r : (Row × Bool)) (h : inst_Row i_ = some r) : Runs L F34.body ⟨tmOf [.d (Inst.d i_)] 0, updW (fun _ => none) []⟩ (inst_Row_Q i_ r) := by
 unfold inst_Row at h
 refine Sq <| Ro <| Rc 3 [⟨.ptr [1] 0 0, [([1], some (.cells [.b i_.Lock, .i i_.Rep, .i i_.Seg, .y i_.Op, .i i_.Mod, .i i_.Reg, .i i_.RM, .w i_.Disp, .w i_.Imm, .w i_.Sel] 0))]⟩, ⟨.ptr [2] 0 0, [([2], some (.cells [.i 0, .i 0, .i 0, .b false] 0))]⟩, vb false] <| Rk <| Sq <| Sq <| Ro <| Rc 2 [vp [1] 0 3, vy i_.Op] ?_
 obtain ⟨r_1, hr_1, h⟩ := bind_s h
 have hc_1 := isa_Prefix_L i_.Op r_1 hr_1
 refine Rt (some 6) (.callf 26) [] none [.y i_.Op] (.b r_1) [] (cc hc_1) <| Rk ?_
 cases hb_1 : (r_1 : Bool) with
 | true =>
  replace h := ite_t hb_1 h
  refine Ct <| Sq <| Ro <| Rc 3 [⟨.d (.agg [.int .i64 0, .int .i64 0, .int .i64 0, .bool false]), []⟩, ⟨.tup [], [([2], some (.cells [.i 0, .i 0, .i 0, .b false] 0))]⟩, vb false] <| Rk <| Runs.ret <| kS_ret ?_
  cases h
  exact Fq
 | false =>
  replace h := ite_f hb_1 h
  refine Cf <| Runs.skip <| kS_nrm <| Sq <| Ro <| Rc 4 [vp [1] 0 3, vy i_.Op, vp [1] 0 5, vi i_.Reg] ?_
  obtain ⟨r_2, hr_2, h⟩ := bind_s h
  have hc_2 := isa_Of_L i_.Op i_.Reg r_2 hr_2
  refine Rt (some 12) (.callf 27) [] none [.y i_.Op, .i i_.Reg] (.tup [.d (Row.d r_2.1), .b r_2.2]) [] (cc hc_2) <| Rc 4 [⟨.d (Row.d r_2.1), []⟩, vb r_2.2, ⟨.tup [], [([2], some (.cells [.i r_2.1.Name, .i r_2.1.A, .i r_2.1.B, .b r_2.1.Mod] 0))]⟩, vb r_2.2] <| Rk <| Runs.ret ?_
  cases h
  exact Fq
theorem inst_Row_L (i_ : Inst) (r : (Row × Bool)) (h : inst_Row i_ = some r) : L 34 [.d (Inst.d i_)] = some (.tup [.d (Row.d r.1), .b r.2], [.d (Inst.d i_)]) := by
 obtain ⟨p, ⟨hne, hf⟩, hr⟩ := inst_Row_ok i_ r h
 obtain ⟨k, hk⟩ := run_of (F := F34) (args := [.d (Inst.d i_)]) (ap := [.d (Inst.d i_)]) (bx0 := updW (fun _ => none) []) rfl rfl (by kernel_rfl) ⟨p, ⟨hne, hf⟩, hr⟩
 exact lim_run (k := k) rfl hk
def inst_second_h26 (i2 : Inst) : St := ⟨tab [(2, .ptr [2] 0 0)], tabB [([2], some (.cells [.b i2.Lock, .i i2.Rep, .i i2.Seg, .y i2.Op, .i i2.Mod, .i i2.Reg, .i i2.RM, .w i2.Disp, .w i2.Imm, .w i2.Sel] 0))]⟩
def inst_second_Q (i_ : Inst) (r_ : Row) (r : Bool) (p : Out × St) : Prop := (∀ i, p.1 ≠ .exit i) ∧ finF F68 [.d (Inst.d i_), .d (Row.d r_)] p.2 = some (.b r, [.d (Inst.d i_), .d (Row.d r_)])
theorem inst_second_j26_ok (i_ : Inst) (r_ : Row) (i2 : Inst) (r : Bool) (h : inst_second_j26 i2 = some r) : Runs L F68b26 (inst_second_h26 i2) (inst_second_Q i_ r_ r) := by
 unfold inst_second_j26 at h
 refine Sq <| Sq <| Ro <| Rc 4 [vp [2] 0 4, vi i2.Mod, vp [2] 0 6, vi i2.RM] ?_
 obtain ⟨r_1, hr_1, h⟩ := bind_s h
 have hc_1 := inst_Disps_L i2.Mod i2.RM r_1 hr_1
 refine Rt (some 76) (.callf 36) [] none [.i i2.Mod, .i i2.RM] (.i r_1) [] (cc hc_1) <| Rk <| Runs.block <| Sq <| Ro <| Rc 2 [vb (r_1 == 0), vb (r_1 == 0)] <| Rk ?_
 cases hb_15 : ((r_1 == 0) : Bool) with
 | true =>
  replace h := ite_t hb_15 h
  refine Ct <| Sq <| Ro <| Rc 4 [vp [2] 0 7, vw i2.Disp, vb (i2.Disp == 0), vb (i2.Disp == 0)] <| Rk <| Runs.ret <| kB_ret <| kS_ret ?_
  cases h
  exact Fq
 | false =>
  replace h := ite_f hb_15 h
  refine Cf <| Sq <| Ro <| Rc 2 [vb (r_1 == 1), vb (r_1 == 1)] <| Rk ?_
  cases hb_16 : ((r_1 == 1) : Bool) with
  | true =>
   replace h := ite_t hb_16 h
   refine Ct <| Sq <| Ro <| Rc 2 [vp [2] 0 7, vw i2.Disp] ?_
   obtain ⟨r_2, hr_2, h⟩ := bind_s h
   have hc_2 := bits_Fits_L i2.Disp r_2 hr_2
   refine Rt (some 86) (.callf 74) [] none [.w i2.Disp] (.b r_2) [] (cc hc_2) <| Rc 1 [vb r_2] <| Rk <| Runs.ret <| kB_ret <| kS_ret ?_
   cases h
   exact Fq
  | false =>
   replace h := ite_f hb_16 h
   refine Cf <| Runs.skip <| kB_nrm <| kS_nrm <| Sq <| Ro <| Rc 1 [vb true] <| Rk <| Runs.ret ?_
   cases h
   exact Fq
theorem inst_second_ok (i_ : Inst) (r_ : Row) (r : Bool) (h : inst_second i_ r_ = some r) : Runs L F68.body ⟨tmOf [.d (Inst.d i_), .d (Row.d r_)] 0, updW (fun _ => none) []⟩ (inst_second_Q i_ r_ r) := by
 unfold inst_second at h
 refine Sq <| Ro <| Rc 3 [⟨.ptr [2] 0 0, [([2], some (.cells [.b i_.Lock, .i i_.Rep, .i i_.Seg, .y i_.Op, .i i_.Mod, .i i_.Reg, .i i_.RM, .w i_.Disp, .w i_.Imm, .w i_.Sel] 0))]⟩, ⟨.ptr [3] 0 0, [([3], some (.cells [.i r_.Name, .i r_.A, .i r_.B, .b r_.Mod] 0))]⟩, vb false] <| Rk <| Sq <| Sq <| Ro <| Rc 3 [vp [3] 0 3, vb r_.Mod, vb (!r_.Mod)] <| Rk ?_
 cases hb_1 : ((!r_.Mod) : Bool) with
 | true =>
  replace h := ite_t hb_1 h
  refine Ct <| Sq <| Ro <| Rc 4 [vp [2] 0 4, vi i_.Mod, vb (i_.Mod == 0), vb (i_.Mod == 0)] ?_
  cases hb_2 : ((i_.Mod == 0) : Bool) with
  | true =>
   replace h := ite_t hb_2 h
   refine Rc 5 [vp [2] 0 5, vi i_.Reg, vb (i_.Reg == 0), vb (i_.Reg == 0), vb (i_.Reg == 0)] ?_
   cases hb_3 : ((i_.Reg == 0) : Bool) with
   | true =>
    replace h := ite_t hb_3 h
    refine Rc 5 [vp [2] 0 6, vi i_.RM, vb (i_.RM == 0), vb (i_.RM == 0), vb (i_.RM == 0)] ?_
    cases hb_4 : ((i_.RM == 0) : Bool) with
    | true =>
     replace h := ite_t hb_4 h
     refine Rc 5 [vp [2] 0 7, vw i_.Disp, vb (i_.Disp == 0), vb (i_.Disp == 0), vb (i_.Disp == 0)] <| Rk <| Runs.ret <| kS_ret ?_
     cases h
     exact Fq
    | false =>
     replace h := ite_f hb_4 h
     refine Rc 5 [vn, vn, vn, vb false, vb false] <| Rk <| Runs.ret <| kS_ret ?_
     cases h
     exact Fq
   | false =>
    replace h := ite_f hb_3 h
    refine Rc 10 [vn, vn, vn, vb false, vb false, vn, vn, vn, vb false, vb false] <| Rk <| Runs.ret <| kS_ret ?_
    cases h
    exact Fq
  | false =>
   replace h := ite_f hb_2 h
   refine Rc 15 [vn, vn, vn, vb false, vb false, vn, vn, vn, vb false, vb false, vn, vn, vn, vb false, vb false] <| Rk <| Runs.ret <| kS_ret ?_
   cases h
   exact Fq
 | false =>
  replace h := ite_f hb_1 h
  refine Cf <| Runs.skip <| kS_nrm <| Sq <| Sq <| Ro <| Rc 4 [vp [2] 0 4, vi i_.Mod, vb (decide (i_.Mod < 0)), vb (decide (i_.Mod < 0))] ?_
  cases hb_5 : ((decide (i_.Mod < 0)) : Bool) with
  | true =>
   replace h := ite_t hb_5 h
   refine Rc 24 [vn, vn, vn, vb true, vb true, vn, vn, vn, vb true, vb true, vn, vn, vn, vb true, vb true, vn, vn, vn, vb true, vb true, vn, vn, vn, vb true] <| Rk <| Ct <| Sq <| Ro <| Rc 1 [vb false] <| Rk <| Runs.ret <| kS_ret ?_
   cases h
   exact Fq
  | false =>
   replace h := ite_f hb_5 h
   refine Rc 5 [vp [2] 0 4, vi i_.Mod, vb (decide (i_.Mod > 3)), vb (decide (i_.Mod > 3)), vb (decide (i_.Mod > 3))] ?_
   cases hb_6 : ((decide (i_.Mod > 3)) : Bool) with
   | true =>
    replace h := ite_t hb_6 h
    refine Rc 19 [vn, vn, vn, vb true, vb true, vn, vn, vn, vb true, vb true, vn, vn, vn, vb true, vb true, vn, vn, vn, vb true] <| Rk <| Ct <| Sq <| Ro <| Rc 1 [vb false] <| Rk <| Runs.ret <| kS_ret ?_
    cases h
    exact Fq
   | false =>
    replace h := ite_f hb_6 h
    refine Rc 5 [vp [2] 0 5, vi i_.Reg, vb (decide (i_.Reg < 0)), vb (decide (i_.Reg < 0)), vb (decide (i_.Reg < 0))] ?_
    cases hb_7 : ((decide (i_.Reg < 0)) : Bool) with
    | true =>
     replace h := ite_t hb_7 h
     refine Rc 14 [vn, vn, vn, vb true, vb true, vn, vn, vn, vb true, vb true, vn, vn, vn, vb true] <| Rk <| Ct <| Sq <| Ro <| Rc 1 [vb false] <| Rk <| Runs.ret <| kS_ret ?_
     cases h
     exact Fq
    | false =>
     replace h := ite_f hb_7 h
     refine Rc 5 [vp [2] 0 5, vi i_.Reg, vb (decide (i_.Reg > 7)), vb (decide (i_.Reg > 7)), vb (decide (i_.Reg > 7))] ?_
     cases hb_8 : ((decide (i_.Reg > 7)) : Bool) with
     | true =>
      replace h := ite_t hb_8 h
      refine Rc 9 [vn, vn, vn, vb true, vb true, vn, vn, vn, vb true] <| Rk <| Ct <| Sq <| Ro <| Rc 1 [vb false] <| Rk <| Runs.ret <| kS_ret ?_
      cases h
      exact Fq
     | false =>
      replace h := ite_f hb_8 h
      refine Rc 5 [vp [2] 0 6, vi i_.RM, vb (decide (i_.RM < 0)), vb (decide (i_.RM < 0)), vb (decide (i_.RM < 0))] ?_
      cases hb_9 : ((decide (i_.RM < 0)) : Bool) with
      | true =>
       replace h := ite_t hb_9 h
       refine Rc 4 [vn, vn, vn, vb true] <| Rk <| Ct <| Sq <| Ro <| Rc 1 [vb false] <| Rk <| Runs.ret <| kS_ret ?_
       cases h
       exact Fq
      | false =>
       replace h := ite_f hb_9 h
       refine Rc 4 [vp [2] 0 6, vi i_.RM, vb (decide (i_.RM > 7)), vb (decide (i_.RM > 7))] <| Rk ?_
       cases hb_10 : ((decide (i_.RM > 7)) : Bool) with
       | true =>
        replace h := ite_t hb_10 h
        refine Ct <| Sq <| Ro <| Rc 1 [vb false] <| Rk <| Runs.ret <| kS_ret ?_
        cases h
        exact Fq
       | false =>
        replace h := ite_f hb_10 h
        refine Cf <| Runs.skip <| kS_nrm <| Sq <| Sq <| Ro <| Rc 4 [vp [2] 0 4, vi i_.Mod, vb (i_.Mod == 3), vb (i_.Mod == 3)] ?_
        cases hb_11 : ((i_.Mod == 3) : Bool) with
        | true =>
         replace h := ite_t hb_11 h
         refine Rc 4 [vp [3] 0 1, vi r_.A, vb (r_.A == 19), vb (r_.A == 19)] ?_
         cases hb_12 : ((r_.A == 19) : Bool) with
         | true =>
          replace h := ite_t hb_12 h
          refine Rc 10 [vn, vn, vn, vb true, vb true, vn, vn, vn, vb true, vb true] <| Rk <| Ct <| Sq <| Ro <| Rc 1 [vb false] <| Rk <| Runs.ret <| kS_ret ?_
          cases h
          exact Fq
         | false =>
          replace h := ite_f hb_12 h
          refine Rc 5 [vp [3] 0 2, vi r_.B, vb (r_.B == 19), vb (r_.B == 19), vb (r_.B == 19)] ?_
          cases hb_13 : ((r_.B == 19) : Bool) with
          | true =>
           replace h := ite_t hb_13 h
           refine Rc 5 [vn, vn, vn, vb true, vb true] <| Rk <| Ct <| Sq <| Ro <| Rc 1 [vb false] <| Rk <| Runs.ret <| kS_ret ?_
           cases h
           exact Fq
          | false =>
           replace h := ite_f hb_13 h
           refine Rc 5 [vp [3] 0 2, vi r_.B, vb (r_.B == 20), vb (r_.B == 20), vb (r_.B == 20)] <| Rk ?_
           cases hb_14 : ((r_.B == 20) : Bool) with
           | true =>
            replace h := ite_t hb_14 h
            refine Ct <| Sq <| Ro <| Rc 1 [vb false] <| Rk <| Runs.ret <| kS_ret ?_
            cases h
            exact Fq
           | false =>
            replace h := ite_f hb_14 h
            refine Cf <| Runs.skip <| kS_nrm <| Runs.canon (inst_second_h26 i_) Cz ?_
            exact inst_second_j26_ok i_ r_ i_ r h
        | false =>
         replace h := ite_f hb_11 h
         refine Rc 14 [vn, vn, vn, vn, vn, vn, vn, vn, vn, vn, vn, vn, vn, vb false] <| Rk <| Cf <| Runs.skip <| kS_nrm <| Runs.canon (inst_second_h26 i_) Cz ?_
         exact inst_second_j26_ok i_ r_ i_ r h
theorem inst_second_L (i_ : Inst) (r_ : Row) (r : Bool) (h : inst_second i_ r_ = some r) : L 68 [.d (Inst.d i_), .d (Row.d r_)] = some (.b r, [.d (Inst.d i_), .d (Row.d r_)]) := by
 obtain ⟨p, ⟨hne, hf⟩, hr⟩ := inst_second_ok i_ r_ r h
 obtain ⟨k, hk⟩ := run_of (F := F68) (args := [.d (Inst.d i_), .d (Row.d r_)]) (ap := [.d (Inst.d i_), .d (Row.d r_)]) (bx0 := updW (fun _ => none) []) rfl rfl (by kernel_rfl) ⟨p, ⟨hne, hf⟩, hr⟩
 exact lim_run (k := k) rfl hk
def inst_behind_h6 (i2 : Inst) (r3 : Row) (t11 : (A2 Int)) (t12 : Int) : St := ⟨tab [(2, .ptr [2] 0 0), (3, .ptr [3] 0 0), (11, .d (.agg [.int .i64 t11.a0, .int .i64 t11.a1])), (12, .i t12)], tabB [([2], some (.cells [.b i2.Lock, .i i2.Rep, .i i2.Seg, .y i2.Op, .i i2.Mod, .i i2.Reg, .i i2.RM, .w i2.Disp, .w i2.Imm, .w i2.Sel] 0)), ([3], some (.cells [.i r3.Name, .i r3.A, .i r3.B, .b r3.Mod] 0))]⟩
def inst_behind_h32 (i2 : Inst) (r3 : Row) (t11 : (A2 Int)) (t12 : Int) (t15 : Int) (t41 : Bool) : St := ⟨tab [(2, .ptr [2] 0 0), (3, .ptr [3] 0 0), (11, .d (.agg [.int .i64 t11.a0, .int .i64 t11.a1])), (12, .i t12), (15, .i t15), (41, .b t41)], tabB [([2], some (.cells [.b i2.Lock, .i i2.Rep, .i i2.Seg, .y i2.Op, .i i2.Mod, .i i2.Reg, .i i2.RM, .w i2.Disp, .w i2.Imm, .w i2.Sel] 0)), ([3], some (.cells [.i r3.Name, .i r3.A, .i r3.B, .b r3.Mod] 0))]⟩
def inst_behind_h62 (i2 : Inst) : St := ⟨tab [(2, .ptr [2] 0 0)], tabB [([2], some (.cells [.b i2.Lock, .i i2.Rep, .i i2.Seg, .y i2.Op, .i i2.Mod, .i i2.Reg, .i i2.RM, .w i2.Disp, .w i2.Imm, .w i2.Sel] 0))]⟩
def inst_behind_Q (i_ : Inst) (r_ : Row) (r : Bool) (p : Out × St) : Prop := (∀ i, p.1 ≠ .exit i) ∧ finF F69 [.d (Inst.d i_), .d (Row.d r_)] p.2 = some (.b r, [.d (Inst.d i_), .d (Row.d r_)])
def inst_behind_P6 (i_ : Inst) (r_ : Row) (i2 : Inst) (r3 : Row) (t11 : (A2 Int)) (e : (Bool ⊕ Unit)) (p : Out × St) : Prop := match e with
 | .inl x => p.1 = .ret ∧ finF F69 [.d (Inst.d i_), .d (Row.d r_)] p.2 = some (.b x, [.d (Inst.d i_), .d (Row.d r_)])
 | .inr x => p.1 = .exit 0 ∧ ∃ g : Unit, Canon [] [2] [[2]] p.2 (inst_behind_h62 i2)
theorem inst_behind_j32_ok (i_ : Inst) (r_ : Row) (i2 : Inst) (r3 : Row) (t11 : (A2 Int)) (t12 : Int) (t15 : Int) (t41 : Bool) (r : (Lp Int (Bool ⊕ Unit))) (h : inst_behind_j32 i2 r3 t11 t12 t15 t41 = some r) : Runs L F69b32 (inst_behind_h32 i2 r3 t11 t12 t15 t41) (kB 2 (kB 1 (kS L F69c61 (LQ [] [2, 3, 11, 12] [[2], [3]] (fun (x : Int) (g : Unit) => inst_behind_h6 i2 r3 t11 x) (inst_behind_P6 i_ r_ i2 r3 t11) r)))) := by
 unfold inst_behind_j32 at h
 cases hb_8 : (t41 : Bool) with
 | true =>
  replace h := ite_t hb_8 h
  refine Ct <| Sq <| Ro <| Rc 2 [vp [2] 0 8, vw i2.Imm] ?_
  obtain ⟨r_1, hr_1, h⟩ := bind_s h
  have hc_1 := bits_Fits_L i2.Imm r_1 hr_1
  refine Rt (some 46) (.callf 74) [] none [.w i2.Imm] (.b r_1) [] (cc hc_1) <| Rc 1 [vb r_1] ?_
  cases hb_9 : (r_1 : Bool) with
  | true =>
   replace h := ite_t hb_9 h
   refine Rc 5 [vp [2] 0 9, vw i2.Sel, vb (i2.Sel == 0), vb (i2.Sel == 0), vb (i2.Sel == 0)] <| Rk <| Runs.ret <| kB_ret <| kB_ret <| kS_ret ?_
   obtain rfl := sj h
   exact ⟨nofun, rfl, (by kernel_rfl)⟩
  | false =>
   replace h := ite_f hb_9 h
   refine Rc 5 [vn, vn, vn, vb false, vb false] <| Rk <| Runs.ret <| kB_ret <| kB_ret <| kS_ret ?_
   obtain rfl := sj h
   exact ⟨nofun, rfl, (by kernel_rfl)⟩
 | false =>
  replace h := ite_f hb_8 h
  refine Cf <| Sq <| Sq <| Ro <| Rc 2 [vb (t15 == 7), vb (t15 == 7)] <| Rk ?_
  cases hb_10 : ((t15 == 7) : Bool) with
  | true =>
   replace h := ite_t hb_10 h
   refine Ct <| Runs.skip <| kS_nrm <| Ct <| Sq <| Ro <| Rc 4 [vp [2] 0 9, vw i2.Sel, vb (i2.Sel == 0), vb (i2.Sel == 0)] <| Rk <| Runs.ret <| kB_ret <| kB_ret <| kS_ret ?_
   obtain rfl := sj h
   exact ⟨nofun, rfl, (by kernel_rfl)⟩
  | false =>
   replace h := ite_f hb_10 h
   refine Cf <| Sq <| Ro <| Rc 2 [vb (t15 == 10), vb (t15 == 10)] <| Rk ?_
   cases hb_11 : ((t15 == 10) : Bool) with
   | true =>
    replace h := ite_t hb_11 h
    refine Ct <| Runs.skip <| kS_nrm <| Ct <| Sq <| Ro <| Rc 4 [vp [2] 0 9, vw i2.Sel, vb (i2.Sel == 0), vb (i2.Sel == 0)] <| Rk <| Runs.ret <| kB_ret <| kB_ret <| kS_ret ?_
    obtain rfl := sj h
    exact ⟨nofun, rfl, (by kernel_rfl)⟩
   | false =>
    replace h := ite_f hb_11 h
    refine Cf <| Sq <| Ro <| Rc 2 [vb (t15 == 12), vb (t15 == 12)] <| Rk ?_
    cases hb_12 : ((t15 == 12) : Bool) with
    | true =>
     replace h := ite_t hb_12 h
     refine Ct <| Runs.skip <| kS_nrm <| Ct <| Sq <| Ro <| Rc 4 [vp [2] 0 9, vw i2.Sel, vb (i2.Sel == 0), vb (i2.Sel == 0)] <| Rk <| Runs.ret <| kB_ret <| kB_ret <| kS_ret ?_
     obtain rfl := sj h
     exact ⟨nofun, rfl, (by kernel_rfl)⟩
    | false =>
     replace h := ite_f hb_12 h
     refine Cf <| Ro <| Rc 2 [vb (t15 == 13), vb (t15 == 13)] <| Rk ?_
     cases hb_13 : ((t15 == 13) : Bool) with
     | true =>
      replace h := ite_t hb_13 h
      refine Ct <| Sq <| Ro <| Rc 4 [vp [2] 0 9, vw i2.Sel, vb (i2.Sel == 0), vb (i2.Sel == 0)] <| Rk <| Runs.ret <| kB_ret <| kB_ret <| kS_ret ?_
      obtain rfl := sj h
      exact ⟨nofun, rfl, (by kernel_rfl)⟩
     | false =>
      replace h := ite_f hb_13 h
      refine Cf <| Sq <| Ro <| Rc 2 [vb (t15 == 11), vb (t15 == 11)] <| Rk ?_
      cases hb_14 : ((t15 == 11) : Bool) with
      | true =>
       replace h := ite_t hb_14 h
       refine Ct <| Sq <| Ro <| Rc 1 [vb true] <| Rk <| Runs.ret <| kB_ret <| kB_ret <| kS_ret ?_
       obtain rfl := sj h
       exact ⟨nofun, rfl, (by kernel_rfl)⟩
      | false =>
       replace h := ite_f hb_14 h
       refine Cf <| Runs.skip <| kB_nrm <| kB_nrm <| kS_nrm <| Ro <| Rc 2 [vi (IntKind.wrap .i64 (t12 + 1)), vi (IntKind.wrap .i64 (t12 + 1))] <| Rd ?_
       obtain rfl := sj h
       exact ⟨rfl, (), Cz⟩
theorem inst_behind_l6_ok (i_ : Inst) (r_ : Row) (i2 : Inst) (r3 : Row) (t11 : (A2 Int)) (t12 : Int) (r : (Lp Int (Bool ⊕ Unit))) (h : inst_behind_l6 i2 r3 t11 t12 = some r) : Runs L F69l6 (inst_behind_h6 i2 r3 t11 t12) (LQ [] [2, 3, 11, 12] [[2], [3]] (fun (x : Int) (g : Unit) => inst_behind_h6 i2 r3 t11 x) (inst_behind_P6 i_ r_ i2 r3 t11) r) := by
 unfold inst_behind_l6 at h
 refine Sq <| Ro <| Rc 1 [vb (decide (t12 < 2))] <| Rk <| Sq ?_
 cases hb_1 : ((decide (t12 < 2)) : Bool) with
 | true =>
  replace h := ite_t hb_1 h
  refine Ct <| Runs.skip <| kS_nrm <| Sq <| Runs.block <| Sq <| Ro ?_
  obtain ⟨z_1, hz_1, h⟩ := bind_s h
  refine Rt (some 14) (.indexA 2 1 none) [] none [.d (.agg [.int .i64 t11.a0, .int .i64 t11.a1]), .i t12] (.i z_1) [] (cut_ixA (e := (D.int .i64)) (l := t11.l) hz_1 rfl) <| Rc 1 [vi z_1] <| Rk <| Sq <| Ro <| Rc 1 [vi z_1] <| Rk <| Runs.block <| Sq <| Ro <| Rc 2 [vb (z_1 == 6), vb (z_1 == 6)] <| Rk ?_
  cases hb_2 : ((z_1 == 6) : Bool) with
  | true =>
   replace h := ite_t hb_2 h
   refine Ct <| Sq <| Ro <| Rc 4 [vp [2] 0 8, vw i2.Imm, vb (decide (i2.Imm < 256)), vb (decide (i2.Imm < 256))] ?_
   cases hb_3 : ((decide (i2.Imm < 256)) : Bool) with
   | true =>
    replace h := ite_t hb_3 h
    refine Rc 5 [vp [2] 0 9, vw i2.Sel, vb (i2.Sel == 0), vb (i2.Sel == 0), vb (i2.Sel == 0)] ?_
    cases hb_4 : ((i2.Sel == 0) : Bool) with
    | true =>
     replace h := ite_t hb_4 h
     refine Rc 4 [vp [3] 0 0, vi r3.Name, vb (r3.Name != 70), vb (r3.Name != 70)] ?_
     cases hb_5 : ((r3.Name != 70) : Bool) with
     | true =>
      replace h := ite_t hb_5 h
      refine Rc 5 [vp [3] 0 0, vi r3.Name, vb (r3.Name != 71), vb (r3.Name != 71), vb (r3.Name != 71)] ?_
      cases hb_6 : ((r3.Name != 71) : Bool) with
      | true =>
       replace h := ite_t hb_6 h
       refine Rc 6 [vn, vn, vn, vb true, vb true, vb true] <| Rk <| Runs.ret <| kB_ret <| kB_ret <| kS_ret ?_
       obtain rfl := sj h
       exact ⟨nofun, rfl, (by kernel_rfl)⟩
      | false =>
       replace h := ite_f hb_6 h
       refine Rc 6 [vp [2] 0 8, vw i2.Imm, vb (i2.Imm == 10), vb (i2.Imm == 10), vb (i2.Imm == 10), vb (i2.Imm == 10)] <| Rk <| Runs.ret <| kB_ret <| kB_ret <| kS_ret ?_
       obtain rfl := sj h
       exact ⟨nofun, rfl, (by kernel_rfl)⟩
     | false =>
      replace h := ite_f hb_5 h
      refine Rc 11 [vn, vn, vn, vb false, vb false, vp [2] 0 8, vw i2.Imm, vb (i2.Imm == 10), vb (i2.Imm == 10), vb (i2.Imm == 10), vb (i2.Imm == 10)] <| Rk <| Runs.ret <| kB_ret <| kB_ret <| kS_ret ?_
      obtain rfl := sj h
      exact ⟨nofun, rfl, (by kernel_rfl)⟩
    | false =>
     replace h := ite_f hb_4 h
     refine Rc 15 [vn, vn, vn, vn, vn, vn, vn, vn, vn, vn, vn, vn, vn, vb false, vb false] <| Rk <| Runs.ret <| kB_ret <| kB_ret <| kS_ret ?_
     obtain rfl := sj h
     exact ⟨nofun, rfl, (by kernel_rfl)⟩
   | false =>
    replace h := ite_f hb_3 h
    refine Rc 20 [vn, vn, vn, vb false, vb false, vn, vn, vn, vn, vn, vn, vn, vn, vn, vn, vn, vn, vn, vb false, vb false] <| Rk <| Runs.ret <| kB_ret <| kB_ret <| kS_ret ?_
    obtain rfl := sj h
    exact ⟨nofun, rfl, (by kernel_rfl)⟩
  | false =>
   replace h := ite_f hb_2 h
   refine Cf <| Sq <| Sq <| Ro <| Rc 2 [vb (z_1 == 8), vb (z_1 == 8)] <| Rk ?_
   cases hb_7 : ((z_1 == 8) : Bool) with
   | true =>
    replace h := ite_t hb_7 h
    refine Ct <| Runs.skip <| kS_nrm <| Runs.canon (inst_behind_h32 i2 r3 t11 t12 z_1 true) Cz ?_
    exact inst_behind_j32_ok i_ r_ i2 r3 t11 t12 z_1 true r h
   | false =>
    replace h := ite_f hb_7 h
    refine Cf <| Ro <| Rc 2 [vb (z_1 == 9), vb (z_1 == 9)] <| Rk <| Runs.canon (inst_behind_h32 i2 r3 t11 t12 z_1 (z_1 == 9)) Cz ?_
    exact inst_behind_j32_ok i_ r_ i2 r3 t11 t12 z_1 (z_1 == 9) r h
 | false =>
  replace h := ite_f hb_1 h
  refine Cf <| Runs.exit <| kS_exit ?_
  obtain rfl := sj h
  exact ⟨nofun, rfl, (), Cz⟩
theorem inst_behind_ok (i_ : Inst) (r_ : Row) (r : Bool) (h : inst_behind i_ r_ = some r) : Runs L F69.body ⟨tmOf [.d (Inst.d i_), .d (Row.d r_)] 0, updW (fun _ => none) []⟩ (inst_behind_Q i_ r_ r) := by
 unfold inst_behind at h
 refine Sq <| Ro <| Rc 3 [⟨.ptr [2] 0 0, [([2], some (.cells [.b i_.Lock, .i i_.Rep, .i i_.Seg, .y i_.Op, .i i_.Mod, .i i_.Reg, .i i_.RM, .w i_.Disp, .w i_.Imm, .w i_.Sel] 0))]⟩, ⟨.ptr [3] 0 0, [([3], some (.cells [.i r_.Name, .i r_.A, .i r_.B, .b r_.Mod] 0))]⟩, vb false] <| Rk <| Sq <| Sq <| Ro <| Rc 6 [vp [3] 0 1, vi r_.A, vp [3] 0 2, vi r_.B, ⟨.d (.agg [.int .i64 r_.A, .int .i64 r_.B]), []⟩, vi 0] <| Rk <| Runs.block ?_
 obtain ⟨e_1, he_1, h⟩ := bind_s h
 refine Runs.loop (fun x : Int => inst_behind_l6 i_ r_ ({ a0 := r_.A, a1 := r_.B } : (A2 Int)) x) (fun (x : Int) (g : Unit) => inst_behind_h6 i_ r_ ({ a0 := r_.A, a1 := r_.B } : (A2 Int)) x) (inst_behind_P6 i_ r_ i_ r_ ({ a0 := r_.A, a1 := r_.B } : (A2 Int))) (fun x g r hr => inst_behind_l6_ok i_ r_ i_ r_ ({ a0 := r_.A, a1 := r_.B } : (A2 Int)) x  r hr) () he_1 Cz ?_
 rintro ⟨o, s⟩ hp
 cases e_1 with
 | inl e_2 =>
  obtain ⟨ho, hf⟩ := hp
  have ho' : o = .ret := ho
  subst ho'
  refine kB_ret <| kS_ret ?_
  obtain rfl := sj h
  exact ⟨Out.ret_ne, hf⟩
 | inr e_3 =>
  obtain ⟨ho, g_1, hk_1⟩ := hp
  have ho' : o = .exit 0 := ho
  subst ho'
  refine kB_hit <| kS_nrm <| Runs.canon _ hk_1 <| Sq <| Ro <| Rc 4 [vp [2] 0 8, vw i_.Imm, vb (i_.Imm == 0), vb (i_.Imm == 0)] ?_
  cases hb_1 : ((i_.Imm == 0) : Bool) with
  | true =>
   replace h := ite_t hb_1 h
   refine Rc 5 [vp [2] 0 9, vw i_.Sel, vb (i_.Sel == 0), vb (i_.Sel == 0), vb (i_.Sel == 0)] <| Rk <| Runs.ret ?_
   cases h
   exact Fq
  | false =>
   replace h := ite_f hb_1 h
   refine Rc 5 [vn, vn, vn, vb false, vb false] <| Rk <| Runs.ret ?_
   cases h
   exact Fq
theorem inst_behind_L (i_ : Inst) (r_ : Row) (r : Bool) (h : inst_behind i_ r_ = some r) : L 69 [.d (Inst.d i_), .d (Row.d r_)] = some (.b r, [.d (Inst.d i_), .d (Row.d r_)]) := by
 obtain ⟨p, ⟨hne, hf⟩, hr⟩ := inst_behind_ok i_ r_ r h
 obtain ⟨k, hk⟩ := run_of (F := F69) (args := [.d (Inst.d i_), .d (Row.d r_)]) (ap := [.d (Inst.d i_), .d (Row.d r_)]) (bx0 := updW (fun _ => none) []) rfl rfl (by kernel_rfl) ⟨p, ⟨hne, hf⟩, hr⟩
 exact lim_run (k := k) rfl hk
def isa_Repeats_h28 (t3 : Int) (t4 : Bool) : St := ⟨tab [(3, .i t3), (4, .b t4)], tabB []⟩
def isa_Repeats_Q (name_ : Int) (r : Int) (p : Out × St) : Prop := (∀ i, p.1 ≠ .exit i) ∧ finF F76 [.i name_] p.2 = some (.i r, [.i name_])
theorem isa_Repeats_j28_ok (name_ : Int) (t3 : Int) (t4 : Bool) (r : Int) (h : isa_Repeats_j28 t3 t4 = some r) : Runs L F76b28 (isa_Repeats_h28 t3 t4) (kB 0 (kS L F76c51 (isa_Repeats_Q name_ r))) := by
 unfold isa_Repeats_j28 at h
 cases hb_2 : (t4 : Bool) with
 | true =>
  replace h := ite_t hb_2 h
  refine Ct <| Sq <| Ro <| Rc 1 [vi 1] <| Rk <| Runs.ret <| kB_ret <| kS_ret ?_
  cases h
  exact Fq
 | false =>
  replace h := ite_f hb_2 h
  refine Cf <| Sq <| Sq <| Ro <| Rc 2 [vb (t3 == 48), vb (t3 == 48)] <| Rk ?_
  cases hb_3 : ((t3 == 48) : Bool) with
  | true =>
   replace h := ite_t hb_3 h
   refine Ct <| Runs.skip <| kS_nrm <| Ct <| Sq <| Ro <| Rc 1 [vi 2] <| Rk <| Runs.ret <| kB_ret <| kS_ret ?_
   cases h
   exact Fq
  | false =>
   replace h := ite_f hb_3 h
   refine Cf <| Sq <| Ro <| Rc 2 [vb (t3 == 49), vb (t3 == 49)] <| Rk ?_
   cases hb_4 : ((t3 == 49) : Bool) with
   | true =>
    replace h := ite_t hb_4 h
    refine Ct <| Runs.skip <| kS_nrm <| Ct <| Sq <| Ro <| Rc 1 [vi 2] <| Rk <| Runs.ret <| kB_ret <| kS_ret ?_
    cases h
    exact Fq
   | false =>
    replace h := ite_f hb_4 h
    refine Cf <| Sq <| Ro <| Rc 2 [vb (t3 == 54), vb (t3 == 54)] <| Rk ?_
    cases hb_5 : ((t3 == 54) : Bool) with
    | true =>
     replace h := ite_t hb_5 h
     refine Ct <| Runs.skip <| kS_nrm <| Ct <| Sq <| Ro <| Rc 1 [vi 2] <| Rk <| Runs.ret <| kB_ret <| kS_ret ?_
     cases h
     exact Fq
    | false =>
     replace h := ite_f hb_5 h
     refine Cf <| Ro <| Rc 2 [vb (t3 == 55), vb (t3 == 55)] <| Rk ?_
     cases hb_6 : ((t3 == 55) : Bool) with
     | true =>
      replace h := ite_t hb_6 h
      refine Ct <| Sq <| Ro <| Rc 1 [vi 2] <| Rk <| Runs.ret <| kB_ret <| kS_ret ?_
      cases h
      exact Fq
     | false =>
      replace h := ite_f hb_6 h
      refine Cf <| Runs.skip <| kB_nrm <| kS_nrm <| Sq <| Ro <| Rc 1 [vi 0] <| Rk <| Runs.ret ?_
      cases h
      exact Fq
theorem isa_Repeats_ok (name_ : Int) (r : Int) (h : isa_Repeats name_ = some r) : Runs L F76.body ⟨tmOf [.i name_] 0, updW (fun _ => none) []⟩ (isa_Repeats_Q name_ r) := by
 unfold isa_Repeats at h
 refine Sq <| Ro <| Rc 1 [vi 0] <| Rk <| Sq <| Sq <| Ro <| Rc 1 [vi name_] <| Rk <| Runs.block <| Sq <| Sq <| Ro <| Rc 2 [vb (name_ == 46), vb (name_ == 46)] <| Rk ?_
 cases hb_1 : ((name_ == 46) : Bool) with
 | true =>
  replace h := ite_t hb_1 h
  refine Ct <| Runs.skip <| kS_nrm <| Runs.canon (isa_Repeats_h28 name_ true) Cz ?_
  exact isa_Repeats_j28_ok name_ name_ true r h
 | false =>
  replace h := ite_f hb_1 h
  refine Cf <| Sq <| Ro <| Rc 2 [vb (name_ == 47), vb (name_ == 47)] <| Rk ?_
  cases hb_7 : ((name_ == 47) : Bool) with
  | true =>
   replace h := ite_t hb_7 h
   refine Ct <| Runs.skip <| kS_nrm <| Runs.canon (isa_Repeats_h28 name_ true) Cz ?_
   exact isa_Repeats_j28_ok name_ name_ true r h
  | false =>
   replace h := ite_f hb_7 h
   refine Cf <| Sq <| Ro <| Rc 2 [vb (name_ == 50), vb (name_ == 50)] <| Rk ?_
   cases hb_8 : ((name_ == 50) : Bool) with
   | true =>
    replace h := ite_t hb_8 h
    refine Ct <| Runs.skip <| kS_nrm <| Runs.canon (isa_Repeats_h28 name_ true) Cz ?_
    exact isa_Repeats_j28_ok name_ name_ true r h
   | false =>
    replace h := ite_f hb_8 h
    refine Cf <| Sq <| Ro <| Rc 2 [vb (name_ == 51), vb (name_ == 51)] <| Rk ?_
    cases hb_9 : ((name_ == 51) : Bool) with
    | true =>
     replace h := ite_t hb_9 h
     refine Ct <| Runs.skip <| kS_nrm <| Runs.canon (isa_Repeats_h28 name_ true) Cz ?_
     exact isa_Repeats_j28_ok name_ name_ true r h
    | false =>
     replace h := ite_f hb_9 h
     refine Cf <| Sq <| Ro <| Rc 2 [vb (name_ == 52), vb (name_ == 52)] <| Rk ?_
     cases hb_10 : ((name_ == 52) : Bool) with
     | true =>
      replace h := ite_t hb_10 h
      refine Ct <| Runs.skip <| kS_nrm <| Runs.canon (isa_Repeats_h28 name_ true) Cz ?_
      exact isa_Repeats_j28_ok name_ name_ true r h
     | false =>
      replace h := ite_f hb_10 h
      refine Cf <| Ro <| Rc 2 [vb (name_ == 53), vb (name_ == 53)] <| Rk <| Runs.canon (isa_Repeats_h28 name_ (name_ == 53)) Cz ?_
      exact isa_Repeats_j28_ok name_ name_ (name_ == 53) r h
theorem isa_Repeats_L (name_ : Int) (r : Int) (h : isa_Repeats name_ = some r) : L 76 [.i name_] = some (.i r, [.i name_]) := by
 obtain ⟨p, ⟨hne, hf⟩, hr⟩ := isa_Repeats_ok name_ r h
 obtain ⟨k, hk⟩ := run_of (F := F76) (args := [.i name_]) (ap := [.i name_]) (bx0 := updW (fun _ => none) []) rfl rfl (by kernel_rfl) ⟨p, ⟨hne, hf⟩, hr⟩
 exact lim_run (k := k) rfl hk
def inst_prefixes_Q (i_ : Inst) (r_ : Row) (r : Bool) (p : Out × St) : Prop := (∀ i, p.1 ≠ .exit i) ∧ finF F70 [.d (Inst.d i_), .d (Row.d r_)] p.2 = some (.b r, [.d (Inst.d i_), .d (Row.d r_)])
theorem inst_prefixes_ok (i_ : Inst) (r_ : Row) (r : Bool) (h : inst_prefixes i_ r_ = some r) : Runs L F70.body ⟨tmOf [.d (Inst.d i_), .d (Row.d r_)] 0, updW (fun _ => none) []⟩ (inst_prefixes_Q i_ r_ r) := by
 unfold inst_prefixes at h
 refine Sq <| Ro <| Rc 3 [⟨.ptr [2] 0 0, [([2], some (.cells [.b i_.Lock, .i i_.Rep, .i i_.Seg, .y i_.Op, .i i_.Mod, .i i_.Reg, .i i_.RM, .w i_.Disp, .w i_.Imm, .w i_.Sel] 0))]⟩, ⟨.ptr [3] 0 0, [([3], some (.cells [.i r_.Name, .i r_.A, .i r_.B, .b r_.Mod] 0))]⟩, vb false] <| Rk <| Sq <| Ro <| Rc 2 [vp [3] 0 0, vi r_.Name] ?_
 obtain ⟨r_1, hr_1, h⟩ := bind_s h
 have hc_1 := isa_Repeats_L r_.Name r_1 hr_1
 refine Rt (some 8) (.callf 76) [] none [.i r_.Name] (.i r_1) [] (cc hc_1) <| Rc 1 [vi r_1] <| Rk <| Sq <| Sq <| Ro <| Rc 2 [vp [2] 0 1, vi i_.Rep] <| Rk <| Runs.block <| Sq <| Ro <| Rc 2 [vb (i_.Rep == 0), vb (i_.Rep == 0)] <| Rk ?_
 cases hb_1 : ((i_.Rep == 0) : Bool) with
 | true =>
  replace h := ite_t hb_1 h
  refine Ct <| Runs.skip <| kB_nrm <| kS_nrm <| Sq <| Ro <| Rc 4 [vp [2] 0 2, vi i_.Seg, vb (decide (i_.Seg ≥ 0)), vb (decide (i_.Seg ≥ 0))] ?_
  cases hb_2 : ((decide (i_.Seg ≥ 0)) : Bool) with
  | true =>
   replace h := ite_t hb_2 h
   refine Rc 5 [vp [2] 0 2, vi i_.Seg, vb (decide (i_.Seg ≤ 4)), vb (decide (i_.Seg ≤ 4)), vb (decide (i_.Seg ≤ 4))] <| Rk <| Runs.ret ?_
   cases h
   exact Fq
  | false =>
   replace h := ite_f hb_2 h
   refine Rc 5 [vn, vn, vn, vb false, vb false] <| Rk <| Runs.ret ?_
   cases h
   exact Fq
 | false =>
  replace h := ite_f hb_1 h
  refine Cf <| Sq <| Ro <| Rc 2 [vb (i_.Rep == 1), vb (i_.Rep == 1)] <| Rk ?_
  cases hb_3 : ((i_.Rep == 1) : Bool) with
  | true =>
   replace h := ite_t hb_3 h
   refine Ct <| Sq <| Ro <| Rc 2 [vi r_1, vb (decide (r_1 < 2))] <| Rk ?_
   cases hb_4 : ((decide (r_1 < 2)) : Bool) with
   | true =>
    replace h := ite_t hb_4 h
    refine Ct <| Sq <| Ro <| Rc 1 [vb false] <| Rk <| Runs.ret <| kB_ret <| kS_ret ?_
    cases h
    exact Fq
   | false =>
    replace h := ite_f hb_4 h
    refine Cf <| Runs.skip <| kB_nrm <| kS_nrm <| Sq <| Ro <| Rc 4 [vp [2] 0 2, vi i_.Seg, vb (decide (i_.Seg ≥ 0)), vb (decide (i_.Seg ≥ 0))] ?_
    cases hb_5 : ((decide (i_.Seg ≥ 0)) : Bool) with
    | true =>
     replace h := ite_t hb_5 h
     refine Rc 5 [vp [2] 0 2, vi i_.Seg, vb (decide (i_.Seg ≤ 4)), vb (decide (i_.Seg ≤ 4)), vb (decide (i_.Seg ≤ 4))] <| Rk <| Runs.ret ?_
     cases h
     exact Fq
    | false =>
     replace h := ite_f hb_5 h
     refine Rc 5 [vn, vn, vn, vb false, vb false] <| Rk <| Runs.ret ?_
     cases h
     exact Fq
  | false =>
   replace h := ite_f hb_3 h
   refine Cf <| Sq <| Ro <| Rc 2 [vb (i_.Rep == 2), vb (i_.Rep == 2)] <| Rk ?_
   cases hb_6 : ((i_.Rep == 2) : Bool) with
   | true =>
    replace h := ite_t hb_6 h
    refine Ct <| Sq <| Ro <| Rc 2 [vi r_1, vb (decide (r_1 < 1))] <| Rk ?_
    cases hb_7 : ((decide (r_1 < 1)) : Bool) with
    | true =>
     replace h := ite_t hb_7 h
     refine Ct <| Sq <| Ro <| Rc 1 [vb false] <| Rk <| Runs.ret <| kB_ret <| kS_ret ?_
     cases h
     exact Fq
    | false =>
     replace h := ite_f hb_7 h
     refine Cf <| Runs.skip <| kB_nrm <| kS_nrm <| Sq <| Ro <| Rc 4 [vp [2] 0 2, vi i_.Seg, vb (decide (i_.Seg ≥ 0)), vb (decide (i_.Seg ≥ 0))] ?_
     cases hb_8 : ((decide (i_.Seg ≥ 0)) : Bool) with
     | true =>
      replace h := ite_t hb_8 h
      refine Rc 5 [vp [2] 0 2, vi i_.Seg, vb (decide (i_.Seg ≤ 4)), vb (decide (i_.Seg ≤ 4)), vb (decide (i_.Seg ≤ 4))] <| Rk <| Runs.ret ?_
      cases h
      exact Fq
     | false =>
      replace h := ite_f hb_8 h
      refine Rc 5 [vn, vn, vn, vb false, vb false] <| Rk <| Runs.ret ?_
      cases h
      exact Fq
   | false =>
    replace h := ite_f hb_6 h
    refine Cf <| Sq <| Ro <| Rc 1 [vb false] <| Rk <| Runs.ret <| kB_ret <| kS_ret ?_
    cases h
    exact Fq
theorem inst_prefixes_L (i_ : Inst) (r_ : Row) (r : Bool) (h : inst_prefixes i_ r_ = some r) : L 70 [.d (Inst.d i_), .d (Row.d r_)] = some (.b r, [.d (Inst.d i_), .d (Row.d r_)]) := by
 obtain ⟨p, ⟨hne, hf⟩, hr⟩ := inst_prefixes_ok i_ r_ r h
 obtain ⟨k, hk⟩ := run_of (F := F70) (args := [.d (Inst.d i_), .d (Row.d r_)]) (ap := [.d (Inst.d i_), .d (Row.d r_)]) (bx0 := updW (fun _ => none) []) rfl rfl (by kernel_rfl) ⟨p, ⟨hne, hf⟩, hr⟩
 exact lim_run (k := k) rfl hk
def inst_May_Q (i_ : Inst) (r : Bool) (p : Out × St) : Prop := (∀ i, p.1 ≠ .exit i) ∧ finF F31 [.d (Inst.d i_)] p.2 = some (.b r, [.d (Inst.d i_)])
theorem inst_May_ok (i_ : Inst) (r : Bool) (h : inst_May i_ = some r) : Runs L F31.body ⟨tmOf [.d (Inst.d i_)] 0, updW (fun _ => none) []⟩ (inst_May_Q i_ r) := by
 unfold inst_May at h
 refine Sq <| Ro <| Rc 2 [⟨.ptr [1] 0 0, [([1], some (.cells [.b i_.Lock, .i i_.Rep, .i i_.Seg, .y i_.Op, .i i_.Mod, .i i_.Reg, .i i_.RM, .w i_.Disp, .w i_.Imm, .w i_.Sel] 0))]⟩, vb false] <| Rk <| Sq <| Ro <| Rc 1 [⟨.d (Inst.d i_), []⟩] ?_
 obtain ⟨r_1, hr_1, h⟩ := bind_s h
 have hc_1 := inst_Row_L i_ r_1 hr_1
 refine Rt (some 7) (.callf 34) [] none [.d (Inst.d i_)] (.tup [.d (Row.d r_1.1), .b r_1.2]) [] (cc hc_1) <| Rc 6 [⟨.tup [.d (Row.d r_1.1), .b r_1.2], []⟩, ⟨.d (Row.d r_1.1), []⟩, vb r_1.2, ⟨.ptr [3] 0 0, [([3], some (.cells [.i 0, .i 0, .i 0, .b false] 0))]⟩, ⟨.tup [], [([3], some (.cells [.i r_1.1.Name, .i r_1.1.A, .i r_1.1.B, .b r_1.1.Mod] 0))]⟩, vb r_1.2] <| Rk <| Sq <| Ro <| Rc 2 [vb r_1.2, vb r_1.2] ?_
 cases hb_1 : (r_1.2 : Bool) with
 | true =>
  replace h := ite_t hb_1 h
  refine Rc 2 [⟨.d (Inst.d i_), []⟩, ⟨.d (Row.d r_1.1), []⟩] ?_
  obtain ⟨r_2, hr_2, h⟩ := bind_s h
  have hc_2 := inst_second_L i_ r_1.1 r_2 hr_2
  refine Rt (some 14) (.callf 68) [] none [.d (Inst.d i_), .d (Row.d r_1.1)] (.b r_2) [] (cc hc_2) <| Rc 2 [vb r_2, vb r_2] ?_
  cases hb_2 : (r_2 : Bool) with
  | true =>
   replace h := ite_t hb_2 h
   refine Rc 2 [⟨.d (Inst.d i_), []⟩, ⟨.d (Row.d r_1.1), []⟩] ?_
   obtain ⟨r_3, hr_3, h⟩ := bind_s h
   have hc_3 := inst_behind_L i_ r_1.1 r_3 hr_3
   refine Rt (some 19) (.callf 69) [] none [.d (Inst.d i_), .d (Row.d r_1.1)] (.b r_3) [] (cc hc_3) <| Rc 2 [vb r_3, vb r_3] ?_
   cases hb_3 : (r_3 : Bool) with
   | true =>
    replace h := ite_t hb_3 h
    refine Rc 2 [⟨.d (Inst.d i_), []⟩, ⟨.d (Row.d r_1.1), []⟩] ?_
    obtain ⟨r_4, hr_4, h⟩ := bind_s h
    have hc_4 := inst_prefixes_L i_ r_1.1 r_4 hr_4
    refine Rt (some 24) (.callf 70) [] none [.d (Inst.d i_), .d (Row.d r_1.1)] (.b r_4) [] (cc hc_4) <| Rc 2 [vb r_4, vb r_4] <| Rk <| Runs.ret ?_
    cases h
    exact Fq
   | false =>
    replace h := ite_f hb_3 h
    refine Rc 5 [vn, vn, vn, vb false, vb false] <| Rk <| Runs.ret ?_
    cases h
    exact Fq
  | false =>
   replace h := ite_f hb_2 h
   refine Rc 10 [vn, vn, vn, vb false, vb false, vn, vn, vn, vb false, vb false] <| Rk <| Runs.ret ?_
   cases h
   exact Fq
 | false =>
  replace h := ite_f hb_1 h
  refine Rc 15 [vn, vn, vn, vb false, vb false, vn, vn, vn, vb false, vb false, vn, vn, vn, vb false, vb false] <| Rk <| Runs.ret ?_
  cases h
  exact Fq
theorem inst_May_L (i_ : Inst) (r : Bool) (h : inst_May i_ = some r) : L 31 [.d (Inst.d i_)] = some (.b r, [.d (Inst.d i_)]) := by
 obtain ⟨p, ⟨hne, hf⟩, hr⟩ := inst_May_ok i_ r h
 obtain ⟨k, hk⟩ := run_of (F := F31) (args := [.d (Inst.d i_)]) (ap := [.d (Inst.d i_)]) (bx0 := updW (fun _ => none) []) rfl rfl (by kernel_rfl) ⟨p, ⟨hne, hf⟩, hr⟩
 exact lim_run (k := k) rfl hk
def inst_Imms_Q (r_ : Row) (r : Int) (p : Out × St) : Prop := (∀ i, p.1 ≠ .exit i) ∧ finF F35 [.d (Row.d r_)] p.2 = some (.i r, [.d (Row.d r_)])
theorem inst_Imms_ok (r_ : Row) (r : Int) (h : inst_Imms r_ = some r) : Runs L F35.body ⟨tmOf [.d (Row.d r_)] 0, updW (fun _ => none) []⟩ (inst_Imms_Q r_ r) := by
 unfold inst_Imms at h
 refine Sq <| Ro <| Rc 2 [⟨.ptr [1] 0 0, [([1], some (.cells [.i r_.Name, .i r_.A, .i r_.B, .b r_.Mod] 0))]⟩, vi 0] <| Rk <| Sq <| Ro <| Rc 2 [vp [1] 0 1, vi r_.A] ?_
 obtain ⟨r_1, hr_1, h⟩ := bind_s h
 have hc_1 := isa_Immediate_L r_.A r_1 hr_1
 refine Rt (some 5) (.callf 65) [] (some []) [.i r_.A] (.i r_1) [] (cc hc_1) <| Rc 2 [vp [1] 0 2, vi r_.B] ?_
 obtain ⟨r_2, hr_2, h⟩ := bind_s h
 have hc_2 := isa_Immediate_L r_.B r_2 hr_2
 refine Rt (some 8) (.callf 65) [] none [.i r_.B] (.i r_2) [] (cc hc_2) <| Rc 2 [vi (IntKind.wrap .i64 (r_1 + r_2)), vi (IntKind.wrap .i64 (r_1 + r_2))] <| Rk <| Runs.ret ?_
 cases h
 exact Fq
theorem inst_Imms_L (r_ : Row) (r : Int) (h : inst_Imms r_ = some r) : L 35 [.d (Row.d r_)] = some (.i r, [.d (Row.d r_)]) := by
 obtain ⟨p, ⟨hne, hf⟩, hr⟩ := inst_Imms_ok r_ r h
 obtain ⟨k, hk⟩ := run_of (F := F35) (args := [.d (Row.d r_)]) (ap := [.d (Row.d r_)]) (bx0 := updW (fun _ => none) []) rfl rfl (by kernel_rfl) ⟨p, ⟨hne, hf⟩, hr⟩
 exact lim_run (k := k) rfl hk
def inst_Len_h20 (i1 : Inst) (r3 : Row) (n5 : Int) : St := ⟨tab [(1, .ptr [1] 0 0), (3, .ptr [3] 0 0), (5, .i n5)], tabB [([1], some (.cells [.b i1.Lock, .i i1.Rep, .i i1.Seg, .y i1.Op, .i i1.Mod, .i i1.Reg, .i i1.RM, .w i1.Disp, .w i1.Imm, .w i1.Sel] 0)), ([3], some (.cells [.i r3.Name, .i r3.A, .i r3.B, .b r3.Mod] 0))]⟩
def inst_Len_h26 (i1 : Inst) (r3 : Row) (n5 : Int) : St := ⟨tab [(1, .ptr [1] 0 0), (3, .ptr [3] 0 0), (5, .i n5)], tabB [([1], some (.cells [.b i1.Lock, .i i1.Rep, .i i1.Seg, .y i1.Op, .i i1.Mod, .i i1.Reg, .i i1.RM, .w i1.Disp, .w i1.Imm, .w i1.Sel] 0)), ([3], some (.cells [.i r3.Name, .i r3.A, .i r3.B, .b r3.Mod] 0))]⟩
def inst_Len_Q (i_ : Inst) (r : Int) (p : Out × St) : Prop := (∀ i, p.1 ≠ .exit i) ∧ finF F12 [.d (Inst.d i_)] p.2 = some (.i r, [.d (Inst.d i_)])
theorem inst_Len_j26_ok (i_ : Inst) (i1 : Inst) (r3 : Row) (n5 : Int) (r : Int) (h : inst_Len_j26 i1 r3 n5 = some r) : Runs L F12b26 (inst_Len_h26 i1 r3 n5) (inst_Len_Q i_ r) := by
 unfold inst_Len_j26 at h
 refine Sq <| Sq <| Ro <| Rc 3 [vp [1] 0 2, vi i1.Seg, vb (decide (i1.Seg > 0))] <| Rk ?_
 cases hb_4 : ((decide (i1.Seg > 0)) : Bool) with
 | true =>
  replace h := ite_t hb_4 h
  refine Ct <| Ro <| Rc 3 [vi n5, vi (IntKind.wrap .i64 (n5 + 1)), vi (IntKind.wrap .i64 (n5 + 1))] <| Rk <| Sq <| Sq <| Ro <| Rc 2 [vp [3] 0 3, vb r3.Mod] <| Rk ?_
  cases hb_5 : (r3.Mod : Bool) with
  | true =>
   replace h := ite_t hb_5 h
   refine Ct <| Ro <| Rc 5 [vi (IntKind.wrap .i64 (n5 + 1)), vp [1] 0 4, vi i1.Mod, vp [1] 0 6, vi i1.RM] ?_
   obtain ⟨r_4, hr_4, h⟩ := bind_s h
   have hc_4 := inst_Disps_L i1.Mod i1.RM r_4 hr_4
   refine Rt (some 38) (.callf 36) [] none [.i i1.Mod, .i i1.RM] (.i r_4) [] (cc hc_4) <| Rc 3 [vi (IntKind.wrap .i64 (1 + r_4)), vi (IntKind.wrap .i64 ((IntKind.wrap .i64 (n5 + 1)) + (IntKind.wrap .i64 (1 + r_4)))), vi (IntKind.wrap .i64 ((IntKind.wrap .i64 (n5 + 1)) + (IntKind.wrap .i64 (1 + r_4))))] <| Rk <| Sq <| Ro <| Rc 2 [vi (IntKind.wrap .i64 ((IntKind.wrap .i64 (n5 + 1)) + (IntKind.wrap .i64 (1 + r_4)))), vi (IntKind.wrap .i64 ((IntKind.wrap .i64 (n5 + 1)) + (IntKind.wrap .i64 (1 + r_4))))] <| Rk <| Runs.ret ?_
   cases h
   exact Fq
  | false =>
   replace h := ite_f hb_5 h
   refine Cf <| Runs.skip <| kS_nrm <| Sq <| Ro <| Rc 2 [vi (IntKind.wrap .i64 (n5 + 1)), vi (IntKind.wrap .i64 (n5 + 1))] <| Rk <| Runs.ret ?_
   cases h
   exact Fq
 | false =>
  replace h := ite_f hb_4 h
  refine Cf <| Runs.skip <| kS_nrm <| Sq <| Sq <| Ro <| Rc 2 [vp [3] 0 3, vb r3.Mod] <| Rk ?_
  cases hb_6 : (r3.Mod : Bool) with
  | true =>
   replace h := ite_t hb_6 h
   refine Ct <| Ro <| Rc 5 [vi n5, vp [1] 0 4, vi i1.Mod, vp [1] 0 6, vi i1.RM] ?_
   obtain ⟨r_5, hr_5, h⟩ := bind_s h
   have hc_5 := inst_Disps_L i1.Mod i1.RM r_5 hr_5
   refine Rt (some 38) (.callf 36) [] none [.i i1.Mod, .i i1.RM] (.i r_5) [] (cc hc_5) <| Rc 3 [vi (IntKind.wrap .i64 (1 + r_5)), vi (IntKind.wrap .i64 (n5 + (IntKind.wrap .i64 (1 + r_5)))), vi (IntKind.wrap .i64 (n5 + (IntKind.wrap .i64 (1 + r_5))))] <| Rk <| Sq <| Ro <| Rc 2 [vi (IntKind.wrap .i64 (n5 + (IntKind.wrap .i64 (1 + r_5)))), vi (IntKind.wrap .i64 (n5 + (IntKind.wrap .i64 (1 + r_5))))] <| Rk <| Runs.ret ?_
   cases h
   exact Fq
  | false =>
   replace h := ite_f hb_6 h
   refine Cf <| Runs.skip <| kS_nrm <| Sq <| Ro <| Rc 2 [vi n5, vi n5] <| Rk <| Runs.ret ?_
   cases h
   exact Fq
theorem inst_Len_j20_ok (i_ : Inst) (i1 : Inst) (r3 : Row) (n5 : Int) (r : Int) (h : inst_Len_j20 i1 r3 n5 = some r) : Runs L F12b20 (inst_Len_h20 i1 r3 n5) (inst_Len_Q i_ r) := by
 unfold inst_Len_j20 at h
 refine Sq <| Sq <| Ro <| Rc 3 [vp [1] 0 1, vi i1.Rep, vb (decide (i1.Rep > 0))] <| Rk ?_
 cases hb_3 : ((decide (i1.Rep > 0)) : Bool) with
 | true =>
  replace h := ite_t hb_3 h
  refine Ct <| Ro <| Rc 3 [vi n5, vi (IntKind.wrap .i64 (n5 + 1)), vi (IntKind.wrap .i64 (n5 + 1))] <| Rk <| Runs.canon (inst_Len_h26 i1 r3 (IntKind.wrap .i64 (n5 + 1))) Cz ?_
  exact inst_Len_j26_ok i_ i1 r3 (IntKind.wrap .i64 (n5 + 1)) r h
 | false =>
  replace h := ite_f hb_3 h
  refine Cf <| Runs.skip <| kS_nrm <| Runs.canon (inst_Len_h26 i1 r3 n5) Cz ?_
  exact inst_Len_j26_ok i_ i1 r3 n5 r h
theorem inst_Len_ok (i_ : Inst) (r : Int) (h : inst_Len i_ = some r) : Runs L F12.body ⟨tmOf [.d (Inst.d i_)] 0, updW (fun _ => none) []⟩ (inst_Len_Q i_ r) := by
 unfold inst_Len at h
 refine Sq <| Ro <| Rc 2 [⟨.ptr [1] 0 0, [([1], some (.cells [.b i_.Lock, .i i_.Rep, .i i_.Seg, .y i_.Op, .i i_.Mod, .i i_.Reg, .i i_.RM, .w i_.Disp, .w i_.Imm, .w i_.Sel] 0))]⟩, vi 0] <| Rk <| Sq <| Sq <| Ro <| Rc 1 [⟨.d (Inst.d i_), []⟩] ?_
 obtain ⟨r_1, hr_1, h⟩ := bind_s h
 have hc_1 := inst_May_L i_ r_1 hr_1
 refine Rt (some 7) (.callf 31) [] none [.d (Inst.d i_)] (.b r_1) [] (cc hc_1) <| Rc 1 [vb (!r_1)] <| Rk ?_
 cases hb_1 : ((!r_1) : Bool) with
 | true =>
  replace h := ite_t hb_1 h
  refine Ct <| Sq <| Ro <| Rc 1 [vi 0] <| Rk <| Runs.ret <| kS_ret ?_
  cases h
  exact Fq
 | false =>
  replace h := ite_f hb_1 h
  refine Cf <| Runs.skip <| kS_nrm <| Sq <| Ro <| Rc 1 [⟨.d (Inst.d i_), []⟩] ?_
  obtain ⟨r_2, hr_2, h⟩ := bind_s h
  have hc_2 := inst_Row_L i_ r_2 hr_2
  refine Rt (some 11) (.callf 34) [] none [.d (Inst.d i_)] (.tup [.d (Row.d r_2.1), .b r_2.2]) [] (cc hc_2) <| Rc 6 [⟨.tup [.d (Row.d r_2.1), .b r_2.2], []⟩, ⟨.d (Row.d r_2.1), []⟩, vb r_2.2, ⟨.ptr [3] 0 0, [([3], some (.cells [.i 0, .i 0, .i 0, .b false] 0))]⟩, ⟨.tup [], [([3], some (.cells [.i r_2.1.Name, .i r_2.1.A, .i r_2.1.B, .b r_2.1.Mod] 0))]⟩, vb r_2.2] <| Rk <| Sq <| Ro <| Rc 1 [⟨.d (Row.d r_2.1), []⟩] ?_
  obtain ⟨r_3, hr_3, h⟩ := bind_s h
  have hc_3 := inst_Imms_L r_2.1 r_3 hr_3
  refine Rt (some 15) (.callf 35) [] none [.d (Row.d r_2.1)] (.i r_3) [] (cc hc_3) <| Rc 2 [vi (IntKind.wrap .i64 (1 + r_3)), vi (IntKind.wrap .i64 (1 + r_3))] <| Rk <| Sq <| Sq <| Ro <| Rc 2 [vp [1] 0 0, vb i_.Lock] <| Rk ?_
  cases hb_2 : (i_.Lock : Bool) with
  | true =>
   replace h := ite_t hb_2 h
   refine Ct <| Ro <| Rc 3 [vi (IntKind.wrap .i64 (1 + r_3)), vi (IntKind.wrap .i64 ((IntKind.wrap .i64 (1 + r_3)) + 1)), vi (IntKind.wrap .i64 ((IntKind.wrap .i64 (1 + r_3)) + 1))] <| Rk <| Runs.canon (inst_Len_h20 ({ i_ with Lock := true } : Inst) r_2.1 (IntKind.wrap .i64 ((IntKind.wrap .i64 (1 + r_3)) + 1))) Cz ?_
   exact inst_Len_j20_ok i_ ({ i_ with Lock := true } : Inst) r_2.1 (IntKind.wrap .i64 ((IntKind.wrap .i64 (1 + r_3)) + 1)) r h
  | false =>
   replace h := ite_f hb_2 h
   refine Cf <| Runs.skip <| kS_nrm <| Runs.canon (inst_Len_h20 ({ i_ with Lock := false } : Inst) r_2.1 (IntKind.wrap .i64 (1 + r_3))) Cz ?_
   exact inst_Len_j20_ok i_ ({ i_ with Lock := false } : Inst) r_2.1 (IntKind.wrap .i64 (1 + r_3)) r h
theorem inst_Len_L (i_ : Inst) (r : Int) (h : inst_Len i_ = some r) : L 12 [.d (Inst.d i_)] = some (.i r, [.d (Inst.d i_)]) := by
 obtain ⟨p, ⟨hne, hf⟩, hr⟩ := inst_Len_ok i_ r h
 obtain ⟨k, hk⟩ := run_of (F := F12) (args := [.d (Inst.d i_)]) (ap := [.d (Inst.d i_)]) (bx0 := updW (fun _ => none) []) rfl rfl (by kernel_rfl) ⟨p, ⟨hne, hf⟩, hr⟩
 exact lim_run (k := k) rfl hk
def pick_sorted_h4 (out3 : (List Choice)) (l0 : (List Choice)) (v_3 : Nat) : St := ⟨tab [(0, .d (.sl (List.map Choice.d l0))), (3, .ref [3] v_3 0 (List.map Choice.d out3).length 25)], tabB [([3], some (.arr (List.map Choice.d out3) v_3 false))]⟩
def pick_sorted_h8 (out3 : (List Choice)) (l0 : (List Choice)) (n4 : Int) (v_3 : Nat) : St := ⟨tab [(0, .d (.sl (List.map Choice.d l0))), (3, .ref [3] v_3 0 (List.map Choice.d out3).length 25), (4, .i n4)], tabB [([3], some (.arr (List.map Choice.d out3) v_3 false))]⟩
def pick_sorted_h20 (out3 : (List Choice)) (l0 : (List Choice)) (n4 : Int) (t11 : (List Choice)) (t12 : Int) (t13 : Int) (v_3 : Nat) : St := ⟨tab [(0, .d (.sl (List.map Choice.d l0))), (3, .ref [3] v_3 0 (List.map Choice.d out3).length 25), (4, .i n4), (11, .d (.sl (List.map Choice.d t11))), (12, .i t12), (13, .i t13)], tabB [([3], some (.arr (List.map Choice.d out3) v_3 false))]⟩
def pick_sorted_h37 (out3 : (List Choice)) (l0 : (List Choice)) (n4 : Int) (v_3 : Nat) : St := ⟨tab [(0, .d (.sl (List.map Choice.d l0))), (3, .ref [3] v_3 0 (List.map Choice.d out3).length 25), (4, .i n4)], tabB [([3], some (.arr (List.map Choice.d out3) v_3 false))]⟩
def pick_sorted_h38 (out3 : (List Choice)) (v_3 : Nat) : St := ⟨tab [(3, .ref [3] v_3 0 (List.map Choice.d out3).length 25)], tabB [([3], some (.arr (List.map Choice.d out3) v_3 false))]⟩
def pick_sorted_Q (l_ : (List Choice)) (r : (List Choice)) (p : Out × St) : Prop := (∀ i, p.1 ≠ .exit i) ∧ finF F32 [.d (.sl (List.map Choice.d l_))] p.2 = some (.arr false 25 (List.map Choice.d r), [.d (.sl (List.map Choice.d l_))])
def pick_sorted_P20 (l_ : (List Choice)) (l0 : (List Choice)) (n4 : Int) (t11 : (List Choice)) (t12 : Int) (e : (List Choice)) (p : Out × St) : Prop := p.1 = .exit 2 ∧ ∃ g : Nat, Canon [] [0, 3, 4] [[3]] p.2 (pick_sorted_h37 e l0 n4 g)
def pick_sorted_P8 (l_ : (List Choice)) (l0 : (List Choice)) (e : (List Choice)) (p : Out × St) : Prop := p.1 = .exit 0 ∧ ∃ g : Nat, Canon [] [3] [[3]] p.2 (pick_sorted_h38 e g)
theorem pick_sorted_l20_ok (l_ : (List Choice)) (out3 : (List Choice)) (l0 : (List Choice)) (n4 : Int) (t11 : (List Choice)) (t12 : Int) (t13 : Int) (v_3 : Nat) (r : (Lp ((List Choice) × Int) (List Choice))) (h : pick_sorted_l20 out3 l0 n4 t11 t12 t13 = some r) : Runs L F32l20 (pick_sorted_h20 out3 l0 n4 t11 t12 t13 v_3) (LQ [] [0, 3, 4, 11, 12, 13] [[3]] (fun (x : ((List Choice) × Int)) (g : Nat) => pick_sorted_h20 x.1 l0 n4 t11 t12 x.2 g) (pick_sorted_P20 l_ l0 n4 t11 t12) r) := by
 unfold pick_sorted_l20 at h
 refine Sq <| Ro <| Rc 1 [vb (decide (t13 < t12))] <| Rk <| Sq ?_
 cases hb_2 : ((decide (t13 < t12)) : Bool) with
 | true =>
  replace h := ite_t hb_2 h
  refine Ct <| Runs.skip <| kS_nrm <| Sq <| Runs.block <| Sq <| Ro ?_
  obtain ⟨z_1, hz_1, h⟩ := bind_s h
  refine Rt (some 15) (.iaddrS 25) [] none [.d (.sl (List.map Choice.d t11)), .i t13] (.elt (Choice.d z_1) 0) [] (cut_at hz_1 (fun _ => rfl)) <| Rc 3 [⟨.d (Choice.d z_1), []⟩, ⟨.ptr [6] 0 0, [([6], some (.cells [.b false, .i 0, .i 0, .y 0, .i 0, .i 0, .i 0, .w 0, .w 0, .w 0, .i 0, .i 0, .i 0, .i 0, .i 0, .b false, .i 0, .i 0, .i 0, .i 0, .i 0, .b false, .b false, .b false, .b false] 0))]⟩, ⟨.tup [], [([6], some (.cells [.b z_1.I.Lock, .i z_1.I.Rep, .i z_1.I.Seg, .y z_1.I.Op, .i z_1.I.Mod, .i z_1.I.Reg, .i z_1.I.RM, .w z_1.I.Disp, .w z_1.I.Imm, .w z_1.I.Sel, .i z_1.Disp.N, .i z_1.Disp.From, .i z_1.Disp.Which, .i z_1.Disp.Type_, .i z_1.Disp.Wants, .b z_1.Disp.Known, .i z_1.Imm.N, .i z_1.Imm.From, .i z_1.Imm.Which, .i z_1.Imm.Type_, .i z_1.Imm.Wants, .b z_1.Imm.Known, .b z_1.HasD, .b z_1.HasI, .b z_1.Jumps] 0))]⟩] <| Rk <| Sq <| Ro <| Rc 2 [vp [6] 0 0, ⟨.d (Inst.d z_1.I), []⟩] ?_
  obtain ⟨r_1, hr_1, h⟩ := bind_s h
  have hc_1 := inst_Len_L z_1.I r_1 hr_1
  refine Rt (some 19) (.callf 12) [] none [.d (Inst.d z_1.I)] (.i r_1) [] (cc hc_1) <| Rc 2 [vi n4, vb (r_1 == n4)] <| Rk ?_
  cases hb_3 : ((r_1 == n4) : Bool) with
  | true =>
   replace h := ite_t hb_3 h
   refine Ct <| Ro <| Rc 3 [⟨.ref [3] v_3 0 (List.map Choice.d out3).length 25, []⟩, ⟨.d (Choice.d z_1), []⟩, ⟨.ref [24] 0 0 (List.map Choice.d ([z_1] : List Choice)).length 25, [([24], some (.arr (List.map Choice.d ([z_1] : List Choice)) 0 false))]⟩] ?_
   obtain ⟨z_2, hz_2, h⟩ := bind_s h
   refine Rt (some 25) (.append 25 168 false) [] none [.ref [3] v_3 0 (List.map Choice.d out3).length 25, .ref [24] 0 0 (List.map Choice.d ([z_1] : List Choice)).length 25] (.ref [3] (v_3 + 1) 0 (List.map Choice.d z_2).length 25) [([3], some (.arr (List.map Choice.d z_2) (v_3 + 1) false))] (cut_appR (e := Choice.d) (l := out3) (fz := false) (ws := []) (ap_ref (e := Choice.d) (l := ([z_1] : List Choice)) (fz := false) (by kernel_rfl) (by kernel_rfl) rfl) (fun _ => rfl) hz_2 (by kernel_rfl) (by kernel_rfl) rfl) <| Rc 1 [⟨.ref [3] (v_3 + 1) 0 (List.map Choice.d z_2).length 25, []⟩] <| Rd <| kB_nrm <| kS_nrm <| Ro <| Rc 2 [vi (IntKind.wrap .i64 (t13 + 1)), vi (IntKind.wrap .i64 (t13 + 1))] <| Rd ?_
   obtain rfl := sj h
   exact ⟨rfl, (v_3 + 1), Cz⟩
  | false =>
   replace h := ite_f hb_3 h
   refine Cf <| Runs.skip <| kB_nrm <| kS_nrm <| Ro <| Rc 2 [vi (IntKind.wrap .i64 (t13 + 1)), vi (IntKind.wrap .i64 (t13 + 1))] <| Rd ?_
   obtain rfl := sj h
   exact ⟨rfl, v_3, Cz⟩
 | false =>
  replace h := ite_f hb_2 h
  refine Cf <| Runs.exit <| kS_exit ?_
  obtain rfl := sj h
  exact ⟨nofun, rfl, v_3, Cz⟩
theorem pick_sorted_l8_ok (l_ : (List Choice)) (out3 : (List Choice)) (l0 : (List Choice)) (n4 : Int) (v_3 : Nat) (r : (Lp ((List Choice) × Int) (List Choice))) (h : pick_sorted_l8 out3 l0 n4 = some r) : Runs L F32l8 (pick_sorted_h8 out3 l0 n4 v_3) (LQ [] [0, 3, 4] [[3]] (fun (x : ((List Choice) × Int)) (g : Nat) => pick_sorted_h8 x.1 l0 x.2 g) (pick_sorted_P8 l_ l0) r) := by
 unfold pick_sorted_l8 at h
 refine Sq <| Sq <| Ro <| Rc 2 [vi n4, vb (decide (n4 ≤ 12))] <| Rk ?_
 cases hb_1 : ((decide (n4 ≤ 12)) : Bool) with
 | true =>
  replace h := ite_t hb_1 h
  refine Ct <| Runs.skip <| kS_nrm <| Sq <| Runs.block <| Sq <| Ro <| Rc 1 [⟨.d (.sl (List.map Choice.d l0)), []⟩] <| Rt (some 12) .lenL [] none [.d (.sl (List.map Choice.d l0))] (.i (l0.length : Int)) [] (cut_len _) <| Rc 1 [vi 0] <| Rk <| Runs.block ?_
  obtain ⟨e_1, he_1, h⟩ := bind_s h
  refine Runs.loop (fun x : ((List Choice) × Int) => pick_sorted_l20 x.1 l0 n4 l0 (l0.length : Int) x.2) (fun (x : ((List Choice) × Int)) (g : Nat) => pick_sorted_h20 x.1 l0 n4 l0 (l0.length : Int) x.2 g) (pick_sorted_P20 l_ l0 n4 l0 (l0.length : Int)) (fun x g r hr => pick_sorted_l20_ok l_ x.1 l0 n4 l0 (l0.length : Int) x.2 g r hr) v_3 he_1 Cz ?_
  rintro ⟨o, s⟩ hp
  obtain ⟨ho, g_1, hk_1⟩ := hp
  have ho' : o = .exit 2 := ho
  subst ho'
  refine kB_hit <| kB_nrm <| kS_nrm <| Runs.canon _ hk_1 <| Ro <| Rc 3 [vi n4, vi (IntKind.wrap .i64 (n4 + 1)), vi (IntKind.wrap .i64 (n4 + 1))] <| Rd ?_
  obtain rfl := sj h
  exact ⟨rfl, g_1, Cz⟩
 | false =>
  replace h := ite_f hb_1 h
  refine Cf <| Runs.exit <| kS_exit ?_
  obtain rfl := sj h
  exact ⟨nofun, rfl, v_3, Cz⟩
theorem pick_sorted_ok (l_ : (List Choice)) (r : (List Choice)) (h : pick_sorted l_ = some r) : Runs L F32.body ⟨tmOf [.d (.sl (List.map Choice.d l_))] 0, updW (fun _ => none) []⟩ (pick_sorted_Q l_ r) := by
 unfold pick_sorted at h
 refine Sq <| Ro <| Rc 1 [⟨.nils, []⟩] <| Rk <| Sq <| Ro <| Rc 1 [⟨.nils, []⟩] <| Rk <| Runs.canon (pick_sorted_h4 ([] : List Choice) l_ 0) (Canon.cons (own_nil Choice.d (v := 0) (by kernel_rfl) (by kernel_rfl)) Cz) <| Sq <| Sq <| Ro <| Rc 1 [vi 1] <| Rk <| Runs.block ?_
 obtain ⟨e_1, he_1, h⟩ := bind_s h
 refine Runs.loop (fun x : ((List Choice) × Int) => pick_sorted_l8 x.1 l_ x.2) (fun (x : ((List Choice) × Int)) (g : Nat) => pick_sorted_h8 x.1 l_ x.2 g) (pick_sorted_P8 l_ l_) (fun x g r hr => pick_sorted_l8_ok l_ x.1 l_ x.2 g r hr) 0 he_1 Cz ?_
 rintro ⟨o, s⟩ hp
 obtain ⟨ho, g_1, hk_1⟩ := hp
 have ho' : o = .exit 0 := ho
 subst ho'
 refine kB_hit <| kS_nrm <| Runs.canon _ hk_1 <| Sq <| Ro <| Rc 2 [⟨.ref [3] g_1 0 (List.map Choice.d e_1).length 25, []⟩, ⟨.ref [3] g_1 0 (List.map Choice.d e_1).length 25, []⟩] <| Rk <| Runs.ret ?_
 obtain rfl := sj h
 exact ⟨Out.ret_ne, (fin_of (rs := [.ref [3] g_1 0 (List.map Choice.d e_1).length 25]) (by kernel_rfl) (by kernel_rfl) (outs_own (id := [3]) (v := g_1) (fz := false) (es := List.map Choice.d e_1) (by kernel_rfl) (by decide) rfl outs_nil) (gives_cons (give_same (by kernel_rfl)) gives_nil))⟩
theorem pick_sorted_L (l_ : (List Choice)) (r : (List Choice)) (h : pick_sorted l_ = some r) : L 32 [.d (.sl (List.map Choice.d l_))] = some (.arr false 25 (List.map Choice.d r), [.d (.sl (List.map Choice.d l_))]) := by
 obtain ⟨p, ⟨hne, hf⟩, hr⟩ := pick_sorted_ok l_ r h
 obtain ⟨k, hk⟩ := run_of (F := F32) (args := [.d (.sl (List.map Choice.d l_))]) (ap := [.d (.sl (List.map Choice.d l_))]) (bx0 := updW (fun _ => none) []) rfl rfl (by kernel_rfl) ⟨p, ⟨hne, hf⟩, hr⟩
 exact lim_run (k := k) rfl hk
def pick_All_h4 (ops3 : (A2 Operand)) (out5 : (List Choice)) (name0 : Int) (v_5 : Nat) : St := ⟨tab [(0, .i name0), (3, .ptr [3] 0 0), (5, .ref [5] v_5 0 (List.map Choice.d out5).length 25)], tabB [([3], some (.cells [.i ops3.a0.Kind, .i ops3.a0.N, .i ops3.a0.RM, .i ops3.a0.V.N, .i ops3.a0.V.From, .i ops3.a0.V.Which, .i ops3.a0.V.Type_, .i ops3.a0.V.Wants, .b ops3.a0.V.Known, .i ops3.a0.Type_, .i ops3.a0.Over, .b ops3.a0.Short, .i ops3.a1.Kind, .i ops3.a1.N, .i ops3.a1.RM, .i ops3.a1.V.N, .i ops3.a1.V.From, .i ops3.a1.V.Which, .i ops3.a1.V.Type_, .i ops3.a1.V.Wants, .b ops3.a1.V.Known, .i ops3.a1.Type_, .i ops3.a1.Over, .b ops3.a1.Short] 0)), ([5], some (.arr (List.map Choice.d out5) v_5 false))]⟩
def pick_All_h8 (ops3 : (A2 Operand)) (out5 : (List Choice)) (name0 : Int) (t12 : Int) (v_5 : Nat) : St := ⟨tab [(0, .i name0), (3, .ptr [3] 0 0), (5, .ref [5] v_5 0 (List.map Choice.d out5).length 25), (12, .i t12)], tabB [([3], some (.cells [.i ops3.a0.Kind, .i ops3.a0.N, .i ops3.a0.RM, .i ops3.a0.V.N, .i ops3.a0.V.From, .i ops3.a0.V.Which, .i ops3.a0.V.Type_, .i ops3.a0.V.Wants, .b ops3.a0.V.Known, .i ops3.a0.Type_, .i ops3.a0.Over, .b ops3.a0.Short, .i ops3.a1.Kind, .i ops3.a1.N, .i ops3.a1.RM, .i ops3.a1.V.N, .i ops3.a1.V.From, .i ops3.a1.V.Which, .i ops3.a1.V.Type_, .i ops3.a1.V.Wants, .b ops3.a1.V.Known, .i ops3.a1.Type_, .i ops3.a1.Over, .b ops3.a1.Short] 0)), ([5], some (.arr (List.map Choice.d out5) v_5 false))]⟩
def pick_All_h27 (ops3 : (A2 Operand)) (out5 : (List Choice)) (name0 : Int) (first7 : Int) (reg8 : Int) (t12 : Int) (v_5 : Nat) : St := ⟨tab [(0, .i name0), (3, .ptr [3] 0 0), (5, .ref [5] v_5 0 (List.map Choice.d out5).length 25), (7, .y first7), (8, .i reg8), (12, .i t12)], tabB [([3], some (.cells [.i ops3.a0.Kind, .i ops3.a0.N, .i ops3.a0.RM, .i ops3.a0.V.N, .i ops3.a0.V.From, .i ops3.a0.V.Which, .i ops3.a0.V.Type_, .i ops3.a0.V.Wants, .b ops3.a0.V.Known, .i ops3.a0.Type_, .i ops3.a0.Over, .b ops3.a0.Short, .i ops3.a1.Kind, .i ops3.a1.N, .i ops3.a1.RM, .i ops3.a1.V.N, .i ops3.a1.V.From, .i ops3.a1.V.Which, .i ops3.a1.V.Type_, .i ops3.a1.V.Wants, .b ops3.a1.V.Known, .i ops3.a1.Type_, .i ops3.a1.Over, .b ops3.a1.Short] 0)), ([5], some (.arr (List.map Choice.d out5) v_5 false))]⟩
def pick_All_h49 (out5 : (List Choice)) (v_5 : Nat) : St := ⟨tab [(5, .ref [5] v_5 0 (List.map Choice.d out5).length 25)], tabB [([5], some (.arr (List.map Choice.d out5) v_5 false))]⟩
def pick_All_Q (name_ : Int) (ops_ : (A2 Operand)) (r : (List Choice)) (p : Out × St) : Prop := (∀ i, p.1 ≠ .exit i) ∧ finF F10 [.i name_, .d (.agg [.int .i64 ops_.a0.Kind, .int .i64 ops_.a0.N, .int .i64 ops_.a0.RM, .int .i64 ops_.a0.V.N, .int .i64 ops_.a0.V.From, .int .i64 ops_.a0.V.Which, .int .i64 ops_.a0.V.Type_, .int .i64 ops_.a0.V.Wants, .bool ops_.a0.V.Known, .int .i64 ops_.a0.Type_, .int .i64 ops_.a0.Over, .bool ops_.a0.Short, .int .i64 ops_.a1.Kind, .int .i64 ops_.a1.N, .int .i64 ops_.a1.RM, .int .i64 ops_.a1.V.N, .int .i64 ops_.a1.V.From, .int .i64 ops_.a1.V.Which, .int .i64 ops_.a1.V.Type_, .int .i64 ops_.a1.V.Wants, .bool ops_.a1.V.Known, .int .i64 ops_.a1.Type_, .int .i64 ops_.a1.Over, .bool ops_.a1.Short])] p.2 = some (.arr false 25 (List.map Choice.d r), [.i name_, .d (.agg [.int .i64 ops_.a0.Kind, .int .i64 ops_.a0.N, .int .i64 ops_.a0.RM, .int .i64 ops_.a0.V.N, .int .i64 ops_.a0.V.From, .int .i64 ops_.a0.V.Which, .int .i64 ops_.a0.V.Type_, .int .i64 ops_.a0.V.Wants, .bool ops_.a0.V.Known, .int .i64 ops_.a0.Type_, .int .i64 ops_.a0.Over, .bool ops_.a0.Short, .int .i64 ops_.a1.Kind, .int .i64 ops_.a1.N, .int .i64 ops_.a1.RM, .int .i64 ops_.a1.V.N, .int .i64 ops_.a1.V.From, .int .i64 ops_.a1.V.Which, .int .i64 ops_.a1.V.Type_, .int .i64 ops_.a1.V.Wants, .bool ops_.a1.V.Known, .int .i64 ops_.a1.Type_, .int .i64 ops_.a1.Over, .bool ops_.a1.Short])])
def pick_All_P8 (name_ : Int) (ops_ : (A2 Operand)) (ops3 : (A2 Operand)) (name0 : Int) (e : (List Choice)) (p : Out × St) : Prop := p.1 = .exit 0 ∧ ∃ g : Nat, Canon [] [5] [[5]] p.2 (pick_All_h49 e g)
theorem pick_All_j27_ok (name_ : Int) (ops_ : (A2 Operand)) (ops3 : (A2 Operand)) (out5 : (List Choice)) (name0 : Int) (first7 : Int) (reg8 : Int) (t12 : Int) (v_5 : Nat) (r : (Lp ((List Choice) × Int) (List Choice))) (h : pick_All_j27 ops3 out5 name0 first7 reg8 t12 = some r) : Runs L F10b27 (pick_All_h27 ops3 out5 name0 first7 reg8 t12 v_5) (kB 1 (kS L F10c48 (LQ [] [0, 3, 5, 12] [[3], [5]] (fun (x : ((List Choice) × Int)) (g : Nat) => pick_All_h8 ops3 x.1 name0 x.2 g) (pick_All_P8 name_ ops_ ops3 name0) r))) := by
 unfold pick_All_j27 at h
 refine Sq <| Ro <| Rc 2 [vy first7, vi reg8] ?_
 obtain ⟨r_3, hr_3, h⟩ := bind_s h
 have hc_3 := isa_Of_L first7 reg8 r_3 hr_3
 refine Rt (some 34) (.callf 27) [] none [.y first7, .i reg8] (.tup [.d (Row.d r_3.1), .b r_3.2]) [] (cc hc_3) <| Rc 6 [⟨.tup [.d (Row.d r_3.1), .b r_3.2], []⟩, ⟨.d (Row.d r_3.1), []⟩, vb r_3.2, ⟨.ptr [9] 0 0, [([9], some (.cells [.i 0, .i 0, .i 0, .b false] 0))]⟩, ⟨.tup [], [([9], some (.cells [.i r_3.1.Name, .i r_3.1.A, .i r_3.1.B, .b r_3.1.Mod] 0))]⟩, vb r_3.2] <| Rk <| Sq <| Sq <| Ro <| Rc 3 [vb r_3.2, vb (!r_3.2), vb (!r_3.2)] ?_
 cases hb_5 : ((!r_3.2) : Bool) with
 | true =>
  replace h := ite_t hb_5 h
  refine Rc 5 [vn, vn, vn, vn, vb true] <| Rk <| Ct <| Runs.exit <| kS_exit <| kB_hit <| kS_nrm <| Ro <| Rc 2 [vi (IntKind.wrap .i64 (t12 + 1)), vi (IntKind.wrap .i64 (t12 + 1))] <| Rd ?_
  obtain rfl := sj h
  exact ⟨rfl, v_5, Cz⟩
 | false =>
  replace h := ite_f hb_5 h
  refine Rc 5 [vp [9] 0 0, vi r_3.1.Name, vi name0, vb (r_3.1.Name != name0), vb (r_3.1.Name != name0)] <| Rk ?_
  cases hb_6 : ((r_3.1.Name != name0) : Bool) with
  | true =>
   replace h := ite_t hb_6 h
   refine Ct <| Runs.exit <| kS_exit <| kB_hit <| kS_nrm <| Ro <| Rc 2 [vi (IntKind.wrap .i64 (t12 + 1)), vi (IntKind.wrap .i64 (t12 + 1))] <| Rd ?_
   obtain rfl := sj h
   exact ⟨rfl, v_5, Cz⟩
  | false =>
   replace h := ite_f hb_6 h
   refine Cf <| Runs.skip <| kS_nrm <| Sq <| Sq <| Ro <| Rc 5 [vp [9] 0 1, vi r_3.1.A, vp [3] 0 0, ⟨.d (Operand.d ops3.a0), []⟩, vy first7] ?_
   obtain ⟨r_4, hr_4, h⟩ := bind_s h
   have hc_4 := pick_Fits_L r_3.1.A ops3.a0 first7 r_4 hr_4
   refine Rt (some 50) (.callf 28) [] none [.i r_3.1.A, .d (Operand.d ops3.a0), .y first7] (.b r_4) [] (cc hc_4) <| Rc 2 [vb (!r_4), vb (!r_4)] ?_
   cases hb_7 : ((!r_4) : Bool) with
   | true =>
    replace h := ite_t hb_7 h
    refine Rc 14 [vn, vn, vn, vn, vn, vn, vn, vb true, vb true, vn, vn, vn, vn, vb true] <| Rk <| Ct <| Runs.exit <| kS_exit <| kB_hit <| kS_nrm <| Ro <| Rc 2 [vi (IntKind.wrap .i64 (t12 + 1)), vi (IntKind.wrap .i64 (t12 + 1))] <| Rd ?_
    obtain rfl := sj h
    exact ⟨rfl, v_5, Cz⟩
   | false =>
    replace h := ite_f hb_7 h
    refine Rc 5 [vp [9] 0 2, vi r_3.1.B, vp [3] 0 12, ⟨.d (Operand.d ops3.a1), []⟩, vy first7] ?_
    obtain ⟨r_5, hr_5, h⟩ := bind_s h
    have hc_5 := pick_Fits_L r_3.1.B ops3.a1 first7 r_5 hr_5
    refine Rt (some 58) (.callf 28) [] none [.i r_3.1.B, .d (Operand.d ops3.a1), .y first7] (.b r_5) [] (cc hc_5) <| Rc 3 [vb (!r_5), vb (!r_5), vb (!r_5)] ?_
    cases hb_8 : ((!r_5) : Bool) with
    | true =>
     replace h := ite_t hb_8 h
     refine Rc 5 [vn, vn, vn, vn, vb true] <| Rk <| Ct <| Runs.exit <| kS_exit <| kB_hit <| kS_nrm <| Ro <| Rc 2 [vi (IntKind.wrap .i64 (t12 + 1)), vi (IntKind.wrap .i64 (t12 + 1))] <| Rd ?_
     obtain rfl := sj h
     exact ⟨rfl, v_5, Cz⟩
    | false =>
     replace h := ite_f hb_8 h
     refine Rc 2 [⟨.d (Row.d r_3.1), []⟩, ⟨.d (.agg [.int .i64 ops3.a0.Kind, .int .i64 ops3.a0.N, .int .i64 ops3.a0.RM, .int .i64 ops3.a0.V.N, .int .i64 ops3.a0.V.From, .int .i64 ops3.a0.V.Which, .int .i64 ops3.a0.V.Type_, .int .i64 ops3.a0.V.Wants, .bool ops3.a0.V.Known, .int .i64 ops3.a0.Type_, .int .i64 ops3.a0.Over, .bool ops3.a0.Short, .int .i64 ops3.a1.Kind, .int .i64 ops3.a1.N, .int .i64 ops3.a1.RM, .int .i64 ops3.a1.V.N, .int .i64 ops3.a1.V.From, .int .i64 ops3.a1.V.Which, .int .i64 ops3.a1.V.Type_, .int .i64 ops3.a1.V.Wants, .bool ops3.a1.V.Known, .int .i64 ops3.a1.Type_, .int .i64 ops3.a1.Over, .bool ops3.a1.Short]), []⟩] ?_
     obtain ⟨r_6, hr_6, h⟩ := bind_s h
     have hc_6 := pick_sized_L r_3.1 ops3 r_6 hr_6
     refine Rt (some 64) (.callf 29) [] none [.d (Row.d r_3.1), .d (.agg [.int .i64 ops3.a0.Kind, .int .i64 ops3.a0.N, .int .i64 ops3.a0.RM, .int .i64 ops3.a0.V.N, .int .i64 ops3.a0.V.From, .int .i64 ops3.a0.V.Which, .int .i64 ops3.a0.V.Type_, .int .i64 ops3.a0.V.Wants, .bool ops3.a0.V.Known, .int .i64 ops3.a0.Type_, .int .i64 ops3.a0.Over, .bool ops3.a0.Short, .int .i64 ops3.a1.Kind, .int .i64 ops3.a1.N, .int .i64 ops3.a1.RM, .int .i64 ops3.a1.V.N, .int .i64 ops3.a1.V.From, .int .i64 ops3.a1.V.Which, .int .i64 ops3.a1.V.Type_, .int .i64 ops3.a1.V.Wants, .bool ops3.a1.V.Known, .int .i64 ops3.a1.Type_, .int .i64 ops3.a1.Over, .bool ops3.a1.Short])] (.b r_6) [] (cc hc_6) <| Rc 2 [vb (!r_6), vb (!r_6)] <| Rk ?_
     cases hb_9 : ((!r_6) : Bool) with
     | true =>
      replace h := ite_t hb_9 h
      refine Ct <| Runs.exit <| kS_exit <| kB_hit <| kS_nrm <| Ro <| Rc 2 [vi (IntKind.wrap .i64 (t12 + 1)), vi (IntKind.wrap .i64 (t12 + 1))] <| Rd ?_
      obtain rfl := sj h
      exact ⟨rfl, v_5, Cz⟩
     | false =>
      replace h := ite_f hb_9 h
      refine Cf <| Runs.skip <| kS_nrm <| Sq <| Ro <| Rc 4 [vy first7, vi reg8, ⟨.d (Row.d r_3.1), []⟩, ⟨.d (.agg [.int .i64 ops3.a0.Kind, .int .i64 ops3.a0.N, .int .i64 ops3.a0.RM, .int .i64 ops3.a0.V.N, .int .i64 ops3.a0.V.From, .int .i64 ops3.a0.V.Which, .int .i64 ops3.a0.V.Type_, .int .i64 ops3.a0.V.Wants, .bool ops3.a0.V.Known, .int .i64 ops3.a0.Type_, .int .i64 ops3.a0.Over, .bool ops3.a0.Short, .int .i64 ops3.a1.Kind, .int .i64 ops3.a1.N, .int .i64 ops3.a1.RM, .int .i64 ops3.a1.V.N, .int .i64 ops3.a1.V.From, .int .i64 ops3.a1.V.Which, .int .i64 ops3.a1.V.Type_, .int .i64 ops3.a1.V.Wants, .bool ops3.a1.V.Known, .int .i64 ops3.a1.Type_, .int .i64 ops3.a1.Over, .bool ops3.a1.Short]), []⟩] ?_
      obtain ⟨r_7, hr_7, h⟩ := bind_s h
      have hc_7 := pick_build_L first7 reg8 r_3.1 ops3 r_7 hr_7
      refine Rt (some 71) (.callf 30) [] none [.y first7, .i reg8, .d (Row.d r_3.1), .d (.agg [.int .i64 ops3.a0.Kind, .int .i64 ops3.a0.N, .int .i64 ops3.a0.RM, .int .i64 ops3.a0.V.N, .int .i64 ops3.a0.V.From, .int .i64 ops3.a0.V.Which, .int .i64 ops3.a0.V.Type_, .int .i64 ops3.a0.V.Wants, .bool ops3.a0.V.Known, .int .i64 ops3.a0.Type_, .int .i64 ops3.a0.Over, .bool ops3.a0.Short, .int .i64 ops3.a1.Kind, .int .i64 ops3.a1.N, .int .i64 ops3.a1.RM, .int .i64 ops3.a1.V.N, .int .i64 ops3.a1.V.From, .int .i64 ops3.a1.V.Which, .int .i64 ops3.a1.V.Type_, .int .i64 ops3.a1.V.Wants, .bool ops3.a1.V.Known, .int .i64 ops3.a1.Type_, .int .i64 ops3.a1.Over, .bool ops3.a1.Short])] (.d (Choice.d r_7)) [] (cc hc_7) <| Rc 2 [⟨.ptr [11] 0 0, [([11], some (.cells [.b false, .i 0, .i 0, .y 0, .i 0, .i 0, .i 0, .w 0, .w 0, .w 0, .i 0, .i 0, .i 0, .i 0, .i 0, .b false, .i 0, .i 0, .i 0, .i 0, .i 0, .b false, .b false, .b false, .b false] 0))]⟩, ⟨.tup [], [([11], some (.cells [.b r_7.I.Lock, .i r_7.I.Rep, .i r_7.I.Seg, .y r_7.I.Op, .i r_7.I.Mod, .i r_7.I.Reg, .i r_7.I.RM, .w r_7.I.Disp, .w r_7.I.Imm, .w r_7.I.Sel, .i r_7.Disp.N, .i r_7.Disp.From, .i r_7.Disp.Which, .i r_7.Disp.Type_, .i r_7.Disp.Wants, .b r_7.Disp.Known, .i r_7.Imm.N, .i r_7.Imm.From, .i r_7.Imm.Which, .i r_7.Imm.Type_, .i r_7.Imm.Wants, .b r_7.Imm.Known, .b r_7.HasD, .b r_7.HasI, .b r_7.Jumps] 0))]⟩] ?_
      refine Rk <| Sq <| Ro <| Rc 2 [vp [11] 0 0, ⟨.d (Inst.d r_7.I), []⟩] ?_
      obtain ⟨r_8, hr_8, h⟩ := bind_s h
      have hc_8 := inst_May_L r_7.I r_8 hr_8
      refine Rt (some 74) (.callf 31) [] none [.d (Inst.d r_7.I)] (.b r_8) [] (cc hc_8) <| Rk ?_
      cases hb_10 : (r_8 : Bool) with
      | true =>
       replace h := ite_t hb_10 h
       refine Ct <| Ro <| Rc 3 [⟨.ref [5] v_5 0 (List.map Choice.d out5).length 25, []⟩, ⟨.d (Choice.d r_7), []⟩, ⟨.ref [77] 0 0 (List.map Choice.d ([r_7] : List Choice)).length 25, [([77], some (.arr (List.map Choice.d ([r_7] : List Choice)) 0 false))]⟩] ?_
       obtain ⟨z_1, hz_1, h⟩ := bind_s h
       refine Rt (some 78) (.append 25 168 false) [] none [.ref [5] v_5 0 (List.map Choice.d out5).length 25, .ref [77] 0 0 (List.map Choice.d ([r_7] : List Choice)).length 25] (.ref [5] (v_5 + 1) 0 (List.map Choice.d z_1).length 25) [([5], some (.arr (List.map Choice.d z_1) (v_5 + 1) false))] (cut_appR (e := Choice.d) (l := out5) (fz := false) (ws := []) (ap_ref (e := Choice.d) (l := ([r_7] : List Choice)) (fz := false) (by kernel_rfl) (by kernel_rfl) rfl) (fun _ => rfl) hz_1 (by kernel_rfl) (by kernel_rfl) rfl) <| Rc 1 [⟨.ref [5] (v_5 + 1) 0 (List.map Choice.d z_1).length 25, []⟩] <| Rd <| kB_nrm <| kS_nrm <| Ro <| Rc 2 [vi (IntKind.wrap .i64 (t12 + 1)), vi (IntKind.wrap .i64 (t12 + 1))] <| Rd ?_
       obtain rfl := sj h
       exact ⟨rfl, (v_5 + 1), Cz⟩
      | false =>
       replace h := ite_f hb_10 h
       refine Cf <| Runs.skip <| kB_nrm <| kS_nrm <| Ro <| Rc 2 [vi (IntKind.wrap .i64 (t12 + 1)), vi (IntKind.wrap .i64 (t12 + 1))] <| Rd ?_
       obtain rfl := sj h
       exact ⟨rfl, v_5, Cz⟩
theorem pick_All_l8_ok (name_ : Int) (ops_ : (A2 Operand)) (ops3 : (A2 Operand)) (out5 : (List Choice)) (name0 : Int) (t12 : Int) (v_5 : Nat) (r : (Lp ((List Choice) × Int) (List Choice))) (h : pick_All_l8 ops3 out5 name0 t12 = some r) : Runs L F10l8 (pick_All_h8 ops3 out5 name0 t12 v_5) (LQ [] [0, 3, 5, 12] [[3], [5]] (fun (x : ((List Choice) × Int)) (g : Nat) => pick_All_h8 ops3 x.1 name0 x.2 g) (pick_All_P8 name_ ops_ ops3 name0) r) := by
 unfold pick_All_l8 at h
 refine Sq <| Ro <| Rc 1 [vb (decide (t12 < 2048))] <| Rk <| Sq ?_
 cases hb_1 : ((decide (t12 < 2048)) : Bool) with
 | true =>
  replace h := ite_t hb_1 h
  refine Ct <| Runs.skip <| kS_nrm <| Sq <| Runs.block <| Sq <| Ro <| Rc 2 [vi t12, vi t12] <| Rk <| Sq <| Ro <| Rc 7 [vi t12, vi (shrI .i64 t12 3), vy (IntKind.wrap .u8 (shrI .i64 t12 3)), vi t12, vi (bitsOp .and .i64 t12 7), vy (IntKind.wrap .u8 (shrI .i64 t12 3)), vi (bitsOp .and .i64 t12 7)] <| Rk <| Sq <| Sq <| Ro <| Rc 3 [vi (bitsOp .and .i64 t12 7), vb (decide ((bitsOp .and .i64 t12 7) > 0)), vb (decide ((bitsOp .and .i64 t12 7) > 0))] ?_
  cases hb_2 : ((decide ((bitsOp .and .i64 t12 7) > 0)) : Bool) with
  | true =>
   replace h := ite_t hb_2 h
   refine Rc 1 [vy (IntKind.wrap .u8 (shrI .i64 t12 3))] ?_
   obtain ⟨r_1, hr_1, h⟩ := bind_s h
   have hc_1 := isa_Grouped_L (IntKind.wrap .u8 (shrI .i64 t12 3)) r_1 hr_1
   refine Rt (some 24) (.callf 25) [] none [.y (IntKind.wrap .u8 (shrI .i64 t12 3))] (.b r_1) [] (cc hc_1) <| Rc 3 [vb (!r_1), vb (!r_1), vb (!r_1)] ?_
   cases hb_3 : ((!r_1) : Bool) with
   | true =>
    replace h := ite_t hb_3 h
    refine Rc 3 [vn, vn, vb true] <| Rk <| Ct <| Runs.exit <| kS_exit <| kB_hit <| kS_nrm <| Ro <| Rc 2 [vi (IntKind.wrap .i64 (t12 + 1)), vi (IntKind.wrap .i64 (t12 + 1))] <| Rd ?_
    obtain rfl := sj h
    exact ⟨rfl, v_5, Cz⟩
   | false =>
    replace h := ite_f hb_3 h
    refine Rc 1 [vy (IntKind.wrap .u8 (shrI .i64 t12 3))] ?_
    obtain ⟨r_2, hr_2, h⟩ := bind_s h
    have hc_2 := isa_Prefix_L (IntKind.wrap .u8 (shrI .i64 t12 3)) r_2 hr_2
    refine Rt (some 29) (.callf 26) [] none [.y (IntKind.wrap .u8 (shrI .i64 t12 3))] (.b r_2) [] (cc hc_2) <| Rc 1 [vb r_2] <| Rk ?_
    cases hb_4 : (r_2 : Bool) with
    | true =>
     replace h := ite_t hb_4 h
     refine Ct <| Runs.exit <| kS_exit <| kB_hit <| kS_nrm <| Ro <| Rc 2 [vi (IntKind.wrap .i64 (t12 + 1)), vi (IntKind.wrap .i64 (t12 + 1))] <| Rd ?_
     obtain rfl := sj h
     exact ⟨rfl, v_5, Cz⟩
    | false =>
     replace h := ite_f hb_4 h
     refine Cf <| Runs.skip <| kS_nrm <| Runs.canon (pick_All_h27 ops3 out5 name0 (IntKind.wrap .u8 (shrI .i64 t12 3)) (bitsOp .and .i64 t12 7) t12 v_5) Cz ?_
     exact pick_All_j27_ok name_ ops_ ops3 out5 name0 (IntKind.wrap .u8 (shrI .i64 t12 3)) (bitsOp .and .i64 t12 7) t12 v_5 r h
  | false =>
   replace h := ite_f hb_2 h
   refine Rc 6 [vn, vn, vn, vb false, vb false, vy (IntKind.wrap .u8 (shrI .i64 t12 3))] ?_
   obtain ⟨r_9, hr_9, h⟩ := bind_s h
   have hc_9 := isa_Prefix_L (IntKind.wrap .u8 (shrI .i64 t12 3)) r_9 hr_9
   refine Rt (some 29) (.callf 26) [] none [.y (IntKind.wrap .u8 (shrI .i64 t12 3))] (.b r_9) [] (cc hc_9) <| Rc 1 [vb r_9] <| Rk ?_
   cases hb_11 : (r_9 : Bool) with
   | true =>
    replace h := ite_t hb_11 h
    refine Ct <| Runs.exit <| kS_exit <| kB_hit <| kS_nrm <| Ro <| Rc 2 [vi (IntKind.wrap .i64 (t12 + 1)), vi (IntKind.wrap .i64 (t12 + 1))] <| Rd ?_
    obtain rfl := sj h
    exact ⟨rfl, v_5, Cz⟩
   | false =>
    replace h := ite_f hb_11 h
    refine Cf <| Runs.skip <| kS_nrm <| Runs.canon (pick_All_h27 ops3 out5 name0 (IntKind.wrap .u8 (shrI .i64 t12 3)) (bitsOp .and .i64 t12 7) t12 v_5) Cz ?_
    exact pick_All_j27_ok name_ ops_ ops3 out5 name0 (IntKind.wrap .u8 (shrI .i64 t12 3)) (bitsOp .and .i64 t12 7) t12 v_5 r h
 | false =>
  replace h := ite_f hb_1 h
  refine Cf <| Runs.exit <| kS_exit ?_
  obtain rfl := sj h
  exact ⟨nofun, rfl, v_5, Cz⟩
theorem pick_All_ok (name_ : Int) (ops_ : (A2 Operand)) (r : (List Choice)) (h : pick_All name_ ops_ = some r) : Runs L F10.body ⟨tmOf [.i name_, .d (.agg [.int .i64 ops_.a0.Kind, .int .i64 ops_.a0.N, .int .i64 ops_.a0.RM, .int .i64 ops_.a0.V.N, .int .i64 ops_.a0.V.From, .int .i64 ops_.a0.V.Which, .int .i64 ops_.a0.V.Type_, .int .i64 ops_.a0.V.Wants, .bool ops_.a0.V.Known, .int .i64 ops_.a0.Type_, .int .i64 ops_.a0.Over, .bool ops_.a0.Short, .int .i64 ops_.a1.Kind, .int .i64 ops_.a1.N, .int .i64 ops_.a1.RM, .int .i64 ops_.a1.V.N, .int .i64 ops_.a1.V.From, .int .i64 ops_.a1.V.Which, .int .i64 ops_.a1.V.Type_, .int .i64 ops_.a1.V.Wants, .bool ops_.a1.V.Known, .int .i64 ops_.a1.Type_, .int .i64 ops_.a1.Over, .bool ops_.a1.Short])] 0, updW (fun _ => none) []⟩ (pick_All_Q name_ ops_ r) := by
 unfold pick_All at h
 refine Sq <| Ro <| Rc 2 [⟨.ptr [3] 0 0, [([3], some (.cells [.i ops_.a0.Kind, .i ops_.a0.N, .i ops_.a0.RM, .i ops_.a0.V.N, .i ops_.a0.V.From, .i ops_.a0.V.Which, .i ops_.a0.V.Type_, .i ops_.a0.V.Wants, .b ops_.a0.V.Known, .i ops_.a0.Type_, .i ops_.a0.Over, .b ops_.a0.Short, .i ops_.a1.Kind, .i ops_.a1.N, .i ops_.a1.RM, .i ops_.a1.V.N, .i ops_.a1.V.From, .i ops_.a1.V.Which, .i ops_.a1.V.Type_, .i ops_.a1.V.Wants, .b ops_.a1.V.Known, .i ops_.a1.Type_, .i ops_.a1.Over, .b ops_.a1.Short] 0))]⟩, ⟨.nils, []⟩] <| Rk <| Sq <| Ro <| Rc 1 [⟨.nils, []⟩] <| Rk <| Runs.canon (pick_All_h4 ops_ ([] : List Choice) name_ 0) (Canon.cons (own_nil Choice.d (v := 0) (by kernel_rfl) (by kernel_rfl)) Cz) <| Sq <| Sq <| Ro <| Rc 1 [vi 0] <| Rk <| Runs.block ?_
 obtain ⟨e_1, he_1, h⟩ := bind_s h
 refine Runs.loop (fun x : ((List Choice) × Int) => pick_All_l8 ops_ x.1 name_ x.2) (fun (x : ((List Choice) × Int)) (g : Nat) => pick_All_h8 ops_ x.1 name_ x.2 g) (pick_All_P8 name_ ops_ ops_ name_) (fun x g r hr => pick_All_l8_ok name_ ops_ ops_ x.1 name_ x.2 g r hr) 0 he_1 Cz ?_
 rintro ⟨o, s⟩ hp
 obtain ⟨ho, g_1, hk_1⟩ := hp
 have ho' : o = .exit 0 := ho
 subst ho'
 refine kB_hit <| kS_nrm <| Runs.canon _ hk_1 <| Sq <| Ro <| Rc 1 [⟨.ref [5] g_1 0 (List.map Choice.d e_1).length 25, []⟩] ?_
 obtain ⟨r_1, hr_1, h⟩ := bind_s h
 have hc_1 := pick_sorted_L e_1 r_1 hr_1
 refine Rt (some 81) (.callf 32) [] none [.ref [5] g_1 0 (List.map Choice.d e_1).length 25] (.ref [81] 0 0 (List.map Choice.d r_1).length 25) [([5], some (.arr (List.map Choice.d e_1) g_1 true)), ([81], some (.arr (List.map Choice.d r_1) 0 false))] (cut_call (call_of (ws := [([5], some (.arr (List.map Choice.d e_1) g_1 true))]) (us := [([5], some (.arr (List.map Choice.d e_1) g_1 true))]) (by kernel_rfl) (gives_cons (ws := [([5], some (.arr (List.map Choice.d e_1) g_1 true))]) (give_ref (e := Choice.d) (l := e_1) (fz := false) (by kernel_rfl) (by kernel_rfl) rfl) gives_nil) hc_1 (by kernel_rfl) (by kernel_rfl))) <| Rc 1 [⟨.ref [81] 0 0 (List.map Choice.d r_1).length 25, []⟩] <| Rk <| Runs.ret ?_
 obtain rfl := sj h
 exact ⟨Out.ret_ne, (fin_of (rs := [.ref [81] 0 0 (List.map Choice.d r_1).length 25]) (by kernel_rfl) (by kernel_rfl) (outs_own (id := [81]) (v := 0) (fz := false) (es := List.map Choice.d r_1) (by kernel_rfl) (by decide) rfl outs_nil) (gives_cons (give_same (by kernel_rfl)) (gives_cons (give_same (by kernel_rfl)) gives_nil)))⟩
theorem pick_All_L (name_ : Int) (ops_ : (A2 Operand)) (r : (List Choice)) (h : pick_All name_ ops_ = some r) : L 10 [.i name_, .d (.agg [.int .i64 ops_.a0.Kind, .int .i64 ops_.a0.N, .int .i64 ops_.a0.RM, .int .i64 ops_.a0.V.N, .int .i64 ops_.a0.V.From, .int .i64 ops_.a0.V.Which, .int .i64 ops_.a0.V.Type_, .int .i64 ops_.a0.V.Wants, .bool ops_.a0.V.Known, .int .i64 ops_.a0.Type_, .int .i64 ops_.a0.Over, .bool ops_.a0.Short, .int .i64 ops_.a1.Kind, .int .i64 ops_.a1.N, .int .i64 ops_.a1.RM, .int .i64 ops_.a1.V.N, .int .i64 ops_.a1.V.From, .int .i64 ops_.a1.V.Which, .int .i64 ops_.a1.V.Type_, .int .i64 ops_.a1.V.Wants, .bool ops_.a1.V.Known, .int .i64 ops_.a1.Type_, .int .i64 ops_.a1.Over, .bool ops_.a1.Short])] = some (.arr false 25 (List.map Choice.d r), [.i name_, .d (.agg [.int .i64 ops_.a0.Kind, .int .i64 ops_.a0.N, .int .i64 ops_.a0.RM, .int .i64 ops_.a0.V.N, .int .i64 ops_.a0.V.From, .int .i64 ops_.a0.V.Which, .int .i64 ops_.a0.V.Type_, .int .i64 ops_.a0.V.Wants, .bool ops_.a0.V.Known, .int .i64 ops_.a0.Type_, .int .i64 ops_.a0.Over, .bool ops_.a0.Short, .int .i64 ops_.a1.Kind, .int .i64 ops_.a1.N, .int .i64 ops_.a1.RM, .int .i64 ops_.a1.V.N, .int .i64 ops_.a1.V.From, .int .i64 ops_.a1.V.Which, .int .i64 ops_.a1.V.Type_, .int .i64 ops_.a1.V.Wants, .bool ops_.a1.V.Known, .int .i64 ops_.a1.Type_, .int .i64 ops_.a1.Over, .bool ops_.a1.Short])]) := by
 obtain ⟨p, ⟨hne, hf⟩, hr⟩ := pick_All_ok name_ ops_ r h
 obtain ⟨k, hk⟩ := run_of (F := F10) (args := [.i name_, .d (.agg [.int .i64 ops_.a0.Kind, .int .i64 ops_.a0.N, .int .i64 ops_.a0.RM, .int .i64 ops_.a0.V.N, .int .i64 ops_.a0.V.From, .int .i64 ops_.a0.V.Which, .int .i64 ops_.a0.V.Type_, .int .i64 ops_.a0.V.Wants, .bool ops_.a0.V.Known, .int .i64 ops_.a0.Type_, .int .i64 ops_.a0.Over, .bool ops_.a0.Short, .int .i64 ops_.a1.Kind, .int .i64 ops_.a1.N, .int .i64 ops_.a1.RM, .int .i64 ops_.a1.V.N, .int .i64 ops_.a1.V.From, .int .i64 ops_.a1.V.Which, .int .i64 ops_.a1.V.Type_, .int .i64 ops_.a1.V.Wants, .bool ops_.a1.V.Known, .int .i64 ops_.a1.Type_, .int .i64 ops_.a1.Over, .bool ops_.a1.Short])]) (ap := [.i name_, .d (.agg [.int .i64 ops_.a0.Kind, .int .i64 ops_.a0.N, .int .i64 ops_.a0.RM, .int .i64 ops_.a0.V.N, .int .i64 ops_.a0.V.From, .int .i64 ops_.a0.V.Which, .int .i64 ops_.a0.V.Type_, .int .i64 ops_.a0.V.Wants, .bool ops_.a0.V.Known, .int .i64 ops_.a0.Type_, .int .i64 ops_.a0.Over, .bool ops_.a0.Short, .int .i64 ops_.a1.Kind, .int .i64 ops_.a1.N, .int .i64 ops_.a1.RM, .int .i64 ops_.a1.V.N, .int .i64 ops_.a1.V.From, .int .i64 ops_.a1.V.Which, .int .i64 ops_.a1.V.Type_, .int .i64 ops_.a1.V.Wants, .bool ops_.a1.V.Known, .int .i64 ops_.a1.Type_, .int .i64 ops_.a1.Over, .bool ops_.a1.Short])]) (bx0 := updW (fun _ => none) []) rfl rfl (by kernel_rfl) ⟨p, ⟨hne, hf⟩, hr⟩
 exact lim_run (k := k) rfl hk
def pick_Pick_h12 (b_6 : Choice) (b_18 : (List Choice)) (long2 : Bool) (v_18 : Nat) : St := ⟨tab [(2, .b long2), (6, .ptr [6] 0 0), (10, .ref [18] v_18 0 (List.map Choice.d b_18).length 25)], tabB [([6], some (.cells [.b b_6.I.Lock, .i b_6.I.Rep, .i b_6.I.Seg, .y b_6.I.Op, .i b_6.I.Mod, .i b_6.I.Reg, .i b_6.I.RM, .w b_6.I.Disp, .w b_6.I.Imm, .w b_6.I.Sel, .i b_6.Disp.N, .i b_6.Disp.From, .i b_6.Disp.Which, .i b_6.Disp.Type_, .i b_6.Disp.Wants, .b b_6.Disp.Known, .i b_6.Imm.N, .i b_6.Imm.From, .i b_6.Imm.Which, .i b_6.Imm.Type_, .i b_6.Imm.Wants, .b b_6.Imm.Known, .b b_6.HasD, .b b_6.HasI, .b b_6.Jumps] 0)), ([18], some (.arr (List.map Choice.d b_18) v_18 false))]⟩
def pick_Pick_Q (word_ : (List UInt8)) (ops_ : (A2 Operand)) (long_ : Bool) (r : (Choice × Int)) (p : Out × St) : Prop := (∀ i, p.1 ≠ .exit i) ∧ finF F17 [.d (.str word_), .d (.agg [.int .i64 ops_.a0.Kind, .int .i64 ops_.a0.N, .int .i64 ops_.a0.RM, .int .i64 ops_.a0.V.N, .int .i64 ops_.a0.V.From, .int .i64 ops_.a0.V.Which, .int .i64 ops_.a0.V.Type_, .int .i64 ops_.a0.V.Wants, .bool ops_.a0.V.Known, .int .i64 ops_.a0.Type_, .int .i64 ops_.a0.Over, .bool ops_.a0.Short, .int .i64 ops_.a1.Kind, .int .i64 ops_.a1.N, .int .i64 ops_.a1.RM, .int .i64 ops_.a1.V.N, .int .i64 ops_.a1.V.From, .int .i64 ops_.a1.V.Which, .int .i64 ops_.a1.V.Type_, .int .i64 ops_.a1.V.Wants, .bool ops_.a1.V.Known, .int .i64 ops_.a1.Type_, .int .i64 ops_.a1.Over, .bool ops_.a1.Short]), .b long_] p.2 = some (.tup [.d (Choice.d r.1), .i r.2], [.d (.str word_), .d (.agg [.int .i64 ops_.a0.Kind, .int .i64 ops_.a0.N, .int .i64 ops_.a0.RM, .int .i64 ops_.a0.V.N, .int .i64 ops_.a0.V.From, .int .i64 ops_.a0.V.Which, .int .i64 ops_.a0.V.Type_, .int .i64 ops_.a0.V.Wants, .bool ops_.a0.V.Known, .int .i64 ops_.a0.Type_, .int .i64 ops_.a0.Over, .bool ops_.a0.Short, .int .i64 ops_.a1.Kind, .int .i64 ops_.a1.N, .int .i64 ops_.a1.RM, .int .i64 ops_.a1.V.N, .int .i64 ops_.a1.V.From, .int .i64 ops_.a1.V.Which, .int .i64 ops_.a1.V.Type_, .int .i64 ops_.a1.V.Wants, .bool ops_.a1.V.Known, .int .i64 ops_.a1.Type_, .int .i64 ops_.a1.Over, .bool ops_.a1.Short]), .b long_])
theorem pick_Pick_j12_ok (word_ : (List UInt8)) (ops_ : (A2 Operand)) (long_ : Bool) (b_6 : Choice) (b_18 : (List Choice)) (long2 : Bool) (v_18 : Nat) (r : (Choice × Int)) (h : pick_Pick_j12 b_6 b_18 long2 = some r) : Runs L F17b12 (pick_Pick_h12 b_6 b_18 long2 v_18) (pick_Pick_Q word_ ops_ long_ r) := by
 unfold pick_Pick_j12 at h
 refine Sq <| Sq <| Ro <| Rc 1 [⟨.ref [18] v_18 0 (List.map Choice.d b_18).length 25, []⟩] <| Rt (some 27) .lenL [] none [.ref [18] v_18 0 (List.map Choice.d b_18).length 25] (.i (b_18.length : Int)) [] (cut_lenR (e := Choice.d) b_18 rfl) <| Rc 1 [vb ((b_18.length : Int) == 0)] <| Rk ?_
 cases hb_2 : (((b_18.length : Int) == 0) : Bool) with
 | true =>
  replace h := ite_t hb_2 h
  refine Ct <| Sq <| Ro <| Rc 3 [⟨.d (.agg [.bool false, .int .i64 0, .int .i64 0, .int .u8 0, .int .i64 0, .int .i64 0, .int .i64 0, .int .u16 0, .int .u16 0, .int .u16 0, .int .i64 0, .int .i64 0, .int .i64 0, .int .i64 0, .int .i64 0, .bool false, .int .i64 0, .int .i64 0, .int .i64 0, .int .i64 0, .int .i64 0, .bool false, .bool false, .bool false, .bool false]), []⟩, ⟨.tup [], [([6], some (.cells [.b false, .i 0, .i 0, .y 0, .i 0, .i 0, .i 0, .w 0, .w 0, .w 0, .i 0, .i 0, .i 0, .i 0, .i 0, .b false, .i 0, .i 0, .i 0, .i 0, .i 0, .b false, .b false, .b false, .b false] 0))]⟩, vi 6] <| Rk <| Runs.ret <| kS_ret ?_
  cases h
  exact Fq
 | false =>
  replace h := ite_f hb_2 h
  refine Cf <| Runs.skip <| kS_nrm <| Sq <| Sq <| Ro <| Rc 2 [vb long2, vb long2] ?_
  cases hb_3 : (long2 : Bool) with
  | true =>
   replace h := ite_t hb_3 h
   refine Rc 1 [⟨.ref [18] v_18 0 (List.map Choice.d b_18).length 25, []⟩] ?_
   obtain ⟨z_2, hz_2, h⟩ := bind_s h
   refine Rt (some 33) (.iaddrS 25) [] none [.ref [18] v_18 0 (List.map Choice.d b_18).length 25, .i 0] (.eref [18] v_18 (0 + ((0 : Int)).toNat) 0) [] (cut_atR (e := Choice.d) (l := b_18) hz_2 rfl) <| Rc 1 [⟨.eref [18] v_18 (0 + ((0 : Int)).toNat) 24, []⟩] <| Rt (some 35) (.load none) [] none [.eref [18] v_18 (0 + ((0 : Int)).toNat) 24] (.b z_2.Jumps) [] (cut_loadR (e := Choice.d) (l := b_18) (fz := false) (y := z_2) (by kernel_rfl) hz_2 (by kernel_rfl) (by kernel_rfl)) <| Rc 2 [vb z_2.Jumps, vb z_2.Jumps] ?_
   cases hb_4 : (z_2.Jumps : Bool) with
   | true =>
    replace h := ite_t hb_4 h
    refine Rc 1 [⟨.ref [18] v_18 0 (List.map Choice.d b_18).length 25, []⟩] <| Rt (some 39) .lenL [] none [.ref [18] v_18 0 (List.map Choice.d b_18).length 25] (.i (b_18.length : Int)) [] (cut_lenR (e := Choice.d) b_18 rfl) <| Rc 2 [vb (decide ((b_18.length : Int) > 1)), vb (decide ((b_18.length : Int) > 1))] <| Rk ?_
    cases hb_5 : ((decide ((b_18.length : Int) > 1)) : Bool) with
    | true =>
     replace h := ite_t hb_5 h
     refine Ct <| Sq <| Ro <| Rc 1 [⟨.ref [18] v_18 0 (List.map Choice.d b_18).length 25, []⟩] ?_
     obtain ⟨z_3, hz_3, h⟩ := bind_s h
     refine Rt (some 43) (.iaddrS 25) [] none [.ref [18] v_18 0 (List.map Choice.d b_18).length 25, .i 1] (.eref [18] v_18 (0 + ((1 : Int)).toNat) 0) [] (cut_atR (e := Choice.d) (l := b_18) hz_3 rfl) <| Rt (some 44) (.load (some 25)) [] none [.eref [18] v_18 (0 + ((1 : Int)).toNat) 0] (.d (Choice.d z_3)) [] (cut_loadR (e := Choice.d) (l := b_18) (fz := false) (y := z_3) (by kernel_rfl) hz_3 (by kernel_rfl) (by kernel_rfl)) <| Rc 2 [⟨.tup [], [([6], some (.cells [.b z_3.I.Lock, .i z_3.I.Rep, .i z_3.I.Seg, .y z_3.I.Op, .i z_3.I.Mod, .i z_3.I.Reg, .i z_3.I.RM, .w z_3.I.Disp, .w z_3.I.Imm, .w z_3.I.Sel, .i z_3.Disp.N, .i z_3.Disp.From, .i z_3.Disp.Which, .i z_3.Disp.Type_, .i z_3.Disp.Wants, .b z_3.Disp.Known, .i z_3.Imm.N, .i z_3.Imm.From, .i z_3.Imm.Which, .i z_3.Imm.Type_, .i z_3.Imm.Wants, .b z_3.Imm.Known, .b z_3.HasD, .b z_3.HasI, .b z_3.Jumps] 0))]⟩, vi 0] <| Rk <| Runs.ret <| kS_ret ?_
     cases h
     exact Fq
    | false =>
     replace h := ite_f hb_5 h
     refine Cf <| Runs.skip <| kS_nrm <| Sq <| Ro <| Rc 1 [⟨.ref [18] v_18 0 (List.map Choice.d b_18).length 25, []⟩] ?_
     obtain ⟨z_4, hz_4, h⟩ := bind_s h
     refine Rt (some 46) (.iaddrS 25) [] none [.ref [18] v_18 0 (List.map Choice.d b_18).length 25, .i 0] (.eref [18] v_18 (0 + ((0 : Int)).toNat) 0) [] (cut_atR (e := Choice.d) (l := b_18) hz_4 rfl) <| Rt (some 47) (.load (some 25)) [] none [.eref [18] v_18 (0 + ((0 : Int)).toNat) 0] (.d (Choice.d z_4)) [] (cut_loadR (e := Choice.d) (l := b_18) (fz := false) (y := z_4) (by kernel_rfl) hz_4 (by kernel_rfl) (by kernel_rfl)) <| Rc 2 [⟨.tup [], [([6], some (.cells [.b z_4.I.Lock, .i z_4.I.Rep, .i z_4.I.Seg, .y z_4.I.Op, .i z_4.I.Mod, .i z_4.I.Reg, .i z_4.I.RM, .w z_4.I.Disp, .w z_4.I.Imm, .w z_4.I.Sel, .i z_4.Disp.N, .i z_4.Disp.From, .i z_4.Disp.Which, .i z_4.Disp.Type_, .i z_4.Disp.Wants, .b z_4.Disp.Known, .i z_4.Imm.N, .i z_4.Imm.From, .i z_4.Imm.Which, .i z_4.Imm.Type_, .i z_4.Imm.Wants, .b z_4.Imm.Known, .b z_4.HasD, .b z_4.HasI, .b z_4.Jumps] 0))]⟩, vi 0] <| Rk <| Runs.ret ?_
     cases h
     exact Fq
   | false =>
    replace h := ite_f hb_4 h
    refine Rc 4 [vn, vn, vn, vb false] <| Rk <| Cf <| Runs.skip <| kS_nrm <| Sq <| Ro <| Rc 1 [⟨.ref [18] v_18 0 (List.map Choice.d b_18).length 25, []⟩] ?_
    obtain ⟨z_5, hz_5, h⟩ := bind_s h
    refine Rt (some 46) (.iaddrS 25) [] none [.ref [18] v_18 0 (List.map Choice.d b_18).length 25, .i 0] (.eref [18] v_18 (0 + ((0 : Int)).toNat) 0) [] (cut_atR (e := Choice.d) (l := b_18) hz_5 rfl) <| Rt (some 47) (.load (some 25)) [] none [.eref [18] v_18 (0 + ((0 : Int)).toNat) 0] (.d (Choice.d z_5)) [] (cut_loadR (e := Choice.d) (l := b_18) (fz := false) (y := z_5) (by kernel_rfl) hz_5 (by kernel_rfl) (by kernel_rfl)) <| Rc 2 [⟨.tup [], [([6], some (.cells [.b z_5.I.Lock, .i z_5.I.Rep, .i z_5.I.Seg, .y z_5.I.Op, .i z_5.I.Mod, .i z_5.I.Reg, .i z_5.I.RM, .w z_5.I.Disp, .w z_5.I.Imm, .w z_5.I.Sel, .i z_5.Disp.N, .i z_5.Disp.From, .i z_5.Disp.Which, .i z_5.Disp.Type_, .i z_5.Disp.Wants, .b z_5.Disp.Known, .i z_5.Imm.N, .i z_5.Imm.From, .i z_5.Imm.Which, .i z_5.Imm.Type_, .i z_5.Imm.Wants, .b z_5.Imm.Known, .b z_5.HasD, .b z_5.HasI, .b z_5.Jumps] 0))]⟩, vi 0] <| Rk <| Runs.ret ?_
    cases h
    exact Fq
  | false =>
   replace h := ite_f hb_3 h
   refine Rc 10 [vn, vn, vn, vn, vb false, vb false, vn, vn, vn, vb false] <| Rk <| Cf <| Runs.skip <| kS_nrm <| Sq <| Ro <| Rc 1 [⟨.ref [18] v_18 0 (List.map Choice.d b_18).length 25, []⟩] ?_
   obtain ⟨z_6, hz_6, h⟩ := bind_s h
   refine Rt (some 46) (.iaddrS 25) [] none [.ref [18] v_18 0 (List.map Choice.d b_18).length 25, .i 0] (.eref [18] v_18 (0 + ((0 : Int)).toNat) 0) [] (cut_atR (e := Choice.d) (l := b_18) hz_6 rfl) <| Rt (some 47) (.load (some 25)) [] none [.eref [18] v_18 (0 + ((0 : Int)).toNat) 0] (.d (Choice.d z_6)) [] (cut_loadR (e := Choice.d) (l := b_18) (fz := false) (y := z_6) (by kernel_rfl) hz_6 (by kernel_rfl) (by kernel_rfl)) <| Rc 2 [⟨.tup [], [([6], some (.cells [.b z_6.I.Lock, .i z_6.I.Rep, .i z_6.I.Seg, .y z_6.I.Op, .i z_6.I.Mod, .i z_6.I.Reg, .i z_6.I.RM, .w z_6.I.Disp, .w z_6.I.Imm, .w z_6.I.Sel, .i z_6.Disp.N, .i z_6.Disp.From, .i z_6.Disp.Which, .i z_6.Disp.Type_, .i z_6.Disp.Wants, .b z_6.Disp.Known, .i z_6.Imm.N, .i z_6.Imm.From, .i z_6.Imm.Which, .i z_6.Imm.Type_, .i z_6.Imm.Wants, .b z_6.Imm.Known, .b z_6.HasD, .b z_6.HasI, .b z_6.Jumps] 0))]⟩, vi 0] <| Rk <| Runs.ret ?_
   cases h
   exact Fq
theorem pick_Pick_ok (word_ : (List UInt8)) (ops_ : (A2 Operand)) (long_ : Bool) (r : (Choice × Int)) (h : pick_Pick word_ ops_ long_ = some r) : Runs L F17.body ⟨tmOf [.d (.str word_), .d (.agg [.int .i64 ops_.a0.Kind, .int .i64 ops_.a0.N, .int .i64 ops_.a0.RM, .int .i64 ops_.a0.V.N, .int .i64 ops_.a0.V.From, .int .i64 ops_.a0.V.Which, .int .i64 ops_.a0.V.Type_, .int .i64 ops_.a0.V.Wants, .bool ops_.a0.V.Known, .int .i64 ops_.a0.Type_, .int .i64 ops_.a0.Over, .bool ops_.a0.Short, .int .i64 ops_.a1.Kind, .int .i64 ops_.a1.N, .int .i64 ops_.a1.RM, .int .i64 ops_.a1.V.N, .int .i64 ops_.a1.V.From, .int .i64 ops_.a1.V.Which, .int .i64 ops_.a1.V.Type_, .int .i64 ops_.a1.V.Wants, .bool ops_.a1.V.Known, .int .i64 ops_.a1.Type_, .int .i64 ops_.a1.Over, .bool ops_.a1.Short]), .b long_] 0, updW (fun _ => none) []⟩ (pick_Pick_Q word_ ops_ long_ r) := by
 unfold pick_Pick at h
 refine Sq <| Ro <| Rc 3 [⟨.ptr [4] 0 0, [([4], some (.cells [.i ops_.a0.Kind, .i ops_.a0.N, .i ops_.a0.RM, .i ops_.a0.V.N, .i ops_.a0.V.From, .i ops_.a0.V.Which, .i ops_.a0.V.Type_, .i ops_.a0.V.Wants, .b ops_.a0.V.Known, .i ops_.a0.Type_, .i ops_.a0.Over, .b ops_.a0.Short, .i ops_.a1.Kind, .i ops_.a1.N, .i ops_.a1.RM, .i ops_.a1.V.N, .i ops_.a1.V.From, .i ops_.a1.V.Which, .i ops_.a1.V.Type_, .i ops_.a1.V.Wants, .b ops_.a1.V.Known, .i ops_.a1.Type_, .i ops_.a1.Over, .b ops_.a1.Short] 0))]⟩, ⟨.ptr [6] 0 0, [([6], some (.cells [.b false, .i 0, .i 0, .y 0, .i 0, .i 0, .i 0, .w 0, .w 0, .w 0, .i 0, .i 0, .i 0, .i 0, .i 0, .b false, .i 0, .i 0, .i 0, .i 0, .i 0, .b false, .b false, .b false, .b false] 0))]⟩, vi 0] <| Rk <| Sq <| Ro <| Rc 1 [⟨.d (.str word_), []⟩] ?_
 obtain ⟨r_1, hr_1, h⟩ := bind_s h
 have hc_1 := pick_Find_L word_ r_1 hr_1
 refine Rt (some 13) (.callf 13) [] none [.d (.str word_)] (.tup [.i r_1.1, .i r_1.2]) [] (cc hc_1) <| Rc 5 [⟨.tup [.i r_1.1, .i r_1.2], []⟩, vi r_1.1, vi r_1.2, vi r_1.1, vi r_1.2] <| Rk <| Sq <| Ro <| Rc 2 [vi r_1.1, ⟨.d (.agg [.int .i64 ops_.a0.Kind, .int .i64 ops_.a0.N, .int .i64 ops_.a0.RM, .int .i64 ops_.a0.V.N, .int .i64 ops_.a0.V.From, .int .i64 ops_.a0.V.Which, .int .i64 ops_.a0.V.Type_, .int .i64 ops_.a0.V.Wants, .bool ops_.a0.V.Known, .int .i64 ops_.a0.Type_, .int .i64 ops_.a0.Over, .bool ops_.a0.Short, .int .i64 ops_.a1.Kind, .int .i64 ops_.a1.N, .int .i64 ops_.a1.RM, .int .i64 ops_.a1.V.N, .int .i64 ops_.a1.V.From, .int .i64 ops_.a1.V.Which, .int .i64 ops_.a1.V.Type_, .int .i64 ops_.a1.V.Wants, .bool ops_.a1.V.Known, .int .i64 ops_.a1.Type_, .int .i64 ops_.a1.Over, .bool ops_.a1.Short]), []⟩] ?_
 obtain ⟨r_2, hr_2, h⟩ := bind_s h
 have hc_2 := pick_All_L r_1.1 ops_ r_2 hr_2
 refine Rt (some 18) (.callf 10) [] none [.i r_1.1, .d (.agg [.int .i64 ops_.a0.Kind, .int .i64 ops_.a0.N, .int .i64 ops_.a0.RM, .int .i64 ops_.a0.V.N, .int .i64 ops_.a0.V.From, .int .i64 ops_.a0.V.Which, .int .i64 ops_.a0.V.Type_, .int .i64 ops_.a0.V.Wants, .bool ops_.a0.V.Known, .int .i64 ops_.a0.Type_, .int .i64 ops_.a0.Over, .bool ops_.a0.Short, .int .i64 ops_.a1.Kind, .int .i64 ops_.a1.N, .int .i64 ops_.a1.RM, .int .i64 ops_.a1.V.N, .int .i64 ops_.a1.V.From, .int .i64 ops_.a1.V.Which, .int .i64 ops_.a1.V.Type_, .int .i64 ops_.a1.V.Wants, .bool ops_.a1.V.Known, .int .i64 ops_.a1.Type_, .int .i64 ops_.a1.Over, .bool ops_.a1.Short])] (.ref [18] 0 0 (List.map Choice.d r_2).length 25) [([18], some (.arr (List.map Choice.d r_2) 0 false))] (cut_call (call_of (ws := []) (us := []) (by kernel_rfl) (gives_cons (ws := []) (give_same (by kernel_rfl)) (gives_cons (ws := []) (give_same (by kernel_rfl)) gives_nil)) hc_2 (by kernel_rfl) (by kernel_rfl))) <| Rc 1 [⟨.ref [18] 0 0 (List.map Choice.d r_2).length 25, []⟩] <| Rk <| Sq <| Sq <| Ro <| Rc 2 [vi r_1.2, vb (decide (r_1.2 > 0))] <| Rk ?_
 cases hb_1 : ((decide (r_1.2 > 0)) : Bool) with
 | true =>
  replace h := ite_t hb_1 h
  refine Ct <| Ro <| Rc 3 [⟨.ref [18] 0 0 (List.map Choice.d r_2).length 25, []⟩, vi r_1.2, ⟨.d (.agg [.int .i64 ops_.a0.Kind, .int .i64 ops_.a0.N, .int .i64 ops_.a0.RM, .int .i64 ops_.a0.V.N, .int .i64 ops_.a0.V.From, .int .i64 ops_.a0.V.Which, .int .i64 ops_.a0.V.Type_, .int .i64 ops_.a0.V.Wants, .bool ops_.a0.V.Known, .int .i64 ops_.a0.Type_, .int .i64 ops_.a0.Over, .bool ops_.a0.Short, .int .i64 ops_.a1.Kind, .int .i64 ops_.a1.N, .int .i64 ops_.a1.RM, .int .i64 ops_.a1.V.N, .int .i64 ops_.a1.V.From, .int .i64 ops_.a1.V.Which, .int .i64 ops_.a1.V.Type_, .int .i64 ops_.a1.V.Wants, .bool ops_.a1.V.Known, .int .i64 ops_.a1.Type_, .int .i64 ops_.a1.Over, .bool ops_.a1.Short]), []⟩] ?_
  obtain ⟨r_3, hr_3, h⟩ := bind_s h
  have hc_3 := pick_All_L r_1.2 ops_ r_3 hr_3
  refine Rt (some 24) (.callf 10) [] none [.i r_1.2, .d (.agg [.int .i64 ops_.a0.Kind, .int .i64 ops_.a0.N, .int .i64 ops_.a0.RM, .int .i64 ops_.a0.V.N, .int .i64 ops_.a0.V.From, .int .i64 ops_.a0.V.Which, .int .i64 ops_.a0.V.Type_, .int .i64 ops_.a0.V.Wants, .bool ops_.a0.V.Known, .int .i64 ops_.a0.Type_, .int .i64 ops_.a0.Over, .bool ops_.a0.Short, .int .i64 ops_.a1.Kind, .int .i64 ops_.a1.N, .int .i64 ops_.a1.RM, .int .i64 ops_.a1.V.N, .int .i64 ops_.a1.V.From, .int .i64 ops_.a1.V.Which, .int .i64 ops_.a1.V.Type_, .int .i64 ops_.a1.V.Wants, .bool ops_.a1.V.Known, .int .i64 ops_.a1.Type_, .int .i64 ops_.a1.Over, .bool ops_.a1.Short])] (.ref [24] 0 0 (List.map Choice.d r_3).length 25) [([24], some (.arr (List.map Choice.d r_3) 0 false))] (cut_call (call_of (ws := []) (us := []) (by kernel_rfl) (gives_cons (ws := []) (give_same (by kernel_rfl)) (gives_cons (ws := []) (give_same (by kernel_rfl)) gives_nil)) hc_3 (by kernel_rfl) (by kernel_rfl))) ?_
  obtain ⟨z_1, hz_1, h⟩ := bind_s h
  refine Rt (some 25) (.append 25 168 false) [] none [.ref [18] 0 0 (List.map Choice.d r_2).length 25, .ref [24] 0 0 (List.map Choice.d r_3).length 25] (.ref [18] 1 0 (List.map Choice.d z_1).length 25) [([18], some (.arr (List.map Choice.d z_1) 1 false))] (cut_appR (e := Choice.d) (l := r_2) (fz := false) (ws := []) (ap_ref (e := Choice.d) (l := r_3) (fz := false) (by kernel_rfl) (by kernel_rfl) rfl) (fun _ => rfl) hz_1 (by kernel_rfl) (by kernel_rfl) rfl) <| Rc 1 [⟨.ref [18] 1 0 (List.map Choice.d z_1).length 25, []⟩] <| Rk <| Runs.canon (pick_Pick_h12 ({ I := ({ Lock := false, Rep := 0, Seg := 0, Op := 0, Mod := 0, Reg := 0, RM := 0, Disp := 0, Imm := 0, Sel := 0 } : Inst), Disp := ({ N := 0, From := 0, Which := 0, Type_ := 0, Wants := 0, Known := false } : api_Value), Imm := ({ N := 0, From := 0, Which := 0, Type_ := 0, Wants := 0, Known := false } : api_Value), HasD := false, HasI := false, Jumps := false } : Choice) z_1 long_ 1) Cz ?_
  exact pick_Pick_j12_ok word_ ops_ long_ ({ I := ({ Lock := false, Rep := 0, Seg := 0, Op := 0, Mod := 0, Reg := 0, RM := 0, Disp := 0, Imm := 0, Sel := 0 } : Inst), Disp := ({ N := 0, From := 0, Which := 0, Type_ := 0, Wants := 0, Known := false } : api_Value), Imm := ({ N := 0, From := 0, Which := 0, Type_ := 0, Wants := 0, Known := false } : api_Value), HasD := false, HasI := false, Jumps := false } : Choice) z_1 long_ 1 r h
 | false =>
  replace h := ite_f hb_1 h
  refine Cf <| Runs.skip <| kS_nrm <| Runs.canon (pick_Pick_h12 ({ I := ({ Lock := false, Rep := 0, Seg := 0, Op := 0, Mod := 0, Reg := 0, RM := 0, Disp := 0, Imm := 0, Sel := 0 } : Inst), Disp := ({ N := 0, From := 0, Which := 0, Type_ := 0, Wants := 0, Known := false } : api_Value), Imm := ({ N := 0, From := 0, Which := 0, Type_ := 0, Wants := 0, Known := false } : api_Value), HasD := false, HasI := false, Jumps := false } : Choice) r_2 long_ 0) Cz ?_
  exact pick_Pick_j12_ok word_ ops_ long_ ({ I := ({ Lock := false, Rep := 0, Seg := 0, Op := 0, Mod := 0, Reg := 0, RM := 0, Disp := 0, Imm := 0, Sel := 0 } : Inst), Disp := ({ N := 0, From := 0, Which := 0, Type_ := 0, Wants := 0, Known := false } : api_Value), Imm := ({ N := 0, From := 0, Which := 0, Type_ := 0, Wants := 0, Known := false } : api_Value), HasD := false, HasI := false, Jumps := false } : Choice) r_2 long_ 0 r h
theorem pick_Pick_L (word_ : (List UInt8)) (ops_ : (A2 Operand)) (long_ : Bool) (r : (Choice × Int)) (h : pick_Pick word_ ops_ long_ = some r) : L 17 [.d (.str word_), .d (.agg [.int .i64 ops_.a0.Kind, .int .i64 ops_.a0.N, .int .i64 ops_.a0.RM, .int .i64 ops_.a0.V.N, .int .i64 ops_.a0.V.From, .int .i64 ops_.a0.V.Which, .int .i64 ops_.a0.V.Type_, .int .i64 ops_.a0.V.Wants, .bool ops_.a0.V.Known, .int .i64 ops_.a0.Type_, .int .i64 ops_.a0.Over, .bool ops_.a0.Short, .int .i64 ops_.a1.Kind, .int .i64 ops_.a1.N, .int .i64 ops_.a1.RM, .int .i64 ops_.a1.V.N, .int .i64 ops_.a1.V.From, .int .i64 ops_.a1.V.Which, .int .i64 ops_.a1.V.Type_, .int .i64 ops_.a1.V.Wants, .bool ops_.a1.V.Known, .int .i64 ops_.a1.Type_, .int .i64 ops_.a1.Over, .bool ops_.a1.Short]), .b long_] = some (.tup [.d (Choice.d r.1), .i r.2], [.d (.str word_), .d (.agg [.int .i64 ops_.a0.Kind, .int .i64 ops_.a0.N, .int .i64 ops_.a0.RM, .int .i64 ops_.a0.V.N, .int .i64 ops_.a0.V.From, .int .i64 ops_.a0.V.Which, .int .i64 ops_.a0.V.Type_, .int .i64 ops_.a0.V.Wants, .bool ops_.a0.V.Known, .int .i64 ops_.a0.Type_, .int .i64 ops_.a0.Over, .bool ops_.a0.Short, .int .i64 ops_.a1.Kind, .int .i64 ops_.a1.N, .int .i64 ops_.a1.RM, .int .i64 ops_.a1.V.N, .int .i64 ops_.a1.V.From, .int .i64 ops_.a1.V.Which, .int .i64 ops_.a1.V.Type_, .int .i64 ops_.a1.V.Wants, .bool ops_.a1.V.Known, .int .i64 ops_.a1.Type_, .int .i64 ops_.a1.Over, .bool ops_.a1.Short]), .b long_]) := by
 obtain ⟨p, ⟨hne, hf⟩, hr⟩ := pick_Pick_ok word_ ops_ long_ r h
 obtain ⟨k, hk⟩ := run_of (F := F17) (args := [.d (.str word_), .d (.agg [.int .i64 ops_.a0.Kind, .int .i64 ops_.a0.N, .int .i64 ops_.a0.RM, .int .i64 ops_.a0.V.N, .int .i64 ops_.a0.V.From, .int .i64 ops_.a0.V.Which, .int .i64 ops_.a0.V.Type_, .int .i64 ops_.a0.V.Wants, .bool ops_.a0.V.Known, .int .i64 ops_.a0.Type_, .int .i64 ops_.a0.Over, .bool ops_.a0.Short, .int .i64 ops_.a1.Kind, .int .i64 ops_.a1.N, .int .i64 ops_.a1.RM, .int .i64 ops_.a1.V.N, .int .i64 ops_.a1.V.From, .int .i64 ops_.a1.V.Which, .int .i64 ops_.a1.V.Type_, .int .i64 ops_.a1.V.Wants, .bool ops_.a1.V.Known, .int .i64 ops_.a1.Type_, .int .i64 ops_.a1.Over, .bool ops_.a1.Short]), .b long_]) (ap := [.d (.str word_), .d (.agg [.int .i64 ops_.a0.Kind, .int .i64 ops_.a0.N, .int .i64 ops_.a0.RM, .int .i64 ops_.a0.V.N, .int .i64 ops_.a0.V.From, .int .i64 ops_.a0.V.Which, .int .i64 ops_.a0.V.Type_, .int .i64 ops_.a0.V.Wants, .bool ops_.a0.V.Known, .int .i64 ops_.a0.Type_, .int .i64 ops_.a0.Over, .bool ops_.a0.Short, .int .i64 ops_.a1.Kind, .int .i64 ops_.a1.N, .int .i64 ops_.a1.RM, .int .i64 ops_.a1.V.N, .int .i64 ops_.a1.V.From, .int .i64 ops_.a1.V.Which, .int .i64 ops_.a1.V.Type_, .int .i64 ops_.a1.V.Wants, .bool ops_.a1.V.Known, .int .i64 ops_.a1.Type_, .int .i64 ops_.a1.Over, .bool ops_.a1.Short]), .b long_]) (bx0 := updW (fun _ => none) []) rfl rfl (by kernel_rfl) ⟨p, ⟨hne, hf⟩, hr⟩
 exact lim_run (k := k) rfl hk
def hansomlaw34_awake_Q  (r : Bool) (p : Out × St) : Prop := (∀ i, p.1 ≠ .exit i) ∧ finF F9 [] p.2 = some (.b r, [])
theorem hansomlaw34_awake_ok  (r : Bool) (h : hansomlaw34_awake = some r) : Runs L F9.body ⟨tmOf [] 0, updW (fun _ => none) []⟩ (hansomlaw34_awake_Q  r) := by
 unfold hansomlaw34_awake at h
 refine Sq <| Ro <| Rc 1 [vb false] <| Rk <| Sq <| Ro <| Rc 2 [⟨.d (.agg [.int .i64 2, .int .i64 0, .int .i64 0, .int .i64 0, .int .i64 0, .int .i64 0, .int .i64 0, .int .i64 0, .bool false, .int .i64 0, .int .i64 0, .bool false]), []⟩, ⟨.d (.agg [.int .i64 2, .int .i64 0, .int .i64 0, .int .i64 0, .int .i64 0, .int .i64 0, .int .i64 0, .int .i64 0, .bool false, .int .i64 0, .int .i64 0, .bool false, .int .i64 0, .int .i64 0, .int .i64 0, .int .i64 0, .int .i64 0, .int .i64 0, .int .i64 0, .int .i64 0, .bool false, .int .i64 0, .int .i64 0, .bool false]), []⟩] ?_
 obtain ⟨r_1, hr_1, h⟩ := bind_s h
 have hc_1 := pick_Pick_L ([73, 78, 67] : List UInt8) ({ a0 := ({ Kind := 2, N := 0, RM := 0, V := ({ N := 0, From := 0, Which := 0, Type_ := 0, Wants := 0, Known := false } : api_Value), Type_ := 0, Over := 0, Short := false } : Operand), a1 := ({ Kind := 0, N := 0, RM := 0, V := ({ N := 0, From := 0, Which := 0, Type_ := 0, Wants := 0, Known := false } : api_Value), Type_ := 0, Over := 0, Short := false } : Operand) } : (A2 Operand)) false r_1 hr_1
 refine Rt (some 8) (.callf 17) [] none [.d (.str ([73, 78, 67] : List UInt8)), .d (.agg [.int .i64 2, .int .i64 0, .int .i64 0, .int .i64 0, .int .i64 0, .int .i64 0, .int .i64 0, .int .i64 0, .bool false, .int .i64 0, .int .i64 0, .bool false, .int .i64 0, .int .i64 0, .int .i64 0, .int .i64 0, .int .i64 0, .int .i64 0, .int .i64 0, .int .i64 0, .bool false, .int .i64 0, .int .i64 0, .bool false]), .b false] (.tup [.d (Choice.d r_1.1), .i r_1.2]) [] (cc hc_1) <| Rc 6 [⟨.tup [.d (Choice.d r_1.1), .i r_1.2], []⟩, ⟨.d (Choice.d r_1.1), []⟩, vi r_1.2, ⟨.ptr [1] 0 0, [([1], some (.cells [.b false, .i 0, .i 0, .y 0, .i 0, .i 0, .i 0, .w 0, .w 0, .w 0, .i 0, .i 0, .i 0, .i 0, .i 0, .b false, .i 0, .i 0, .i 0, .i 0, .i 0, .b false, .b false, .b false, .b false] 0))]⟩, ⟨.tup [], [([1], some (.cells [.b r_1.1.I.Lock, .i r_1.1.I.Rep, .i r_1.1.I.Seg, .y r_1.1.I.Op, .i r_1.1.I.Mod, .i r_1.1.I.Reg, .i r_1.1.I.RM, .w r_1.1.I.Disp, .w r_1.1.I.Imm, .w r_1.1.I.Sel, .i r_1.1.Disp.N, .i r_1.1.Disp.From, .i r_1.1.Disp.Which, .i r_1.1.Disp.Type_, .i r_1.1.Disp.Wants, .b r_1.1.Disp.Known, .i r_1.1.Imm.N, .i r_1.1.Imm.From, .i r_1.1.Imm.Which, .i r_1.1.Imm.Type_, .i r_1.1.Imm.Wants, .b r_1.1.Imm.Known, .b r_1.1.HasD, .b r_1.1.HasI, .b r_1.1.Jumps] 0))]⟩, vi r_1.2] ?_
 refine Rk <| Sq <| Ro <| Rc 3 [⟨.d (.agg [.int .i64 3, .int .i64 1, .int .i64 0, .int .i64 0, .int .i64 0, .int .i64 0, .int .i64 0, .int .i64 0, .bool false, .int .i64 0, .int .i64 0, .bool false]), []⟩, ⟨.d (.agg [.int .i64 2, .int .i64 0, .int .i64 0, .int .i64 0, .int .i64 0, .int .i64 0, .int .i64 0, .int .i64 0, .bool false, .int .i64 0, .int .i64 0, .bool false]), []⟩, ⟨.d (.agg [.int .i64 3, .int .i64 1, .int .i64 0, .int .i64 0, .int .i64 0, .int .i64 0, .int .i64 0, .int .i64 0, .bool false, .int .i64 0, .int .i64 0, .bool false, .int .i64 2, .int .i64 0, .int .i64 0, .int .i64 0, .int .i64 0, .int .i64 0, .int .i64 0, .int .i64 0, .bool false, .int .i64 0, .int .i64 0, .bool false]), []⟩] ?_
 obtain ⟨r_2, hr_2, h⟩ := bind_s h
 have hc_2 := pick_Pick_L ([77, 79, 86] : List UInt8) ({ a0 := ({ Kind := 3, N := 1, RM := 0, V := ({ N := 0, From := 0, Which := 0, Type_ := 0, Wants := 0, Known := false } : api_Value), Type_ := 0, Over := 0, Short := false } : Operand), a1 := ({ Kind := 2, N := 0, RM := 0, V := ({ N := 0, From := 0, Which := 0, Type_ := 0, Wants := 0, Known := false } : api_Value), Type_ := 0, Over := 0, Short := false } : Operand) } : (A2 Operand)) false r_2 hr_2
 refine Rt (some 15) (.callf 17) [] none [.d (.str ([77, 79, 86] : List UInt8)), .d (.agg [.int .i64 3, .int .i64 1, .int .i64 0, .int .i64 0, .int .i64 0, .int .i64 0, .int .i64 0, .int .i64 0, .bool false, .int .i64 0, .int .i64 0, .bool false, .int .i64 2, .int .i64 0, .int .i64 0, .int .i64 0, .int .i64 0, .int .i64 0, .int .i64 0, .int .i64 0, .bool false, .int .i64 0, .int .i64 0, .bool false]), .b false] (.tup [.d (Choice.d r_2.1), .i r_2.2]) [] (cc hc_2) <| Rc 6 [⟨.tup [.d (Choice.d r_2.1), .i r_2.2], []⟩, ⟨.d (Choice.d r_2.1), []⟩, vi r_2.2, ⟨.ptr [3] 0 0, [([3], some (.cells [.b false, .i 0, .i 0, .y 0, .i 0, .i 0, .i 0, .w 0, .w 0, .w 0, .i 0, .i 0, .i 0, .i 0, .i 0, .b false, .i 0, .i 0, .i 0, .i 0, .i 0, .b false, .b false, .b false, .b false] 0))]⟩, ⟨.tup [], [([3], some (.cells [.b r_2.1.I.Lock, .i r_2.1.I.Rep, .i r_2.1.I.Seg, .y r_2.1.I.Op, .i r_2.1.I.Mod, .i r_2.1.I.Reg, .i r_2.1.I.RM, .w r_2.1.I.Disp, .w r_2.1.I.Imm, .w r_2.1.I.Sel, .i r_2.1.Disp.N, .i r_2.1.Disp.From, .i r_2.1.Disp.Which, .i r_2.1.Disp.Type_, .i r_2.1.Disp.Wants, .b r_2.1.Disp.Known, .i r_2.1.Imm.N, .i r_2.1.Imm.From, .i r_2.1.Imm.Which, .i r_2.1.Imm.Type_, .i r_2.1.Imm.Wants, .b r_2.1.Imm.Known, .b r_2.1.HasD, .b r_2.1.HasI, .b r_2.1.Jumps] 0))]⟩, vi r_2.2] ?_
 refine Rk <| Sq <| Ro <| Rc 3 [vi r_1.2, vb (r_1.2 == 0), vb (r_1.2 == 0)] ?_
 cases hb_1 : ((r_1.2 == 0) : Bool) with
 | true =>
  replace h := ite_t hb_1 h
  refine Rc 6 [vp [1] 0 0, vp [1] 0 3, vy r_1.1.I.Op, vb (r_1.1.I.Op == 64), vb (r_1.1.I.Op == 64), vb (r_1.1.I.Op == 64)] ?_
  cases hb_2 : ((r_1.1.I.Op == 64) : Bool) with
  | true =>
   replace h := ite_t hb_2 h
   refine Rc 4 [vi r_2.2, vb (r_2.2 == 6), vb (r_2.2 == 6), vb (r_2.2 == 6)] <| Rk <| Runs.ret ?_
   cases h
   exact Fq
  | false =>
   replace h := ite_f hb_2 h
   refine Rc 4 [vn, vn, vb false, vb false] <| Rk <| Runs.ret ?_
   cases h
   exact Fq
 | false =>
  replace h := ite_f hb_1 h
  refine Rc 10 [vn, vn, vn, vn, vb false, vb false, vn, vn, vb false, vb false] <| Rk <| Runs.ret ?_
  cases h
  exact Fq
theorem hansomlaw34_awake_L  (r : Bool) (h : hansomlaw34_awake = some r) : L 9 [] = some (.b r, []) := by
 obtain ⟨p, ⟨hne, hf⟩, hr⟩ := hansomlaw34_awake_ok  r h
 obtain ⟨k, hk⟩ := run_of (F := F9) (args := []) (ap := []) (bx0 := updW (fun _ => none) []) rfl rfl (by kernel_rfl) ⟨p, ⟨hne, hf⟩, hr⟩
 exact lim_run (k := k) rfl hk
def hansomlaw34_PickJumps_h10 (o7 : Operand) (long1 : Bool) (far2 : Bool) : St := ⟨tab [(1, .b long1), (2, .b far2), (7, .ptr [7] 0 0)], tabB [([7], some (.cells [.i o7.Kind, .i o7.N, .i o7.RM, .i o7.V.N, .i o7.V.From, .i o7.V.Which, .i o7.V.Type_, .i o7.V.Wants, .b o7.V.Known, .i o7.Type_, .i o7.Over, .b o7.Short] 0))]⟩
def hansomlaw34_PickJumps_h40 (o7 : Operand) (c9 : Choice) (d11 : Choice) (g13 : Choice) (e10 : Int) (f12 : Int) (h14 : Int) (j17 : Int) (op18 : Int) : St := ⟨tab [(7, .ptr [7] 0 0), (9, .ptr [9] 0 0), (10, .i e10), (11, .ptr [11] 0 0), (12, .i f12), (13, .ptr [13] 0 0), (14, .i h14), (17, .i j17), (18, .y op18)], tabB [([7], some (.cells [.i o7.Kind, .i o7.N, .i o7.RM, .i o7.V.N, .i o7.V.From, .i o7.V.Which, .i o7.V.Type_, .i o7.V.Wants, .b o7.V.Known, .i o7.Type_, .i o7.Over, .b o7.Short] 0)), ([9], some (.cells [.b c9.I.Lock, .i c9.I.Rep, .i c9.I.Seg, .y c9.I.Op, .i c9.I.Mod, .i c9.I.Reg, .i c9.I.RM, .w c9.I.Disp, .w c9.I.Imm, .w c9.I.Sel, .i c9.Disp.N, .i c9.Disp.From, .i c9.Disp.Which, .i c9.Disp.Type_, .i c9.Disp.Wants, .b c9.Disp.Known, .i c9.Imm.N, .i c9.Imm.From, .i c9.Imm.Which, .i c9.Imm.Type_, .i c9.Imm.Wants, .b c9.Imm.Known, .b c9.HasD, .b c9.HasI, .b c9.Jumps] 0)), ([11], some (.cells [.b d11.I.Lock, .i d11.I.Rep, .i d11.I.Seg, .y d11.I.Op, .i d11.I.Mod, .i d11.I.Reg, .i d11.I.RM, .w d11.I.Disp, .w d11.I.Imm, .w d11.I.Sel, .i d11.Disp.N, .i d11.Disp.From, .i d11.Disp.Which, .i d11.Disp.Type_, .i d11.Disp.Wants, .b d11.Disp.Known, .i d11.Imm.N, .i d11.Imm.From, .i d11.Imm.Which, .i d11.Imm.Type_, .i d11.Imm.Wants, .b d11.Imm.Known, .b d11.HasD, .b d11.HasI, .b d11.Jumps] 0)), ([13], some (.cells [.b g13.I.Lock, .i g13.I.Rep, .i g13.I.Seg, .y g13.I.Op, .i g13.I.Mod, .i g13.I.Reg, .i g13.I.RM, .w g13.I.Disp, .w g13.I.Imm, .w g13.I.Sel, .i g13.Disp.N, .i g13.Disp.From, .i g13.Disp.Which, .i g13.Disp.Type_, .i g13.Disp.Wants, .b g13.Disp.Known, .i g13.Imm.N, .i g13.Imm.From, .i g13.Imm.Which, .i g13.Imm.Type_, .i g13.Imm.Wants, .b g13.Imm.Known, .b g13.HasD, .b g13.HasI, .b g13.Jumps] 0))]⟩
def hansomlaw34_PickJumps_Q (n_ : Int) (long_ : Bool) (far_ : Bool) (r : Bool) (p : Out × St) : Prop := (∀ i, p.1 ≠ .exit i) ∧ finF F5 [.i n_, .b long_, .b far_] p.2 = some (.b r, [.i n_, .b long_, .b far_])
theorem hansomlaw34_PickJumps_j40_ok (n_ : Int) (long_ : Bool) (far_ : Bool) (o7 : Operand) (c9 : Choice) (d11 : Choice) (g13 : Choice) (e10 : Int) (f12 : Int) (h14 : Int) (j17 : Int) (op18 : Int) (r : Bool) (h : hansomlaw34_PickJumps_j40 o7 c9 d11 g13 e10 f12 h14 j17 op18 = some r) : Runs L F5b40 (hansomlaw34_PickJumps_h40 o7 c9 d11 g13 e10 f12 h14 j17 op18) (hansomlaw34_PickJumps_Q n_ long_ far_ r) := by
 unfold hansomlaw34_PickJumps_j40 at h
 refine Sq <| Ro ?_
 obtain ⟨r_6, hr_6, h⟩ := bind_s h
 have hc_6 := hansomlaw34_awake_L r_6 hr_6
 refine Rt (some 93) (.callf 9) [] none [] (.b r_6) [] (cc hc_6) <| Rc 1 [vb r_6] ?_
 cases hb_12 : (r_6 : Bool) with
 | true =>
  replace h := ite_t hb_12 h
  refine Rc 4 [vi e10, vb (e10 == 0), vb (e10 == 0), vb (e10 == 0)] ?_
  cases hb_13 : ((e10 == 0) : Bool) with
  | true =>
   replace h := ite_t hb_13 h
   refine Rc 7 [vp [9] 0 0, vp [9] 0 3, vy c9.I.Op, vy op18, vb (c9.I.Op == op18), vb (c9.I.Op == op18), vb (c9.I.Op == op18)] ?_
   cases hb_14 : ((c9.I.Op == op18) : Bool) with
   | true =>
    replace h := ite_t hb_14 h
    refine Rc 4 [vp [9] 0 24, vb c9.Jumps, vb c9.Jumps, vb c9.Jumps] ?_
    cases hb_15 : (c9.Jumps : Bool) with
    | true =>
     replace h := ite_t hb_15 h
     refine Rc 7 [vp [9] 0 16, ⟨.d (api_Value.d c9.Imm), []⟩, vp [7] 0 3, ⟨.d (api_Value.d o7.V), []⟩, vb (c9.Imm.N == o7.V.N && (c9.Imm.From == o7.V.From && (c9.Imm.Which == o7.V.Which && (c9.Imm.Type_ == o7.V.Type_ && (c9.Imm.Wants == o7.V.Wants && (c9.Imm.Known == o7.V.Known && true)))))), vb (c9.Imm.N == o7.V.N && (c9.Imm.From == o7.V.From && (c9.Imm.Which == o7.V.Which && (c9.Imm.Type_ == o7.V.Type_ && (c9.Imm.Wants == o7.V.Wants && (c9.Imm.Known == o7.V.Known && true)))))), vb (c9.Imm.N == o7.V.N && (c9.Imm.From == o7.V.From && (c9.Imm.Which == o7.V.Which && (c9.Imm.Type_ == o7.V.Type_ && (c9.Imm.Wants == o7.V.Wants && (c9.Imm.Known == o7.V.Known && true))))))] ?_
     cases hb_16 : ((c9.Imm.N == o7.V.N && (c9.Imm.From == o7.V.From && (c9.Imm.Which == o7.V.Which && (c9.Imm.Type_ == o7.V.Type_ && (c9.Imm.Wants == o7.V.Wants && (c9.Imm.Known == o7.V.Known && true)))))) : Bool) with
     | true =>
      replace h := ite_t hb_16 h
      refine Rc 4 [vi f12, vb (f12 == 0), vb (f12 == 0), vb (f12 == 0)] ?_
      cases hb_17 : ((f12 == 0) : Bool) with
      | true =>
       replace h := ite_t hb_17 h
       refine Rc 6 [vp [11] 0 0, vp [11] 0 3, vy d11.I.Op, vb (d11.I.Op == 116), vb (d11.I.Op == 116), vb (d11.I.Op == 116)] ?_
       cases hb_18 : ((d11.I.Op == 116) : Bool) with
       | true =>
        replace h := ite_t hb_18 h
        refine Rc 4 [vi h14, vb (h14 == 0), vb (h14 == 0), vb (h14 == 0)] ?_
        cases hb_19 : ((h14 == 0) : Bool) with
        | true =>
         replace h := ite_t hb_19 h
         refine Rc 6 [vp [13] 0 0, vp [13] 0 3, vy g13.I.Op, vb (g13.I.Op == 232), vb (g13.I.Op == 232), vb (g13.I.Op == 232)] ?_
         cases hb_20 : ((g13.I.Op == 232) : Bool) with
         | true =>
          replace h := ite_t hb_20 h
          refine Rc 4 [vp [13] 0 24, vb g13.Jumps, vb g13.Jumps, vb g13.Jumps] ?_
          cases hb_21 : (g13.Jumps : Bool) with
          | true =>
           replace h := ite_t hb_21 h
           refine Rc 4 [vi j17, vb (j17 == 6), vb (j17 == 6), vb (j17 == 6)] <| Rk <| Runs.ret ?_
           cases h
           exact Fq
          | false =>
           replace h := ite_f hb_21 h
           refine Rc 4 [vn, vn, vb false, vb false] <| Rk <| Runs.ret ?_
           cases h
           exact Fq
         | false =>
          replace h := ite_f hb_20 h
          refine Rc 8 [vn, vn, vb false, vb false, vn, vn, vb false, vb false] <| Rk <| Runs.ret ?_
          cases h
          exact Fq
        | false =>
         replace h := ite_f hb_19 h
         refine Rc 14 [vn, vn, vn, vn, vb false, vb false, vn, vn, vb false, vb false, vn, vn, vb false, vb false] <| Rk <| Runs.ret ?_
         cases h
         exact Fq
       | false =>
        replace h := ite_f hb_18 h
        refine Rc 18 [vn, vn, vb false, vb false, vn, vn, vn, vn, vb false, vb false, vn, vn, vb false, vb false, vn, vn, vb false, vb false] <| Rk <| Runs.ret ?_
        cases h
        exact Fq
      | false =>
       replace h := ite_f hb_17 h
       refine Rc 24 [vn, vn, vn, vn, vb false, vb false, vn, vn, vb false, vb false, vn, vn, vn, vn, vb false, vb false, vn, vn, vb false, vb false, vn, vn, vb false, vb false] <| Rk <| Runs.ret ?_
       cases h
       exact Fq
     | false =>
      replace h := ite_f hb_16 h
      refine Rc 28 [vn, vn, vb false, vb false, vn, vn, vn, vn, vb false, vb false, vn, vn, vb false, vb false, vn, vn, vn, vn, vb false, vb false, vn, vn, vb false, vb false, vn, vn, vb false, vb false] <| Rk <| Runs.ret ?_
      cases h
      exact Fq
    | false =>
     replace h := ite_f hb_15 h
     refine Rc 35 [vn, vn, vn, vn, vn, vb false, vb false, vn, vn, vb false, vb false, vn, vn, vn, vn, vb false, vb false, vn, vn, vb false, vb false, vn, vn, vn, vn, vb false, vb false, vn, vn, vb false, vb false, vn, vn, vb false, vb false] <| Rk <| Runs.ret ?_
     cases h
     exact Fq
   | false =>
    replace h := ite_f hb_14 h
    refine Rc 39 [vn, vn, vb false, vb false, vn, vn, vn, vn, vn, vb false, vb false, vn, vn, vb false, vb false, vn, vn, vn, vn, vb false, vb false, vn, vn, vb false, vb false, vn, vn, vn, vn, vb false, vb false, vn, vn, vb false, vb false, vn, vn, vb false, vb false] <| Rk <| Runs.ret ?_
    cases h
    exact Fq
  | false =>
   replace h := ite_f hb_13 h
   refine Rc 46 [vn, vn, vn, vn, vn, vb false, vb false, vn, vn, vb false, vb false, vn, vn, vn, vn, vn, vb false, vb false, vn, vn, vb false, vb false, vn, vn, vn, vn, vb false, vb false, vn, vn, vb false, vb false, vn, vn, vn, vn, vb false, vb false, vn, vn, vb false, vb false, vn, vn, vb false, vb false] <| Rk <| Runs.ret ?_
   cases h
   exact Fq
 | false =>
  replace h := ite_f hb_12 h
  refine Rc 50 [vn, vn, vb false, vb false, vn, vn, vn, vn, vn, vb false, vb false, vn, vn, vb false, vb false, vn, vn, vn, vn, vn, vb false, vb false, vn, vn, vb false, vb false, vn, vn, vn, vn, vb false, vb false, vn, vn, vb false, vb false, vn, vn, vn, vn, vb false, vb false, vn, vn, vb false, vb false, vn, vn, vb false, vb false] <| Rk <| Runs.ret ?_
  cases h
  exact Fq
theorem hansomlaw34_PickJumps_j10_ok (n_ : Int) (long_ : Bool) (far_ : Bool) (o7 : Operand) (long1 : Bool) (far2 : Bool) (r : Bool) (h : hansomlaw34_PickJumps_j10 o7 long1 far2 = some r) : Runs L F5b10 (hansomlaw34_PickJumps_h10 o7 long1 far2) (hansomlaw34_PickJumps_Q n_ long_ far_ r) := by
 unfold hansomlaw34_PickJumps_j10 at h
 refine Sq <| Ro <| Rc 4 [⟨.d (Operand.d o7), []⟩, ⟨.d (.agg [.int .i64 o7.Kind, .int .i64 o7.N, .int .i64 o7.RM, .int .i64 o7.V.N, .int .i64 o7.V.From, .int .i64 o7.V.Which, .int .i64 o7.V.Type_, .int .i64 o7.V.Wants, .bool o7.V.Known, .int .i64 o7.Type_, .int .i64 o7.Over, .bool o7.Short, .int .i64 0, .int .i64 0, .int .i64 0, .int .i64 0, .int .i64 0, .int .i64 0, .int .i64 0, .int .i64 0, .bool false, .int .i64 0, .int .i64 0, .bool false]), []⟩, ⟨.ptr [8] 0 0, [([8], some (.cells [.i 0, .i 0, .i 0, .i 0, .i 0, .i 0, .i 0, .i 0, .b false, .i 0, .i 0, .b false, .i 0, .i 0, .i 0, .i 0, .i 0, .i 0, .i 0, .i 0, .b false, .i 0, .i 0, .b false] 0))]⟩, ⟨.tup [], [([8], some (.cells [.i o7.Kind, .i o7.N, .i o7.RM, .i o7.V.N, .i o7.V.From, .i o7.V.Which, .i o7.V.Type_, .i o7.V.Wants, .b o7.V.Known, .i o7.Type_, .i o7.Over, .b o7.Short, .i 0, .i 0, .i 0, .i 0, .i 0, .i 0, .i 0, .i 0, .b false, .i 0, .i 0, .b false] 0))]⟩] <| Rk <| Sq <| Ro ?_
 refine Rc 2 [⟨.d (.agg [.int .i64 o7.Kind, .int .i64 o7.N, .int .i64 o7.RM, .int .i64 o7.V.N, .int .i64 o7.V.From, .int .i64 o7.V.Which, .int .i64 o7.V.Type_, .int .i64 o7.V.Wants, .bool o7.V.Known, .int .i64 o7.Type_, .int .i64 o7.Over, .bool o7.Short, .int .i64 0, .int .i64 0, .int .i64 0, .int .i64 0, .int .i64 0, .int .i64 0, .int .i64 0, .int .i64 0, .bool false, .int .i64 0, .int .i64 0, .bool false]), []⟩, vb long1] ?_
 obtain ⟨r_1, hr_1, h⟩ := bind_s h
 have hc_1 := pick_Pick_L ([74, 77, 80] : List UInt8) ({ a0 := o7, a1 := ({ Kind := 0, N := 0, RM := 0, V := ({ N := 0, From := 0, Which := 0, Type_ := 0, Wants := 0, Known := false } : api_Value), Type_ := 0, Over := 0, Short := false } : Operand) } : (A2 Operand)) long1 r_1 hr_1
 refine Rt (some 30) (.callf 17) [] none [.d (.str ([74, 77, 80] : List UInt8)), .d (.agg [.int .i64 o7.Kind, .int .i64 o7.N, .int .i64 o7.RM, .int .i64 o7.V.N, .int .i64 o7.V.From, .int .i64 o7.V.Which, .int .i64 o7.V.Type_, .int .i64 o7.V.Wants, .bool o7.V.Known, .int .i64 o7.Type_, .int .i64 o7.Over, .bool o7.Short, .int .i64 0, .int .i64 0, .int .i64 0, .int .i64 0, .int .i64 0, .int .i64 0, .int .i64 0, .int .i64 0, .bool false, .int .i64 0, .int .i64 0, .bool false]), .b long1] (.tup [.d (Choice.d r_1.1), .i r_1.2]) [] (cc hc_1) <| Rc 6 [⟨.tup [.d (Choice.d r_1.1), .i r_1.2], []⟩, ⟨.d (Choice.d r_1.1), []⟩, vi r_1.2, ⟨.ptr [9] 0 0, [([9], some (.cells [.b false, .i 0, .i 0, .y 0, .i 0, .i 0, .i 0, .w 0, .w 0, .w 0, .i 0, .i 0, .i 0, .i 0, .i 0, .b false, .i 0, .i 0, .i 0, .i 0, .i 0, .b false, .b false, .b false, .b false] 0))]⟩, ⟨.tup [], [([9], some (.cells [.b r_1.1.I.Lock, .i r_1.1.I.Rep, .i r_1.1.I.Seg, .y r_1.1.I.Op, .i r_1.1.I.Mod, .i r_1.1.I.Reg, .i r_1.1.I.RM, .w r_1.1.I.Disp, .w r_1.1.I.Imm, .w r_1.1.I.Sel, .i r_1.1.Disp.N, .i r_1.1.Disp.From, .i r_1.1.Disp.Which, .i r_1.1.Disp.Type_, .i r_1.1.Disp.Wants, .b r_1.1.Disp.Known, .i r_1.1.Imm.N, .i r_1.1.Imm.From, .i r_1.1.Imm.Which, .i r_1.1.Imm.Type_, .i r_1.1.Imm.Wants, .b r_1.1.Imm.Known, .b r_1.1.HasD, .b r_1.1.HasI, .b r_1.1.Jumps] 0))]⟩, vi r_1.2] ?_
 refine Rk <| Sq <| Ro <| Rc 2 [⟨.d (.agg [.int .i64 o7.Kind, .int .i64 o7.N, .int .i64 o7.RM, .int .i64 o7.V.N, .int .i64 o7.V.From, .int .i64 o7.V.Which, .int .i64 o7.V.Type_, .int .i64 o7.V.Wants, .bool o7.V.Known, .int .i64 o7.Type_, .int .i64 o7.Over, .bool o7.Short, .int .i64 0, .int .i64 0, .int .i64 0, .int .i64 0, .int .i64 0, .int .i64 0, .int .i64 0, .int .i64 0, .bool false, .int .i64 0, .int .i64 0, .bool false]), []⟩, vb long1] ?_
 obtain ⟨r_2, hr_2, h⟩ := bind_s h
 have hc_2 := pick_Pick_L ([74, 90] : List UInt8) ({ a0 := o7, a1 := ({ Kind := 0, N := 0, RM := 0, V := ({ N := 0, From := 0, Which := 0, Type_ := 0, Wants := 0, Known := false } : api_Value), Type_ := 0, Over := 0, Short := false } : Operand) } : (A2 Operand)) long1 r_2 hr_2
 refine Rt (some 36) (.callf 17) [] none [.d (.str ([74, 90] : List UInt8)), .d (.agg [.int .i64 o7.Kind, .int .i64 o7.N, .int .i64 o7.RM, .int .i64 o7.V.N, .int .i64 o7.V.From, .int .i64 o7.V.Which, .int .i64 o7.V.Type_, .int .i64 o7.V.Wants, .bool o7.V.Known, .int .i64 o7.Type_, .int .i64 o7.Over, .bool o7.Short, .int .i64 0, .int .i64 0, .int .i64 0, .int .i64 0, .int .i64 0, .int .i64 0, .int .i64 0, .int .i64 0, .bool false, .int .i64 0, .int .i64 0, .bool false]), .b long1] (.tup [.d (Choice.d r_2.1), .i r_2.2]) [] (cc hc_2) <| Rc 6 [⟨.tup [.d (Choice.d r_2.1), .i r_2.2], []⟩, ⟨.d (Choice.d r_2.1), []⟩, vi r_2.2, ⟨.ptr [11] 0 0, [([11], some (.cells [.b false, .i 0, .i 0, .y 0, .i 0, .i 0, .i 0, .w 0, .w 0, .w 0, .i 0, .i 0, .i 0, .i 0, .i 0, .b false, .i 0, .i 0, .i 0, .i 0, .i 0, .b false, .b false, .b false, .b false] 0))]⟩, ⟨.tup [], [([11], some (.cells [.b r_2.1.I.Lock, .i r_2.1.I.Rep, .i r_2.1.I.Seg, .y r_2.1.I.Op, .i r_2.1.I.Mod, .i r_2.1.I.Reg, .i r_2.1.I.RM, .w r_2.1.I.Disp, .w r_2.1.I.Imm, .w r_2.1.I.Sel, .i r_2.1.Disp.N, .i r_2.1.Disp.From, .i r_2.1.Disp.Which, .i r_2.1.Disp.Type_, .i r_2.1.Disp.Wants, .b r_2.1.Disp.Known, .i r_2.1.Imm.N, .i r_2.1.Imm.From, .i r_2.1.Imm.Which, .i r_2.1.Imm.Type_, .i r_2.1.Imm.Wants, .b r_2.1.Imm.Known, .b r_2.1.HasD, .b r_2.1.HasI, .b r_2.1.Jumps] 0))]⟩, vi r_2.2] ?_
 refine Rk <| Sq <| Ro <| Rc 2 [⟨.d (.agg [.int .i64 o7.Kind, .int .i64 o7.N, .int .i64 o7.RM, .int .i64 o7.V.N, .int .i64 o7.V.From, .int .i64 o7.V.Which, .int .i64 o7.V.Type_, .int .i64 o7.V.Wants, .bool o7.V.Known, .int .i64 o7.Type_, .int .i64 o7.Over, .bool o7.Short, .int .i64 0, .int .i64 0, .int .i64 0, .int .i64 0, .int .i64 0, .int .i64 0, .int .i64 0, .int .i64 0, .bool false, .int .i64 0, .int .i64 0, .bool false]), []⟩, vb long1] ?_
 obtain ⟨r_3, hr_3, h⟩ := bind_s h
 have hc_3 := pick_Pick_L ([67, 65, 76, 76] : List UInt8) ({ a0 := o7, a1 := ({ Kind := 0, N := 0, RM := 0, V := ({ N := 0, From := 0, Which := 0, Type_ := 0, Wants := 0, Known := false } : api_Value), Type_ := 0, Over := 0, Short := false } : Operand) } : (A2 Operand)) long1 r_3 hr_3
 refine Rt (some 42) (.callf 17) [] none [.d (.str ([67, 65, 76, 76] : List UInt8)), .d (.agg [.int .i64 o7.Kind, .int .i64 o7.N, .int .i64 o7.RM, .int .i64 o7.V.N, .int .i64 o7.V.From, .int .i64 o7.V.Which, .int .i64 o7.V.Type_, .int .i64 o7.V.Wants, .bool o7.V.Known, .int .i64 o7.Type_, .int .i64 o7.Over, .bool o7.Short, .int .i64 0, .int .i64 0, .int .i64 0, .int .i64 0, .int .i64 0, .int .i64 0, .int .i64 0, .int .i64 0, .bool false, .int .i64 0, .int .i64 0, .bool false]), .b long1] (.tup [.d (Choice.d r_3.1), .i r_3.2]) [] (cc hc_3) <| Rc 6 [⟨.tup [.d (Choice.d r_3.1), .i r_3.2], []⟩, ⟨.d (Choice.d r_3.1), []⟩, vi r_3.2, ⟨.ptr [13] 0 0, [([13], some (.cells [.b false, .i 0, .i 0, .y 0, .i 0, .i 0, .i 0, .w 0, .w 0, .w 0, .i 0, .i 0, .i 0, .i 0, .i 0, .b false, .i 0, .i 0, .i 0, .i 0, .i 0, .b false, .b false, .b false, .b false] 0))]⟩, ⟨.tup [], [([13], some (.cells [.b r_3.1.I.Lock, .i r_3.1.I.Rep, .i r_3.1.I.Seg, .y r_3.1.I.Op, .i r_3.1.I.Mod, .i r_3.1.I.Reg, .i r_3.1.I.RM, .w r_3.1.I.Disp, .w r_3.1.I.Imm, .w r_3.1.I.Sel, .i r_3.1.Disp.N, .i r_3.1.Disp.From, .i r_3.1.Disp.Which, .i r_3.1.Disp.Type_, .i r_3.1.Disp.Wants, .b r_3.1.Disp.Known, .i r_3.1.Imm.N, .i r_3.1.Imm.From, .i r_3.1.Imm.Which, .i r_3.1.Imm.Type_, .i r_3.1.Imm.Wants, .b r_3.1.Imm.Known, .b r_3.1.HasD, .b r_3.1.HasI, .b r_3.1.Jumps] 0))]⟩, vi r_3.2] ?_
 refine Rk <| Sq <| Ro <| Rc 3 [⟨.d (Operand.d o7), []⟩, ⟨.ptr [15] 0 0, [([15], some (.cells [.i 0, .i 0, .i 0, .i 0, .i 0, .i 0, .i 0, .i 0, .b false, .i 0, .i 0, .b false] 0))]⟩, ⟨.tup [], [([15], some (.cells [.i o7.Kind, .i o7.N, .i o7.RM, .i o7.V.N, .i o7.V.From, .i o7.V.Which, .i o7.V.Type_, .i o7.V.Wants, .b o7.V.Known, .i o7.Type_, .i o7.Over, .b o7.Short] 0))]⟩] <| Rk <| Sq <| Ro <| Rc 2 [vp [15] 0 11, ⟨.tup [], [([15], some (.cells [.i o7.Kind, .i o7.N, .i o7.RM, .i o7.V.N, .i o7.V.From, .i o7.V.Which, .i o7.V.Type_, .i o7.V.Wants, .b o7.V.Known, .i o7.Type_, .i o7.Over, .b true] 0))]⟩] <| Rk <| Sq <| Ro <| Rc 2 [⟨.d (.agg [.int .i64 o7.Kind, .int .i64 o7.N, .int .i64 o7.RM, .int .i64 o7.V.N, .int .i64 o7.V.From, .int .i64 o7.V.Which, .int .i64 o7.V.Type_, .int .i64 o7.V.Wants, .bool o7.V.Known, .int .i64 o7.Type_, .int .i64 o7.Over, .bool true]), []⟩, ⟨.d (.agg [.int .i64 o7.Kind, .int .i64 o7.N, .int .i64 o7.RM, .int .i64 o7.V.N, .int .i64 o7.V.From, .int .i64 o7.V.Which, .int .i64 o7.V.Type_, .int .i64 o7.V.Wants, .bool o7.V.Known, .int .i64 o7.Type_, .int .i64 o7.Over, .bool true, .int .i64 0, .int .i64 0, .int .i64 0, .int .i64 0, .int .i64 0, .int .i64 0, .int .i64 0, .int .i64 0, .bool false, .int .i64 0, .int .i64 0, .bool false]), []⟩] ?_
 obtain ⟨r_4, hr_4, h⟩ := bind_s h
 have hc_4 := pick_Pick_L ([67, 65, 76, 76] : List UInt8) ({ a0 := ({ o7 with Short := true } : Operand), a1 := ({ Kind := 0, N := 0, RM := 0, V := ({ N := 0, From := 0, Which := 0, Type_ := 0, Wants := 0, Known := false } : api_Value), Type_ := 0, Over := 0, Short := false } : Operand) } : (A2 Operand)) false r_4 hr_4
 refine Rt (some 50) (.callf 17) [] none [.d (.str ([67, 65, 76, 76] : List UInt8)), .d (.agg [.int .i64 o7.Kind, .int .i64 o7.N, .int .i64 o7.RM, .int .i64 o7.V.N, .int .i64 o7.V.From, .int .i64 o7.V.Which, .int .i64 o7.V.Type_, .int .i64 o7.V.Wants, .bool o7.V.Known, .int .i64 o7.Type_, .int .i64 o7.Over, .bool true, .int .i64 0, .int .i64 0, .int .i64 0, .int .i64 0, .int .i64 0, .int .i64 0, .int .i64 0, .int .i64 0, .bool false, .int .i64 0, .int .i64 0, .bool false]), .b false] (.tup [.d (Choice.d r_4.1), .i r_4.2]) [] (cc hc_4) <| Rc 6 [⟨.tup [.d (Choice.d r_4.1), .i r_4.2], []⟩, ⟨.d (Choice.d r_4.1), []⟩, vi r_4.2, ⟨.ptr [16] 0 0, [([16], some (.cells [.b false, .i 0, .i 0, .y 0, .i 0, .i 0, .i 0, .w 0, .w 0, .w 0, .i 0, .i 0, .i 0, .i 0, .i 0, .b false, .i 0, .i 0, .i 0, .i 0, .i 0, .b false, .b false, .b false, .b false] 0))]⟩, ⟨.tup [], [([16], some (.cells [.b r_4.1.I.Lock, .i r_4.1.I.Rep, .i r_4.1.I.Seg, .y r_4.1.I.Op, .i r_4.1.I.Mod, .i r_4.1.I.Reg, .i r_4.1.I.RM, .w r_4.1.I.Disp, .w r_4.1.I.Imm, .w r_4.1.I.Sel, .i r_4.1.Disp.N, .i r_4.1.Disp.From, .i r_4.1.Disp.Which, .i r_4.1.Disp.Type_, .i r_4.1.Disp.Wants, .b r_4.1.Disp.Known, .i r_4.1.Imm.N, .i r_4.1.Imm.From, .i r_4.1.Imm.Which, .i r_4.1.Imm.Type_, .i r_4.1.Imm.Wants, .b r_4.1.Imm.Known, .b r_4.1.HasD, .b r_4.1.HasI, .b r_4.1.Jumps] 0))]⟩, vi r_4.2] ?_
 refine Rk <| Sq <| Sq <| Ro <| Rc 1 [vb far2] <| Rk ?_
 cases hb_2 : (far2 : Bool) with
 | true =>
  replace h := ite_t hb_2 h
  refine Ct <| Sq <| Ro ?_
  obtain ⟨r_5, hr_5, h⟩ := bind_s h
  have hc_5 := hansomlaw34_awake_L r_5 hr_5
  refine Rt (some 54) (.callf 9) [] none [] (.b r_5) [] (cc hc_5) <| Rc 1 [vb r_5] ?_
  cases hb_3 : (r_5 : Bool) with
  | true =>
   replace h := ite_t hb_3 h
   refine Rc 4 [vi r_1.2, vb (r_1.2 == 0), vb (r_1.2 == 0), vb (r_1.2 == 0)] ?_
   cases hb_4 : ((r_1.2 == 0) : Bool) with
   | true =>
    replace h := ite_t hb_4 h
    refine Rc 6 [vp [9] 0 0, vp [9] 0 3, vy r_1.1.I.Op, vb (r_1.1.I.Op == 234), vb (r_1.1.I.Op == 234), vb (r_1.1.I.Op == 234)] ?_
    cases hb_5 : ((r_1.1.I.Op == 234) : Bool) with
    | true =>
     replace h := ite_t hb_5 h
     refine Rc 5 [vp [9] 0 24, vb r_1.1.Jumps, vb (!r_1.1.Jumps), vb (!r_1.1.Jumps), vb (!r_1.1.Jumps)] ?_
     cases hb_6 : ((!r_1.1.Jumps) : Bool) with
     | true =>
      replace h := ite_t hb_6 h
      refine Rc 4 [vp [9] 0 23, vb r_1.1.HasI, vb r_1.1.HasI, vb r_1.1.HasI] ?_
      cases hb_7 : (r_1.1.HasI : Bool) with
      | true =>
       replace h := ite_t hb_7 h
       refine Rc 4 [vi r_2.2, vb (r_2.2 == 6), vb (r_2.2 == 6), vb (r_2.2 == 6)] ?_
       cases hb_8 : ((r_2.2 == 6) : Bool) with
       | true =>
        replace h := ite_t hb_8 h
        refine Rc 4 [vi r_3.2, vb (r_3.2 == 0), vb (r_3.2 == 0), vb (r_3.2 == 0)] ?_
        cases hb_9 : ((r_3.2 == 0) : Bool) with
        | true =>
         replace h := ite_t hb_9 h
         refine Rc 6 [vp [13] 0 0, vp [13] 0 3, vy r_3.1.I.Op, vb (r_3.1.I.Op == 154), vb (r_3.1.I.Op == 154), vb (r_3.1.I.Op == 154)] ?_
         cases hb_10 : ((r_3.1.I.Op == 154) : Bool) with
         | true =>
          replace h := ite_t hb_10 h
          refine Rc 4 [vi r_4.2, vb (r_4.2 == 6), vb (r_4.2 == 6), vb (r_4.2 == 6)] <| Rk <| Runs.ret <| kS_ret ?_
          cases h
          exact Fq
         | false =>
          replace h := ite_f hb_10 h
          refine Rc 4 [vn, vn, vb false, vb false] <| Rk <| Runs.ret <| kS_ret ?_
          cases h
          exact Fq
        | false =>
         replace h := ite_f hb_9 h
         refine Rc 10 [vn, vn, vn, vn, vb false, vb false, vn, vn, vb false, vb false] <| Rk <| Runs.ret <| kS_ret ?_
         cases h
         exact Fq
       | false =>
        replace h := ite_f hb_8 h
        refine Rc 14 [vn, vn, vb false, vb false, vn, vn, vn, vn, vb false, vb false, vn, vn, vb false, vb false] <| Rk <| Runs.ret <| kS_ret ?_
        cases h
        exact Fq
      | false =>
       replace h := ite_f hb_7 h
       refine Rc 18 [vn, vn, vb false, vb false, vn, vn, vb false, vb false, vn, vn, vn, vn, vb false, vb false, vn, vn, vb false, vb false] <| Rk <| Runs.ret <| kS_ret ?_
       cases h
       exact Fq
     | false =>
      replace h := ite_f hb_6 h
      refine Rc 22 [vn, vn, vb false, vb false, vn, vn, vb false, vb false, vn, vn, vb false, vb false, vn, vn, vn, vn, vb false, vb false, vn, vn, vb false, vb false] <| Rk <| Runs.ret <| kS_ret ?_
      cases h
      exact Fq
    | false =>
     replace h := ite_f hb_5 h
     refine Rc 27 [vn, vn, vn, vb false, vb false, vn, vn, vb false, vb false, vn, vn, vb false, vb false, vn, vn, vb false, vb false, vn, vn, vn, vn, vb false, vb false, vn, vn, vb false, vb false] <| Rk <| Runs.ret <| kS_ret ?_
     cases h
     exact Fq
   | false =>
    replace h := ite_f hb_4 h
    refine Rc 33 [vn, vn, vn, vn, vb false, vb false, vn, vn, vn, vb false, vb false, vn, vn, vb false, vb false, vn, vn, vb false, vb false, vn, vn, vb false, vb false, vn, vn, vn, vn, vb false, vb false, vn, vn, vb false, vb false] <| Rk <| Runs.ret <| kS_ret ?_
    cases h
    exact Fq
  | false =>
   replace h := ite_f hb_3 h
   refine Rc 37 [vn, vn, vb false, vb false, vn, vn, vn, vn, vb false, vb false, vn, vn, vn, vb false, vb false, vn, vn, vb false, vb false, vn, vn, vb false, vb false, vn, vn, vb false, vb false, vn, vn, vn, vn, vb false, vb false, vn, vn, vb false, vb false] <| Rk <| Runs.ret <| kS_ret ?_
   cases h
   exact Fq
 | false =>
  replace h := ite_f hb_2 h
  refine Cf <| Runs.skip <| kS_nrm <| Sq <| Ro <| Rc 1 [vy 235] <| Rk <| Sq <| Sq <| Ro <| Rc 1 [vb long1] <| Rk ?_
  cases hb_11 : (long1 : Bool) with
  | true =>
   replace h := ite_t hb_11 h
   refine Ct <| Ro <| Rc 1 [vy 233] <| Rk <| Runs.canon (hansomlaw34_PickJumps_h40 o7 r_1.1 r_2.1 r_3.1 r_1.2 r_2.2 r_3.2 r_4.2 233) Cz ?_
   exact hansomlaw34_PickJumps_j40_ok n_ long_ far_ o7 r_1.1 r_2.1 r_3.1 r_1.2 r_2.2 r_3.2 r_4.2 233 r h
  | false =>
   replace h := ite_f hb_11 h
   refine Cf <| Runs.skip <| kS_nrm <| Runs.canon (hansomlaw34_PickJumps_h40 o7 r_1.1 r_2.1 r_3.1 r_1.2 r_2.2 r_3.2 r_4.2 235) Cz ?_
   exact hansomlaw34_PickJumps_j40_ok n_ long_ far_ o7 r_1.1 r_2.1 r_3.1 r_1.2 r_2.2 r_3.2 r_4.2 235 r h
theorem hansomlaw34_PickJumps_ok (n_ : Int) (long_ : Bool) (far_ : Bool) (r : Bool) (h : hansomlaw34_PickJumps n_ long_ far_ = some r) : Runs L F5.body ⟨tmOf [.i n_, .b long_, .b far_] 0, updW (fun _ => none) []⟩ (hansomlaw34_PickJumps_Q n_ long_ far_ r) := by
 unfold hansomlaw34_PickJumps at h
 refine Sq <| Ro <| Rc 1 [vb false] <| Rk <| Sq <| Ro <| Rc 6 [vi n_, vi (bitsOp .and .i64 n_ 65535), ⟨.d (.agg [.int .i64 (bitsOp .and .i64 n_ 65535), .int .i64 1, .int .i64 1, .int .i64 101, .int .i64 0, .bool true]), []⟩, ⟨.d (.agg [.int .i64 4, .int .i64 0, .int .i64 8, .int .i64 (bitsOp .and .i64 n_ 65535), .int .i64 1, .int .i64 1, .int .i64 101, .int .i64 0, .bool true, .int .i64 101, .int .i64 0, .bool false]), []⟩, ⟨.ptr [7] 0 0, [([7], some (.cells [.i 0, .i 0, .i 0, .i 0, .i 0, .i 0, .i 0, .i 0, .b false, .i 0, .i 0, .b false] 0))]⟩, ⟨.tup [], [([7], some (.cells [.i 4, .i 0, .i 8, .i (bitsOp .and .i64 n_ 65535), .i 1, .i 1, .i 101, .i 0, .b true, .i 101, .i 0, .b false] 0))]⟩] <| Rk <| Sq <| Sq <| Ro <| Rc 1 [vb far_] <| Rk ?_
 cases hb_1 : (far_ : Bool) with
 | true =>
  replace h := ite_t hb_1 h
  refine Ct <| Ro <| Rc 2 [vp [7] 0 9, ⟨.tup [], [([7], some (.cells [.i 4, .i 0, .i 8, .i (bitsOp .and .i64 n_ 65535), .i 1, .i 1, .i 101, .i 0, .b true, .i 102, .i 0, .b false] 0))]⟩] <| Rk <| Runs.canon (hansomlaw34_PickJumps_h10 ({ Kind := 4, N := 0, RM := 8, V := ({ N := (bitsOp .and .i64 n_ 65535), From := 1, Which := 1, Type_ := 101, Wants := 0, Known := true } : api_Value), Type_ := 102, Over := 0, Short := false } : Operand) long_ true) Cz ?_
  exact hansomlaw34_PickJumps_j10_ok n_ long_ true ({ Kind := 4, N := 0, RM := 8, V := ({ N := (bitsOp .and .i64 n_ 65535), From := 1, Which := 1, Type_ := 101, Wants := 0, Known := true } : api_Value), Type_ := 102, Over := 0, Short := false } : Operand) long_ true r h
 | false =>
  replace h := ite_f hb_1 h
  refine Cf <| Runs.skip <| kS_nrm <| Runs.canon (hansomlaw34_PickJumps_h10 ({ Kind := 4, N := 0, RM := 8, V := ({ N := (bitsOp .and .i64 n_ 65535), From := 1, Which := 1, Type_ := 101, Wants := 0, Known := true } : api_Value), Type_ := 101, Over := 0, Short := false } : Operand) long_ false) Cz ?_
  exact hansomlaw34_PickJumps_j10_ok n_ long_ false ({ Kind := 4, N := 0, RM := 8, V := ({ N := (bitsOp .and .i64 n_ 65535), From := 1, Which := 1, Type_ := 101, Wants := 0, Known := true } : api_Value), Type_ := 101, Over := 0, Short := false } : Operand) long_ false r h
theorem hansomlaw34_PickJumps_L (n_ : Int) (long_ : Bool) (far_ : Bool) (r : Bool) (h : hansomlaw34_PickJumps n_ long_ far_ = some r) : L 5 [.i n_, .b long_, .b far_] = some (.b r, [.i n_, .b long_, .b far_]) := by
 obtain ⟨p, ⟨hne, hf⟩, hr⟩ := hansomlaw34_PickJumps_ok n_ long_ far_ r h
 obtain ⟨k, hk⟩ := run_of (F := F5) (args := [.i n_, .b long_, .b far_]) (ap := [.i n_, .b long_, .b far_]) (bx0 := updW (fun _ => none) []) rfl rfl (by kernel_rfl) ⟨p, ⟨hne, hf⟩, hr⟩
 exact lim_run (k := k) rfl hk
end Go.Es.Pkj
