/- The interpreter answers as plain Lean does: part 1. No condition. -/
import Derived.Test.YtikbjljifgadmaaDoorDsnF
import Derived.Test.YtikbjljifgadmaaDoorDsnP
import Derived.KernelRfl
set_option linter.unusedVariables false
set_option linter.unusedSimpArgs false
set_option maxRecDepth 100000
set_option maxHeartbeats 4000000
namespace Go.Es.Dsn
theorem strings_Fields_L0 : L 19 [.d (.str [65, 68, 68, 32, 79, 82, 32, 65, 68, 67, 32, 83, 66, 66, 32, 65, 78, 68, 32, 83, 85, 66, 32, 88, 79, 82, 32, 67, 77, 80, 32, 80, 85, 83, 72, 32, 80, 79, 80, 32, 68, 65, 65, 32, 68, 65, 83, 32, 65, 65, 65, 32, 65, 65, 83, 32, 73, 78, 67, 32, 68, 69, 67, 32, 74, 79, 32, 74, 78, 79, 32, 74, 66, 32, 74, 78, 66, 32, 74, 90, 32, 74, 78, 90, 32, 74, 66, 69, 32, 74, 65, 32, 74, 83, 32, 74, 78, 83, 32, 74, 80, 32, 74, 78, 80, 32, 74, 76, 32, 74, 71, 69, 32, 74, 76, 69, 32, 74, 71, 32, 84, 69, 83, 84, 32, 88, 67, 72, 71, 32, 77, 79, 86, 32, 76, 69, 65, 32, 67, 66, 87, 32, 67, 87, 68, 32, 67, 65, 76, 76, 32, 67, 65, 76, 76, 70, 32, 87, 65, 73, 84, 32, 80, 85, 83, 72, 70, 32, 80, 79, 80, 70, 32, 83, 65, 72, 70, 32, 76, 65, 72, 70, 32, 77, 79, 86, 83, 66, 32, 77, 79, 86, 83, 87, 32, 67, 77, 80, 83, 66, 32, 67, 77, 80, 83, 87, 32, 83, 84, 79, 83, 66, 32, 83, 84, 79, 83, 87, 32, 76, 79, 68, 83, 66, 32, 76, 79, 68, 83, 87, 32, 83, 67, 65, 83, 66, 32, 83, 67, 65, 83, 87, 32, 82, 69, 84, 32, 82, 69, 84, 70, 32, 76, 69, 83, 32, 76, 68, 83, 32, 73, 78, 84, 32, 73, 78, 84, 79, 32, 73, 82, 69, 84, 32, 82, 79, 76, 32, 82, 79, 82, 32, 82, 67, 76, 32, 82, 67, 82, 32, 83, 72, 76, 32, 83, 72, 82, 32, 83, 65, 82, 32, 65, 65, 77, 32, 65, 65, 68, 32, 88, 76, 65, 84, 32, 69, 83, 67, 32, 76, 79, 79, 80, 78, 90, 32, 76, 79, 79, 80, 90, 32, 76, 79, 79, 80, 32, 74, 67, 88, 90, 32, 73, 78, 32, 79, 85, 84, 32, 74, 77, 80, 32, 74, 77, 80, 70, 32, 72, 76, 84, 32, 67, 77, 67, 32, 78, 79, 84, 32, 78, 69, 71, 32, 77, 85, 76, 32, 73, 77, 85, 76, 32, 68, 73, 86, 32, 73, 68, 73, 86, 32, 67, 76, 67, 32, 83, 84, 67, 32, 67, 76, 73, 32, 83, 84, 73, 32, 67, 76, 68, 32, 83, 84, 68])] = some (.arr false 1 (List.map D.str [[65, 68, 68], [79, 82], [65, 68, 67], [83, 66, 66], [65, 78, 68], [83, 85, 66], [88, 79, 82], [67, 77, 80], [80, 85, 83, 72], [80, 79, 80], [68, 65, 65], [68, 65, 83], [65, 65, 65], [65, 65, 83], [73, 78, 67], [68, 69, 67], [74, 79], [74, 78, 79], [74, 66], [74, 78, 66], [74, 90], [74, 78, 90], [74, 66, 69], [74, 65], [74, 83], [74, 78, 83], [74, 80], [74, 78, 80], [74, 76], [74, 71, 69], [74, 76, 69], [74, 71], [84, 69, 83, 84], [88, 67, 72, 71], [77, 79, 86], [76, 69, 65], [67, 66, 87], [67, 87, 68], [67, 65, 76, 76], [67, 65, 76, 76, 70], [87, 65, 73, 84], [80, 85, 83, 72, 70], [80, 79, 80, 70], [83, 65, 72, 70], [76, 65, 72, 70], [77, 79, 86, 83, 66], [77, 79, 86, 83, 87], [67, 77, 80, 83, 66], [67, 77, 80, 83, 87], [83, 84, 79, 83, 66], [83, 84, 79, 83, 87], [76, 79, 68, 83, 66], [76, 79, 68, 83, 87], [83, 67, 65, 83, 66], [83, 67, 65, 83, 87], [82, 69, 84], [82, 69, 84, 70], [76, 69, 83], [76, 68, 83], [73, 78, 84], [73, 78, 84, 79], [73, 82, 69, 84], [82, 79, 76], [82, 79, 82], [82, 67, 76], [82, 67, 82], [83, 72, 76], [83, 72, 82], [83, 65, 82], [65, 65, 77], [65, 65, 68], [88, 76, 65, 84], [69, 83, 67], [76, 79, 79, 80, 78, 90], [76, 79, 79, 80, 90], [76, 79, 79, 80], [74, 67, 88, 90], [73, 78], [79, 85, 84], [74, 77, 80], [74, 77, 80, 70], [72, 76, 84], [67, 77, 67], [78, 79, 84], [78, 69, 71], [77, 85, 76], [73, 77, 85, 76], [68, 73, 86], [73, 68, 73, 86], [67, 76, 67], [83, 84, 67], [67, 76, 73], [83, 84, 73], [67, 76, 68], [83, 84, 68]]), [.d (.str [65, 68, 68, 32, 79, 82, 32, 65, 68, 67, 32, 83, 66, 66, 32, 65, 78, 68, 32, 83, 85, 66, 32, 88, 79, 82, 32, 67, 77, 80, 32, 80, 85, 83, 72, 32, 80, 79, 80, 32, 68, 65, 65, 32, 68, 65, 83, 32, 65, 65, 65, 32, 65, 65, 83, 32, 73, 78, 67, 32, 68, 69, 67, 32, 74, 79, 32, 74, 78, 79, 32, 74, 66, 32, 74, 78, 66, 32, 74, 90, 32, 74, 78, 90, 32, 74, 66, 69, 32, 74, 65, 32, 74, 83, 32, 74, 78, 83, 32, 74, 80, 32, 74, 78, 80, 32, 74, 76, 32, 74, 71, 69, 32, 74, 76, 69, 32, 74, 71, 32, 84, 69, 83, 84, 32, 88, 67, 72, 71, 32, 77, 79, 86, 32, 76, 69, 65, 32, 67, 66, 87, 32, 67, 87, 68, 32, 67, 65, 76, 76, 32, 67, 65, 76, 76, 70, 32, 87, 65, 73, 84, 32, 80, 85, 83, 72, 70, 32, 80, 79, 80, 70, 32, 83, 65, 72, 70, 32, 76, 65, 72, 70, 32, 77, 79, 86, 83, 66, 32, 77, 79, 86, 83, 87, 32, 67, 77, 80, 83, 66, 32, 67, 77, 80, 83, 87, 32, 83, 84, 79, 83, 66, 32, 83, 84, 79, 83, 87, 32, 76, 79, 68, 83, 66, 32, 76, 79, 68, 83, 87, 32, 83, 67, 65, 83, 66, 32, 83, 67, 65, 83, 87, 32, 82, 69, 84, 32, 82, 69, 84, 70, 32, 76, 69, 83, 32, 76, 68, 83, 32, 73, 78, 84, 32, 73, 78, 84, 79, 32, 73, 82, 69, 84, 32, 82, 79, 76, 32, 82, 79, 82, 32, 82, 67, 76, 32, 82, 67, 82, 32, 83, 72, 76, 32, 83, 72, 82, 32, 83, 65, 82, 32, 65, 65, 77, 32, 65, 65, 68, 32, 88, 76, 65, 84, 32, 69, 83, 67, 32, 76, 79, 79, 80, 78, 90, 32, 76, 79, 79, 80, 90, 32, 76, 79, 79, 80, 32, 74, 67, 88, 90, 32, 73, 78, 32, 79, 85, 84, 32, 74, 77, 80, 32, 74, 77, 80, 70, 32, 72, 76, 84, 32, 67, 77, 67, 32, 78, 79, 84, 32, 78, 69, 71, 32, 77, 85, 76, 32, 73, 77, 85, 76, 32, 68, 73, 86, 32, 73, 68, 73, 86, 32, 67, 76, 67, 32, 83, 84, 67, 32, 67, 76, 73, 32, 83, 84, 73, 32, 67, 76, 68, 32, 83, 84, 68])]) := (lim_iff (F := tab1)).2 ⟨600, by kernel_rfl⟩
theorem strings_Fields_L1 : L 19 [.d (.str [65, 88, 32, 67, 88, 32, 68, 88, 32, 66, 88, 32, 83, 80, 32, 66, 80, 32, 83, 73, 32, 68, 73])] = some (.arr false 1 (List.map D.str [[65, 88], [67, 88], [68, 88], [66, 88], [83, 80], [66, 80], [83, 73], [68, 73]]), [.d (.str [65, 88, 32, 67, 88, 32, 68, 88, 32, 66, 88, 32, 83, 80, 32, 66, 80, 32, 83, 73, 32, 68, 73])]) := (lim_iff (F := tab1)).2 ⟨600, by kernel_rfl⟩
theorem strings_Fields_L2 : L 19 [.d (.str [65, 76, 32, 67, 76, 32, 68, 76, 32, 66, 76, 32, 65, 72, 32, 67, 72, 32, 68, 72, 32, 66, 72])] = some (.arr false 1 (List.map D.str [[65, 76], [67, 76], [68, 76], [66, 76], [65, 72], [67, 72], [68, 72], [66, 72]]), [.d (.str [65, 76, 32, 67, 76, 32, 68, 76, 32, 66, 76, 32, 65, 72, 32, 67, 72, 32, 68, 72, 32, 66, 72])]) := (lim_iff (F := tab1)).2 ⟨600, by kernel_rfl⟩
theorem strings_Fields_L3 : L 19 [.d (.str [69, 83, 32, 67, 83, 32, 83, 83, 32, 68, 83])] = some (.arr false 1 (List.map D.str [[69, 83], [67, 83], [83, 83], [68, 83]]), [.d (.str [69, 83, 32, 67, 83, 32, 83, 83, 32, 68, 83])]) := (lim_iff (F := tab1)).2 ⟨600, by kernel_rfl⟩
theorem strings_Fields_L (a0_ : (List UInt8)) (r : (List (List UInt8))) (h : strings_Fields a0_ = some r) : L 19 [.d (.str a0_)] = some (.arr false 1 (List.map D.str r), [.d (.str a0_)]) := by
  unfold strings_Fields at h
  by_cases c0 : a0_ = [65, 68, 68, 32, 79, 82, 32, 65, 68, 67, 32, 83, 66, 66, 32, 65, 78, 68, 32, 83, 85, 66, 32, 88, 79, 82, 32, 67, 77, 80, 32, 80, 85, 83, 72, 32, 80, 79, 80, 32, 68, 65, 65, 32, 68, 65, 83, 32, 65, 65, 65, 32, 65, 65, 83, 32, 73, 78, 67, 32, 68, 69, 67, 32, 74, 79, 32, 74, 78, 79, 32, 74, 66, 32, 74, 78, 66, 32, 74, 90, 32, 74, 78, 90, 32, 74, 66, 69, 32, 74, 65, 32, 74, 83, 32, 74, 78, 83, 32, 74, 80, 32, 74, 78, 80, 32, 74, 76, 32, 74, 71, 69, 32, 74, 76, 69, 32, 74, 71, 32, 84, 69, 83, 84, 32, 88, 67, 72, 71, 32, 77, 79, 86, 32, 76, 69, 65, 32, 67, 66, 87, 32, 67, 87, 68, 32, 67, 65, 76, 76, 32, 67, 65, 76, 76, 70, 32, 87, 65, 73, 84, 32, 80, 85, 83, 72, 70, 32, 80, 79, 80, 70, 32, 83, 65, 72, 70, 32, 76, 65, 72, 70, 32, 77, 79, 86, 83, 66, 32, 77, 79, 86, 83, 87, 32, 67, 77, 80, 83, 66, 32, 67, 77, 80, 83, 87, 32, 83, 84, 79, 83, 66, 32, 83, 84, 79, 83, 87, 32, 76, 79, 68, 83, 66, 32, 76, 79, 68, 83, 87, 32, 83, 67, 65, 83, 66, 32, 83, 67, 65, 83, 87, 32, 82, 69, 84, 32, 82, 69, 84, 70, 32, 76, 69, 83, 32, 76, 68, 83, 32, 73, 78, 84, 32, 73, 78, 84, 79, 32, 73, 82, 69, 84, 32, 82, 79, 76, 32, 82, 79, 82, 32, 82, 67, 76, 32, 82, 67, 82, 32, 83, 72, 76, 32, 83, 72, 82, 32, 83, 65, 82, 32, 65, 65, 77, 32, 65, 65, 68, 32, 88, 76, 65, 84, 32, 69, 83, 67, 32, 76, 79, 79, 80, 78, 90, 32, 76, 79, 79, 80, 90, 32, 76, 79, 79, 80, 32, 74, 67, 88, 90, 32, 73, 78, 32, 79, 85, 84, 32, 74, 77, 80, 32, 74, 77, 80, 70, 32, 72, 76, 84, 32, 67, 77, 67, 32, 78, 79, 84, 32, 78, 69, 71, 32, 77, 85, 76, 32, 73, 77, 85, 76, 32, 68, 73, 86, 32, 73, 68, 73, 86, 32, 67, 76, 67, 32, 83, 84, 67, 32, 67, 76, 73, 32, 83, 84, 73, 32, 67, 76, 68, 32, 83, 84, 68]
  · rw [if_pos c0] at h
    obtain rfl := Option.some.inj h
    subst c0
    exact strings_Fields_L0
  rw [if_neg c0] at h
  by_cases c1 : a0_ = [65, 88, 32, 67, 88, 32, 68, 88, 32, 66, 88, 32, 83, 80, 32, 66, 80, 32, 83, 73, 32, 68, 73]
  · rw [if_pos c1] at h
    obtain rfl := Option.some.inj h
    subst c1
    exact strings_Fields_L1
  rw [if_neg c1] at h
  by_cases c2 : a0_ = [65, 76, 32, 67, 76, 32, 68, 76, 32, 66, 76, 32, 65, 72, 32, 67, 72, 32, 68, 72, 32, 66, 72]
  · rw [if_pos c2] at h
    obtain rfl := Option.some.inj h
    subst c2
    exact strings_Fields_L2
  rw [if_neg c2] at h
  by_cases c3 : a0_ = [69, 83, 32, 67, 83, 32, 83, 83, 32, 68, 83]
  · rw [if_pos c3] at h
    obtain rfl := Option.some.inj h
    subst c3
    exact strings_Fields_L3
  rw [if_neg c3] at h
  cases h
theorem disp_Text_L0 : L 17 [.d (Inst.d ({ Lock := false, Rep := 0, Seg := 0, Op := 144, Mod := 0, Reg := 0, RM := 0, Disp := 0, Imm := 0, Sel := 0 } : Inst))] = some (.d (.str [88, 67, 72, 71, 32, 65, 88, 44, 65, 88]), [.d (Inst.d ({ Lock := false, Rep := 0, Seg := 0, Op := 144, Mod := 0, Reg := 0, RM := 0, Disp := 0, Imm := 0, Sel := 0 } : Inst))]) := (lim_iff (F := tab1)).2 ⟨600, by kernel_rfl⟩
theorem disp_Text_L (a0_ : Inst) (r : (List UInt8)) (h : disp_Text a0_ = some r) : L 17 [.d (Inst.d a0_)] = some (.d (.str r), [.d (Inst.d a0_)]) := by
  unfold disp_Text at h
  by_cases c0 : a0_ = ({ Lock := false, Rep := 0, Seg := 0, Op := 144, Mod := 0, Reg := 0, RM := 0, Disp := 0, Imm := 0, Sel := 0 } : Inst)
  · rw [if_pos c0] at h
    obtain rfl := Option.some.inj h
    subst c0
    exact disp_Text_L0
  rw [if_neg c0] at h
  cases h
def disp_Find_h6 (s0 : (List UInt8)) (t5 : (List (List UInt8))) (t6 : Int) (t7 : Int) : St := ⟨tab [(0, .d (.str s0)), (5, .d (.sl (List.map D.str t5))), (6, .i t6), (7, .i t7)], tabB []⟩
def disp_Find_h25  : St := ⟨tab [], tabB []⟩
def disp_Find_Q (s_ : (List UInt8)) (r : Int) (p : Out × St) : Prop := (∀ i, p.1 ≠ .exit i) ∧ finF F5 [.d (.str s_)] p.2 = some (.i r, [.d (.str s_)])
def disp_Find_P6 (s_ : (List UInt8)) (s0 : (List UInt8)) (t5 : (List (List UInt8))) (t6 : Int) (e : (Int ⊕ Unit)) (p : Out × St) : Prop := match e with
 | .inl x => p.1 = .ret ∧ finF F5 [.d (.str s_)] p.2 = some (.i x, [.d (.str s_)])
 | .inr x => p.1 = .exit 0 ∧ ∃ g : Unit, Canon [] [] [] p.2 (disp_Find_h25)
theorem disp_Find_l6_ok (s_ : (List UInt8)) (s0 : (List UInt8)) (t5 : (List (List UInt8))) (t6 : Int) (t7 : Int) (r : (Lp Int (Int ⊕ Unit))) (h : disp_Find_l6 s0 t5 t6 t7 = some r) : Runs L F5l6 (disp_Find_h6 s0 t5 t6 t7) (LQ [.frz 5] [0, 5, 6, 7] [] (fun (x : Int) (g : Unit) => disp_Find_h6 s0 t5 t6 x) (disp_Find_P6 s_ s0 t5 t6) r) := by
 unfold disp_Find_l6 at h
 refine Sq <| Ro <| Rc 1 [vb (decide (t7 < t6))] <| Rk <| Sq ?_
 cases hb_1 : ((decide (t7 < t6)) : Bool) with
 | true =>
  replace h := ite_t hb_1 h
  refine Ct <| Runs.skip <| kS_nrm <| Sq <| Runs.block <| Sq <| Ro <| Rc 1 [vi t7] ?_
  obtain ⟨z_1, hz_1, h⟩ := bind_s h
  refine Rt (some 10) (.iaddrS 1) [] none [.d (.sl (List.map D.str t5)), .i t7] (.elt (.str z_1) 0) [] (cut_at hz_1 (fun _ => rfl)) <| Rc 3 [⟨.d (.str z_1), []⟩, vi t7, ⟨.d (.str z_1), []⟩] <| Rk <| Sq <| Ro <| Rc 3 [⟨.d (.str z_1), []⟩, ⟨.d (.str s0), []⟩, vb (z_1 == s0)] <| Rk ?_
  cases hb_2 : ((z_1 == s0) : Bool) with
  | true =>
   replace h := ite_t hb_2 h
   refine Ct <| Sq <| Ro <| Rc 3 [vi t7, vi (IntKind.wrap .i64 (t7 + 1)), vi (IntKind.wrap .i64 (t7 + 1))] <| Rk <| Runs.ret <| kB_ret <| kS_ret ?_
   obtain rfl := sj h
   exact ⟨nofun, rfl, (by kernel_rfl)⟩
  | false =>
   replace h := ite_f hb_2 h
   refine Cf <| Runs.skip <| kB_nrm <| kS_nrm <| Ro <| Rc 2 [vi (IntKind.wrap .i64 (t7 + 1)), vi (IntKind.wrap .i64 (t7 + 1))] <| Rd ?_
   obtain rfl := sj h
   exact ⟨rfl, (), (Canon.same (by kernel_rfl) Cz)⟩
 | false =>
  replace h := ite_f hb_1 h
  refine Cf <| Runs.exit <| kS_exit ?_
  obtain rfl := sj h
  exact ⟨nofun, rfl, (), Cz⟩
theorem disp_Find_ok (s_ : (List UInt8)) (r : Int) (h : disp_Find s_ = some r) : Runs L F5.body ⟨tmOf [.d (.str s_)] 0, updW (fun _ => none) []⟩ (disp_Find_Q s_ r) := by
 unfold disp_Find at h
 refine Sq <| Ro <| Rc 1 [vi 0] <| Rk <| Sq <| Sq <| Ro ?_
 obtain ⟨r_1, hr_1, h⟩ := bind_s h
 have hc_1 := strings_Fields_L ([65, 68, 68, 32, 79, 82, 32, 65, 68, 67, 32, 83, 66, 66, 32, 65, 78, 68, 32, 83, 85, 66, 32, 88, 79, 82, 32, 67, 77, 80, 32, 80, 85, 83, 72, 32, 80, 79, 80, 32, 68, 65, 65, 32, 68, 65, 83, 32, 65, 65, 65, 32, 65, 65, 83, 32, 73, 78, 67, 32, 68, 69, 67, 32, 74, 79, 32, 74, 78, 79, 32, 74, 66, 32, 74, 78, 66, 32, 74, 90, 32, 74, 78, 90, 32, 74, 66, 69, 32, 74, 65, 32, 74, 83, 32, 74, 78, 83, 32, 74, 80, 32, 74, 78, 80, 32, 74, 76, 32, 74, 71, 69, 32, 74, 76, 69, 32, 74, 71, 32, 84, 69, 83, 84, 32, 88, 67, 72, 71, 32, 77, 79, 86, 32, 76, 69, 65, 32, 67, 66, 87, 32, 67, 87, 68, 32, 67, 65, 76, 76, 32, 67, 65, 76, 76, 70, 32, 87, 65, 73, 84, 32, 80, 85, 83, 72, 70, 32, 80, 79, 80, 70, 32, 83, 65, 72, 70, 32, 76, 65, 72, 70, 32, 77, 79, 86, 83, 66, 32, 77, 79, 86, 83, 87, 32, 67, 77, 80, 83, 66, 32, 67, 77, 80, 83, 87, 32, 83, 84, 79, 83, 66, 32, 83, 84, 79, 83, 87, 32, 76, 79, 68, 83, 66, 32, 76, 79, 68, 83, 87, 32, 83, 67, 65, 83, 66, 32, 83, 67, 65, 83, 87, 32, 82, 69, 84, 32, 82, 69, 84, 70, 32, 76, 69, 83, 32, 76, 68, 83, 32, 73, 78, 84, 32, 73, 78, 84, 79, 32, 73, 82, 69, 84, 32, 82, 79, 76, 32, 82, 79, 82, 32, 82, 67, 76, 32, 82, 67, 82, 32, 83, 72, 76, 32, 83, 72, 82, 32, 83, 65, 82, 32, 65, 65, 77, 32, 65, 65, 68, 32, 88, 76, 65, 84, 32, 69, 83, 67, 32, 76, 79, 79, 80, 78, 90, 32, 76, 79, 79, 80, 90, 32, 76, 79, 79, 80, 32, 74, 67, 88, 90, 32, 73, 78, 32, 79, 85, 84, 32, 74, 77, 80, 32, 74, 77, 80, 70, 32, 72, 76, 84, 32, 67, 77, 67, 32, 78, 79, 84, 32, 78, 69, 71, 32, 77, 85, 76, 32, 73, 77, 85, 76, 32, 68, 73, 86, 32, 73, 68, 73, 86, 32, 67, 76, 67, 32, 83, 84, 67, 32, 67, 76, 73, 32, 83, 84, 73, 32, 67, 76, 68, 32, 83, 84, 68] : List UInt8) r_1 hr_1
 refine Rt (some 5) (.callf 19) [] none [.d (.str ([65, 68, 68, 32, 79, 82, 32, 65, 68, 67, 32, 83, 66, 66, 32, 65, 78, 68, 32, 83, 85, 66, 32, 88, 79, 82, 32, 67, 77, 80, 32, 80, 85, 83, 72, 32, 80, 79, 80, 32, 68, 65, 65, 32, 68, 65, 83, 32, 65, 65, 65, 32, 65, 65, 83, 32, 73, 78, 67, 32, 68, 69, 67, 32, 74, 79, 32, 74, 78, 79, 32, 74, 66, 32, 74, 78, 66, 32, 74, 90, 32, 74, 78, 90, 32, 74, 66, 69, 32, 74, 65, 32, 74, 83, 32, 74, 78, 83, 32, 74, 80, 32, 74, 78, 80, 32, 74, 76, 32, 74, 71, 69, 32, 74, 76, 69, 32, 74, 71, 32, 84, 69, 83, 84, 32, 88, 67, 72, 71, 32, 77, 79, 86, 32, 76, 69, 65, 32, 67, 66, 87, 32, 67, 87, 68, 32, 67, 65, 76, 76, 32, 67, 65, 76, 76, 70, 32, 87, 65, 73, 84, 32, 80, 85, 83, 72, 70, 32, 80, 79, 80, 70, 32, 83, 65, 72, 70, 32, 76, 65, 72, 70, 32, 77, 79, 86, 83, 66, 32, 77, 79, 86, 83, 87, 32, 67, 77, 80, 83, 66, 32, 67, 77, 80, 83, 87, 32, 83, 84, 79, 83, 66, 32, 83, 84, 79, 83, 87, 32, 76, 79, 68, 83, 66, 32, 76, 79, 68, 83, 87, 32, 83, 67, 65, 83, 66, 32, 83, 67, 65, 83, 87, 32, 82, 69, 84, 32, 82, 69, 84, 70, 32, 76, 69, 83, 32, 76, 68, 83, 32, 73, 78, 84, 32, 73, 78, 84, 79, 32, 73, 82, 69, 84, 32, 82, 79, 76, 32, 82, 79, 82, 32, 82, 67, 76, 32, 82, 67, 82, 32, 83, 72, 76, 32, 83, 72, 82, 32, 83, 65, 82, 32, 65, 65, 77, 32, 65, 65, 68, 32, 88, 76, 65, 84, 32, 69, 83, 67, 32, 76, 79, 79, 80, 78, 90, 32, 76, 79, 79, 80, 90, 32, 76, 79, 79, 80, 32, 74, 67, 88, 90, 32, 73, 78, 32, 79, 85, 84, 32, 74, 77, 80, 32, 74, 77, 80, 70, 32, 72, 76, 84, 32, 67, 77, 67, 32, 78, 79, 84, 32, 78, 69, 71, 32, 77, 85, 76, 32, 73, 77, 85, 76, 32, 68, 73, 86, 32, 73, 68, 73, 86, 32, 67, 76, 67, 32, 83, 84, 67, 32, 67, 76, 73, 32, 83, 84, 73, 32, 67, 76, 68, 32, 83, 84, 68] : List UInt8))] (.ref [5] 0 0 (List.map D.str r_1).length 1) [([5], some (.arr (List.map D.str r_1) 0 false))] (cut_call (call_of (ws := []) (us := []) (by kernel_rfl) (gives_cons (ws := []) (give_same (by kernel_rfl)) gives_nil) hc_1 (by kernel_rfl) (by kernel_rfl))) ?_
 refine Rt (some 6) .lenL [] none [.ref [5] 0 0 (List.map D.str r_1).length 1] (.i (r_1.length : Int)) [] (cut_lenR (e := D.str) r_1 rfl) <| Rc 1 [vi 0] <| Rk <| Runs.block ?_
 obtain ⟨e_1, he_1, h⟩ := bind_s h
 refine Runs.loop (fun x : Int => disp_Find_l6 s_ r_1 (r_1.length : Int) x) (fun (x : Int) (g : Unit) => disp_Find_h6 s_ r_1 (r_1.length : Int) x) (disp_Find_P6 s_ s_ r_1 (r_1.length : Int)) (fun x g r hr => disp_Find_l6_ok s_ s_ r_1 (r_1.length : Int) x  r hr) () he_1 (Canon.cons (frz_ref (e := D.str) (l := r_1) (id := [5]) (v := 0) (n := 1) (fz := false) (by kernel_rfl) (by kernel_rfl) rfl) Cz) ?_
 rintro ⟨o, s⟩ hp
 cases e_1 with
 | inl e_2 =>
  obtain ⟨ho, hf⟩ := hp
  have ho' : o = .ret := ho
  subst ho'
  refine kB_ret <| kS_ret ?_
  obtain rfl := sj h
  exact ⟨Out.ret_ne, hf⟩
 | inr e_3 =>
  obtain ⟨ho, g_1, hk_1⟩ := hp
  have ho' : o = .exit 0 := ho
  subst ho'
  refine kB_hit <| kS_nrm <| Runs.canon _ hk_1 <| Sq <| Ro <| Rc 1 [vi 0] <| Rk <| Runs.ret ?_
  cases h
  exact Fq
theorem disp_Find_L (s_ : (List UInt8)) (r : Int) (h : disp_Find s_ = some r) : L 5 [.d (.str s_)] = some (.i r, [.d (.str s_)]) := by
 obtain ⟨p, ⟨hne, hf⟩, hr⟩ := disp_Find_ok s_ r h
 obtain ⟨k, hk⟩ := run_of (F := F5) (args := [.d (.str s_)]) (ap := [.d (.str s_)]) (bx0 := updW (fun _ => none) []) rfl rfl (by kernel_rfl) ⟨p, ⟨hne, hf⟩, hr⟩
 exact lim_run (k := k) rfl hk
def disp_nth_Q (all_ : (List UInt8)) (n_ : Int) (r : (List UInt8)) (p : Out × St) : Prop := (∀ i, p.1 ≠ .exit i) ∧ finF F20 [.d (.str all_), .i n_] p.2 = some (.d (.str r), [.d (.str all_), .i n_])
theorem disp_nth_ok (all_ : (List UInt8)) (n_ : Int) (r : (List UInt8)) (h : disp_nth all_ n_ = some r) : Runs L F20.body ⟨tmOf [.d (.str all_), .i n_] 0, updW (fun _ => none) []⟩ (disp_nth_Q all_ n_ r) := by
 unfold disp_nth at h
 refine Sq <| Ro <| Rc 1 [⟨.d (.str ([] : List UInt8)), []⟩] <| Rk <| Sq <| Ro <| Rc 1 [⟨.d (.str all_), []⟩] ?_
 obtain ⟨r_1, hr_1, h⟩ := bind_s h
 have hc_1 := strings_Fields_L all_ r_1 hr_1
 refine Rt (some 7) (.callf 19) [] none [.d (.str all_)] (.ref [7] 0 0 (List.map D.str r_1).length 1) [([7], some (.arr (List.map D.str r_1) 0 false))] (cut_call (call_of (ws := []) (us := []) (by kernel_rfl) (gives_cons (ws := []) (give_same (by kernel_rfl)) gives_nil) hc_1 (by kernel_rfl) (by kernel_rfl))) <| Rc 1 [⟨.ref [7] 0 0 (List.map D.str r_1).length 1, []⟩] <| Rk <| Sq <| Sq <| Ro <| Rc 3 [vi n_, vb (decide (n_ < 0)), vb (decide (n_ < 0))] ?_
 cases hb_1 : ((decide (n_ < 0)) : Bool) with
 | true =>
  replace h := ite_t hb_1 h
  refine Rc 5 [vn, vn, vn, vn, vb true] <| Rk <| Ct <| Sq <| Ro <| Rc 1 [⟨.d (.str ([63] : List UInt8)), []⟩] <| Rk <| Runs.ret <| kS_ret ?_
  cases h
  exact Fq
 | false =>
  replace h := ite_f hb_1 h
  refine Rc 2 [vi n_, ⟨.ref [7] 0 0 (List.map D.str r_1).length 1, []⟩] <| Rt (some 13) .lenL [] none [.ref [7] 0 0 (List.map D.str r_1).length 1] (.i (r_1.length : Int)) [] (cut_lenR (e := D.str) r_1 rfl) <| Rc 2 [vb (decide (n_ ≥ (r_1.length : Int))), vb (decide (n_ ≥ (r_1.length : Int)))] <| Rk ?_
  cases hb_2 : ((decide (n_ ≥ (r_1.length : Int))) : Bool) with
  | true =>
   replace h := ite_t hb_2 h
   refine Ct <| Sq <| Ro <| Rc 1 [⟨.d (.str ([63] : List UInt8)), []⟩] <| Rk <| Runs.ret <| kS_ret ?_
   cases h
   exact Fq
  | false =>
   replace h := ite_f hb_2 h
   refine Cf <| Runs.skip <| kS_nrm <| Sq <| Ro <| Rc 2 [⟨.ref [7] 0 0 (List.map D.str r_1).length 1, []⟩, vi n_] ?_
   obtain ⟨z_1, hz_1, h⟩ := bind_s h
   refine Rt (some 18) (.iaddrS 1) [] none [.ref [7] 0 0 (List.map D.str r_1).length 1, .i n_] (.eref [7] 0 (0 + (n_).toNat) 0) [] (cut_atR (e := D.str) (l := r_1) hz_1 rfl) <| Rt (some 19) (.load none) [] none [.eref [7] 0 (0 + (n_).toNat) 0] (.d (.str z_1)) [] (cut_loadR (e := D.str) (l := r_1) (fz := false) (y := z_1) (by kernel_rfl) hz_1 (by kernel_rfl) (by kernel_rfl)) <| Rc 1 [⟨.d (.str z_1), []⟩] <| Rk <| Runs.ret ?_
   cases h
   exact Fq
theorem disp_nth_L (all_ : (List UInt8)) (n_ : Int) (r : (List UInt8)) (h : disp_nth all_ n_ = some r) : L 20 [.d (.str all_), .i n_] = some (.d (.str r), [.d (.str all_), .i n_]) := by
 obtain ⟨p, ⟨hne, hf⟩, hr⟩ := disp_nth_ok all_ n_ r h
 obtain ⟨k, hk⟩ := run_of (F := F20) (args := [.d (.str all_), .i n_]) (ap := [.d (.str all_), .i n_]) (bx0 := updW (fun _ => none) []) rfl rfl (by kernel_rfl) ⟨p, ⟨hne, hf⟩, hr⟩
 exact lim_run (k := k) rfl hk
def disp_Name_Q (n_ : Int) (r : (List UInt8)) (p : Out × St) : Prop := (∀ i, p.1 ≠ .exit i) ∧ finF F7 [.i n_] p.2 = some (.d (.str r), [.i n_])
theorem disp_Name_ok (n_ : Int) (r : (List UInt8)) (h : disp_Name n_ = some r) : Runs L F7.body ⟨tmOf [.i n_] 0, updW (fun _ => none) []⟩ (disp_Name_Q n_ r) := by
 unfold disp_Name at h
 refine Sq <| Ro <| Rc 1 [⟨.d (.str ([] : List UInt8)), []⟩] <| Rk <| Sq <| Ro <| Rc 2 [vi n_, vi (IntKind.wrap .i64 (n_ - 1))] ?_
 obtain ⟨r_1, hr_1, h⟩ := bind_s h
 have hc_1 := disp_nth_L ([65, 68, 68, 32, 79, 82, 32, 65, 68, 67, 32, 83, 66, 66, 32, 65, 78, 68, 32, 83, 85, 66, 32, 88, 79, 82, 32, 67, 77, 80, 32, 80, 85, 83, 72, 32, 80, 79, 80, 32, 68, 65, 65, 32, 68, 65, 83, 32, 65, 65, 65, 32, 65, 65, 83, 32, 73, 78, 67, 32, 68, 69, 67, 32, 74, 79, 32, 74, 78, 79, 32, 74, 66, 32, 74, 78, 66, 32, 74, 90, 32, 74, 78, 90, 32, 74, 66, 69, 32, 74, 65, 32, 74, 83, 32, 74, 78, 83, 32, 74, 80, 32, 74, 78, 80, 32, 74, 76, 32, 74, 71, 69, 32, 74, 76, 69, 32, 74, 71, 32, 84, 69, 83, 84, 32, 88, 67, 72, 71, 32, 77, 79, 86, 32, 76, 69, 65, 32, 67, 66, 87, 32, 67, 87, 68, 32, 67, 65, 76, 76, 32, 67, 65, 76, 76, 70, 32, 87, 65, 73, 84, 32, 80, 85, 83, 72, 70, 32, 80, 79, 80, 70, 32, 83, 65, 72, 70, 32, 76, 65, 72, 70, 32, 77, 79, 86, 83, 66, 32, 77, 79, 86, 83, 87, 32, 67, 77, 80, 83, 66, 32, 67, 77, 80, 83, 87, 32, 83, 84, 79, 83, 66, 32, 83, 84, 79, 83, 87, 32, 76, 79, 68, 83, 66, 32, 76, 79, 68, 83, 87, 32, 83, 67, 65, 83, 66, 32, 83, 67, 65, 83, 87, 32, 82, 69, 84, 32, 82, 69, 84, 70, 32, 76, 69, 83, 32, 76, 68, 83, 32, 73, 78, 84, 32, 73, 78, 84, 79, 32, 73, 82, 69, 84, 32, 82, 79, 76, 32, 82, 79, 82, 32, 82, 67, 76, 32, 82, 67, 82, 32, 83, 72, 76, 32, 83, 72, 82, 32, 83, 65, 82, 32, 65, 65, 77, 32, 65, 65, 68, 32, 88, 76, 65, 84, 32, 69, 83, 67, 32, 76, 79, 79, 80, 78, 90, 32, 76, 79, 79, 80, 90, 32, 76, 79, 79, 80, 32, 74, 67, 88, 90, 32, 73, 78, 32, 79, 85, 84, 32, 74, 77, 80, 32, 74, 77, 80, 70, 32, 72, 76, 84, 32, 67, 77, 67, 32, 78, 79, 84, 32, 78, 69, 71, 32, 77, 85, 76, 32, 73, 77, 85, 76, 32, 68, 73, 86, 32, 73, 68, 73, 86, 32, 67, 76, 67, 32, 83, 84, 67, 32, 67, 76, 73, 32, 83, 84, 73, 32, 67, 76, 68, 32, 83, 84, 68] : List UInt8) (IntKind.wrap .i64 (n_ - 1)) r_1 hr_1
 refine Rt (some 5) (.callf 20) [] none [.d (.str ([65, 68, 68, 32, 79, 82, 32, 65, 68, 67, 32, 83, 66, 66, 32, 65, 78, 68, 32, 83, 85, 66, 32, 88, 79, 82, 32, 67, 77, 80, 32, 80, 85, 83, 72, 32, 80, 79, 80, 32, 68, 65, 65, 32, 68, 65, 83, 32, 65, 65, 65, 32, 65, 65, 83, 32, 73, 78, 67, 32, 68, 69, 67, 32, 74, 79, 32, 74, 78, 79, 32, 74, 66, 32, 74, 78, 66, 32, 74, 90, 32, 74, 78, 90, 32, 74, 66, 69, 32, 74, 65, 32, 74, 83, 32, 74, 78, 83, 32, 74, 80, 32, 74, 78, 80, 32, 74, 76, 32, 74, 71, 69, 32, 74, 76, 69, 32, 74, 71, 32, 84, 69, 83, 84, 32, 88, 67, 72, 71, 32, 77, 79, 86, 32, 76, 69, 65, 32, 67, 66, 87, 32, 67, 87, 68, 32, 67, 65, 76, 76, 32, 67, 65, 76, 76, 70, 32, 87, 65, 73, 84, 32, 80, 85, 83, 72, 70, 32, 80, 79, 80, 70, 32, 83, 65, 72, 70, 32, 76, 65, 72, 70, 32, 77, 79, 86, 83, 66, 32, 77, 79, 86, 83, 87, 32, 67, 77, 80, 83, 66, 32, 67, 77, 80, 83, 87, 32, 83, 84, 79, 83, 66, 32, 83, 84, 79, 83, 87, 32, 76, 79, 68, 83, 66, 32, 76, 79, 68, 83, 87, 32, 83, 67, 65, 83, 66, 32, 83, 67, 65, 83, 87, 32, 82, 69, 84, 32, 82, 69, 84, 70, 32, 76, 69, 83, 32, 76, 68, 83, 32, 73, 78, 84, 32, 73, 78, 84, 79, 32, 73, 82, 69, 84, 32, 82, 79, 76, 32, 82, 79, 82, 32, 82, 67, 76, 32, 82, 67, 82, 32, 83, 72, 76, 32, 83, 72, 82, 32, 83, 65, 82, 32, 65, 65, 77, 32, 65, 65, 68, 32, 88, 76, 65, 84, 32, 69, 83, 67, 32, 76, 79, 79, 80, 78, 90, 32, 76, 79, 79, 80, 90, 32, 76, 79, 79, 80, 32, 74, 67, 88, 90, 32, 73, 78, 32, 79, 85, 84, 32, 74, 77, 80, 32, 74, 77, 80, 70, 32, 72, 76, 84, 32, 67, 77, 67, 32, 78, 79, 84, 32, 78, 69, 71, 32, 77, 85, 76, 32, 73, 77, 85, 76, 32, 68, 73, 86, 32, 73, 68, 73, 86, 32, 67, 76, 67, 32, 83, 84, 67, 32, 67, 76, 73, 32, 83, 84, 73, 32, 67, 76, 68, 32, 83, 84, 68] : List UInt8)), .i (IntKind.wrap .i64 (n_ - 1))] (.d (.str r_1)) [] (cc hc_1) ?_
 refine Rc 1 [⟨.d (.str r_1), []⟩] <| Rk <| Runs.ret ?_
 cases h
 exact Fq
theorem disp_Name_L (n_ : Int) (r : (List UInt8)) (h : disp_Name n_ = some r) : L 7 [.i n_] = some (.d (.str r), [.i n_]) := by
 obtain ⟨p, ⟨hne, hf⟩, hr⟩ := disp_Name_ok n_ r h
 obtain ⟨k, hk⟩ := run_of (F := F7) (args := [.i n_]) (ap := [.i n_]) (bx0 := updW (fun _ => none) []) rfl rfl (by kernel_rfl) ⟨p, ⟨hne, hf⟩, hr⟩
 exact lim_run (k := k) rfl hk
def hansomlaw17_awake_Q  (r : Bool) (p : Out × St) : Prop := (∀ i, p.1 ≠ .exit i) ∧ finF F6 [] p.2 = some (.b r, [])
theorem hansomlaw17_awake_ok  (r : Bool) (h : hansomlaw17_awake = some r) : Runs L F6.body ⟨tmOf [] 0, updW (fun _ => none) []⟩ (hansomlaw17_awake_Q  r) := by
 unfold hansomlaw17_awake at h
 refine Sq <| Ro <| Rc 1 [vb false] <| Rk <| Sq <| Ro <| Rc 1 [⟨.d (.agg [.bool false, .int .i64 0, .int .i64 0, .int .u8 144, .int .i64 0, .int .i64 0, .int .i64 0, .int .u16 0, .int .u16 0, .int .u16 0]), []⟩] ?_
 obtain ⟨r_1, hr_1, h⟩ := bind_s h
 have hc_1 := disp_Text_L ({ Lock := false, Rep := 0, Seg := 0, Op := 144, Mod := 0, Reg := 0, RM := 0, Disp := 0, Imm := 0, Sel := 0 } : Inst) r_1 hr_1
 refine Rt (some 2) (.callf 17) [] none [.d (.agg [.bool false, .int .i64 0, .int .i64 0, .int .u8 144, .int .i64 0, .int .i64 0, .int .i64 0, .int .u16 0, .int .u16 0, .int .u16 0])] (.d (.str r_1)) [] (cc hc_1) <| Rc 2 [vb (r_1 == ([88, 67, 72, 71, 32, 65, 88, 44, 65, 88] : List UInt8)), vb (r_1 == ([88, 67, 72, 71, 32, 65, 88, 44, 65, 88] : List UInt8))] ?_
 cases hb_1 : ((r_1 == ([88, 67, 72, 71, 32, 65, 88, 44, 65, 88] : List UInt8)) : Bool) with
 | true =>
  replace h := ite_t hb_1 h
  obtain ⟨r_2, hr_2, h⟩ := bind_s h
  have hc_2 := disp_Find_L ([83, 84, 68] : List UInt8) r_2 hr_2
  refine Rt (some 5) (.callf 5) [] none [.d (.str ([83, 84, 68] : List UInt8))] (.i r_2) [] (cc hc_2) <| Rc 3 [vb (r_2 == 95), vb (r_2 == 95), vb (r_2 == 95)] ?_
  cases hb_2 : ((r_2 == 95) : Bool) with
  | true =>
   replace h := ite_t hb_2 h
   obtain ⟨r_3, hr_3, h⟩ := bind_s h
   have hc_3 := disp_Name_L 32 r_3 hr_3
   refine Rt (some 9) (.callf 7) [] none [.i 32] (.d (.str r_3)) [] (cc hc_3) <| Rc 3 [vb (r_3 == ([74, 71] : List UInt8)), vb (r_3 == ([74, 71] : List UInt8)), vb (r_3 == ([74, 71] : List UInt8))] <| Rk <| Runs.ret ?_
   cases h
   exact Fq
  | false =>
   replace h := ite_f hb_2 h
   refine Rc 4 [vn, vn, vb false, vb false] <| Rk <| Runs.ret ?_
   cases h
   exact Fq
 | false =>
  replace h := ite_f hb_1 h
  refine Rc 8 [vn, vn, vb false, vb false, vn, vn, vb false, vb false] <| Rk <| Runs.ret ?_
  cases h
  exact Fq
theorem hansomlaw17_awake_L  (r : Bool) (h : hansomlaw17_awake = some r) : L 6 [] = some (.b r, []) := by
 obtain ⟨p, ⟨hne, hf⟩, hr⟩ := hansomlaw17_awake_ok  r h
 obtain ⟨k, hk⟩ := run_of (F := F6) (args := []) (ap := []) (bx0 := updW (fun _ => none) []) rfl rfl (by kernel_rfl) ⟨p, ⟨hne, hf⟩, hr⟩
 exact lim_run (k := k) rfl hk
def hansomref04_word_h8 (s0 : (List UInt8)) (n1 : Int) (at5 : Int) (k6 : Int) : St := ⟨tab [(0, .d (.str s0)), (1, .i n1), (5, .i at5), (6, .i k6)], tabB []⟩
def hansomref04_word_h19 (s0 : (List UInt8)) (n1 : Int) (at5 : Int) (k6 : Int) : St := ⟨tab [(0, .d (.str s0)), (1, .i n1), (5, .i at5), (6, .i k6)], tabB []⟩
def hansomref04_word_h28 (s0 : (List UInt8)) (n1 : Int) (at5 : Int) (k6 : Int) : St := ⟨tab [(0, .d (.str s0)), (1, .i n1), (5, .i at5), (6, .i k6)], tabB []⟩
def hansomref04_word_h30 (s0 : (List UInt8)) (at5 : Int) : St := ⟨tab [(0, .d (.str s0)), (5, .i at5)], tabB []⟩
def hansomref04_word_h34 (s0 : (List UInt8)) (at5 : Int) (end7 : Int) : St := ⟨tab [(0, .d (.str s0)), (5, .i at5), (7, .i end7)], tabB []⟩
def hansomref04_word_h43 (s0 : (List UInt8)) (at5 : Int) (end7 : Int) : St := ⟨tab [(0, .d (.str s0)), (5, .i at5), (7, .i end7)], tabB []⟩
def hansomref04_word_Q (s_ : (List UInt8)) (n_ : Int) (r : (List UInt8)) (p : Out × St) : Prop := (∀ i, p.1 ≠ .exit i) ∧ finF F21 [.d (.str s_), .i n_] p.2 = some (.d (.str r), [.d (.str s_), .i n_])
def hansomref04_word_P19 (s_ : (List UInt8)) (n_ : Int) (s0 : (List UInt8)) (n1 : Int) (k6 : Int) (e : Int) (p : Out × St) : Prop := p.1 = .exit 2 ∧ ∃ g : Unit, Canon [] [0, 1, 5, 6] [] p.2 (hansomref04_word_h28 s0 n1 e k6)
def hansomref04_word_P8 (s_ : (List UInt8)) (n_ : Int) (s0 : (List UInt8)) (n1 : Int) (e : Int) (p : Out × St) : Prop := p.1 = .exit 0 ∧ ∃ g : Unit, Canon [] [0, 5] [] p.2 (hansomref04_word_h30 s0 e)
def hansomref04_word_P34 (s_ : (List UInt8)) (n_ : Int) (s0 : (List UInt8)) (at5 : Int) (e : Int) (p : Out × St) : Prop := p.1 = .exit 4 ∧ ∃ g : Unit, Canon [] [0, 5, 7] [] p.2 (hansomref04_word_h43 s0 at5 e)
theorem hansomref04_word_l19_ok (s_ : (List UInt8)) (n_ : Int) (s0 : (List UInt8)) (n1 : Int) (at5 : Int) (k6 : Int) (r : (Lp Int Int)) (h : hansomref04_word_l19 s0 n1 at5 k6 = some r) : Runs L F21l19 (hansomref04_word_h19 s0 n1 at5 k6) (LQ [] [0, 1, 5, 6] [] (fun (x : Int) (g : Unit) => hansomref04_word_h19 s0 n1 x k6) (hansomref04_word_P19 s_ n_ s0 n1 k6) r) := by
 unfold hansomref04_word_l19 at h
 refine Sq <| Sq <| Ro <| Rc 2 [vi at5, ⟨.d (.str s0), []⟩] <| Rt (some 21) .lenS [] none [.d (.str s0)] (.i (s0.length : Int)) [] (cut_lenS _) <| Rc 2 [vb (decide (at5 < (s0.length : Int))), vb (decide (at5 < (s0.length : Int)))] ?_
 cases hb_3 : ((decide (at5 < (s0.length : Int))) : Bool) with
 | true =>
  replace h := ite_t hb_3 h
  refine Rc 2 [⟨.d (.str s0), []⟩, vi at5] ?_
  obtain ⟨z_1, hz_1, h⟩ := bind_s h
  refine Rt (some 26) .indexS [] none [.d (.str s0), .i at5] (.y (z_1.toNat : Int)) [] (cut_ixS hz_1) <| Rc 2 [vb ((z_1.toNat : Int) != 32), vb ((z_1.toNat : Int) != 32)] <| Rk ?_
  cases hb_4 : (((z_1.toNat : Int) != 32) : Bool) with
  | true =>
   replace h := ite_t hb_4 h
   refine Ct <| Runs.skip <| kS_nrm <| Runs.block <| Ro <| Rc 3 [vi at5, vi (IntKind.wrap .i64 (at5 + 1)), vi (IntKind.wrap .i64 (at5 + 1))] <| Rd <| kB_nrm ?_
   obtain rfl := sj h
   exact ⟨rfl, (), Cz⟩
  | false =>
   replace h := ite_f hb_4 h
   refine Cf <| Runs.exit <| kS_exit ?_
   obtain rfl := sj h
   exact ⟨nofun, rfl, (), Cz⟩
 | false =>
  replace h := ite_f hb_3 h
  refine Rc 5 [vn, vn, vn, vn, vb false] <| Rk <| Cf <| Runs.exit <| kS_exit ?_
  obtain rfl := sj h
  exact ⟨nofun, rfl, (), Cz⟩
theorem hansomref04_word_l8_ok (s_ : (List UInt8)) (n_ : Int) (s0 : (List UInt8)) (n1 : Int) (at5 : Int) (k6 : Int) (r : (Lp (Int × Int) Int)) (h : hansomref04_word_l8 s0 n1 at5 k6 = some r) : Runs L F21l8 (hansomref04_word_h8 s0 n1 at5 k6) (LQ [] [0, 1, 5, 6] [] (fun (x : (Int × Int)) (g : Unit) => hansomref04_word_h8 s0 n1 x.1 x.2) (hansomref04_word_P8 s_ n_ s0 n1) r) := by
 unfold hansomref04_word_l8 at h
 refine Sq <| Sq <| Ro <| Rc 4 [vi k6, vi n1, vb (decide (k6 < n1)), vb (decide (k6 < n1))] ?_
 cases hb_1 : ((decide (k6 < n1)) : Bool) with
 | true =>
  replace h := ite_t hb_1 h
  refine Rc 2 [vi at5, ⟨.d (.str s0), []⟩] <| Rt (some 14) .lenS [] none [.d (.str s0)] (.i (s0.length : Int)) [] (cut_lenS _) <| Rc 2 [vb (decide (at5 < (s0.length : Int))), vb (decide (at5 < (s0.length : Int)))] <| Rk ?_
  cases hb_2 : ((decide (at5 < (s0.length : Int))) : Bool) with
  | true =>
   replace h := ite_t hb_2 h
   refine Ct <| Runs.skip <| kS_nrm <| Sq <| Runs.block <| Sq <| Runs.block ?_
   obtain ⟨e_1, he_1, h⟩ := bind_s h
   refine Runs.loop (fun x : Int => hansomref04_word_l19 s0 n1 x k6) (fun (x : Int) (g : Unit) => hansomref04_word_h19 s0 n1 x k6) (hansomref04_word_P19 s_ n_ s0 n1 k6) (fun x g r hr => hansomref04_word_l19_ok s_ n_ s0 n1 x k6  r hr) () he_1 Cz ?_
   rintro ⟨o, s⟩ hp
   obtain ⟨ho, g_1, hk_1⟩ := hp
   have ho' : o = .exit 2 := ho
   subst ho'
   refine kB_hit <| kS_nrm <| Runs.canon _ hk_1 <| Ro <| Rc 3 [vi e_1, vi (IntKind.wrap .i64 (e_1 + 1)), vi (IntKind.wrap .i64 (e_1 + 1))] <| Rd <| kB_nrm <| kS_nrm <| Ro <| Rc 3 [vi k6, vi (IntKind.wrap .i64 (k6 + 1)), vi (IntKind.wrap .i64 (k6 + 1))] <| Rd ?_
   obtain rfl := sj h
   exact ⟨rfl, (), Cz⟩
  | false =>
   replace h := ite_f hb_2 h
   refine Cf <| Runs.exit <| kS_exit ?_
   obtain rfl := sj h
   exact ⟨nofun, rfl, (), Cz⟩
 | false =>
  replace h := ite_f hb_1 h
  refine Rc 5 [vn, vn, vn, vn, vb false] <| Rk <| Cf <| Runs.exit <| kS_exit ?_
  obtain rfl := sj h
  exact ⟨nofun, rfl, (), Cz⟩
theorem hansomref04_word_l34_ok (s_ : (List UInt8)) (n_ : Int) (s0 : (List UInt8)) (at5 : Int) (end7 : Int) (r : (Lp Int Int)) (h : hansomref04_word_l34 s0 at5 end7 = some r) : Runs L F21l34 (hansomref04_word_h34 s0 at5 end7) (LQ [] [0, 5, 7] [] (fun (x : Int) (g : Unit) => hansomref04_word_h34 s0 at5 x) (hansomref04_word_P34 s_ n_ s0 at5) r) := by
 unfold hansomref04_word_l34 at h
 refine Sq <| Sq <| Ro <| Rc 2 [vi end7, ⟨.d (.str s0), []⟩] <| Rt (some 36) .lenS [] none [.d (.str s0)] (.i (s0.length : Int)) [] (cut_lenS _) <| Rc 2 [vb (decide (end7 < (s0.length : Int))), vb (decide (end7 < (s0.length : Int)))] ?_
 cases hb_1 : ((decide (end7 < (s0.length : Int))) : Bool) with
 | true =>
  replace h := ite_t hb_1 h
  refine Rc 2 [⟨.d (.str s0), []⟩, vi end7] ?_
  obtain ⟨z_1, hz_1, h⟩ := bind_s h
  refine Rt (some 41) .indexS [] none [.d (.str s0), .i end7] (.y (z_1.toNat : Int)) [] (cut_ixS hz_1) <| Rc 2 [vb ((z_1.toNat : Int) != 32), vb ((z_1.toNat : Int) != 32)] <| Rk ?_
  cases hb_2 : (((z_1.toNat : Int) != 32) : Bool) with
  | true =>
   replace h := ite_t hb_2 h
   refine Ct <| Runs.skip <| kS_nrm <| Runs.block <| Ro <| Rc 3 [vi end7, vi (IntKind.wrap .i64 (end7 + 1)), vi (IntKind.wrap .i64 (end7 + 1))] <| Rd <| kB_nrm ?_
   obtain rfl := sj h
   exact ⟨rfl, (), Cz⟩
  | false =>
   replace h := ite_f hb_2 h
   refine Cf <| Runs.exit <| kS_exit ?_
   obtain rfl := sj h
   exact ⟨nofun, rfl, (), Cz⟩
 | false =>
  replace h := ite_f hb_1 h
  refine Rc 5 [vn, vn, vn, vn, vb false] <| Rk <| Cf <| Runs.exit <| kS_exit ?_
  obtain rfl := sj h
  exact ⟨nofun, rfl, (), Cz⟩
theorem hansomref04_word_ok (s_ : (List UInt8)) (n_ : Int) (r : (List UInt8)) (h : hansomref04_word s_ n_ = some r) : Runs L F21.body ⟨tmOf [.d (.str s_), .i n_] 0, updW (fun _ => none) []⟩ (hansomref04_word_Q s_ n_ r) := by
 unfold hansomref04_word at h
 refine Sq <| Ro <| Rc 1 [⟨.d (.str ([] : List UInt8)), []⟩] <| Rk <| Sq <| Ro <| Rc 1 [vi 0] <| Rk <| Sq <| Sq <| Ro <| Rc 1 [vi 0] <| Rk <| Runs.block ?_
 obtain ⟨e_1, he_1, h⟩ := bind_s h
 refine Runs.loop (fun x : (Int × Int) => hansomref04_word_l8 s_ n_ x.1 x.2) (fun (x : (Int × Int)) (g : Unit) => hansomref04_word_h8 s_ n_ x.1 x.2) (hansomref04_word_P8 s_ n_ s_ n_) (fun x g r hr => hansomref04_word_l8_ok s_ n_ s_ n_ x.1 x.2  r hr) () he_1 Cz ?_
 rintro ⟨o, s⟩ hp
 obtain ⟨ho, g_1, hk_1⟩ := hp
 have ho' : o = .exit 0 := ho
 subst ho'
 refine kB_hit <| kS_nrm <| Runs.canon _ hk_1 <| Sq <| Ro <| Rc 2 [vi e_1, vi e_1] <| Rk <| Sq <| Runs.block ?_
 obtain ⟨e_2, he_2, h⟩ := bind_s h
 refine Runs.loop (fun x : Int => hansomref04_word_l34 s_ e_1 x) (fun (x : Int) (g : Unit) => hansomref04_word_h34 s_ e_1 x) (hansomref04_word_P34 s_ n_ s_ e_1) (fun x g r hr => hansomref04_word_l34_ok s_ n_ s_ e_1 x  r hr) () he_2 Cz ?_
 rintro ⟨o, s⟩ hp
 obtain ⟨ho, g_2, hk_2⟩ := hp
 have ho' : o = .exit 4 := ho
 subst ho'
 refine kB_hit <| kS_nrm <| Runs.canon _ hk_2 <| Sq <| Sq <| Ro <| Rc 2 [vi e_1, ⟨.d (.str s_), []⟩] <| Rt (some 48) .lenS [] none [.d (.str s_)] (.i (s_.length : Int)) [] (cut_lenS _) <| Rc 1 [vb (decide (e_1 ≥ (s_.length : Int)))] <| Rk ?_
 cases hb_1 : ((decide (e_1 ≥ (s_.length : Int))) : Bool) with
 | true =>
  replace h := ite_t hb_1 h
  refine Ct <| Sq <| Ro <| Rc 1 [⟨.d (.str ([] : List UInt8)), []⟩] <| Rk <| Runs.ret <| kS_ret ?_
  cases h
  exact Fq
 | false =>
  replace h := ite_f hb_1 h
  refine Cf <| Runs.skip <| kS_nrm <| Sq <| Ro <| Rc 3 [⟨.d (.str s_), []⟩, vi e_1, vi e_2] ?_
  obtain ⟨z_1, hz_1, h⟩ := bind_s h
  refine Rt (some 53) (.substr true true) [] none [.d (.str s_), .i e_1, .i e_2] (.d (.str z_1)) [] (cut_strTT hz_1) <| Rc 1 [⟨.d (.str z_1), []⟩] <| Rk <| Runs.ret ?_
  cases h
  exact Fq
theorem hansomref04_word_L (s_ : (List UInt8)) (n_ : Int) (r : (List UInt8)) (h : hansomref04_word s_ n_ = some r) : L 21 [.d (.str s_), .i n_] = some (.d (.str r), [.d (.str s_), .i n_]) := by
 obtain ⟨p, ⟨hne, hf⟩, hr⟩ := hansomref04_word_ok s_ n_ r h
 obtain ⟨k, hk⟩ := run_of (F := F21) (args := [.d (.str s_), .i n_]) (ap := [.d (.str s_), .i n_]) (bx0 := updW (fun _ => none) []) rfl rfl (by kernel_rfl) ⟨p, ⟨hne, hf⟩, hr⟩
 exact lim_run (k := k) rfl hk
def hansomref04_Name_Q (n_ : Int) (r : (List UInt8)) (p : Out × St) : Prop := (∀ i, p.1 ≠ .exit i) ∧ finF F8 [.i n_] p.2 = some (.d (.str r), [.i n_])
theorem hansomref04_Name_ok (n_ : Int) (r : (List UInt8)) (h : hansomref04_Name n_ = some r) : Runs L F8.body ⟨tmOf [.i n_] 0, updW (fun _ => none) []⟩ (hansomref04_Name_Q n_ r) := by
 unfold hansomref04_Name at h
 refine Sq <| Ro <| Rc 1 [⟨.d (.str ([] : List UInt8)), []⟩] <| Rk <| Sq <| Sq <| Ro <| Rc 3 [vi n_, vb (decide (n_ < 1)), vb (decide (n_ < 1))] ?_
 cases hb_1 : ((decide (n_ < 1)) : Bool) with
 | true =>
  replace h := ite_t hb_1 h
  refine Rc 3 [vn, vn, vb true] <| Rk <| Ct <| Sq <| Ro <| Rc 1 [⟨.d (.str ([63] : List UInt8)), []⟩] <| Rk <| Runs.ret <| kS_ret ?_
  cases h
  exact Fq
 | false =>
  replace h := ite_f hb_1 h
  refine Rc 3 [vi n_, vb (decide (n_ > 95)), vb (decide (n_ > 95))] <| Rk ?_
  cases hb_2 : ((decide (n_ > 95)) : Bool) with
  | true =>
   replace h := ite_t hb_2 h
   refine Ct <| Sq <| Ro <| Rc 1 [⟨.d (.str ([63] : List UInt8)), []⟩] <| Rk <| Runs.ret <| kS_ret ?_
   cases h
   exact Fq
  | false =>
   replace h := ite_f hb_2 h
   refine Cf <| Runs.skip <| kS_nrm <| Sq <| Ro <| Rc 2 [vi n_, vi (IntKind.wrap .i64 (n_ - 1))] ?_
   obtain ⟨r_1, hr_1, h⟩ := bind_s h
   have hc_1 := hansomref04_word_L ([65, 68, 68, 32, 79, 82, 32, 65, 68, 67, 32, 83, 66, 66, 32, 65, 78, 68, 32, 83, 85, 66, 32, 88, 79, 82, 32, 67, 77, 80, 32, 80, 85, 83, 72, 32, 80, 79, 80, 32, 68, 65, 65, 32, 68, 65, 83, 32, 65, 65, 65, 32, 65, 65, 83, 32, 73, 78, 67, 32, 68, 69, 67, 32, 74, 79, 32, 74, 78, 79, 32, 74, 66, 32, 74, 78, 66, 32, 74, 90, 32, 74, 78, 90, 32, 74, 66, 69, 32, 74, 65, 32, 74, 83, 32, 74, 78, 83, 32, 74, 80, 32, 74, 78, 80, 32, 74, 76, 32, 74, 71, 69, 32, 74, 76, 69, 32, 74, 71, 32, 84, 69, 83, 84, 32, 88, 67, 72, 71, 32, 77, 79, 86, 32, 76, 69, 65, 32, 67, 66, 87, 32, 67, 87, 68, 32, 67, 65, 76, 76, 32, 67, 65, 76, 76, 70, 32, 87, 65, 73, 84, 32, 80, 85, 83, 72, 70, 32, 80, 79, 80, 70, 32, 83, 65, 72, 70, 32, 76, 65, 72, 70, 32, 77, 79, 86, 83, 66, 32, 77, 79, 86, 83, 87, 32, 67, 77, 80, 83, 66, 32, 67, 77, 80, 83, 87, 32, 83, 84, 79, 83, 66, 32, 83, 84, 79, 83, 87, 32, 76, 79, 68, 83, 66, 32, 76, 79, 68, 83, 87, 32, 83, 67, 65, 83, 66, 32, 83, 67, 65, 83, 87, 32, 82, 69, 84, 32, 82, 69, 84, 70, 32, 76, 69, 83, 32, 76, 68, 83, 32, 73, 78, 84, 32, 73, 78, 84, 79, 32, 73, 82, 69, 84, 32, 82, 79, 76, 32, 82, 79, 82, 32, 82, 67, 76, 32, 82, 67, 82, 32, 83, 72, 76, 32, 83, 72, 82, 32, 83, 65, 82, 32, 65, 65, 77, 32, 65, 65, 68, 32, 88, 76, 65, 84, 32, 69, 83, 67, 32, 76, 79, 79, 80, 78, 90, 32, 76, 79, 79, 80, 90, 32, 76, 79, 79, 80, 32, 74, 67, 88, 90, 32, 73, 78, 32, 79, 85, 84, 32, 74, 77, 80, 32, 74, 77, 80, 70, 32, 72, 76, 84, 32, 67, 77, 67, 32, 78, 79, 84, 32, 78, 69, 71, 32, 77, 85, 76, 32, 73, 77, 85, 76, 32, 68, 73, 86, 32, 73, 68, 73, 86, 32, 67, 76, 67, 32, 83, 84, 67, 32, 67, 76, 73, 32, 83, 84, 73, 32, 67, 76, 68, 32, 83, 84, 68, 32] : List UInt8) (IntKind.wrap .i64 (n_ - 1)) r_1 hr_1
   refine Rt (some 11) (.callf 21) [] none [.d (.str ([65, 68, 68, 32, 79, 82, 32, 65, 68, 67, 32, 83, 66, 66, 32, 65, 78, 68, 32, 83, 85, 66, 32, 88, 79, 82, 32, 67, 77, 80, 32, 80, 85, 83, 72, 32, 80, 79, 80, 32, 68, 65, 65, 32, 68, 65, 83, 32, 65, 65, 65, 32, 65, 65, 83, 32, 73, 78, 67, 32, 68, 69, 67, 32, 74, 79, 32, 74, 78, 79, 32, 74, 66, 32, 74, 78, 66, 32, 74, 90, 32, 74, 78, 90, 32, 74, 66, 69, 32, 74, 65, 32, 74, 83, 32, 74, 78, 83, 32, 74, 80, 32, 74, 78, 80, 32, 74, 76, 32, 74, 71, 69, 32, 74, 76, 69, 32, 74, 71, 32, 84, 69, 83, 84, 32, 88, 67, 72, 71, 32, 77, 79, 86, 32, 76, 69, 65, 32, 67, 66, 87, 32, 67, 87, 68, 32, 67, 65, 76, 76, 32, 67, 65, 76, 76, 70, 32, 87, 65, 73, 84, 32, 80, 85, 83, 72, 70, 32, 80, 79, 80, 70, 32, 83, 65, 72, 70, 32, 76, 65, 72, 70, 32, 77, 79, 86, 83, 66, 32, 77, 79, 86, 83, 87, 32, 67, 77, 80, 83, 66, 32, 67, 77, 80, 83, 87, 32, 83, 84, 79, 83, 66, 32, 83, 84, 79, 83, 87, 32, 76, 79, 68, 83, 66, 32, 76, 79, 68, 83, 87, 32, 83, 67, 65, 83, 66, 32, 83, 67, 65, 83, 87, 32, 82, 69, 84, 32, 82, 69, 84, 70, 32, 76, 69, 83, 32, 76, 68, 83, 32, 73, 78, 84, 32, 73, 78, 84, 79, 32, 73, 82, 69, 84, 32, 82, 79, 76, 32, 82, 79, 82, 32, 82, 67, 76, 32, 82, 67, 82, 32, 83, 72, 76, 32, 83, 72, 82, 32, 83, 65, 82, 32, 65, 65, 77, 32, 65, 65, 68, 32, 88, 76, 65, 84, 32, 69, 83, 67, 32, 76, 79, 79, 80, 78, 90, 32, 76, 79, 79, 80, 90, 32, 76, 79, 79, 80, 32, 74, 67, 88, 90, 32, 73, 78, 32, 79, 85, 84, 32, 74, 77, 80, 32, 74, 77, 80, 70, 32, 72, 76, 84, 32, 67, 77, 67, 32, 78, 79, 84, 32, 78, 69, 71, 32, 77, 85, 76, 32, 73, 77, 85, 76, 32, 68, 73, 86, 32, 73, 68, 73, 86, 32, 67, 76, 67, 32, 83, 84, 67, 32, 67, 76, 73, 32, 83, 84, 73, 32, 67, 76, 68, 32, 83, 84, 68, 32] : List UInt8)), .i (IntKind.wrap .i64 (n_ - 1))] (.d (.str r_1)) [] (cc hc_1) ?_
   refine Rc 1 [⟨.d (.str r_1), []⟩] <| Rk <| Runs.ret ?_
   cases h
   exact Fq
theorem hansomref04_Name_L (n_ : Int) (r : (List UInt8)) (h : hansomref04_Name n_ = some r) : L 8 [.i n_] = some (.d (.str r), [.i n_]) := by
 obtain ⟨p, ⟨hne, hf⟩, hr⟩ := hansomref04_Name_ok n_ r h
 obtain ⟨k, hk⟩ := run_of (F := F8) (args := [.i n_]) (ap := [.i n_]) (bx0 := updW (fun _ => none) []) rfl rfl (by kernel_rfl) ⟨p, ⟨hne, hf⟩, hr⟩
 exact lim_run (k := k) rfl hk
def disp_Reg_Q (n_ : Int) (r : (List UInt8)) (p : Out × St) : Prop := (∀ i, p.1 ≠ .exit i) ∧ finF F9 [.i n_] p.2 = some (.d (.str r), [.i n_])
theorem disp_Reg_ok (n_ : Int) (r : (List UInt8)) (h : disp_Reg n_ = some r) : Runs L F9.body ⟨tmOf [.i n_] 0, updW (fun _ => none) []⟩ (disp_Reg_Q n_ r) := by
 unfold disp_Reg at h
 refine Sq <| Ro <| Rc 1 [⟨.d (.str ([] : List UInt8)), []⟩] <| Rk <| Sq <| Ro <| Rc 1 [vi n_] ?_
 obtain ⟨r_1, hr_1, h⟩ := bind_s h
 have hc_1 := disp_nth_L ([65, 88, 32, 67, 88, 32, 68, 88, 32, 66, 88, 32, 83, 80, 32, 66, 80, 32, 83, 73, 32, 68, 73] : List UInt8) n_ r_1 hr_1
 refine Rt (some 4) (.callf 20) [] none [.d (.str ([65, 88, 32, 67, 88, 32, 68, 88, 32, 66, 88, 32, 83, 80, 32, 66, 80, 32, 83, 73, 32, 68, 73] : List UInt8)), .i n_] (.d (.str r_1)) [] (cc hc_1) <| Rc 1 [⟨.d (.str r_1), []⟩] <| Rk <| Runs.ret ?_
 cases h
 exact Fq
theorem disp_Reg_L (n_ : Int) (r : (List UInt8)) (h : disp_Reg n_ = some r) : L 9 [.i n_] = some (.d (.str r), [.i n_]) := by
 obtain ⟨p, ⟨hne, hf⟩, hr⟩ := disp_Reg_ok n_ r h
 obtain ⟨k, hk⟩ := run_of (F := F9) (args := [.i n_]) (ap := [.i n_]) (bx0 := updW (fun _ => none) []) rfl rfl (by kernel_rfl) ⟨p, ⟨hne, hf⟩, hr⟩
 exact lim_run (k := k) rfl hk
def hansomref17_of_Q (l_ : (List (List UInt8))) (n_ : Int) (r : (List UInt8)) (p : Out × St) : Prop := (∀ i, p.1 ≠ .exit i) ∧ finF F22 [.d (.sl (List.map D.str l_)), .i n_] p.2 = some (.d (.str r), [.d (.sl (List.map D.str l_)), .i n_])
theorem hansomref17_of_ok (l_ : (List (List UInt8))) (n_ : Int) (r : (List UInt8)) (h : hansomref17_of l_ n_ = some r) : Runs L F22.body ⟨tmOf [.d (.sl (List.map D.str l_)), .i n_] 0, updW (fun _ => none) []⟩ (hansomref17_of_Q l_ n_ r) := by
 unfold hansomref17_of at h
 refine Sq <| Ro <| Rc 1 [⟨.d (.str ([] : List UInt8)), []⟩] <| Rk <| Sq <| Sq <| Ro <| Rc 3 [vi n_, vb (decide (n_ < 0)), vb (decide (n_ < 0))] ?_
 cases hb_1 : ((decide (n_ < 0)) : Bool) with
 | true =>
  replace h := ite_t hb_1 h
  refine Rc 5 [vn, vn, vn, vn, vb true] <| Rk <| Ct <| Sq <| Ro <| Rc 1 [⟨.d (.str ([63] : List UInt8)), []⟩] <| Rk <| Runs.ret <| kS_ret ?_
  cases h
  exact Fq
 | false =>
  replace h := ite_f hb_1 h
  refine Rc 2 [vi n_, ⟨.d (.sl (List.map D.str l_)), []⟩] <| Rt (some 10) .lenL [] none [.d (.sl (List.map D.str l_))] (.i (l_.length : Int)) [] (cut_len _) <| Rc 2 [vb (decide (n_ ≥ (l_.length : Int))), vb (decide (n_ ≥ (l_.length : Int)))] <| Rk ?_
  cases hb_2 : ((decide (n_ ≥ (l_.length : Int))) : Bool) with
  | true =>
   replace h := ite_t hb_2 h
   refine Ct <| Sq <| Ro <| Rc 1 [⟨.d (.str ([63] : List UInt8)), []⟩] <| Rk <| Runs.ret <| kS_ret ?_
   cases h
   exact Fq
  | false =>
   replace h := ite_f hb_2 h
   refine Cf <| Runs.skip <| kS_nrm <| Sq <| Ro <| Rc 2 [⟨.d (.sl (List.map D.str l_)), []⟩, vi n_] ?_
   obtain ⟨z_1, hz_1, h⟩ := bind_s h
   refine Rt (some 15) (.iaddrS 1) [] none [.d (.sl (List.map D.str l_)), .i n_] (.elt (.str z_1) 0) [] (cut_at hz_1 (fun _ => rfl)) <| Rc 2 [⟨.d (.str z_1), []⟩, ⟨.d (.str z_1), []⟩] <| Rk <| Runs.ret ?_
   cases h
   exact Fq
theorem hansomref17_of_L (l_ : (List (List UInt8))) (n_ : Int) (r : (List UInt8)) (h : hansomref17_of l_ n_ = some r) : L 22 [.d (.sl (List.map D.str l_)), .i n_] = some (.d (.str r), [.d (.sl (List.map D.str l_)), .i n_]) := by
 obtain ⟨p, ⟨hne, hf⟩, hr⟩ := hansomref17_of_ok l_ n_ r h
 obtain ⟨k, hk⟩ := run_of (F := F22) (args := [.d (.sl (List.map D.str l_)), .i n_]) (ap := [.d (.sl (List.map D.str l_)), .i n_]) (bx0 := updW (fun _ => none) []) rfl rfl (by kernel_rfl) ⟨p, ⟨hne, hf⟩, hr⟩
 exact lim_run (k := k) rfl hk
def hansomref17_Reg_Q (n_ : Int) (r : (List UInt8)) (p : Out × St) : Prop := (∀ i, p.1 ≠ .exit i) ∧ finF F10 [.i n_] p.2 = some (.d (.str r), [.i n_])
theorem hansomref17_Reg_ok (n_ : Int) (r : (List UInt8)) (h : hansomref17_Reg n_ = some r) : Runs L F10.body ⟨tmOf [.i n_] 0, updW (fun _ => none) []⟩ (hansomref17_Reg_Q n_ r) := by
 unfold hansomref17_Reg at h
 refine Sq <| Ro <| Rc 1 [⟨.d (.str ([] : List UInt8)), []⟩] <| Rk <| Sq <| Ro <| Rc 2 [⟨.ref [3] 0 0 (List.map D.str ([([65, 88] : List UInt8), ([67, 88] : List UInt8), ([68, 88] : List UInt8), ([66, 88] : List UInt8), ([83, 80] : List UInt8), ([66, 80] : List UInt8), ([83, 73] : List UInt8), ([68, 73] : List UInt8)] : List (List UInt8))).length 1, [([3], some (.arr (List.map D.str ([([65, 88] : List UInt8), ([67, 88] : List UInt8), ([68, 88] : List UInt8), ([66, 88] : List UInt8), ([83, 80] : List UInt8), ([66, 80] : List UInt8), ([83, 73] : List UInt8), ([68, 73] : List UInt8)] : List (List UInt8))) 0 false))]⟩, vi n_] ?_
 obtain ⟨r_1, hr_1, h⟩ := bind_s h
 have hc_1 := hansomref17_of_L ([([65, 88] : List UInt8), ([67, 88] : List UInt8), ([68, 88] : List UInt8), ([66, 88] : List UInt8), ([83, 80] : List UInt8), ([66, 80] : List UInt8), ([83, 73] : List UInt8), ([68, 73] : List UInt8)] : List (List UInt8)) n_ r_1 hr_1
 refine Rt (some 5) (.callf 22) [] none [.ref [3] 0 0 (List.map D.str ([([65, 88] : List UInt8), ([67, 88] : List UInt8), ([68, 88] : List UInt8), ([66, 88] : List UInt8), ([83, 80] : List UInt8), ([66, 80] : List UInt8), ([83, 73] : List UInt8), ([68, 73] : List UInt8)] : List (List UInt8))).length 1, .i n_] (.d (.str r_1)) [([3], some (.arr (List.map D.str ([([65, 88] : List UInt8), ([67, 88] : List UInt8), ([68, 88] : List UInt8), ([66, 88] : List UInt8), ([83, 80] : List UInt8), ([66, 80] : List UInt8), ([83, 73] : List UInt8), ([68, 73] : List UInt8)] : List (List UInt8))) 0 true))] (cut_call (call_of (ws := [([3], some (.arr (List.map D.str ([([65, 88] : List UInt8), ([67, 88] : List UInt8), ([68, 88] : List UInt8), ([66, 88] : List UInt8), ([83, 80] : List UInt8), ([66, 80] : List UInt8), ([83, 73] : List UInt8), ([68, 73] : List UInt8)] : List (List UInt8))) 0 true))]) (us := [([3], some (.arr (List.map D.str ([([65, 88] : List UInt8), ([67, 88] : List UInt8), ([68, 88] : List UInt8), ([66, 88] : List UInt8), ([83, 80] : List UInt8), ([66, 80] : List UInt8), ([83, 73] : List UInt8), ([68, 73] : List UInt8)] : List (List UInt8))) 0 true))]) (by kernel_rfl) (gives_cons (ws := [([3], some (.arr (List.map D.str ([([65, 88] : List UInt8), ([67, 88] : List UInt8), ([68, 88] : List UInt8), ([66, 88] : List UInt8), ([83, 80] : List UInt8), ([66, 80] : List UInt8), ([83, 73] : List UInt8), ([68, 73] : List UInt8)] : List (List UInt8))) 0 true))]) (give_ref (e := D.str) (l := ([([65, 88] : List UInt8), ([67, 88] : List UInt8), ([68, 88] : List UInt8), ([66, 88] : List UInt8), ([83, 80] : List UInt8), ([66, 80] : List UInt8), ([83, 73] : List UInt8), ([68, 73] : List UInt8)] : List (List UInt8))) (fz := false) (by kernel_rfl) (by kernel_rfl) rfl) (gives_cons (ws := []) (give_same (by kernel_rfl)) gives_nil)) hc_1 (by kernel_rfl) (by kernel_rfl))) ?_
 refine Rc 1 [⟨.d (.str r_1), []⟩] <| Rk <| Runs.ret ?_
 cases h
 exact Fq
theorem hansomref17_Reg_L (n_ : Int) (r : (List UInt8)) (h : hansomref17_Reg n_ = some r) : L 10 [.i n_] = some (.d (.str r), [.i n_]) := by
 obtain ⟨p, ⟨hne, hf⟩, hr⟩ := hansomref17_Reg_ok n_ r h
 obtain ⟨k, hk⟩ := run_of (F := F10) (args := [.i n_]) (ap := [.i n_]) (bx0 := updW (fun _ => none) []) rfl rfl (by kernel_rfl) ⟨p, ⟨hne, hf⟩, hr⟩
 exact lim_run (k := k) rfl hk
def disp_Byte_Q (n_ : Int) (r : (List UInt8)) (p : Out × St) : Prop := (∀ i, p.1 ≠ .exit i) ∧ finF F11 [.i n_] p.2 = some (.d (.str r), [.i n_])
theorem disp_Byte_ok (n_ : Int) (r : (List UInt8)) (h : disp_Byte n_ = some r) : Runs L F11.body ⟨tmOf [.i n_] 0, updW (fun _ => none) []⟩ (disp_Byte_Q n_ r) := by
 unfold disp_Byte at h
 refine Sq <| Ro <| Rc 1 [⟨.d (.str ([] : List UInt8)), []⟩] <| Rk <| Sq <| Ro <| Rc 1 [vi n_] ?_
 obtain ⟨r_1, hr_1, h⟩ := bind_s h
 have hc_1 := disp_nth_L ([65, 76, 32, 67, 76, 32, 68, 76, 32, 66, 76, 32, 65, 72, 32, 67, 72, 32, 68, 72, 32, 66, 72] : List UInt8) n_ r_1 hr_1
 refine Rt (some 4) (.callf 20) [] none [.d (.str ([65, 76, 32, 67, 76, 32, 68, 76, 32, 66, 76, 32, 65, 72, 32, 67, 72, 32, 68, 72, 32, 66, 72] : List UInt8)), .i n_] (.d (.str r_1)) [] (cc hc_1) <| Rc 1 [⟨.d (.str r_1), []⟩] <| Rk <| Runs.ret ?_
 cases h
 exact Fq
theorem disp_Byte_L (n_ : Int) (r : (List UInt8)) (h : disp_Byte n_ = some r) : L 11 [.i n_] = some (.d (.str r), [.i n_]) := by
 obtain ⟨p, ⟨hne, hf⟩, hr⟩ := disp_Byte_ok n_ r h
 obtain ⟨k, hk⟩ := run_of (F := F11) (args := [.i n_]) (ap := [.i n_]) (bx0 := updW (fun _ => none) []) rfl rfl (by kernel_rfl) ⟨p, ⟨hne, hf⟩, hr⟩
 exact lim_run (k := k) rfl hk
def hansomref17_Byte_Q (n_ : Int) (r : (List UInt8)) (p : Out × St) : Prop := (∀ i, p.1 ≠ .exit i) ∧ finF F12 [.i n_] p.2 = some (.d (.str r), [.i n_])
theorem hansomref17_Byte_ok (n_ : Int) (r : (List UInt8)) (h : hansomref17_Byte n_ = some r) : Runs L F12.body ⟨tmOf [.i n_] 0, updW (fun _ => none) []⟩ (hansomref17_Byte_Q n_ r) := by
 unfold hansomref17_Byte at h
 refine Sq <| Ro <| Rc 1 [⟨.d (.str ([] : List UInt8)), []⟩] <| Rk <| Sq <| Ro <| Rc 2 [⟨.ref [3] 0 0 (List.map D.str ([([65, 76] : List UInt8), ([67, 76] : List UInt8), ([68, 76] : List UInt8), ([66, 76] : List UInt8), ([65, 72] : List UInt8), ([67, 72] : List UInt8), ([68, 72] : List UInt8), ([66, 72] : List UInt8)] : List (List UInt8))).length 1, [([3], some (.arr (List.map D.str ([([65, 76] : List UInt8), ([67, 76] : List UInt8), ([68, 76] : List UInt8), ([66, 76] : List UInt8), ([65, 72] : List UInt8), ([67, 72] : List UInt8), ([68, 72] : List UInt8), ([66, 72] : List UInt8)] : List (List UInt8))) 0 false))]⟩, vi n_] ?_
 obtain ⟨r_1, hr_1, h⟩ := bind_s h
 have hc_1 := hansomref17_of_L ([([65, 76] : List UInt8), ([67, 76] : List UInt8), ([68, 76] : List UInt8), ([66, 76] : List UInt8), ([65, 72] : List UInt8), ([67, 72] : List UInt8), ([68, 72] : List UInt8), ([66, 72] : List UInt8)] : List (List UInt8)) n_ r_1 hr_1
 refine Rt (some 5) (.callf 22) [] none [.ref [3] 0 0 (List.map D.str ([([65, 76] : List UInt8), ([67, 76] : List UInt8), ([68, 76] : List UInt8), ([66, 76] : List UInt8), ([65, 72] : List UInt8), ([67, 72] : List UInt8), ([68, 72] : List UInt8), ([66, 72] : List UInt8)] : List (List UInt8))).length 1, .i n_] (.d (.str r_1)) [([3], some (.arr (List.map D.str ([([65, 76] : List UInt8), ([67, 76] : List UInt8), ([68, 76] : List UInt8), ([66, 76] : List UInt8), ([65, 72] : List UInt8), ([67, 72] : List UInt8), ([68, 72] : List UInt8), ([66, 72] : List UInt8)] : List (List UInt8))) 0 true))] (cut_call (call_of (ws := [([3], some (.arr (List.map D.str ([([65, 76] : List UInt8), ([67, 76] : List UInt8), ([68, 76] : List UInt8), ([66, 76] : List UInt8), ([65, 72] : List UInt8), ([67, 72] : List UInt8), ([68, 72] : List UInt8), ([66, 72] : List UInt8)] : List (List UInt8))) 0 true))]) (us := [([3], some (.arr (List.map D.str ([([65, 76] : List UInt8), ([67, 76] : List UInt8), ([68, 76] : List UInt8), ([66, 76] : List UInt8), ([65, 72] : List UInt8), ([67, 72] : List UInt8), ([68, 72] : List UInt8), ([66, 72] : List UInt8)] : List (List UInt8))) 0 true))]) (by kernel_rfl) (gives_cons (ws := [([3], some (.arr (List.map D.str ([([65, 76] : List UInt8), ([67, 76] : List UInt8), ([68, 76] : List UInt8), ([66, 76] : List UInt8), ([65, 72] : List UInt8), ([67, 72] : List UInt8), ([68, 72] : List UInt8), ([66, 72] : List UInt8)] : List (List UInt8))) 0 true))]) (give_ref (e := D.str) (l := ([([65, 76] : List UInt8), ([67, 76] : List UInt8), ([68, 76] : List UInt8), ([66, 76] : List UInt8), ([65, 72] : List UInt8), ([67, 72] : List UInt8), ([68, 72] : List UInt8), ([66, 72] : List UInt8)] : List (List UInt8))) (fz := false) (by kernel_rfl) (by kernel_rfl) rfl) (gives_cons (ws := []) (give_same (by kernel_rfl)) gives_nil)) hc_1 (by kernel_rfl) (by kernel_rfl))) ?_
 refine Rc 1 [⟨.d (.str r_1), []⟩] <| Rk <| Runs.ret ?_
 cases h
 exact Fq
theorem hansomref17_Byte_L (n_ : Int) (r : (List UInt8)) (h : hansomref17_Byte n_ = some r) : L 12 [.i n_] = some (.d (.str r), [.i n_]) := by
 obtain ⟨p, ⟨hne, hf⟩, hr⟩ := hansomref17_Byte_ok n_ r h
 obtain ⟨k, hk⟩ := run_of (F := F12) (args := [.i n_]) (ap := [.i n_]) (bx0 := updW (fun _ => none) []) rfl rfl (by kernel_rfl) ⟨p, ⟨hne, hf⟩, hr⟩
 exact lim_run (k := k) rfl hk
def disp_Seg_Q (n_ : Int) (r : (List UInt8)) (p : Out × St) : Prop := (∀ i, p.1 ≠ .exit i) ∧ finF F13 [.i n_] p.2 = some (.d (.str r), [.i n_])
theorem disp_Seg_ok (n_ : Int) (r : (List UInt8)) (h : disp_Seg n_ = some r) : Runs L F13.body ⟨tmOf [.i n_] 0, updW (fun _ => none) []⟩ (disp_Seg_Q n_ r) := by
 unfold disp_Seg at h
 refine Sq <| Ro <| Rc 1 [⟨.d (.str ([] : List UInt8)), []⟩] <| Rk <| Sq <| Ro <| Rc 1 [vi n_] ?_
 obtain ⟨r_1, hr_1, h⟩ := bind_s h
 have hc_1 := disp_nth_L ([69, 83, 32, 67, 83, 32, 83, 83, 32, 68, 83] : List UInt8) n_ r_1 hr_1
 refine Rt (some 4) (.callf 20) [] none [.d (.str ([69, 83, 32, 67, 83, 32, 83, 83, 32, 68, 83] : List UInt8)), .i n_] (.d (.str r_1)) [] (cc hc_1) <| Rc 1 [⟨.d (.str r_1), []⟩] <| Rk <| Runs.ret ?_
 cases h
 exact Fq
theorem disp_Seg_L (n_ : Int) (r : (List UInt8)) (h : disp_Seg n_ = some r) : L 13 [.i n_] = some (.d (.str r), [.i n_]) := by
 obtain ⟨p, ⟨hne, hf⟩, hr⟩ := disp_Seg_ok n_ r h
 obtain ⟨k, hk⟩ := run_of (F := F13) (args := [.i n_]) (ap := [.i n_]) (bx0 := updW (fun _ => none) []) rfl rfl (by kernel_rfl) ⟨p, ⟨hne, hf⟩, hr⟩
 exact lim_run (k := k) rfl hk
def hansomref17_Seg_Q (n_ : Int) (r : (List UInt8)) (p : Out × St) : Prop := (∀ i, p.1 ≠ .exit i) ∧ finF F14 [.i n_] p.2 = some (.d (.str r), [.i n_])
theorem hansomref17_Seg_ok (n_ : Int) (r : (List UInt8)) (h : hansomref17_Seg n_ = some r) : Runs L F14.body ⟨tmOf [.i n_] 0, updW (fun _ => none) []⟩ (hansomref17_Seg_Q n_ r) := by
 unfold hansomref17_Seg at h
 refine Sq <| Ro <| Rc 1 [⟨.d (.str ([] : List UInt8)), []⟩] <| Rk <| Sq <| Ro <| Rc 2 [⟨.ref [3] 0 0 (List.map D.str ([([69, 83] : List UInt8), ([67, 83] : List UInt8), ([83, 83] : List UInt8), ([68, 83] : List UInt8)] : List (List UInt8))).length 1, [([3], some (.arr (List.map D.str ([([69, 83] : List UInt8), ([67, 83] : List UInt8), ([83, 83] : List UInt8), ([68, 83] : List UInt8)] : List (List UInt8))) 0 false))]⟩, vi n_] ?_
 obtain ⟨r_1, hr_1, h⟩ := bind_s h
 have hc_1 := hansomref17_of_L ([([69, 83] : List UInt8), ([67, 83] : List UInt8), ([83, 83] : List UInt8), ([68, 83] : List UInt8)] : List (List UInt8)) n_ r_1 hr_1
 refine Rt (some 5) (.callf 22) [] none [.ref [3] 0 0 (List.map D.str ([([69, 83] : List UInt8), ([67, 83] : List UInt8), ([83, 83] : List UInt8), ([68, 83] : List UInt8)] : List (List UInt8))).length 1, .i n_] (.d (.str r_1)) [([3], some (.arr (List.map D.str ([([69, 83] : List UInt8), ([67, 83] : List UInt8), ([83, 83] : List UInt8), ([68, 83] : List UInt8)] : List (List UInt8))) 0 true))] (cut_call (call_of (ws := [([3], some (.arr (List.map D.str ([([69, 83] : List UInt8), ([67, 83] : List UInt8), ([83, 83] : List UInt8), ([68, 83] : List UInt8)] : List (List UInt8))) 0 true))]) (us := [([3], some (.arr (List.map D.str ([([69, 83] : List UInt8), ([67, 83] : List UInt8), ([83, 83] : List UInt8), ([68, 83] : List UInt8)] : List (List UInt8))) 0 true))]) (by kernel_rfl) (gives_cons (ws := [([3], some (.arr (List.map D.str ([([69, 83] : List UInt8), ([67, 83] : List UInt8), ([83, 83] : List UInt8), ([68, 83] : List UInt8)] : List (List UInt8))) 0 true))]) (give_ref (e := D.str) (l := ([([69, 83] : List UInt8), ([67, 83] : List UInt8), ([83, 83] : List UInt8), ([68, 83] : List UInt8)] : List (List UInt8))) (fz := false) (by kernel_rfl) (by kernel_rfl) rfl) (gives_cons (ws := []) (give_same (by kernel_rfl)) gives_nil)) hc_1 (by kernel_rfl) (by kernel_rfl))) <| Rc 1 [⟨.d (.str r_1), []⟩] <| Rk <| Runs.ret ?_
 cases h
 exact Fq
theorem hansomref17_Seg_L (n_ : Int) (r : (List UInt8)) (h : hansomref17_Seg n_ = some r) : L 14 [.i n_] = some (.d (.str r), [.i n_]) := by
 obtain ⟨p, ⟨hne, hf⟩, hr⟩ := hansomref17_Seg_ok n_ r h
 obtain ⟨k, hk⟩ := run_of (F := F14) (args := [.i n_]) (ap := [.i n_]) (bx0 := updW (fun _ => none) []) rfl rfl (by kernel_rfl) ⟨p, ⟨hne, hf⟩, hr⟩
 exact lim_run (k := k) rfl hk
def hansomref04_find_h8 (s0 : (List UInt8)) (w1 : (List UInt8)) (n5 : Int) (from6 : Int) (i7 : Int) : St := ⟨tab [(0, .d (.str s0)), (1, .d (.str w1)), (5, .i n5), (6, .i from6), (7, .i i7)], tabB []⟩
def hansomref04_find_h35  : St := ⟨tab [], tabB []⟩
def hansomref04_find_Q (s_ : (List UInt8)) (w_ : (List UInt8)) (r : Int) (p : Out × St) : Prop := (∀ i, p.1 ≠ .exit i) ∧ finF F23 [.d (.str s_), .d (.str w_)] p.2 = some (.i r, [.d (.str s_), .d (.str w_)])
def hansomref04_find_P8 (s_ : (List UInt8)) (w_ : (List UInt8)) (s0 : (List UInt8)) (w1 : (List UInt8)) (e : (Int ⊕ Unit)) (p : Out × St) : Prop := match e with
 | .inl x => p.1 = .ret ∧ finF F23 [.d (.str s_), .d (.str w_)] p.2 = some (.i x, [.d (.str s_), .d (.str w_)])
 | .inr x => p.1 = .exit 0 ∧ ∃ g : Unit, Canon [] [] [] p.2 (hansomref04_find_h35)
theorem hansomref04_find_l8_ok (s_ : (List UInt8)) (w_ : (List UInt8)) (s0 : (List UInt8)) (w1 : (List UInt8)) (n5 : Int) (from6 : Int) (i7 : Int) (r : (Lp (Int × Int × Int) (Int ⊕ Unit))) (h : hansomref04_find_l8 s0 w1 n5 from6 i7 = some r) : Runs L F23l8 (hansomref04_find_h8 s0 w1 n5 from6 i7) (LQ [] [0, 1, 5, 6, 7] [] (fun (x : (Int × Int × Int)) (g : Unit) => hansomref04_find_h8 s0 w1 x.1 x.2.1 x.2.2) (hansomref04_find_P8 s_ w_ s0 w1) r) := by
 unfold hansomref04_find_l8 at h
 refine Sq <| Sq <| Ro <| Rc 2 [vi i7, ⟨.d (.str s0), []⟩] <| Rt (some 10) .lenS [] none [.d (.str s0)] (.i (s0.length : Int)) [] (cut_lenS _) <| Rc 1 [vb (decide (i7 < (s0.length : Int)))] <| Rk ?_
 cases hb_1 : ((decide (i7 < (s0.length : Int))) : Bool) with
 | true =>
  replace h := ite_t hb_1 h
  refine Ct <| Runs.skip <| kS_nrm <| Sq <| Runs.block <| Sq <| Sq <| Ro <| Rc 2 [⟨.d (.str s0), []⟩, vi i7] ?_
  obtain ⟨z_1, hz_1, h⟩ := bind_s h
  refine Rt (some 16) .indexS [] none [.d (.str s0), .i i7] (.y (z_1.toNat : Int)) [] (cut_ixS hz_1) <| Rc 1 [vb ((z_1.toNat : Int) != 32)] <| Rk ?_
  cases hb_2 : (((z_1.toNat : Int) != 32) : Bool) with
  | true =>
   replace h := ite_t hb_2 h
   refine Ct <| Runs.exit <| kS_exit <| kB_hit <| kS_nrm <| Ro <| Rc 3 [vi i7, vi (IntKind.wrap .i64 (i7 + 1)), vi (IntKind.wrap .i64 (i7 + 1))] <| Rd ?_
   obtain rfl := sj h
   exact ⟨rfl, (), Cz⟩
  | false =>
   replace h := ite_f hb_2 h
   refine Cf <| Runs.skip <| kS_nrm <| Sq <| Sq <| Ro <| Rc 3 [⟨.d (.str s0), []⟩, vi from6, vi i7] ?_
   obtain ⟨z_2, hz_2, h⟩ := bind_s h
   refine Rt (some 21) (.substr true true) [] none [.d (.str s0), .i from6, .i i7] (.d (.str z_2)) [] (cut_strTT hz_2) <| Rc 2 [⟨.d (.str w1), []⟩, vb (z_2 == w1)] <| Rk ?_
   cases hb_3 : ((z_2 == w1) : Bool) with
   | true =>
    replace h := ite_t hb_3 h
    refine Ct <| Sq <| Ro <| Rc 2 [vi n5, vi n5] <| Rk <| Runs.ret <| kS_ret <| kB_ret <| kS_ret ?_
    obtain rfl := sj h
    exact ⟨nofun, rfl, (by kernel_rfl)⟩
   | false =>
    replace h := ite_f hb_3 h
    refine Cf <| Runs.skip <| kS_nrm <| Sq <| Ro <| Rc 3 [vi n5, vi (IntKind.wrap .i64 (n5 + 1)), vi (IntKind.wrap .i64 (n5 + 1))] <| Rk <| Ro <| Rc 3 [vi i7, vi (IntKind.wrap .i64 (i7 + 1)), vi (IntKind.wrap .i64 (i7 + 1))] <| Rd <| kB_nrm <| kS_nrm <| Ro <| Rc 3 [vi i7, vi (IntKind.wrap .i64 (i7 + 1)), vi (IntKind.wrap .i64 (i7 + 1))] <| Rd ?_
    obtain rfl := sj h
    exact ⟨rfl, (), Cz⟩
 | false =>
  replace h := ite_f hb_1 h
  refine Cf <| Runs.exit <| kS_exit ?_
  obtain rfl := sj h
  exact ⟨nofun, rfl, (), Cz⟩
theorem hansomref04_find_ok (s_ : (List UInt8)) (w_ : (List UInt8)) (r : Int) (h : hansomref04_find s_ w_ = some r) : Runs L F23.body ⟨tmOf [.d (.str s_), .d (.str w_)] 0, updW (fun _ => none) []⟩ (hansomref04_find_Q s_ w_ r) := by
 unfold hansomref04_find at h
 refine Sq <| Ro <| Rc 1 [vi 0] <| Rk <| Sq <| Ro <| Rc 2 [vi 1, vi 0] <| Rk <| Sq <| Sq <| Ro <| Rc 1 [vi 0] <| Rk <| Runs.block ?_
 obtain ⟨e_1, he_1, h⟩ := bind_s h
 refine Runs.loop (fun x : (Int × Int × Int) => hansomref04_find_l8 s_ w_ x.1 x.2.1 x.2.2) (fun (x : (Int × Int × Int)) (g : Unit) => hansomref04_find_h8 s_ w_ x.1 x.2.1 x.2.2) (hansomref04_find_P8 s_ w_ s_ w_) (fun x g r hr => hansomref04_find_l8_ok s_ w_ s_ w_ x.1 x.2.1 x.2.2  r hr) () he_1 Cz ?_
 rintro ⟨o, s⟩ hp
 cases e_1 with
 | inl e_2 =>
  obtain ⟨ho, hf⟩ := hp
  have ho' : o = .ret := ho
  subst ho'
  refine kB_ret <| kS_ret ?_
  obtain rfl := sj h
  exact ⟨Out.ret_ne, hf⟩
 | inr e_3 =>
  obtain ⟨ho, g_1, hk_1⟩ := hp
  have ho' : o = .exit 0 := ho
  subst ho'
  refine kB_hit <| kS_nrm <| Runs.canon _ hk_1 <| Sq <| Ro <| Rc 1 [vi 0] <| Rk <| Runs.ret ?_
  cases h
  exact Fq
theorem hansomref04_find_L (s_ : (List UInt8)) (w_ : (List UInt8)) (r : Int) (h : hansomref04_find s_ w_ = some r) : L 23 [.d (.str s_), .d (.str w_)] = some (.i r, [.d (.str s_), .d (.str w_)]) := by
 obtain ⟨p, ⟨hne, hf⟩, hr⟩ := hansomref04_find_ok s_ w_ r h
 obtain ⟨k, hk⟩ := run_of (F := F23) (args := [.d (.str s_), .d (.str w_)]) (ap := [.d (.str s_), .d (.str w_)]) (bx0 := updW (fun _ => none) []) rfl rfl (by kernel_rfl) ⟨p, ⟨hne, hf⟩, hr⟩
 exact lim_run (k := k) rfl hk
def hansomref04_Find_Q (s_ : (List UInt8)) (r : Int) (p : Out × St) : Prop := (∀ i, p.1 ≠ .exit i) ∧ finF F15 [.d (.str s_)] p.2 = some (.i r, [.d (.str s_)])
theorem hansomref04_Find_ok (s_ : (List UInt8)) (r : Int) (h : hansomref04_Find s_ = some r) : Runs L F15.body ⟨tmOf [.d (.str s_)] 0, updW (fun _ => none) []⟩ (hansomref04_Find_Q s_ r) := by
 unfold hansomref04_Find at h
 refine Sq <| Ro <| Rc 1 [vi 0] <| Rk <| Sq <| Ro <| Rc 1 [⟨.d (.str s_), []⟩] ?_
 obtain ⟨r_1, hr_1, h⟩ := bind_s h
 have hc_1 := hansomref04_find_L ([65, 68, 68, 32, 79, 82, 32, 65, 68, 67, 32, 83, 66, 66, 32, 65, 78, 68, 32, 83, 85, 66, 32, 88, 79, 82, 32, 67, 77, 80, 32, 80, 85, 83, 72, 32, 80, 79, 80, 32, 68, 65, 65, 32, 68, 65, 83, 32, 65, 65, 65, 32, 65, 65, 83, 32, 73, 78, 67, 32, 68, 69, 67, 32, 74, 79, 32, 74, 78, 79, 32, 74, 66, 32, 74, 78, 66, 32, 74, 90, 32, 74, 78, 90, 32, 74, 66, 69, 32, 74, 65, 32, 74, 83, 32, 74, 78, 83, 32, 74, 80, 32, 74, 78, 80, 32, 74, 76, 32, 74, 71, 69, 32, 74, 76, 69, 32, 74, 71, 32, 84, 69, 83, 84, 32, 88, 67, 72, 71, 32, 77, 79, 86, 32, 76, 69, 65, 32, 67, 66, 87, 32, 67, 87, 68, 32, 67, 65, 76, 76, 32, 67, 65, 76, 76, 70, 32, 87, 65, 73, 84, 32, 80, 85, 83, 72, 70, 32, 80, 79, 80, 70, 32, 83, 65, 72, 70, 32, 76, 65, 72, 70, 32, 77, 79, 86, 83, 66, 32, 77, 79, 86, 83, 87, 32, 67, 77, 80, 83, 66, 32, 67, 77, 80, 83, 87, 32, 83, 84, 79, 83, 66, 32, 83, 84, 79, 83, 87, 32, 76, 79, 68, 83, 66, 32, 76, 79, 68, 83, 87, 32, 83, 67, 65, 83, 66, 32, 83, 67, 65, 83, 87, 32, 82, 69, 84, 32, 82, 69, 84, 70, 32, 76, 69, 83, 32, 76, 68, 83, 32, 73, 78, 84, 32, 73, 78, 84, 79, 32, 73, 82, 69, 84, 32, 82, 79, 76, 32, 82, 79, 82, 32, 82, 67, 76, 32, 82, 67, 82, 32, 83, 72, 76, 32, 83, 72, 82, 32, 83, 65, 82, 32, 65, 65, 77, 32, 65, 65, 68, 32, 88, 76, 65, 84, 32, 69, 83, 67, 32, 76, 79, 79, 80, 78, 90, 32, 76, 79, 79, 80, 90, 32, 76, 79, 79, 80, 32, 74, 67, 88, 90, 32, 73, 78, 32, 79, 85, 84, 32, 74, 77, 80, 32, 74, 77, 80, 70, 32, 72, 76, 84, 32, 67, 77, 67, 32, 78, 79, 84, 32, 78, 69, 71, 32, 77, 85, 76, 32, 73, 77, 85, 76, 32, 68, 73, 86, 32, 73, 68, 73, 86, 32, 67, 76, 67, 32, 83, 84, 67, 32, 67, 76, 73, 32, 83, 84, 73, 32, 67, 76, 68, 32, 83, 84, 68, 32] : List UInt8) s_ r_1 hr_1
 refine Rt (some 4) (.callf 23) [] none [.d (.str ([65, 68, 68, 32, 79, 82, 32, 65, 68, 67, 32, 83, 66, 66, 32, 65, 78, 68, 32, 83, 85, 66, 32, 88, 79, 82, 32, 67, 77, 80, 32, 80, 85, 83, 72, 32, 80, 79, 80, 32, 68, 65, 65, 32, 68, 65, 83, 32, 65, 65, 65, 32, 65, 65, 83, 32, 73, 78, 67, 32, 68, 69, 67, 32, 74, 79, 32, 74, 78, 79, 32, 74, 66, 32, 74, 78, 66, 32, 74, 90, 32, 74, 78, 90, 32, 74, 66, 69, 32, 74, 65, 32, 74, 83, 32, 74, 78, 83, 32, 74, 80, 32, 74, 78, 80, 32, 74, 76, 32, 74, 71, 69, 32, 74, 76, 69, 32, 74, 71, 32, 84, 69, 83, 84, 32, 88, 67, 72, 71, 32, 77, 79, 86, 32, 76, 69, 65, 32, 67, 66, 87, 32, 67, 87, 68, 32, 67, 65, 76, 76, 32, 67, 65, 76, 76, 70, 32, 87, 65, 73, 84, 32, 80, 85, 83, 72, 70, 32, 80, 79, 80, 70, 32, 83, 65, 72, 70, 32, 76, 65, 72, 70, 32, 77, 79, 86, 83, 66, 32, 77, 79, 86, 83, 87, 32, 67, 77, 80, 83, 66, 32, 67, 77, 80, 83, 87, 32, 83, 84, 79, 83, 66, 32, 83, 84, 79, 83, 87, 32, 76, 79, 68, 83, 66, 32, 76, 79, 68, 83, 87, 32, 83, 67, 65, 83, 66, 32, 83, 67, 65, 83, 87, 32, 82, 69, 84, 32, 82, 69, 84, 70, 32, 76, 69, 83, 32, 76, 68, 83, 32, 73, 78, 84, 32, 73, 78, 84, 79, 32, 73, 82, 69, 84, 32, 82, 79, 76, 32, 82, 79, 82, 32, 82, 67, 76, 32, 82, 67, 82, 32, 83, 72, 76, 32, 83, 72, 82, 32, 83, 65, 82, 32, 65, 65, 77, 32, 65, 65, 68, 32, 88, 76, 65, 84, 32, 69, 83, 67, 32, 76, 79, 79, 80, 78, 90, 32, 76, 79, 79, 80, 90, 32, 76, 79, 79, 80, 32, 74, 67, 88, 90, 32, 73, 78, 32, 79, 85, 84, 32, 74, 77, 80, 32, 74, 77, 80, 70, 32, 72, 76, 84, 32, 67, 77, 67, 32, 78, 79, 84, 32, 78, 69, 71, 32, 77, 85, 76, 32, 73, 77, 85, 76, 32, 68, 73, 86, 32, 73, 68, 73, 86, 32, 67, 76, 67, 32, 83, 84, 67, 32, 67, 76, 73, 32, 83, 84, 73, 32, 67, 76, 68, 32, 83, 84, 68, 32] : List UInt8)), .d (.str s_)] (.i r_1) [] (cc hc_1) ?_
 refine Rc 1 [vi r_1] <| Rk <| Runs.ret ?_
 cases h
 exact Fq
theorem hansomref04_Find_L (s_ : (List UInt8)) (r : Int) (h : hansomref04_Find s_ = some r) : L 15 [.d (.str s_)] = some (.i r, [.d (.str s_)]) := by
 obtain ⟨p, ⟨hne, hf⟩, hr⟩ := hansomref04_Find_ok s_ r h
 obtain ⟨k, hk⟩ := run_of (F := F15) (args := [.d (.str s_)]) (ap := [.d (.str s_)]) (bx0 := updW (fun _ => none) []) rfl rfl (by kernel_rfl) ⟨p, ⟨hne, hf⟩, hr⟩
 exact lim_run (k := k) rfl hk
def hansomlaw17_DispNames_Q (n_ : Int) (s_ : (List UInt8)) (r : Bool) (p : Out × St) : Prop := (∀ i, p.1 ≠ .exit i) ∧ finF F3 [.i n_, .d (.str s_)] p.2 = some (.b r, [.i n_, .d (.str s_)])
theorem hansomlaw17_DispNames_ok (n_ : Int) (s_ : (List UInt8)) (r : Bool) (h : hansomlaw17_DispNames n_ s_ = some r) : Runs L F3.body ⟨tmOf [.i n_, .d (.str s_)] 0, updW (fun _ => none) []⟩ (hansomlaw17_DispNames_Q n_ s_ r) := by
 unfold hansomlaw17_DispNames at h
 refine Sq <| Ro <| Rc 1 [vb false] <| Rk <| Sq <| Ro <| Rc 2 [⟨.d (.str s_), []⟩, ⟨.d (.str s_), []⟩] <| Rt (some 9) .lenS [] none [.d (.str s_)] (.i (s_.length : Int)) [] (cut_lenS _) <| Rc 1 [vi (mnI (s_.length : Int) 8)] ?_
 obtain ⟨z_1, hz_1, h⟩ := bind_s h
 refine Rt (some 11) (.substr false true) [] none [.d (.str s_), .i (mnI (s_.length : Int) 8)] (.d (.str z_1)) [] (cut_strFT hz_1) <| Rc 1 [⟨.d (.str z_1), []⟩] <| Rk <| Sq <| Ro <| Rc 1 [⟨.d (.str z_1), []⟩] ?_
 obtain ⟨r_1, hr_1, h⟩ := bind_s h
 have hc_1 := disp_Find_L z_1 r_1 hr_1
 refine Rt (some 13) (.callf 5) [] none [.d (.str z_1)] (.i r_1) [] (cc hc_1) <| Rc 1 [vi r_1] <| Rk <| Sq <| Ro ?_
 obtain ⟨r_2, hr_2, h⟩ := bind_s h
 have hc_2 := hansomlaw17_awake_L r_2 hr_2
 refine Rt (some 14) (.callf 6) [] none [] (.b r_2) [] (cc hc_2) <| Rc 1 [vb r_2] ?_
 cases hb_1 : (r_2 : Bool) with
 | true =>
  replace h := ite_t hb_1 h
  refine Rc 1 [vi n_] ?_
  obtain ⟨r_3, hr_3, h⟩ := bind_s h
  have hc_3 := disp_Name_L n_ r_3 hr_3
  refine Rt (some 17) (.callf 7) [] none [.i n_] (.d (.str r_3)) [] (cc hc_3) <| Rc 1 [vi n_] ?_
  obtain ⟨r_4, hr_4, h⟩ := bind_s h
  have hc_4 := hansomref04_Name_L n_ r_4 hr_4
  refine Rt (some 19) (.callf 8) [] none [.i n_] (.d (.str r_4)) [] (cc hc_4) <| Rc 3 [vb (r_3 == r_4), vb (r_3 == r_4), vb (r_3 == r_4)] ?_
  cases hb_2 : ((r_3 == r_4) : Bool) with
  | true =>
   replace h := ite_t hb_2 h
   refine Rc 1 [vi n_] ?_
   obtain ⟨r_5, hr_5, h⟩ := bind_s h
   have hc_5 := disp_Reg_L n_ r_5 hr_5
   refine Rt (some 24) (.callf 9) [] none [.i n_] (.d (.str r_5)) [] (cc hc_5) <| Rc 1 [vi n_] ?_
   obtain ⟨r_6, hr_6, h⟩ := bind_s h
   have hc_6 := hansomref17_Reg_L n_ r_6 hr_6
   refine Rt (some 26) (.callf 10) [] none [.i n_] (.d (.str r_6)) [] (cc hc_6) <| Rc 3 [vb (r_5 == r_6), vb (r_5 == r_6), vb (r_5 == r_6)] ?_
   cases hb_3 : ((r_5 == r_6) : Bool) with
   | true =>
    replace h := ite_t hb_3 h
    refine Rc 1 [vi n_] ?_
    obtain ⟨r_7, hr_7, h⟩ := bind_s h
    have hc_7 := disp_Byte_L n_ r_7 hr_7
    refine Rt (some 31) (.callf 11) [] none [.i n_] (.d (.str r_7)) [] (cc hc_7) <| Rc 1 [vi n_] ?_
    obtain ⟨r_8, hr_8, h⟩ := bind_s h
    have hc_8 := hansomref17_Byte_L n_ r_8 hr_8
    refine Rt (some 33) (.callf 12) [] none [.i n_] (.d (.str r_8)) [] (cc hc_8) <| Rc 3 [vb (r_7 == r_8), vb (r_7 == r_8), vb (r_7 == r_8)] ?_
    cases hb_4 : ((r_7 == r_8) : Bool) with
    | true =>
     replace h := ite_t hb_4 h
     refine Rc 1 [vi n_] ?_
     obtain ⟨r_9, hr_9, h⟩ := bind_s h
     have hc_9 := disp_Seg_L n_ r_9 hr_9
     refine Rt (some 38) (.callf 13) [] none [.i n_] (.d (.str r_9)) [] (cc hc_9) <| Rc 1 [vi n_] ?_
     obtain ⟨r_10, hr_10, h⟩ := bind_s h
     have hc_10 := hansomref17_Seg_L n_ r_10 hr_10
     refine Rt (some 40) (.callf 14) [] none [.i n_] (.d (.str r_10)) [] (cc hc_10) <| Rc 3 [vb (r_9 == r_10), vb (r_9 == r_10), vb (r_9 == r_10)] ?_
     cases hb_5 : ((r_9 == r_10) : Bool) with
     | true =>
      replace h := ite_t hb_5 h
      refine Rc 3 [vi n_, vb (decide (n_ < 1)), vb (decide (n_ < 1))] ?_
      cases hb_6 : ((decide (n_ < 1)) : Bool) with
      | true =>
       replace h := ite_t hb_6 h
       refine Rc 15 [vn, vn, vb true, vb true, vn, vn, vn, vn, vn, vb true, vb true, vb true, vi r_1, vb (r_1 == 0), vb (r_1 == 0)] ?_
       cases hb_7 : ((r_1 == 0) : Bool) with
       | true =>
        replace h := ite_t hb_7 h
        refine Rc 9 [vn, vn, vn, vn, vb true, vb true, vb true, vi r_1, ⟨.d (.str z_1), []⟩] ?_
        obtain ⟨r_11, hr_11, h⟩ := bind_s h
        have hc_11 := hansomref04_Find_L z_1 r_11 hr_11
        refine Rt (some 71) (.callf 15) [] none [.d (.str z_1)] (.i r_11) [] (cc hc_11) <| Rc 3 [vb (r_1 == r_11), vb (r_1 == r_11), vb (r_1 == r_11)] <| Rk <| Runs.ret ?_
        cases h
        exact Fq
       | false =>
        replace h := ite_f hb_7 h
        refine Rc 1 [vi r_1] ?_
        obtain ⟨r_12, hr_12, h⟩ := bind_s h
        have hc_12 := disp_Name_L r_1 r_12 hr_12
        refine Rt (some 63) (.callf 7) [] none [.i r_1] (.d (.str r_12)) [] (cc hc_12) <| Rc 5 [⟨.d (.str z_1), []⟩, vb (r_12 == z_1), vb (r_12 == z_1), vb (r_12 == z_1), vb (r_12 == z_1)] ?_
        cases hb_8 : ((r_12 == z_1) : Bool) with
        | true =>
         replace h := ite_t hb_8 h
         refine Rc 2 [vi r_1, ⟨.d (.str z_1), []⟩] ?_
         obtain ⟨r_13, hr_13, h⟩ := bind_s h
         have hc_13 := hansomref04_Find_L z_1 r_13 hr_13
         refine Rt (some 71) (.callf 15) [] none [.d (.str z_1)] (.i r_13) [] (cc hc_13) <| Rc 3 [vb (r_1 == r_13), vb (r_1 == r_13), vb (r_1 == r_13)] <| Rk <| Runs.ret ?_
         cases h
         exact Fq
        | false =>
         replace h := ite_f hb_8 h
         refine Rc 6 [vn, vn, vn, vn, vb false, vb false] <| Rk <| Runs.ret ?_
         cases h
         exact Fq
      | false =>
       replace h := ite_f hb_6 h
       refine Rc 4 [vi n_, vb (decide (n_ > 95)), vb (decide (n_ > 95)), vb (decide (n_ > 95))] ?_
       cases hb_9 : ((decide (n_ > 95)) : Bool) with
       | true =>
        replace h := ite_t hb_9 h
        refine Rc 11 [vn, vn, vn, vn, vn, vb true, vb true, vb true, vi r_1, vb (r_1 == 0), vb (r_1 == 0)] ?_
        cases hb_10 : ((r_1 == 0) : Bool) with
        | true =>
         replace h := ite_t hb_10 h
         refine Rc 9 [vn, vn, vn, vn, vb true, vb true, vb true, vi r_1, ⟨.d (.str z_1), []⟩] ?_
         obtain ⟨r_14, hr_14, h⟩ := bind_s h
         have hc_14 := hansomref04_Find_L z_1 r_14 hr_14
         refine Rt (some 71) (.callf 15) [] none [.d (.str z_1)] (.i r_14) [] (cc hc_14) <| Rc 3 [vb (r_1 == r_14), vb (r_1 == r_14), vb (r_1 == r_14)] <| Rk <| Runs.ret ?_
         cases h
         exact Fq
        | false =>
         replace h := ite_f hb_10 h
         refine Rc 1 [vi r_1] ?_
         obtain ⟨r_15, hr_15, h⟩ := bind_s h
         have hc_15 := disp_Name_L r_1 r_15 hr_15
         refine Rt (some 63) (.callf 7) [] none [.i r_1] (.d (.str r_15)) [] (cc hc_15) <| Rc 5 [⟨.d (.str z_1), []⟩, vb (r_15 == z_1), vb (r_15 == z_1), vb (r_15 == z_1), vb (r_15 == z_1)] ?_
         cases hb_11 : ((r_15 == z_1) : Bool) with
         | true =>
          replace h := ite_t hb_11 h
          refine Rc 2 [vi r_1, ⟨.d (.str z_1), []⟩] ?_
          obtain ⟨r_16, hr_16, h⟩ := bind_s h
          have hc_16 := hansomref04_Find_L z_1 r_16 hr_16
          refine Rt (some 71) (.callf 15) [] none [.d (.str z_1)] (.i r_16) [] (cc hc_16) <| Rc 3 [vb (r_1 == r_16), vb (r_1 == r_16), vb (r_1 == r_16)] <| Rk <| Runs.ret ?_
          cases h
          exact Fq
         | false =>
          replace h := ite_f hb_11 h
          refine Rc 6 [vn, vn, vn, vn, vb false, vb false] <| Rk <| Runs.ret ?_
          cases h
          exact Fq
       | false =>
        replace h := ite_f hb_9 h
        refine Rc 1 [vi n_] ?_
        obtain ⟨r_17, hr_17, h⟩ := bind_s h
        have hc_17 := disp_Name_L n_ r_17 hr_17
        refine Rt (some 52) (.callf 7) [] none [.i n_] (.d (.str r_17)) [] (cc hc_17) ?_
        obtain ⟨r_18, hr_18, h⟩ := bind_s h
        have hc_18 := disp_Find_L r_17 r_18 hr_18
        refine Rt (some 53) (.callf 5) [] none [.d (.str r_17)] (.i r_18) [] (cc hc_18) <| Rc 5 [vi n_, vb (r_18 == n_), vb (r_18 == n_), vb (r_18 == n_), vb (r_18 == n_)] ?_
        cases hb_12 : ((r_18 == n_) : Bool) with
        | true =>
         replace h := ite_t hb_12 h
         refine Rc 3 [vi r_1, vb (r_1 == 0), vb (r_1 == 0)] ?_
         cases hb_13 : ((r_1 == 0) : Bool) with
         | true =>
          replace h := ite_t hb_13 h
          refine Rc 9 [vn, vn, vn, vn, vb true, vb true, vb true, vi r_1, ⟨.d (.str z_1), []⟩] ?_
          obtain ⟨r_19, hr_19, h⟩ := bind_s h
          have hc_19 := hansomref04_Find_L z_1 r_19 hr_19
          refine Rt (some 71) (.callf 15) [] none [.d (.str z_1)] (.i r_19) [] (cc hc_19) <| Rc 3 [vb (r_1 == r_19), vb (r_1 == r_19), vb (r_1 == r_19)] <| Rk <| Runs.ret ?_
          cases h
          exact Fq
         | false =>
          replace h := ite_f hb_13 h
          refine Rc 1 [vi r_1] ?_
          obtain ⟨r_20, hr_20, h⟩ := bind_s h
          have hc_20 := disp_Name_L r_1 r_20 hr_20
          refine Rt (some 63) (.callf 7) [] none [.i r_1] (.d (.str r_20)) [] (cc hc_20) <| Rc 5 [⟨.d (.str z_1), []⟩, vb (r_20 == z_1), vb (r_20 == z_1), vb (r_20 == z_1), vb (r_20 == z_1)] ?_
          cases hb_14 : ((r_20 == z_1) : Bool) with
          | true =>
           replace h := ite_t hb_14 h
           refine Rc 2 [vi r_1, ⟨.d (.str z_1), []⟩] ?_
           obtain ⟨r_21, hr_21, h⟩ := bind_s h
           have hc_21 := hansomref04_Find_L z_1 r_21 hr_21
           refine Rt (some 71) (.callf 15) [] none [.d (.str z_1)] (.i r_21) [] (cc hc_21) <| Rc 3 [vb (r_1 == r_21), vb (r_1 == r_21), vb (r_1 == r_21)] <| Rk <| Runs.ret ?_
           cases h
           exact Fq
          | false =>
           replace h := ite_f hb_14 h
           refine Rc 6 [vn, vn, vn, vn, vb false, vb false] <| Rk <| Runs.ret ?_
           cases h
           exact Fq
        | false =>
         replace h := ite_f hb_12 h
         refine Rc 16 [vn, vn, vn, vn, vn, vn, vn, vn, vb false, vb false, vn, vn, vn, vn, vb false, vb false] <| Rk <| Runs.ret ?_
         cases h
         exact Fq
     | false =>
      replace h := ite_f hb_5 h
      refine Rc 31 [vn, vn, vn, vn, vn, vn, vn, vn, vn, vn, vn, vn, vn, vb false, vb false, vn, vn, vn, vn, vn, vn, vn, vn, vb false, vb false, vn, vn, vn, vn, vb false, vb false] <| Rk <| Runs.ret ?_
      cases h
      exact Fq
    | false =>
     replace h := ite_f hb_4 h
     refine Rc 38 [vn, vn, vn, vn, vn, vb false, vb false, vn, vn, vn, vn, vn, vn, vn, vn, vn, vn, vn, vn, vn, vb false, vb false, vn, vn, vn, vn, vn, vn, vn, vn, vb false, vb false, vn, vn, vn, vn, vb false, vb false] <| Rk <| Runs.ret ?_
     cases h
     exact Fq
   | false =>
    replace h := ite_f hb_3 h
    refine Rc 45 [vn, vn, vn, vn, vn, vb false, vb false, vn, vn, vn, vn, vn, vb false, vb false, vn, vn, vn, vn, vn, vn, vn, vn, vn, vn, vn, vn, vn, vb false, vb false, vn, vn, vn, vn, vn, vn, vn, vn, vb false, vb false, vn, vn, vn, vn, vb false, vb false] <| Rk <| Runs.ret ?_
    cases h
    exact Fq
  | false =>
   replace h := ite_f hb_2 h
   refine Rc 52 [vn, vn, vn, vn, vn, vb false, vb false, vn, vn, vn, vn, vn, vb false, vb false, vn, vn, vn, vn, vn, vb false, vb false, vn, vn, vn, vn, vn, vn, vn, vn, vn, vn, vn, vn, vn, vb false, vb false, vn, vn, vn, vn, vn, vn, vn, vn, vb false, vb false, vn, vn, vn, vn, vb false, vb false] <| Rk <| Runs.ret ?_
   cases h
   exact Fq
 | false =>
  replace h := ite_f hb_1 h
  refine Rc 59 [vn, vn, vn, vn, vn, vb false, vb false, vn, vn, vn, vn, vn, vb false, vb false, vn, vn, vn, vn, vn, vb false, vb false, vn, vn, vn, vn, vn, vb false, vb false, vn, vn, vn, vn, vn, vn, vn, vn, vn, vn, vn, vn, vn, vb false, vb false, vn, vn, vn, vn, vn, vn, vn, vn, vb false, vb false, vn, vn, vn, vn, vb false, vb false] <| Rk <| Runs.ret ?_
  cases h
  exact Fq
theorem hansomlaw17_DispNames_L (n_ : Int) (s_ : (List UInt8)) (r : Bool) (h : hansomlaw17_DispNames n_ s_ = some r) : L 3 [.i n_, .d (.str s_)] = some (.b r, [.i n_, .d (.str s_)]) := by
 obtain ⟨p, ⟨hne, hf⟩, hr⟩ := hansomlaw17_DispNames_ok n_ s_ r h
 obtain ⟨k, hk⟩ := run_of (F := F3) (args := [.i n_, .d (.str s_)]) (ap := [.i n_, .d (.str s_)]) (bx0 := updW (fun _ => none) []) rfl rfl (by kernel_rfl) ⟨p, ⟨hne, hf⟩, hr⟩
 exact lim_run (k := k) rfl hk
end Go.Es.Dsn
