/- The interpreter answers as plain Lean does: part 1. No condition. -/
import Derived.Test.YtbdmoaofbacfpaaDoorPkjF
import Derived.Test.YtbdmoaofbacfpaaDoorPkjP
import Derived.KernelRfl
set_option linter.unusedVariables false
set_option linter.unusedSimpArgs false
set_option maxRecDepth 100000
set_option maxHeartbeats 4000000
namespace Go.Es.Pkj
theorem strings_Fields_L0 : L 40 [.d (.str [65, 68, 68, 32, 79, 82, 32, 65, 68, 67, 32, 83, 66, 66, 32, 65, 78, 68, 32, 83, 85, 66, 32, 88, 79, 82, 32, 67, 77, 80, 32, 80, 85, 83, 72, 32, 80, 79, 80, 32, 68, 65, 65, 32, 68, 65, 83, 32, 65, 65, 65, 32, 65, 65, 83, 32, 73, 78, 67, 32, 68, 69, 67, 32, 74, 79, 32, 74, 78, 79, 32, 74, 66, 32, 74, 78, 66, 32, 74, 90, 32, 74, 78, 90, 32, 74, 66, 69, 32, 74, 65, 32, 74, 83, 32, 74, 78, 83, 32, 74, 80, 32, 74, 78, 80, 32, 74, 76, 32, 74, 71, 69, 32, 74, 76, 69, 32, 74, 71, 32, 84, 69, 83, 84, 32, 88, 67, 72, 71, 32, 77, 79, 86, 32, 76, 69, 65, 32, 67, 66, 87, 32, 67, 87, 68, 32, 67, 65, 76, 76, 32, 67, 65, 76, 76, 70, 32, 87, 65, 73, 84, 32, 80, 85, 83, 72, 70, 32, 80, 79, 80, 70, 32, 83, 65, 72, 70, 32, 76, 65, 72, 70, 32, 77, 79, 86, 83, 66, 32, 77, 79, 86, 83, 87, 32, 67, 77, 80, 83, 66, 32, 67, 77, 80, 83, 87, 32, 83, 84, 79, 83, 66, 32, 83, 84, 79, 83, 87, 32, 76, 79, 68, 83, 66, 32, 76, 79, 68, 83, 87, 32, 83, 67, 65, 83, 66, 32, 83, 67, 65, 83, 87, 32, 82, 69, 84, 32, 82, 69, 84, 70, 32, 76, 69, 83, 32, 76, 68, 83, 32, 73, 78, 84, 32, 73, 78, 84, 79, 32, 73, 82, 69, 84, 32, 82, 79, 76, 32, 82, 79, 82, 32, 82, 67, 76, 32, 82, 67, 82, 32, 83, 72, 76, 32, 83, 72, 82, 32, 83, 65, 82, 32, 65, 65, 77, 32, 65, 65, 68, 32, 88, 76, 65, 84, 32, 69, 83, 67, 32, 76, 79, 79, 80, 78, 90, 32, 76, 79, 79, 80, 90, 32, 76, 79, 79, 80, 32, 74, 67, 88, 90, 32, 73, 78, 32, 79, 85, 84, 32, 74, 77, 80, 32, 74, 77, 80, 70, 32, 72, 76, 84, 32, 67, 77, 67, 32, 78, 79, 84, 32, 78, 69, 71, 32, 77, 85, 76, 32, 73, 77, 85, 76, 32, 68, 73, 86, 32, 73, 68, 73, 86, 32, 67, 76, 67, 32, 83, 84, 67, 32, 67, 76, 73, 32, 83, 84, 73, 32, 67, 76, 68, 32, 83, 84, 68])] = some (.arr false 1 (List.map D.str [[65, 68, 68], [79, 82], [65, 68, 67], [83, 66, 66], [65, 78, 68], [83, 85, 66], [88, 79, 82], [67, 77, 80], [80, 85, 83, 72], [80, 79, 80], [68, 65, 65], [68, 65, 83], [65, 65, 65], [65, 65, 83], [73, 78, 67], [68, 69, 67], [74, 79], [74, 78, 79], [74, 66], [74, 78, 66], [74, 90], [74, 78, 90], [74, 66, 69], [74, 65], [74, 83], [74, 78, 83], [74, 80], [74, 78, 80], [74, 76], [74, 71, 69], [74, 76, 69], [74, 71], [84, 69, 83, 84], [88, 67, 72, 71], [77, 79, 86], [76, 69, 65], [67, 66, 87], [67, 87, 68], [67, 65, 76, 76], [67, 65, 76, 76, 70], [87, 65, 73, 84], [80, 85, 83, 72, 70], [80, 79, 80, 70], [83, 65, 72, 70], [76, 65, 72, 70], [77, 79, 86, 83, 66], [77, 79, 86, 83, 87], [67, 77, 80, 83, 66], [67, 77, 80, 83, 87], [83, 84, 79, 83, 66], [83, 84, 79, 83, 87], [76, 79, 68, 83, 66], [76, 79, 68, 83, 87], [83, 67, 65, 83, 66], [83, 67, 65, 83, 87], [82, 69, 84], [82, 69, 84, 70], [76, 69, 83], [76, 68, 83], [73, 78, 84], [73, 78, 84, 79], [73, 82, 69, 84], [82, 79, 76], [82, 79, 82], [82, 67, 76], [82, 67, 82], [83, 72, 76], [83, 72, 82], [83, 65, 82], [65, 65, 77], [65, 65, 68], [88, 76, 65, 84], [69, 83, 67], [76, 79, 79, 80, 78, 90], [76, 79, 79, 80, 90], [76, 79, 79, 80], [74, 67, 88, 90], [73, 78], [79, 85, 84], [74, 77, 80], [74, 77, 80, 70], [72, 76, 84], [67, 77, 67], [78, 79, 84], [78, 69, 71], [77, 85, 76], [73, 77, 85, 76], [68, 73, 86], [73, 68, 73, 86], [67, 76, 67], [83, 84, 67], [67, 76, 73], [83, 84, 73], [67, 76, 68], [83, 84, 68]]), [.d (.str [65, 68, 68, 32, 79, 82, 32, 65, 68, 67, 32, 83, 66, 66, 32, 65, 78, 68, 32, 83, 85, 66, 32, 88, 79, 82, 32, 67, 77, 80, 32, 80, 85, 83, 72, 32, 80, 79, 80, 32, 68, 65, 65, 32, 68, 65, 83, 32, 65, 65, 65, 32, 65, 65, 83, 32, 73, 78, 67, 32, 68, 69, 67, 32, 74, 79, 32, 74, 78, 79, 32, 74, 66, 32, 74, 78, 66, 32, 74, 90, 32, 74, 78, 90, 32, 74, 66, 69, 32, 74, 65, 32, 74, 83, 32, 74, 78, 83, 32, 74, 80, 32, 74, 78, 80, 32, 74, 76, 32, 74, 71, 69, 32, 74, 76, 69, 32, 74, 71, 32, 84, 69, 83, 84, 32, 88, 67, 72, 71, 32, 77, 79, 86, 32, 76, 69, 65, 32, 67, 66, 87, 32, 67, 87, 68, 32, 67, 65, 76, 76, 32, 67, 65, 76, 76, 70, 32, 87, 65, 73, 84, 32, 80, 85, 83, 72, 70, 32, 80, 79, 80, 70, 32, 83, 65, 72, 70, 32, 76, 65, 72, 70, 32, 77, 79, 86, 83, 66, 32, 77, 79, 86, 83, 87, 32, 67, 77, 80, 83, 66, 32, 67, 77, 80, 83, 87, 32, 83, 84, 79, 83, 66, 32, 83, 84, 79, 83, 87, 32, 76, 79, 68, 83, 66, 32, 76, 79, 68, 83, 87, 32, 83, 67, 65, 83, 66, 32, 83, 67, 65, 83, 87, 32, 82, 69, 84, 32, 82, 69, 84, 70, 32, 76, 69, 83, 32, 76, 68, 83, 32, 73, 78, 84, 32, 73, 78, 84, 79, 32, 73, 82, 69, 84, 32, 82, 79, 76, 32, 82, 79, 82, 32, 82, 67, 76, 32, 82, 67, 82, 32, 83, 72, 76, 32, 83, 72, 82, 32, 83, 65, 82, 32, 65, 65, 77, 32, 65, 65, 68, 32, 88, 76, 65, 84, 32, 69, 83, 67, 32, 76, 79, 79, 80, 78, 90, 32, 76, 79, 79, 80, 90, 32, 76, 79, 79, 80, 32, 74, 67, 88, 90, 32, 73, 78, 32, 79, 85, 84, 32, 74, 77, 80, 32, 74, 77, 80, 70, 32, 72, 76, 84, 32, 67, 77, 67, 32, 78, 79, 84, 32, 78, 69, 71, 32, 77, 85, 76, 32, 73, 77, 85, 76, 32, 68, 73, 86, 32, 73, 68, 73, 86, 32, 67, 76, 67, 32, 83, 84, 67, 32, 67, 76, 73, 32, 83, 84, 73, 32, 67, 76, 68, 32, 83, 84, 68])]) := (lim_iff (F := tab1)).2 ⟨600, by kernel_rfl⟩
theorem strings_Fields_L1 : L 40 [.d (.str [65, 88, 32, 67, 88, 32, 68, 88, 32, 66, 88, 32, 83, 80, 32, 66, 80, 32, 83, 73, 32, 68, 73])] = some (.arr false 1 (List.map D.str [[65, 88], [67, 88], [68, 88], [66, 88], [83, 80], [66, 80], [83, 73], [68, 73]]), [.d (.str [65, 88, 32, 67, 88, 32, 68, 88, 32, 66, 88, 32, 83, 80, 32, 66, 80, 32, 83, 73, 32, 68, 73])]) := (lim_iff (F := tab1)).2 ⟨600, by kernel_rfl⟩
theorem strings_Fields_L2 : L 40 [.d (.str [65, 76, 32, 67, 76, 32, 68, 76, 32, 66, 76, 32, 65, 72, 32, 67, 72, 32, 68, 72, 32, 66, 72])] = some (.arr false 1 (List.map D.str [[65, 76], [67, 76], [68, 76], [66, 76], [65, 72], [67, 72], [68, 72], [66, 72]]), [.d (.str [65, 76, 32, 67, 76, 32, 68, 76, 32, 66, 76, 32, 65, 72, 32, 67, 72, 32, 68, 72, 32, 66, 72])]) := (lim_iff (F := tab1)).2 ⟨600, by kernel_rfl⟩
theorem strings_Fields_L3 : L 40 [.d (.str [69, 83, 32, 67, 83, 32, 83, 83, 32, 68, 83])] = some (.arr false 1 (List.map D.str [[69, 83], [67, 83], [83, 83], [68, 83]]), [.d (.str [69, 83, 32, 67, 83, 32, 83, 83, 32, 68, 83])]) := (lim_iff (F := tab1)).2 ⟨600, by kernel_rfl⟩
theorem strings_Fields_L (a0_ : (List UInt8)) (r : (List (List UInt8))) (h : strings_Fields a0_ = some r) : L 40 [.d (.str a0_)] = some (.arr false 1 (List.map D.str r), [.d (.str a0_)]) := by
  unfold strings_Fields at h
  by_cases c0 : a0_ = [65, 68, 68, 32, 79, 82, 32, 65, 68, 67, 32, 83, 66, 66, 32, 65, 78, 68, 32, 83, 85, 66, 32, 88, 79, 82, 32, 67, 77, 80, 32, 80, 85, 83, 72, 32, 80, 79, 80, 32, 68, 65, 65, 32, 68, 65, 83, 32, 65, 65, 65, 32, 65, 65, 83, 32, 73, 78, 67, 32, 68, 69, 67, 32, 74, 79, 32, 74, 78, 79, 32, 74, 66, 32, 74, 78, 66, 32, 74, 90, 32, 74, 78, 90, 32, 74, 66, 69, 32, 74, 65, 32, 74, 83, 32, 74, 78, 83, 32, 74, 80, 32, 74, 78, 80, 32, 74, 76, 32, 74, 71, 69, 32, 74, 76, 69, 32, 74, 71, 32, 84, 69, 83, 84, 32, 88, 67, 72, 71, 32, 77, 79, 86, 32, 76, 69, 65, 32, 67, 66, 87, 32, 67, 87, 68, 32, 67, 65, 76, 76, 32, 67, 65, 76, 76, 70, 32, 87, 65, 73, 84, 32, 80, 85, 83, 72, 70, 32, 80, 79, 80, 70, 32, 83, 65, 72, 70, 32, 76, 65, 72, 70, 32, 77, 79, 86, 83, 66, 32, 77, 79, 86, 83, 87, 32, 67, 77, 80, 83, 66, 32, 67, 77, 80, 83, 87, 32, 83, 84, 79, 83, 66, 32, 83, 84, 79, 83, 87, 32, 76, 79, 68, 83, 66, 32, 76, 79, 68, 83, 87, 32, 83, 67, 65, 83, 66, 32, 83, 67, 65, 83, 87, 32, 82, 69, 84, 32, 82, 69, 84, 70, 32, 76, 69, 83, 32, 76, 68, 83, 32, 73, 78, 84, 32, 73, 78, 84, 79, 32, 73, 82, 69, 84, 32, 82, 79, 76, 32, 82, 79, 82, 32, 82, 67, 76, 32, 82, 67, 82, 32, 83, 72, 76, 32, 83, 72, 82, 32, 83, 65, 82, 32, 65, 65, 77, 32, 65, 65, 68, 32, 88, 76, 65, 84, 32, 69, 83, 67, 32, 76, 79, 79, 80, 78, 90, 32, 76, 79, 79, 80, 90, 32, 76, 79, 79, 80, 32, 74, 67, 88, 90, 32, 73, 78, 32, 79, 85, 84, 32, 74, 77, 80, 32, 74, 77, 80, 70, 32, 72, 76, 84, 32, 67, 77, 67, 32, 78, 79, 84, 32, 78, 69, 71, 32, 77, 85, 76, 32, 73, 77, 85, 76, 32, 68, 73, 86, 32, 73, 68, 73, 86, 32, 67, 76, 67, 32, 83, 84, 67, 32, 67, 76, 73, 32, 83, 84, 73, 32, 67, 76, 68, 32, 83, 84, 68]
  · rw [if_pos c0] at h
    obtain rfl := Option.some.inj h
    subst c0
    exact strings_Fields_L0
  rw [if_neg c0] at h
  by_cases c1 : a0_ = [65, 88, 32, 67, 88, 32, 68, 88, 32, 66, 88, 32, 83, 80, 32, 66, 80, 32, 83, 73, 32, 68, 73]
  · rw [if_pos c1] at h
    obtain rfl := Option.some.inj h
    subst c1
    exact strings_Fields_L1
  rw [if_neg c1] at h
  by_cases c2 : a0_ = [65, 76, 32, 67, 76, 32, 68, 76, 32, 66, 76, 32, 65, 72, 32, 67, 72, 32, 68, 72, 32, 66, 72]
  · rw [if_pos c2] at h
    obtain rfl := Option.some.inj h
    subst c2
    exact strings_Fields_L2
  rw [if_neg c2] at h
  by_cases c3 : a0_ = [69, 83, 32, 67, 83, 32, 83, 83, 32, 68, 83]
  · rw [if_pos c3] at h
    obtain rfl := Option.some.inj h
    subst c3
    exact strings_Fields_L3
  rw [if_neg c3] at h
  cases h
def pick_alias_h24 (s0 : (List UInt8)) (t3 : (List UInt8)) (t8 : Bool) : St := ⟨tab [(0, .d (.str s0)), (3, .d (.str t3)), (8, .b t8)], tabB []⟩
def pick_alias_h34 (s0 : (List UInt8)) (t3 : (List UInt8)) (t11 : Bool) : St := ⟨tab [(0, .d (.str s0)), (3, .d (.str t3)), (11, .b t11)], tabB []⟩
def pick_alias_Q (s_ : (List UInt8)) (r : (List UInt8)) (p : Out × St) : Prop := (∀ i, p.1 ≠ .exit i) ∧ finF F37 [.d (.str s_)] p.2 = some (.d (.str r), [.d (.str s_)])
theorem pick_alias_j34_ok (s_ : (List UInt8)) (s0 : (List UInt8)) (t3 : (List UInt8)) (t11 : Bool) (r : (List UInt8)) (h : pick_alias_j34 s0 t3 t11 = some r) : Runs L F37b34 (pick_alias_h34 s0 t3 t11) (kB 0 (kS L F37c105 (pick_alias_Q s_ r))) := by
 unfold pick_alias_j34 at h
 cases hb_6 : (t11 : Bool) with
 | true =>
  replace h := ite_t hb_6 h
  refine Ct <| Sq <| Ro <| Rc 1 [⟨.d (.str ([74, 78, 66] : List UInt8)), []⟩] <| Rk <| Runs.ret <| kB_ret <| kS_ret ?_
  cases h
  exact Fq
 | false =>
  replace h := ite_f hb_6 h
  refine Cf <| Sq <| Ro <| Rc 2 [vb (t3 == ([74, 78, 65] : List UInt8)), vb (t3 == ([74, 78, 65] : List UInt8))] <| Rk ?_
  cases hb_7 : ((t3 == ([74, 78, 65] : List UInt8)) : Bool) with
  | true =>
   replace h := ite_t hb_7 h
   refine Ct <| Sq <| Ro <| Rc 1 [⟨.d (.str ([74, 66, 69] : List UInt8)), []⟩] <| Rk <| Runs.ret <| kB_ret <| kS_ret ?_
   cases h
   exact Fq
  | false =>
   replace h := ite_f hb_7 h
   refine Cf <| Sq <| Ro <| Rc 2 [vb (t3 == ([74, 78, 66, 69] : List UInt8)), vb (t3 == ([74, 78, 66, 69] : List UInt8))] <| Rk ?_
   cases hb_8 : ((t3 == ([74, 78, 66, 69] : List UInt8)) : Bool) with
   | true =>
    replace h := ite_t hb_8 h
    refine Ct <| Sq <| Ro <| Rc 1 [⟨.d (.str ([74, 65] : List UInt8)), []⟩] <| Rk <| Runs.ret <| kB_ret <| kS_ret ?_
    cases h
    exact Fq
   | false =>
    replace h := ite_f hb_8 h
    refine Cf <| Sq <| Ro <| Rc 2 [vb (t3 == ([74, 80, 69] : List UInt8)), vb (t3 == ([74, 80, 69] : List UInt8))] <| Rk ?_
    cases hb_9 : ((t3 == ([74, 80, 69] : List UInt8)) : Bool) with
    | true =>
     replace h := ite_t hb_9 h
     refine Ct <| Sq <| Ro <| Rc 1 [⟨.d (.str ([74, 80] : List UInt8)), []⟩] <| Rk <| Runs.ret <| kB_ret <| kS_ret ?_
     cases h
     exact Fq
    | false =>
     replace h := ite_f hb_9 h
     refine Cf <| Sq <| Ro <| Rc 2 [vb (t3 == ([74, 80, 79] : List UInt8)), vb (t3 == ([74, 80, 79] : List UInt8))] <| Rk ?_
     cases hb_10 : ((t3 == ([74, 80, 79] : List UInt8)) : Bool) with
     | true =>
      replace h := ite_t hb_10 h
      refine Ct <| Sq <| Ro <| Rc 1 [⟨.d (.str ([74, 78, 80] : List UInt8)), []⟩] <| Rk <| Runs.ret <| kB_ret <| kS_ret ?_
      cases h
      exact Fq
     | false =>
      replace h := ite_f hb_10 h
      refine Cf <| Sq <| Ro <| Rc 2 [vb (t3 == ([74, 78, 71, 69] : List UInt8)), vb (t3 == ([74, 78, 71, 69] : List UInt8))] <| Rk ?_
      cases hb_11 : ((t3 == ([74, 78, 71, 69] : List UInt8)) : Bool) with
      | true =>
       replace h := ite_t hb_11 h
       refine Ct <| Sq <| Ro <| Rc 1 [⟨.d (.str ([74, 76] : List UInt8)), []⟩] <| Rk <| Runs.ret <| kB_ret <| kS_ret ?_
       cases h
       exact Fq
      | false =>
       replace h := ite_f hb_11 h
       refine Cf <| Sq <| Ro <| Rc 2 [vb (t3 == ([74, 78, 76] : List UInt8)), vb (t3 == ([74, 78, 76] : List UInt8))] <| Rk ?_
       cases hb_12 : ((t3 == ([74, 78, 76] : List UInt8)) : Bool) with
       | true =>
        replace h := ite_t hb_12 h
        refine Ct <| Sq <| Ro <| Rc 1 [⟨.d (.str ([74, 71, 69] : List UInt8)), []⟩] <| Rk <| Runs.ret <| kB_ret <| kS_ret ?_
        cases h
        exact Fq
       | false =>
        replace h := ite_f hb_12 h
        refine Cf <| Sq <| Ro <| Rc 2 [vb (t3 == ([74, 78, 71] : List UInt8)), vb (t3 == ([74, 78, 71] : List UInt8))] <| Rk ?_
        cases hb_13 : ((t3 == ([74, 78, 71] : List UInt8)) : Bool) with
        | true =>
         replace h := ite_t hb_13 h
         refine Ct <| Sq <| Ro <| Rc 1 [⟨.d (.str ([74, 76, 69] : List UInt8)), []⟩] <| Rk <| Runs.ret <| kB_ret <| kS_ret ?_
         cases h
         exact Fq
        | false =>
         replace h := ite_f hb_13 h
         refine Cf <| Sq <| Ro <| Rc 2 [vb (t3 == ([74, 78, 76, 69] : List UInt8)), vb (t3 == ([74, 78, 76, 69] : List UInt8))] <| Rk ?_
         cases hb_14 : ((t3 == ([74, 78, 76, 69] : List UInt8)) : Bool) with
         | true =>
          replace h := ite_t hb_14 h
          refine Ct <| Sq <| Ro <| Rc 1 [⟨.d (.str ([74, 71] : List UInt8)), []⟩] <| Rk <| Runs.ret <| kB_ret <| kS_ret ?_
          cases h
          exact Fq
         | false =>
          replace h := ite_f hb_14 h
          refine Cf <| Sq <| Ro <| Rc 2 [vb (t3 == ([76, 79, 79, 80, 69] : List UInt8)), vb (t3 == ([76, 79, 79, 80, 69] : List UInt8))] <| Rk ?_
          cases hb_15 : ((t3 == ([76, 79, 79, 80, 69] : List UInt8)) : Bool) with
          | true =>
           replace h := ite_t hb_15 h
           refine Ct <| Sq <| Ro <| Rc 1 [⟨.d (.str ([76, 79, 79, 80, 90] : List UInt8)), []⟩] <| Rk <| Runs.ret <| kB_ret <| kS_ret ?_
           cases h
           exact Fq
          | false =>
           replace h := ite_f hb_15 h
           refine Cf <| Sq <| Ro <| Rc 2 [vb (t3 == ([76, 79, 79, 80, 78, 69] : List UInt8)), vb (t3 == ([76, 79, 79, 80, 78, 69] : List UInt8))] <| Rk ?_
           cases hb_16 : ((t3 == ([76, 79, 79, 80, 78, 69] : List UInt8)) : Bool) with
           | true =>
            replace h := ite_t hb_16 h
            refine Ct <| Sq <| Ro <| Rc 1 [⟨.d (.str ([76, 79, 79, 80, 78, 90] : List UInt8)), []⟩] <| Rk <| Runs.ret <| kB_ret <| kS_ret ?_
            cases h
            exact Fq
           | false =>
            replace h := ite_f hb_16 h
            refine Cf <| Sq <| Ro <| Rc 2 [vb (t3 == ([83, 65, 76] : List UInt8)), vb (t3 == ([83, 65, 76] : List UInt8))] <| Rk ?_
            cases hb_17 : ((t3 == ([83, 65, 76] : List UInt8)) : Bool) with
            | true =>
             replace h := ite_t hb_17 h
             refine Ct <| Sq <| Ro <| Rc 1 [⟨.d (.str ([83, 72, 76] : List UInt8)), []⟩] <| Rk <| Runs.ret <| kB_ret <| kS_ret ?_
             cases h
             exact Fq
            | false =>
             replace h := ite_f hb_17 h
             refine Cf <| Runs.skip <| kB_nrm <| kS_nrm <| Sq <| Ro <| Rc 2 [⟨.d (.str s0), []⟩, ⟨.d (.str s0), []⟩] <| Rk <| Runs.ret ?_
             cases h
             exact Fq
theorem pick_alias_j24_ok (s_ : (List UInt8)) (s0 : (List UInt8)) (t3 : (List UInt8)) (t8 : Bool) (r : (List UInt8)) (h : pick_alias_j24 s0 t3 t8 = some r) : Runs L F37b24 (pick_alias_h24 s0 t3 t8) (kB 0 (kS L F37c105 (pick_alias_Q s_ r))) := by
 unfold pick_alias_j24 at h
 cases hb_4 : (t8 : Bool) with
 | true =>
  replace h := ite_t hb_4 h
  refine Ct <| Sq <| Ro <| Rc 1 [⟨.d (.str ([74, 66] : List UInt8)), []⟩] <| Rk <| Runs.ret <| kB_ret <| kS_ret ?_
  cases h
  exact Fq
 | false =>
  replace h := ite_f hb_4 h
  refine Cf <| Sq <| Sq <| Ro <| Rc 2 [vb (t3 == ([74, 78, 67] : List UInt8)), vb (t3 == ([74, 78, 67] : List UInt8))] <| Rk ?_
  cases hb_5 : ((t3 == ([74, 78, 67] : List UInt8)) : Bool) with
  | true =>
   replace h := ite_t hb_5 h
   refine Ct <| Runs.skip <| kS_nrm <| Runs.canon (pick_alias_h34 s0 t3 true) Cz ?_
   exact pick_alias_j34_ok s_ s0 t3 true r h
  | false =>
   replace h := ite_f hb_5 h
   refine Cf <| Ro <| Rc 2 [vb (t3 == ([74, 65, 69] : List UInt8)), vb (t3 == ([74, 65, 69] : List UInt8))] <| Rk <| Runs.canon (pick_alias_h34 s0 t3 (t3 == ([74, 65, 69] : List UInt8))) Cz ?_
   exact pick_alias_j34_ok s_ s0 t3 (t3 == ([74, 65, 69] : List UInt8)) r h
theorem pick_alias_ok (s_ : (List UInt8)) (r : (List UInt8)) (h : pick_alias s_ = some r) : Runs L F37.body ⟨tmOf [.d (.str s_)] 0, updW (fun _ => none) []⟩ (pick_alias_Q s_ r) := by
 unfold pick_alias at h
 refine Sq <| Ro <| Rc 1 [⟨.d (.str ([] : List UInt8)), []⟩] <| Rk <| Sq <| Sq <| Ro <| Rc 1 [⟨.d (.str s_), []⟩] <| Rk <| Runs.block <| Sq <| Ro <| Rc 2 [vb (s_ == ([74, 69] : List UInt8)), vb (s_ == ([74, 69] : List UInt8))] <| Rk ?_
 cases hb_1 : ((s_ == ([74, 69] : List UInt8)) : Bool) with
 | true =>
  replace h := ite_t hb_1 h
  refine Ct <| Sq <| Ro <| Rc 1 [⟨.d (.str ([74, 90] : List UInt8)), []⟩] <| Rk <| Runs.ret <| kB_ret <| kS_ret ?_
  cases h
  exact Fq
 | false =>
  replace h := ite_f hb_1 h
  refine Cf <| Sq <| Ro <| Rc 2 [vb (s_ == ([74, 78, 69] : List UInt8)), vb (s_ == ([74, 78, 69] : List UInt8))] <| Rk ?_
  cases hb_2 : ((s_ == ([74, 78, 69] : List UInt8)) : Bool) with
  | true =>
   replace h := ite_t hb_2 h
   refine Ct <| Sq <| Ro <| Rc 1 [⟨.d (.str ([74, 78, 90] : List UInt8)), []⟩] <| Rk <| Runs.ret <| kB_ret <| kS_ret ?_
   cases h
   exact Fq
  | false =>
   replace h := ite_f hb_2 h
   refine Cf <| Sq <| Sq <| Ro <| Rc 2 [vb (s_ == ([74, 67] : List UInt8)), vb (s_ == ([74, 67] : List UInt8))] <| Rk ?_
   cases hb_3 : ((s_ == ([74, 67] : List UInt8)) : Bool) with
   | true =>
    replace h := ite_t hb_3 h
    refine Ct <| Runs.skip <| kS_nrm <| Runs.canon (pick_alias_h24 s_ s_ true) Cz ?_
    exact pick_alias_j24_ok s_ s_ s_ true r h
   | false =>
    replace h := ite_f hb_3 h
    refine Cf <| Ro <| Rc 2 [vb (s_ == ([74, 78, 65, 69] : List UInt8)), vb (s_ == ([74, 78, 65, 69] : List UInt8))] <| Rk <| Runs.canon (pick_alias_h24 s_ s_ (s_ == ([74, 78, 65, 69] : List UInt8))) Cz ?_
    exact pick_alias_j24_ok s_ s_ s_ (s_ == ([74, 78, 65, 69] : List UInt8)) r h
theorem pick_alias_L (s_ : (List UInt8)) (r : (List UInt8)) (h : pick_alias s_ = some r) : L 37 [.d (.str s_)] = some (.d (.str r), [.d (.str s_)]) := by
 obtain ⟨p, ⟨hne, hf⟩, hr⟩ := pick_alias_ok s_ r h
 obtain ⟨k, hk⟩ := run_of (F := F37) (args := [.d (.str s_)]) (ap := [.d (.str s_)]) (bx0 := updW (fun _ => none) []) rfl rfl (by kernel_rfl) ⟨p, ⟨hne, hf⟩, hr⟩
 exact lim_run (k := k) rfl hk
def disp_Find_h6 (s0 : (List UInt8)) (t5 : (List (List UInt8))) (t6 : Int) (t7 : Int) : St := ⟨tab [(0, .d (.str s0)), (5, .d (.sl (List.map D.str t5))), (6, .i t6), (7, .i t7)], tabB []⟩
def disp_Find_h25  : St := ⟨tab [], tabB []⟩
def disp_Find_Q (s_ : (List UInt8)) (r : Int) (p : Out × St) : Prop := (∀ i, p.1 ≠ .exit i) ∧ finF F16 [.d (.str s_)] p.2 = some (.i r, [.d (.str s_)])
def disp_Find_P6 (s_ : (List UInt8)) (s0 : (List UInt8)) (t5 : (List (List UInt8))) (t6 : Int) (e : (Int ⊕ Unit)) (p : Out × St) : Prop := match e with
 | .inl x => p.1 = .ret ∧ finF F16 [.d (.str s_)] p.2 = some (.i x, [.d (.str s_)])
 | .inr x => p.1 = .exit 0 ∧ ∃ g : Unit, Canon [] [] [] p.2 (disp_Find_h25)
theorem disp_Find_l6_ok (s_ : (List UInt8)) (s0 : (List UInt8)) (t5 : (List (List UInt8))) (t6 : Int) (t7 : Int) (r : (Lp Int (Int ⊕ Unit))) (h : disp_Find_l6 s0 t5 t6 t7 = some r) : Runs L F16l6 (disp_Find_h6 s0 t5 t6 t7) (LQ [.frz 5] [0, 5, 6, 7] [] (fun (x : Int) (g : Unit) => disp_Find_h6 s0 t5 t6 x) (disp_Find_P6 s_ s0 t5 t6) r) := by
 unfold disp_Find_l6 at h
 refine Sq <| Ro <| Rc 1 [vb (decide (t7 < t6))] <| Rk <| Sq ?_
 cases hb_1 : ((decide (t7 < t6)) : Bool) with
 | true =>
  replace h := ite_t hb_1 h
  refine Ct <| Runs.skip <| kS_nrm <| Sq <| Runs.block <| Sq <| Ro <| Rc 1 [vi t7] ?_
  obtain ⟨z_1, hz_1, h⟩ := bind_s h
  refine Rt (some 10) (.iaddrS 1) [] none [.d (.sl (List.map D.str t5)), .i t7] (.elt (.str z_1) 0) [] (cut_at hz_1 (fun _ => rfl)) <| Rc 3 [⟨.d (.str z_1), []⟩, vi t7, ⟨.d (.str z_1), []⟩] <| Rk <| Sq <| Ro <| Rc 3 [⟨.d (.str z_1), []⟩, ⟨.d (.str s0), []⟩, vb (z_1 == s0)] <| Rk ?_
  cases hb_2 : ((z_1 == s0) : Bool) with
  | true =>
   replace h := ite_t hb_2 h
   refine Ct <| Sq <| Ro <| Rc 3 [vi t7, vi (IntKind.wrap .i64 (t7 + 1)), vi (IntKind.wrap .i64 (t7 + 1))] <| Rk <| Runs.ret <| kB_ret <| kS_ret ?_
   obtain rfl := sj h
   exact ⟨nofun, rfl, (by kernel_rfl)⟩
  | false =>
   replace h := ite_f hb_2 h
   refine Cf <| Runs.skip <| kB_nrm <| kS_nrm <| Ro <| Rc 2 [vi (IntKind.wrap .i64 (t7 + 1)), vi (IntKind.wrap .i64 (t7 + 1))] <| Rd ?_
   obtain rfl := sj h
   exact ⟨rfl, (), (Canon.same (by kernel_rfl) Cz)⟩
 | false =>
  replace h := ite_f hb_1 h
  refine Cf <| Runs.exit <| kS_exit ?_
  obtain rfl := sj h
  exact ⟨nofun, rfl, (), Cz⟩
theorem disp_Find_ok (s_ : (List UInt8)) (r : Int) (h : disp_Find s_ = some r) : Runs L F16.body ⟨tmOf [.d (.str s_)] 0, updW (fun _ => none) []⟩ (disp_Find_Q s_ r) := by
 unfold disp_Find at h
 refine Sq <| Ro <| Rc 1 [vi 0] <| Rk <| Sq <| Sq <| Ro ?_
 obtain ⟨r_1, hr_1, h⟩ := bind_s h
 have hc_1 := strings_Fields_L ([65, 68, 68, 32, 79, 82, 32, 65, 68, 67, 32, 83, 66, 66, 32, 65, 78, 68, 32, 83, 85, 66, 32, 88, 79, 82, 32, 67, 77, 80, 32, 80, 85, 83, 72, 32, 80, 79, 80, 32, 68, 65, 65, 32, 68, 65, 83, 32, 65, 65, 65, 32, 65, 65, 83, 32, 73, 78, 67, 32, 68, 69, 67, 32, 74, 79, 32, 74, 78, 79, 32, 74, 66, 32, 74, 78, 66, 32, 74, 90, 32, 74, 78, 90, 32, 74, 66, 69, 32, 74, 65, 32, 74, 83, 32, 74, 78, 83, 32, 74, 80, 32, 74, 78, 80, 32, 74, 76, 32, 74, 71, 69, 32, 74, 76, 69, 32, 74, 71, 32, 84, 69, 83, 84, 32, 88, 67, 72, 71, 32, 77, 79, 86, 32, 76, 69, 65, 32, 67, 66, 87, 32, 67, 87, 68, 32, 67, 65, 76, 76, 32, 67, 65, 76, 76, 70, 32, 87, 65, 73, 84, 32, 80, 85, 83, 72, 70, 32, 80, 79, 80, 70, 32, 83, 65, 72, 70, 32, 76, 65, 72, 70, 32, 77, 79, 86, 83, 66, 32, 77, 79, 86, 83, 87, 32, 67, 77, 80, 83, 66, 32, 67, 77, 80, 83, 87, 32, 83, 84, 79, 83, 66, 32, 83, 84, 79, 83, 87, 32, 76, 79, 68, 83, 66, 32, 76, 79, 68, 83, 87, 32, 83, 67, 65, 83, 66, 32, 83, 67, 65, 83, 87, 32, 82, 69, 84, 32, 82, 69, 84, 70, 32, 76, 69, 83, 32, 76, 68, 83, 32, 73, 78, 84, 32, 73, 78, 84, 79, 32, 73, 82, 69, 84, 32, 82, 79, 76, 32, 82, 79, 82, 32, 82, 67, 76, 32, 82, 67, 82, 32, 83, 72, 76, 32, 83, 72, 82, 32, 83, 65, 82, 32, 65, 65, 77, 32, 65, 65, 68, 32, 88, 76, 65, 84, 32, 69, 83, 67, 32, 76, 79, 79, 80, 78, 90, 32, 76, 79, 79, 80, 90, 32, 76, 79, 79, 80, 32, 74, 67, 88, 90, 32, 73, 78, 32, 79, 85, 84, 32, 74, 77, 80, 32, 74, 77, 80, 70, 32, 72, 76, 84, 32, 67, 77, 67, 32, 78, 79, 84, 32, 78, 69, 71, 32, 77, 85, 76, 32, 73, 77, 85, 76, 32, 68, 73, 86, 32, 73, 68, 73, 86, 32, 67, 76, 67, 32, 83, 84, 67, 32, 67, 76, 73, 32, 83, 84, 73, 32, 67, 76, 68, 32, 83, 84, 68] : List UInt8) r_1 hr_1
 refine Rt (some 5) (.callf 40) [] none [.d (.str ([65, 68, 68, 32, 79, 82, 32, 65, 68, 67, 32, 83, 66, 66, 32, 65, 78, 68, 32, 83, 85, 66, 32, 88, 79, 82, 32, 67, 77, 80, 32, 80, 85, 83, 72, 32, 80, 79, 80, 32, 68, 65, 65, 32, 68, 65, 83, 32, 65, 65, 65, 32, 65, 65, 83, 32, 73, 78, 67, 32, 68, 69, 67, 32, 74, 79, 32, 74, 78, 79, 32, 74, 66, 32, 74, 78, 66, 32, 74, 90, 32, 74, 78, 90, 32, 74, 66, 69, 32, 74, 65, 32, 74, 83, 32, 74, 78, 83, 32, 74, 80, 32, 74, 78, 80, 32, 74, 76, 32, 74, 71, 69, 32, 74, 76, 69, 32, 74, 71, 32, 84, 69, 83, 84, 32, 88, 67, 72, 71, 32, 77, 79, 86, 32, 76, 69, 65, 32, 67, 66, 87, 32, 67, 87, 68, 32, 67, 65, 76, 76, 32, 67, 65, 76, 76, 70, 32, 87, 65, 73, 84, 32, 80, 85, 83, 72, 70, 32, 80, 79, 80, 70, 32, 83, 65, 72, 70, 32, 76, 65, 72, 70, 32, 77, 79, 86, 83, 66, 32, 77, 79, 86, 83, 87, 32, 67, 77, 80, 83, 66, 32, 67, 77, 80, 83, 87, 32, 83, 84, 79, 83, 66, 32, 83, 84, 79, 83, 87, 32, 76, 79, 68, 83, 66, 32, 76, 79, 68, 83, 87, 32, 83, 67, 65, 83, 66, 32, 83, 67, 65, 83, 87, 32, 82, 69, 84, 32, 82, 69, 84, 70, 32, 76, 69, 83, 32, 76, 68, 83, 32, 73, 78, 84, 32, 73, 78, 84, 79, 32, 73, 82, 69, 84, 32, 82, 79, 76, 32, 82, 79, 82, 32, 82, 67, 76, 32, 82, 67, 82, 32, 83, 72, 76, 32, 83, 72, 82, 32, 83, 65, 82, 32, 65, 65, 77, 32, 65, 65, 68, 32, 88, 76, 65, 84, 32, 69, 83, 67, 32, 76, 79, 79, 80, 78, 90, 32, 76, 79, 79, 80, 90, 32, 76, 79, 79, 80, 32, 74, 67, 88, 90, 32, 73, 78, 32, 79, 85, 84, 32, 74, 77, 80, 32, 74, 77, 80, 70, 32, 72, 76, 84, 32, 67, 77, 67, 32, 78, 79, 84, 32, 78, 69, 71, 32, 77, 85, 76, 32, 73, 77, 85, 76, 32, 68, 73, 86, 32, 73, 68, 73, 86, 32, 67, 76, 67, 32, 83, 84, 67, 32, 67, 76, 73, 32, 83, 84, 73, 32, 67, 76, 68, 32, 83, 84, 68] : List UInt8))] (.ref [5] 0 0 (List.map D.str r_1).length 1) [([5], some (.arr (List.map D.str r_1) 0 false))] (cut_call (call_of (ws := []) (us := []) (by kernel_rfl) (gives_cons (ws := []) (give_same (by kernel_rfl)) gives_nil) hc_1 (by kernel_rfl) (by kernel_rfl))) ?_
 refine Rt (some 6) .lenL [] none [.ref [5] 0 0 (List.map D.str r_1).length 1] (.i (r_1.length : Int)) [] (cut_lenR (e := D.str) r_1 rfl) <| Rc 1 [vi 0] <| Rk <| Runs.block ?_
 obtain ⟨e_1, he_1, h⟩ := bind_s h
 refine Runs.loop (fun x : Int => disp_Find_l6 s_ r_1 (r_1.length : Int) x) (fun (x : Int) (g : Unit) => disp_Find_h6 s_ r_1 (r_1.length : Int) x) (disp_Find_P6 s_ s_ r_1 (r_1.length : Int)) (fun x g r hr => disp_Find_l6_ok s_ s_ r_1 (r_1.length : Int) x  r hr) () he_1 (Canon.cons (frz_ref (e := D.str) (l := r_1) (id := [5]) (v := 0) (n := 1) (fz := false) (by kernel_rfl) (by kernel_rfl) rfl) Cz) ?_
 rintro ⟨o, s⟩ hp
 cases e_1 with
 | inl e_2 =>
  obtain ⟨ho, hf⟩ := hp
  have ho' : o = .ret := ho
  subst ho'
  refine kB_ret <| kS_ret ?_
  obtain rfl := sj h
  exact ⟨Out.ret_ne, hf⟩
 | inr e_3 =>
  obtain ⟨ho, g_1, hk_1⟩ := hp
  have ho' : o = .exit 0 := ho
  subst ho'
  refine kB_hit <| kS_nrm <| Runs.canon _ hk_1 <| Sq <| Ro <| Rc 1 [vi 0] <| Rk <| Runs.ret ?_
  cases h
  exact Fq
theorem disp_Find_L (s_ : (List UInt8)) (r : Int) (h : disp_Find s_ = some r) : L 16 [.d (.str s_)] = some (.i r, [.d (.str s_)]) := by
 obtain ⟨p, ⟨hne, hf⟩, hr⟩ := disp_Find_ok s_ r h
 obtain ⟨k, hk⟩ := run_of (F := F16) (args := [.d (.str s_)]) (ap := [.d (.str s_)]) (bx0 := updW (fun _ => none) []) rfl rfl (by kernel_rfl) ⟨p, ⟨hne, hf⟩, hr⟩
 exact lim_run (k := k) rfl hk
def pick_Find_Q (s_ : (List UInt8)) (r : (Int × Int)) (p : Out × St) : Prop := (∀ i, p.1 ≠ .exit i) ∧ finF F13 [.d (.str s_)] p.2 = some (.tup [.i r.1, .i r.2], [.d (.str s_)])
theorem pick_Find_ok (s_ : (List UInt8)) (r : (Int × Int)) (h : pick_Find s_ = some r) : Runs L F13.body ⟨tmOf [.d (.str s_)] 0, updW (fun _ => none) []⟩ (pick_Find_Q s_ r) := by
 unfold pick_Find at h
 refine Sq <| Ro <| Rc 2 [vi 0, vi 0] <| Rk <| Sq <| Ro <| Rc 1 [⟨.d (.str s_), []⟩] ?_
 obtain ⟨r_1, hr_1, h⟩ := bind_s h
 have hc_1 := pick_alias_L s_ r_1 hr_1
 refine Rt (some 6) (.callf 37) [] none [.d (.str s_)] (.d (.str r_1)) [] (cc hc_1) ?_
 obtain ⟨r_2, hr_2, h⟩ := bind_s h
 have hc_2 := disp_Find_L r_1 r_2 hr_2
 refine Rt (some 7) (.callf 16) [] none [.d (.str r_1)] (.i r_2) [] (cc hc_2) <| Rc 1 [vi r_2] <| Rk <| Sq <| Sq <| Ro <| Rc 1 [vi r_2] <| Rk <| Runs.block <| Sq <| Ro <| Rc 2 [vb (r_2 == 80), vb (r_2 == 80)] <| Rk ?_
 cases hb_1 : ((r_2 == 80) : Bool) with
 | true =>
  replace h := ite_t hb_1 h
  refine Ct <| Sq <| Ro <| Rc 3 [vi r_2, vi r_2, vi 81] <| Rk <| Runs.ret <| kB_ret <| kS_ret ?_
  cases h
  exact Fq
 | false =>
  replace h := ite_f hb_1 h
  refine Cf <| Sq <| Ro <| Rc 2 [vb (r_2 == 39), vb (r_2 == 39)] <| Rk ?_
  cases hb_2 : ((r_2 == 39) : Bool) with
  | true =>
   replace h := ite_t hb_2 h
   refine Ct <| Sq <| Ro <| Rc 3 [vi r_2, vi r_2, vi 40] <| Rk <| Runs.ret <| kB_ret <| kS_ret ?_
   cases h
   exact Fq
  | false =>
   replace h := ite_f hb_2 h
   refine Cf <| Runs.skip <| kB_nrm <| kS_nrm <| Sq <| Ro <| Rc 3 [vi r_2, vi r_2, vi 0] <| Rk <| Runs.ret ?_
   cases h
   exact Fq
theorem pick_Find_L (s_ : (List UInt8)) (r : (Int × Int)) (h : pick_Find s_ = some r) : L 13 [.d (.str s_)] = some (.tup [.i r.1, .i r.2], [.d (.str s_)]) := by
 obtain ⟨p, ⟨hne, hf⟩, hr⟩ := pick_Find_ok s_ r h
 obtain ⟨k, hk⟩ := run_of (F := F13) (args := [.d (.str s_)]) (ap := [.d (.str s_)]) (bx0 := updW (fun _ => none) []) rfl rfl (by kernel_rfl) ⟨p, ⟨hne, hf⟩, hr⟩
 exact lim_run (k := k) rfl hk
def isa_Grouped_Q (op_ : Int) (r : Bool) (p : Out × St) : Prop := (∀ i, p.1 ≠ .exit i) ∧ finF F25 [.y op_] p.2 = some (.b r, [.y op_])
theorem isa_Grouped_ok (op_ : Int) (r : Bool) (h : isa_Grouped op_ = some r) : Runs L F25.body ⟨tmOf [.y op_] 0, updW (fun _ => none) []⟩ (isa_Grouped_Q op_ r) := by
 unfold isa_Grouped at h
 refine Sq <| Ro <| Rc 1 [vb false] <| Rk <| Sq <| Sq <| Ro <| Rc 1 [vy op_] <| Rk <| Runs.block <| Sq <| Sq <| Ro <| Rc 2 [vb (op_ == 128), vb (op_ == 128)] <| Rk ?_
 cases hb_1 : ((op_ == 128) : Bool) with
 | true =>
  replace h := ite_t hb_1 h
  refine Ct <| Runs.skip <| kS_nrm <| Ct <| Sq <| Ro <| Rc 1 [vb true] <| Rk <| Runs.ret <| kB_ret <| kS_ret ?_
  cases h
  exact Fq
 | false =>
  replace h := ite_f hb_1 h
  refine Cf <| Sq <| Ro <| Rc 2 [vb (op_ == 129), vb (op_ == 129)] <| Rk ?_
  cases hb_2 : ((op_ == 129) : Bool) with
  | true =>
   replace h := ite_t hb_2 h
   refine Ct <| Runs.skip <| kS_nrm <| Ct <| Sq <| Ro <| Rc 1 [vb true] <| Rk <| Runs.ret <| kB_ret <| kS_ret ?_
   cases h
   exact Fq
  | false =>
   replace h := ite_f hb_2 h
   refine Cf <| Sq <| Ro <| Rc 2 [vb (op_ == 131), vb (op_ == 131)] <| Rk ?_
   cases hb_3 : ((op_ == 131) : Bool) with
   | true =>
    replace h := ite_t hb_3 h
    refine Ct <| Runs.skip <| kS_nrm <| Ct <| Sq <| Ro <| Rc 1 [vb true] <| Rk <| Runs.ret <| kB_ret <| kS_ret ?_
    cases h
    exact Fq
   | false =>
    replace h := ite_f hb_3 h
    refine Cf <| Sq <| Ro <| Rc 2 [vb (op_ == 143), vb (op_ == 143)] <| Rk ?_
    cases hb_4 : ((op_ == 143) : Bool) with
    | true =>
     replace h := ite_t hb_4 h
     refine Ct <| Runs.skip <| kS_nrm <| Ct <| Sq <| Ro <| Rc 1 [vb true] <| Rk <| Runs.ret <| kB_ret <| kS_ret ?_
     cases h
     exact Fq
    | false =>
     replace h := ite_f hb_4 h
     refine Cf <| Sq <| Ro <| Rc 2 [vb (op_ == 198), vb (op_ == 198)] <| Rk ?_
     cases hb_5 : ((op_ == 198) : Bool) with
     | true =>
      replace h := ite_t hb_5 h
      refine Ct <| Runs.skip <| kS_nrm <| Ct <| Sq <| Ro <| Rc 1 [vb true] <| Rk <| Runs.ret <| kB_ret <| kS_ret ?_
      cases h
      exact Fq
     | false =>
      replace h := ite_f hb_5 h
      refine Cf <| Sq <| Ro <| Rc 2 [vb (op_ == 199), vb (op_ == 199)] <| Rk ?_
      cases hb_6 : ((op_ == 199) : Bool) with
      | true =>
       replace h := ite_t hb_6 h
       refine Ct <| Runs.skip <| kS_nrm <| Ct <| Sq <| Ro <| Rc 1 [vb true] <| Rk <| Runs.ret <| kB_ret <| kS_ret ?_
       cases h
       exact Fq
      | false =>
       replace h := ite_f hb_6 h
       refine Cf <| Sq <| Ro <| Rc 2 [vb (op_ == 208), vb (op_ == 208)] <| Rk ?_
       cases hb_7 : ((op_ == 208) : Bool) with
       | true =>
        replace h := ite_t hb_7 h
        refine Ct <| Runs.skip <| kS_nrm <| Ct <| Sq <| Ro <| Rc 1 [vb true] <| Rk <| Runs.ret <| kB_ret <| kS_ret ?_
        cases h
        exact Fq
       | false =>
        replace h := ite_f hb_7 h
        refine Cf <| Sq <| Ro <| Rc 2 [vb (op_ == 209), vb (op_ == 209)] <| Rk ?_
        cases hb_8 : ((op_ == 209) : Bool) with
        | true =>
         replace h := ite_t hb_8 h
         refine Ct <| Runs.skip <| kS_nrm <| Ct <| Sq <| Ro <| Rc 1 [vb true] <| Rk <| Runs.ret <| kB_ret <| kS_ret ?_
         cases h
         exact Fq
        | false =>
         replace h := ite_f hb_8 h
         refine Cf <| Sq <| Ro <| Rc 2 [vb (op_ == 210), vb (op_ == 210)] <| Rk ?_
         cases hb_9 : ((op_ == 210) : Bool) with
         | true =>
          replace h := ite_t hb_9 h
          refine Ct <| Runs.skip <| kS_nrm <| Ct <| Sq <| Ro <| Rc 1 [vb true] <| Rk <| Runs.ret <| kB_ret <| kS_ret ?_
          cases h
          exact Fq
         | false =>
          replace h := ite_f hb_9 h
          refine Cf <| Sq <| Ro <| Rc 2 [vb (op_ == 211), vb (op_ == 211)] <| Rk ?_
          cases hb_10 : ((op_ == 211) : Bool) with
          | true =>
           replace h := ite_t hb_10 h
           refine Ct <| Runs.skip <| kS_nrm <| Ct <| Sq <| Ro <| Rc 1 [vb true] <| Rk <| Runs.ret <| kB_ret <| kS_ret ?_
           cases h
           exact Fq
          | false =>
           replace h := ite_f hb_10 h
           refine Cf <| Sq <| Ro <| Rc 2 [vb (op_ == 246), vb (op_ == 246)] <| Rk ?_
           cases hb_11 : ((op_ == 246) : Bool) with
           | true =>
            replace h := ite_t hb_11 h
            refine Ct <| Runs.skip <| kS_nrm <| Ct <| Sq <| Ro <| Rc 1 [vb true] <| Rk <| Runs.ret <| kB_ret <| kS_ret ?_
            cases h
            exact Fq
           | false =>
            replace h := ite_f hb_11 h
            refine Cf <| Sq <| Ro <| Rc 2 [vb (op_ == 247), vb (op_ == 247)] <| Rk ?_
            cases hb_12 : ((op_ == 247) : Bool) with
            | true =>
             replace h := ite_t hb_12 h
             refine Ct <| Runs.skip <| kS_nrm <| Ct <| Sq <| Ro <| Rc 1 [vb true] <| Rk <| Runs.ret <| kB_ret <| kS_ret ?_
             cases h
             exact Fq
            | false =>
             replace h := ite_f hb_12 h
             refine Cf <| Sq <| Ro <| Rc 2 [vb (op_ == 254), vb (op_ == 254)] <| Rk ?_
             cases hb_13 : ((op_ == 254) : Bool) with
             | true =>
              replace h := ite_t hb_13 h
              refine Ct <| Runs.skip <| kS_nrm <| Ct <| Sq <| Ro <| Rc 1 [vb true] <| Rk <| Runs.ret <| kB_ret <| kS_ret ?_
              cases h
              exact Fq
             | false =>
              replace h := ite_f hb_13 h
              refine Cf <| Ro <| Rc 2 [vb (op_ == 255), vb (op_ == 255)] <| Rk ?_
              cases hb_14 : ((op_ == 255) : Bool) with
              | true =>
               replace h := ite_t hb_14 h
               refine Ct <| Sq <| Ro <| Rc 1 [vb true] <| Rk <| Runs.ret <| kB_ret <| kS_ret ?_
               cases h
               exact Fq
              | false =>
               replace h := ite_f hb_14 h
               refine Cf <| Runs.skip <| kB_nrm <| kS_nrm <| Sq <| Ro <| Rc 1 [vb false] <| Rk <| Runs.ret ?_
               cases h
               exact Fq
theorem isa_Grouped_L (op_ : Int) (r : Bool) (h : isa_Grouped op_ = some r) : L 25 [.y op_] = some (.b r, [.y op_]) := by
 obtain ⟨p, ⟨hne, hf⟩, hr⟩ := isa_Grouped_ok op_ r h
 obtain ⟨k, hk⟩ := run_of (F := F25) (args := [.y op_]) (ap := [.y op_]) (bx0 := updW (fun _ => none) []) rfl rfl (by kernel_rfl) ⟨p, ⟨hne, hf⟩, hr⟩
 exact lim_run (k := k) rfl hk
def isa_Prefix_Q (b_ : Int) (r : Bool) (p : Out × St) : Prop := (∀ i, p.1 ≠ .exit i) ∧ finF F26 [.y b_] p.2 = some (.b r, [.y b_])
theorem isa_Prefix_ok (b_ : Int) (r : Bool) (h : isa_Prefix b_ = some r) : Runs L F26.body ⟨tmOf [.y b_] 0, updW (fun _ => none) []⟩ (isa_Prefix_Q b_ r) := by
 unfold isa_Prefix at h
 refine Sq <| Ro <| Rc 1 [vb false] <| Rk <| Sq <| Sq <| Ro <| Rc 1 [vy b_] <| Rk <| Runs.block <| Sq <| Sq <| Ro <| Rc 2 [vb (b_ == 38), vb (b_ == 38)] <| Rk ?_
 cases hb_1 : ((b_ == 38) : Bool) with
 | true =>
  replace h := ite_t hb_1 h
  refine Ct <| Runs.skip <| kS_nrm <| Ct <| Sq <| Ro <| Rc 1 [vb true] <| Rk <| Runs.ret <| kB_ret <| kS_ret ?_
  cases h
  exact Fq
 | false =>
  replace h := ite_f hb_1 h
  refine Cf <| Sq <| Ro <| Rc 2 [vb (b_ == 46), vb (b_ == 46)] <| Rk ?_
  cases hb_2 : ((b_ == 46) : Bool) with
  | true =>
   replace h := ite_t hb_2 h
   refine Ct <| Runs.skip <| kS_nrm <| Ct <| Sq <| Ro <| Rc 1 [vb true] <| Rk <| Runs.ret <| kB_ret <| kS_ret ?_
   cases h
   exact Fq
  | false =>
   replace h := ite_f hb_2 h
   refine Cf <| Sq <| Ro <| Rc 2 [vb (b_ == 54), vb (b_ == 54)] <| Rk ?_
   cases hb_3 : ((b_ == 54) : Bool) with
   | true =>
    replace h := ite_t hb_3 h
    refine Ct <| Runs.skip <| kS_nrm <| Ct <| Sq <| Ro <| Rc 1 [vb true] <| Rk <| Runs.ret <| kB_ret <| kS_ret ?_
    cases h
    exact Fq
   | false =>
    replace h := ite_f hb_3 h
    refine Cf <| Sq <| Ro <| Rc 2 [vb (b_ == 62), vb (b_ == 62)] <| Rk ?_
    cases hb_4 : ((b_ == 62) : Bool) with
    | true =>
     replace h := ite_t hb_4 h
     refine Ct <| Runs.skip <| kS_nrm <| Ct <| Sq <| Ro <| Rc 1 [vb true] <| Rk <| Runs.ret <| kB_ret <| kS_ret ?_
     cases h
     exact Fq
    | false =>
     replace h := ite_f hb_4 h
     refine Cf <| Sq <| Ro <| Rc 2 [vb (b_ == 240), vb (b_ == 240)] <| Rk ?_
     cases hb_5 : ((b_ == 240) : Bool) with
     | true =>
      replace h := ite_t hb_5 h
      refine Ct <| Runs.skip <| kS_nrm <| Ct <| Sq <| Ro <| Rc 1 [vb true] <| Rk <| Runs.ret <| kB_ret <| kS_ret ?_
      cases h
      exact Fq
     | false =>
      replace h := ite_f hb_5 h
      refine Cf <| Sq <| Ro <| Rc 2 [vb (b_ == 242), vb (b_ == 242)] <| Rk ?_
      cases hb_6 : ((b_ == 242) : Bool) with
      | true =>
       replace h := ite_t hb_6 h
       refine Ct <| Runs.skip <| kS_nrm <| Ct <| Sq <| Ro <| Rc 1 [vb true] <| Rk <| Runs.ret <| kB_ret <| kS_ret ?_
       cases h
       exact Fq
      | false =>
       replace h := ite_f hb_6 h
       refine Cf <| Ro <| Rc 2 [vb (b_ == 243), vb (b_ == 243)] <| Rk ?_
       cases hb_7 : ((b_ == 243) : Bool) with
       | true =>
        replace h := ite_t hb_7 h
        refine Ct <| Sq <| Ro <| Rc 1 [vb true] <| Rk <| Runs.ret <| kB_ret <| kS_ret ?_
        cases h
        exact Fq
       | false =>
        replace h := ite_f hb_7 h
        refine Cf <| Runs.skip <| kB_nrm <| kS_nrm <| Sq <| Ro <| Rc 1 [vb false] <| Rk <| Runs.ret ?_
        cases h
        exact Fq
theorem isa_Prefix_L (b_ : Int) (r : Bool) (h : isa_Prefix b_ = some r) : L 26 [.y b_] = some (.b r, [.y b_]) := by
 obtain ⟨p, ⟨hne, hf⟩, hr⟩ := isa_Prefix_ok b_ r h
 obtain ⟨k, hk⟩ := run_of (F := F26) (args := [.y b_]) (ap := [.y b_]) (bx0 := updW (fun _ => none) []) rfl rfl (by kernel_rfl) ⟨p, ⟨hne, hf⟩, hr⟩
 exact lim_run (k := k) rfl hk
def isa_mod_Q (name_ : Int) (a_ : Int) (b_ : Int) (r : (Row × Bool)) (p : Out × St) : Prop := (∀ i, p.1 ≠ .exit i) ∧ finF F73 [.i name_, .i a_, .i b_] p.2 = some (.tup [.d (Row.d r.1), .b r.2], [.i name_, .i a_, .i b_])
theorem isa_mod_ok (name_ : Int) (a_ : Int) (b_ : Int) (r : (Row × Bool)) (h : isa_mod name_ a_ b_ = some r) : Runs L F73.body ⟨tmOf [.i name_, .i a_, .i b_] 0, updW (fun _ => none) []⟩ (isa_mod_Q name_ a_ b_ r) := by
 unfold isa_mod at h
 refine Sq <| Ro <| Rc 2 [⟨.ptr [6] 0 0, [([6], some (.cells [.i 0, .i 0, .i 0, .b false] 0))]⟩, vb false] <| Rk <| Sq <| Ro <| Rc 6 [vi name_, vi a_, vi b_, ⟨.d (.agg [.int .i64 name_, .int .i64 a_, .int .i64 b_, .bool true]), []⟩, ⟨.tup [], [([6], some (.cells [.i name_, .i a_, .i b_, .b true] 0))]⟩, vb true] <| Rk <| Runs.ret ?_
 cases h
 exact Fq
theorem isa_mod_L (name_ : Int) (a_ : Int) (b_ : Int) (r : (Row × Bool)) (h : isa_mod name_ a_ b_ = some r) : L 73 [.i name_, .i a_, .i b_] = some (.tup [.d (Row.d r.1), .b r.2], [.i name_, .i a_, .i b_]) := by
 obtain ⟨p, ⟨hne, hf⟩, hr⟩ := isa_mod_ok name_ a_ b_ r h
 obtain ⟨k, hk⟩ := run_of (F := F73) (args := [.i name_, .i a_, .i b_]) (ap := [.i name_, .i a_, .i b_]) (bx0 := updW (fun _ => none) []) rfl rfl (by kernel_rfl) ⟨p, ⟨hne, hf⟩, hr⟩
 exact lim_run (k := k) rfl hk
def isa_row_Q (name_ : Int) (a_ : Int) (b_ : Int) (r : (Row × Bool)) (p : Out × St) : Prop := (∀ i, p.1 ≠ .exit i) ∧ finF F47 [.i name_, .i a_, .i b_] p.2 = some (.tup [.d (Row.d r.1), .b r.2], [.i name_, .i a_, .i b_])
theorem isa_row_ok (name_ : Int) (a_ : Int) (b_ : Int) (r : (Row × Bool)) (h : isa_row name_ a_ b_ = some r) : Runs L F47.body ⟨tmOf [.i name_, .i a_, .i b_] 0, updW (fun _ => none) []⟩ (isa_row_Q name_ a_ b_ r) := by
 unfold isa_row at h
 refine Sq <| Ro <| Rc 2 [⟨.ptr [6] 0 0, [([6], some (.cells [.i 0, .i 0, .i 0, .b false] 0))]⟩, vb false] <| Rk <| Sq <| Ro <| Rc 6 [vi name_, vi a_, vi b_, ⟨.d (.agg [.int .i64 name_, .int .i64 a_, .int .i64 b_, .bool false]), []⟩, ⟨.tup [], [([6], some (.cells [.i name_, .i a_, .i b_, .b false] 0))]⟩, vb true] <| Rk <| Runs.ret ?_
 cases h
 exact Fq
theorem isa_row_L (name_ : Int) (a_ : Int) (b_ : Int) (r : (Row × Bool)) (h : isa_row name_ a_ b_ = some r) : L 47 [.i name_, .i a_, .i b_] = some (.tup [.d (Row.d r.1), .b r.2], [.i name_, .i a_, .i b_]) := by
 obtain ⟨p, ⟨hne, hf⟩, hr⟩ := isa_row_ok name_ a_ b_ r h
 obtain ⟨k, hk⟩ := run_of (F := F47) (args := [.i name_, .i a_, .i b_]) (ap := [.i name_, .i a_, .i b_]) (bx0 := updW (fun _ => none) []) rfl rfl (by kernel_rfl) ⟨p, ⟨hne, hf⟩, hr⟩
 exact lim_run (k := k) rfl hk
def isa_bad_Q  (r : (Row × Bool)) (p : Out × St) : Prop := (∀ i, p.1 ≠ .exit i) ∧ finF F48 [] p.2 = some (.tup [.d (Row.d r.1), .b r.2], [])
theorem isa_bad_ok  (r : (Row × Bool)) (h : isa_bad = some r) : Runs L F48.body ⟨tmOf [] 0, updW (fun _ => none) []⟩ (isa_bad_Q  r) := by
 unfold isa_bad at h
 refine Sq <| Ro <| Rc 2 [⟨.ptr [0] 0 0, [([0], some (.cells [.i 0, .i 0, .i 0, .b false] 0))]⟩, vb false] <| Rk <| Sq <| Ro <| Rc 3 [⟨.d (.agg [.int .i64 0, .int .i64 0, .int .i64 0, .bool false]), []⟩, ⟨.tup [], [([0], some (.cells [.i 0, .i 0, .i 0, .b false] 0))]⟩, vb false] <| Rk <| Runs.ret ?_
 cases h
 exact Fq
theorem isa_bad_L  (r : (Row × Bool)) (h : isa_bad = some r) : L 48 [] = some (.tup [.d (Row.d r.1), .b r.2], []) := by
 obtain ⟨p, ⟨hne, hf⟩, hr⟩ := isa_bad_ok  r h
 obtain ⟨k, hk⟩ := run_of (F := F48) (args := []) (ap := []) (bx0 := updW (fun _ => none) []) rfl rfl (by kernel_rfl) ⟨p, ⟨hne, hf⟩, hr⟩
 exact lim_run (k := k) rfl hk
def isa_sums_h63 (b_2 : Row) (t47 : Int) (t48 : Bool) : St := ⟨tab [(2, .ptr [2] 0 0), (47, .y t47), (48, .b t48)], tabB [([2], some (.cells [.i b_2.Name, .i b_2.A, .i b_2.B, .b b_2.Mod] 0))]⟩
def isa_sums_h77 (b_2 : Row) (t47 : Int) (t56 : Bool) : St := ⟨tab [(2, .ptr [2] 0 0), (47, .y t47), (56, .b t56)], tabB [([2], some (.cells [.i b_2.Name, .i b_2.A, .i b_2.B, .b b_2.Mod] 0))]⟩
def isa_sums_Q (op_ : Int) (r : (Row × Bool)) (p : Out × St) : Prop := (∀ i, p.1 ≠ .exit i) ∧ finF F46 [.y op_] p.2 = some (.tup [.d (Row.d r.1), .b r.2], [.y op_])
theorem isa_sums_j77_ok (op_ : Int) (b_2 : Row) (t47 : Int) (t56 : Bool) (r : (Row × Bool)) (h : isa_sums_j77 b_2 t47 t56 = some r) : Runs L F46b77 (isa_sums_h77 b_2 t47 t56) (kB 1 (kS L F46c106 (isa_sums_Q op_ r))) := by
 unfold isa_sums_j77 at h
 cases hb_10 : (t56 : Bool) with
 | true =>
  replace h := ite_t hb_10 h
  refine Ct <| Sq <| Ro ?_
  obtain ⟨r_8, hr_8, h⟩ := bind_s h
  have hc_8 := isa_row_L 10 23 0 r_8 hr_8
  refine Rt (some 60) (.callf 47) [] none [.i 10, .i 23, .i 0] (.tup [.d (Row.d r_8.1), .b r_8.2]) [] (cc hc_8) <| Rc 4 [⟨.d (Row.d r_8.1), []⟩, vb r_8.2, ⟨.tup [], [([2], some (.cells [.i r_8.1.Name, .i r_8.1.A, .i r_8.1.B, .b r_8.1.Mod] 0))]⟩, vb r_8.2] <| Rk <| Runs.ret <| kB_ret <| kS_ret ?_
  cases h
  exact Fq
 | false =>
  replace h := ite_f hb_10 h
  refine Cf <| Sq <| Ro <| Rc 2 [vb (t47 == 39), vb (t47 == 39)] <| Rk ?_
  cases hb_11 : ((t47 == 39) : Bool) with
  | true =>
   replace h := ite_t hb_11 h
   refine Ct <| Sq <| Ro ?_
   obtain ⟨r_9, hr_9, h⟩ := bind_s h
   have hc_9 := isa_row_L 11 0 0 r_9 hr_9
   refine Rt (some 65) (.callf 47) [] none [.i 11, .i 0, .i 0] (.tup [.d (Row.d r_9.1), .b r_9.2]) [] (cc hc_9) <| Rc 4 [⟨.d (Row.d r_9.1), []⟩, vb r_9.2, ⟨.tup [], [([2], some (.cells [.i r_9.1.Name, .i r_9.1.A, .i r_9.1.B, .b r_9.1.Mod] 0))]⟩, vb r_9.2] <| Rk <| Runs.ret <| kB_ret <| kS_ret ?_
   cases h
   exact Fq
  | false =>
   replace h := ite_f hb_11 h
   refine Cf <| Sq <| Ro <| Rc 2 [vb (t47 == 47), vb (t47 == 47)] <| Rk ?_
   cases hb_12 : ((t47 == 47) : Bool) with
   | true =>
    replace h := ite_t hb_12 h
    refine Ct <| Sq <| Ro ?_
    obtain ⟨r_10, hr_10, h⟩ := bind_s h
    have hc_10 := isa_row_L 12 0 0 r_10 hr_10
    refine Rt (some 70) (.callf 47) [] none [.i 12, .i 0, .i 0] (.tup [.d (Row.d r_10.1), .b r_10.2]) [] (cc hc_10) <| Rc 4 [⟨.d (Row.d r_10.1), []⟩, vb r_10.2, ⟨.tup [], [([2], some (.cells [.i r_10.1.Name, .i r_10.1.A, .i r_10.1.B, .b r_10.1.Mod] 0))]⟩, vb r_10.2] <| Rk <| Runs.ret <| kB_ret <| kS_ret ?_
    cases h
    exact Fq
   | false =>
    replace h := ite_f hb_12 h
    refine Cf <| Sq <| Ro <| Rc 2 [vb (t47 == 55), vb (t47 == 55)] <| Rk ?_
    cases hb_13 : ((t47 == 55) : Bool) with
    | true =>
     replace h := ite_t hb_13 h
     refine Ct <| Sq <| Ro ?_
     obtain ⟨r_11, hr_11, h⟩ := bind_s h
     have hc_11 := isa_row_L 13 0 0 r_11 hr_11
     refine Rt (some 75) (.callf 47) [] none [.i 13, .i 0, .i 0] (.tup [.d (Row.d r_11.1), .b r_11.2]) [] (cc hc_11) <| Rc 4 [⟨.d (Row.d r_11.1), []⟩, vb r_11.2, ⟨.tup [], [([2], some (.cells [.i r_11.1.Name, .i r_11.1.A, .i r_11.1.B, .b r_11.1.Mod] 0))]⟩, vb r_11.2] <| Rk <| Runs.ret <| kB_ret <| kS_ret ?_
     cases h
     exact Fq
    | false =>
     replace h := ite_f hb_13 h
     refine Cf <| Sq <| Ro <| Rc 2 [vb (t47 == 63), vb (t47 == 63)] <| Rk ?_
     cases hb_14 : ((t47 == 63) : Bool) with
     | true =>
      replace h := ite_t hb_14 h
      refine Ct <| Sq <| Ro ?_
      obtain ⟨r_12, hr_12, h⟩ := bind_s h
      have hc_12 := isa_row_L 14 0 0 r_12 hr_12
      refine Rt (some 80) (.callf 47) [] none [.i 14, .i 0, .i 0] (.tup [.d (Row.d r_12.1), .b r_12.2]) [] (cc hc_12) <| Rc 4 [⟨.d (Row.d r_12.1), []⟩, vb r_12.2, ⟨.tup [], [([2], some (.cells [.i r_12.1.Name, .i r_12.1.A, .i r_12.1.B, .b r_12.1.Mod] 0))]⟩, vb r_12.2] <| Rk <| Runs.ret <| kB_ret <| kS_ret ?_
      cases h
      exact Fq
     | false =>
      replace h := ite_f hb_14 h
      refine Cf <| Runs.skip <| kB_nrm <| kS_nrm <| Sq <| Ro ?_
      obtain ⟨r_13, hr_13, h⟩ := bind_s h
      have hc_13 := isa_bad_L r_13 hr_13
      refine Rt (some 83) (.callf 48) [] none [] (.tup [.d (Row.d r_13.1), .b r_13.2]) [] (cc hc_13) <| Rc 4 [⟨.d (Row.d r_13.1), []⟩, vb r_13.2, ⟨.tup [], [([2], some (.cells [.i r_13.1.Name, .i r_13.1.A, .i r_13.1.B, .b r_13.1.Mod] 0))]⟩, vb r_13.2] <| Rk <| Runs.ret ?_
      cases h
      exact Fq
theorem isa_sums_j63_ok (op_ : Int) (b_2 : Row) (t47 : Int) (t48 : Bool) (r : (Row × Bool)) (h : isa_sums_j63 b_2 t47 t48 = some r) : Runs L F46b63 (isa_sums_h63 b_2 t47 t48) (kB 1 (kS L F46c106 (isa_sums_Q op_ r))) := by
 unfold isa_sums_j63 at h
 cases hb_8 : (t48 : Bool) with
 | true =>
  replace h := ite_t hb_8 h
  refine Ct <| Sq <| Ro ?_
  obtain ⟨r_7, hr_7, h⟩ := bind_s h
  have hc_7 := isa_row_L 9 23 0 r_7 hr_7
  refine Rt (some 53) (.callf 47) [] none [.i 9, .i 23, .i 0] (.tup [.d (Row.d r_7.1), .b r_7.2]) [] (cc hc_7) <| Rc 4 [⟨.d (Row.d r_7.1), []⟩, vb r_7.2, ⟨.tup [], [([2], some (.cells [.i r_7.1.Name, .i r_7.1.A, .i r_7.1.B, .b r_7.1.Mod] 0))]⟩, vb r_7.2] <| Rk <| Runs.ret <| kB_ret <| kS_ret ?_
  cases h
  exact Fq
 | false =>
  replace h := ite_f hb_8 h
  refine Cf <| Sq <| Sq <| Ro <| Rc 2 [vb (t47 == 7), vb (t47 == 7)] <| Rk ?_
  cases hb_9 : ((t47 == 7) : Bool) with
  | true =>
   replace h := ite_t hb_9 h
   refine Ct <| Runs.skip <| kS_nrm <| Runs.canon (isa_sums_h77 b_2 t47 true) Cz ?_
   exact isa_sums_j77_ok op_ b_2 t47 true r h
  | false =>
   replace h := ite_f hb_9 h
   refine Cf <| Sq <| Ro <| Rc 2 [vb (t47 == 23), vb (t47 == 23)] <| Rk ?_
   cases hb_15 : ((t47 == 23) : Bool) with
   | true =>
    replace h := ite_t hb_15 h
    refine Ct <| Runs.skip <| kS_nrm <| Runs.canon (isa_sums_h77 b_2 t47 true) Cz ?_
    exact isa_sums_j77_ok op_ b_2 t47 true r h
   | false =>
    replace h := ite_f hb_15 h
    refine Cf <| Ro <| Rc 2 [vb (t47 == 31), vb (t47 == 31)] <| Rk <| Runs.canon (isa_sums_h77 b_2 t47 (t47 == 31)) Cz ?_
    exact isa_sums_j77_ok op_ b_2 t47 (t47 == 31) r h
theorem isa_sums_ok (op_ : Int) (r : (Row × Bool)) (h : isa_sums op_ = some r) : Runs L F46.body ⟨tmOf [.y op_] 0, updW (fun _ => none) []⟩ (isa_sums_Q op_ r) := by
 unfold isa_sums at h
 refine Sq <| Ro <| Rc 2 [⟨.ptr [2] 0 0, [([2], some (.cells [.i 0, .i 0, .i 0, .b false] 0))]⟩, vb false] <| Rk <| Sq <| Ro <| Rc 5 [vy op_, vy (shrI .u8 op_ 3), vi (IntKind.wrap .i64 (shrI .u8 op_ 3)), vi (IntKind.wrap .i64 (1 + (IntKind.wrap .i64 (shrI .u8 op_ 3)))), vi (IntKind.wrap .i64 (1 + (IntKind.wrap .i64 (shrI .u8 op_ 3))))] <| Rk <| Sq <| Sq <| Ro <| Rc 2 [vy op_, vy (bitsOp .and .u8 op_ 7)] <| Rk <| Runs.block <| Sq <| Ro <| Rc 2 [vb ((bitsOp .and .u8 op_ 7) == 0), vb ((bitsOp .and .u8 op_ 7) == 0)] <| Rk ?_
 cases hb_1 : (((bitsOp .and .u8 op_ 7) == 0) : Bool) with
 | true =>
  replace h := ite_t hb_1 h
  refine Ct <| Sq <| Ro <| Rc 1 [vi (IntKind.wrap .i64 (1 + (IntKind.wrap .i64 (shrI .u8 op_ 3))))] ?_
  obtain ⟨r_1, hr_1, h⟩ := bind_s h
  have hc_1 := isa_mod_L (IntKind.wrap .i64 (1 + (IntKind.wrap .i64 (shrI .u8 op_ 3)))) 1 3 r_1 hr_1
  refine Rt (some 14) (.callf 73) [] none [.i (IntKind.wrap .i64 (1 + (IntKind.wrap .i64 (shrI .u8 op_ 3)))), .i 1, .i 3] (.tup [.d (Row.d r_1.1), .b r_1.2]) [] (cc hc_1) <| Rc 4 [⟨.d (Row.d r_1.1), []⟩, vb r_1.2, ⟨.tup [], [([2], some (.cells [.i r_1.1.Name, .i r_1.1.A, .i r_1.1.B, .b r_1.1.Mod] 0))]⟩, vb r_1.2] <| Rk <| Runs.ret <| kB_ret <| kS_ret ?_
  cases h
  exact Fq
 | false =>
  replace h := ite_f hb_1 h
  refine Cf <| Sq <| Ro <| Rc 2 [vb ((bitsOp .and .u8 op_ 7) == 1), vb ((bitsOp .and .u8 op_ 7) == 1)] <| Rk ?_
  cases hb_2 : (((bitsOp .and .u8 op_ 7) == 1) : Bool) with
  | true =>
   replace h := ite_t hb_2 h
   refine Ct <| Sq <| Ro <| Rc 1 [vi (IntKind.wrap .i64 (1 + (IntKind.wrap .i64 (shrI .u8 op_ 3))))] ?_
   obtain ⟨r_2, hr_2, h⟩ := bind_s h
   have hc_2 := isa_mod_L (IntKind.wrap .i64 (1 + (IntKind.wrap .i64 (shrI .u8 op_ 3)))) 2 4 r_2 hr_2
   refine Rt (some 20) (.callf 73) [] none [.i (IntKind.wrap .i64 (1 + (IntKind.wrap .i64 (shrI .u8 op_ 3)))), .i 2, .i 4] (.tup [.d (Row.d r_2.1), .b r_2.2]) [] (cc hc_2) <| Rc 4 [⟨.d (Row.d r_2.1), []⟩, vb r_2.2, ⟨.tup [], [([2], some (.cells [.i r_2.1.Name, .i r_2.1.A, .i r_2.1.B, .b r_2.1.Mod] 0))]⟩, vb r_2.2] <| Rk <| Runs.ret <| kB_ret <| kS_ret ?_
   cases h
   exact Fq
  | false =>
   replace h := ite_f hb_2 h
   refine Cf <| Sq <| Ro <| Rc 2 [vb ((bitsOp .and .u8 op_ 7) == 2), vb ((bitsOp .and .u8 op_ 7) == 2)] <| Rk ?_
   cases hb_3 : (((bitsOp .and .u8 op_ 7) == 2) : Bool) with
   | true =>
    replace h := ite_t hb_3 h
    refine Ct <| Sq <| Ro <| Rc 1 [vi (IntKind.wrap .i64 (1 + (IntKind.wrap .i64 (shrI .u8 op_ 3))))] ?_
    obtain ⟨r_3, hr_3, h⟩ := bind_s h
    have hc_3 := isa_mod_L (IntKind.wrap .i64 (1 + (IntKind.wrap .i64 (shrI .u8 op_ 3)))) 3 1 r_3 hr_3
    refine Rt (some 26) (.callf 73) [] none [.i (IntKind.wrap .i64 (1 + (IntKind.wrap .i64 (shrI .u8 op_ 3)))), .i 3, .i 1] (.tup [.d (Row.d r_3.1), .b r_3.2]) [] (cc hc_3) <| Rc 4 [⟨.d (Row.d r_3.1), []⟩, vb r_3.2, ⟨.tup [], [([2], some (.cells [.i r_3.1.Name, .i r_3.1.A, .i r_3.1.B, .b r_3.1.Mod] 0))]⟩, vb r_3.2] <| Rk <| Runs.ret <| kB_ret <| kS_ret ?_
    cases h
    exact Fq
   | false =>
    replace h := ite_f hb_3 h
    refine Cf <| Sq <| Ro <| Rc 2 [vb ((bitsOp .and .u8 op_ 7) == 3), vb ((bitsOp .and .u8 op_ 7) == 3)] <| Rk ?_
    cases hb_4 : (((bitsOp .and .u8 op_ 7) == 3) : Bool) with
    | true =>
     replace h := ite_t hb_4 h
     refine Ct <| Sq <| Ro <| Rc 1 [vi (IntKind.wrap .i64 (1 + (IntKind.wrap .i64 (shrI .u8 op_ 3))))] ?_
     obtain ⟨r_4, hr_4, h⟩ := bind_s h
     have hc_4 := isa_mod_L (IntKind.wrap .i64 (1 + (IntKind.wrap .i64 (shrI .u8 op_ 3)))) 4 2 r_4 hr_4
     refine Rt (some 32) (.callf 73) [] none [.i (IntKind.wrap .i64 (1 + (IntKind.wrap .i64 (shrI .u8 op_ 3)))), .i 4, .i 2] (.tup [.d (Row.d r_4.1), .b r_4.2]) [] (cc hc_4) <| Rc 4 [⟨.d (Row.d r_4.1), []⟩, vb r_4.2, ⟨.tup [], [([2], some (.cells [.i r_4.1.Name, .i r_4.1.A, .i r_4.1.B, .b r_4.1.Mod] 0))]⟩, vb r_4.2] <| Rk <| Runs.ret <| kB_ret <| kS_ret ?_
     cases h
     exact Fq
    | false =>
     replace h := ite_f hb_4 h
     refine Cf <| Sq <| Ro <| Rc 2 [vb ((bitsOp .and .u8 op_ 7) == 4), vb ((bitsOp .and .u8 op_ 7) == 4)] <| Rk ?_
     cases hb_5 : (((bitsOp .and .u8 op_ 7) == 4) : Bool) with
     | true =>
      replace h := ite_t hb_5 h
      refine Ct <| Sq <| Ro <| Rc 1 [vi (IntKind.wrap .i64 (1 + (IntKind.wrap .i64 (shrI .u8 op_ 3))))] ?_
      obtain ⟨r_5, hr_5, h⟩ := bind_s h
      have hc_5 := isa_row_L (IntKind.wrap .i64 (1 + (IntKind.wrap .i64 (shrI .u8 op_ 3)))) 14 6 r_5 hr_5
      refine Rt (some 38) (.callf 47) [] none [.i (IntKind.wrap .i64 (1 + (IntKind.wrap .i64 (shrI .u8 op_ 3)))), .i 14, .i 6] (.tup [.d (Row.d r_5.1), .b r_5.2]) [] (cc hc_5) <| Rc 4 [⟨.d (Row.d r_5.1), []⟩, vb r_5.2, ⟨.tup [], [([2], some (.cells [.i r_5.1.Name, .i r_5.1.A, .i r_5.1.B, .b r_5.1.Mod] 0))]⟩, vb r_5.2] <| Rk <| Runs.ret <| kB_ret <| kS_ret ?_
      cases h
      exact Fq
     | false =>
      replace h := ite_f hb_5 h
      refine Cf <| Sq <| Ro <| Rc 2 [vb ((bitsOp .and .u8 op_ 7) == 5), vb ((bitsOp .and .u8 op_ 7) == 5)] <| Rk ?_
      cases hb_6 : (((bitsOp .and .u8 op_ 7) == 5) : Bool) with
      | true =>
       replace h := ite_t hb_6 h
       refine Ct <| Sq <| Ro <| Rc 1 [vi (IntKind.wrap .i64 (1 + (IntKind.wrap .i64 (shrI .u8 op_ 3))))] ?_
       obtain ⟨r_6, hr_6, h⟩ := bind_s h
       have hc_6 := isa_row_L (IntKind.wrap .i64 (1 + (IntKind.wrap .i64 (shrI .u8 op_ 3)))) 16 7 r_6 hr_6
       refine Rt (some 44) (.callf 47) [] none [.i (IntKind.wrap .i64 (1 + (IntKind.wrap .i64 (shrI .u8 op_ 3)))), .i 16, .i 7] (.tup [.d (Row.d r_6.1), .b r_6.2]) [] (cc hc_6) <| Rc 4 [⟨.d (Row.d r_6.1), []⟩, vb r_6.2, ⟨.tup [], [([2], some (.cells [.i r_6.1.Name, .i r_6.1.A, .i r_6.1.B, .b r_6.1.Mod] 0))]⟩, vb r_6.2] <| Rk <| Runs.ret <| kB_ret <| kS_ret ?_
       cases h
       exact Fq
      | false =>
       replace h := ite_f hb_6 h
       refine Cf <| Runs.skip <| kB_nrm <| kS_nrm <| Sq <| Sq <| Ro <| Rc 1 [vy op_] <| Rk <| Runs.block <| Sq <| Sq <| Ro <| Rc 2 [vb (op_ == 6), vb (op_ == 6)] <| Rk ?_
       cases hb_7 : ((op_ == 6) : Bool) with
       | true =>
        replace h := ite_t hb_7 h
        refine Ct <| Runs.skip <| kS_nrm <| Runs.canon (isa_sums_h63 ({ Name := 0, A := 0, B := 0, Mod := false } : Row) op_ true) Cz ?_
        exact isa_sums_j63_ok op_ ({ Name := 0, A := 0, B := 0, Mod := false } : Row) op_ true r h
       | false =>
        replace h := ite_f hb_7 h
        refine Cf <| Sq <| Ro <| Rc 2 [vb (op_ == 14), vb (op_ == 14)] <| Rk ?_
        cases hb_16 : ((op_ == 14) : Bool) with
        | true =>
         replace h := ite_t hb_16 h
         refine Ct <| Runs.skip <| kS_nrm <| Runs.canon (isa_sums_h63 ({ Name := 0, A := 0, B := 0, Mod := false } : Row) op_ true) Cz ?_
         exact isa_sums_j63_ok op_ ({ Name := 0, A := 0, B := 0, Mod := false } : Row) op_ true r h
        | false =>
         replace h := ite_f hb_16 h
         refine Cf <| Sq <| Ro <| Rc 2 [vb (op_ == 22), vb (op_ == 22)] <| Rk ?_
         cases hb_17 : ((op_ == 22) : Bool) with
         | true =>
          replace h := ite_t hb_17 h
          refine Ct <| Runs.skip <| kS_nrm <| Runs.canon (isa_sums_h63 ({ Name := 0, A := 0, B := 0, Mod := false } : Row) op_ true) Cz ?_
          exact isa_sums_j63_ok op_ ({ Name := 0, A := 0, B := 0, Mod := false } : Row) op_ true r h
         | false =>
          replace h := ite_f hb_17 h
          refine Cf <| Ro <| Rc 2 [vb (op_ == 30), vb (op_ == 30)] <| Rk <| Runs.canon (isa_sums_h63 ({ Name := 0, A := 0, B := 0, Mod := false } : Row) op_ (op_ == 30)) Cz ?_
          exact isa_sums_j63_ok op_ ({ Name := 0, A := 0, B := 0, Mod := false } : Row) op_ (op_ == 30) r h
theorem isa_sums_L (op_ : Int) (r : (Row × Bool)) (h : isa_sums op_ = some r) : L 46 [.y op_] = some (.tup [.d (Row.d r.1), .b r.2], [.y op_]) := by
 obtain ⟨p, ⟨hne, hf⟩, hr⟩ := isa_sums_ok op_ r h
 obtain ⟨k, hk⟩ := run_of (F := F46) (args := [.y op_]) (ap := [.y op_]) (bx0 := updW (fun _ => none) []) rfl rfl (by kernel_rfl) ⟨p, ⟨hne, hf⟩, hr⟩
 exact lim_run (k := k) rfl hk
def isa_moves_Q (op_ : Int) (reg_ : Int) (r : (Row × Bool)) (p : Out × St) : Prop := (∀ i, p.1 ≠ .exit i) ∧ finF F49 [.y op_, .i reg_] p.2 = some (.tup [.d (Row.d r.1), .b r.2], [.y op_, .i reg_])
theorem isa_moves_ok (op_ : Int) (reg_ : Int) (r : (Row × Bool)) (h : isa_moves op_ reg_ = some r) : Runs L F49.body ⟨tmOf [.y op_, .i reg_] 0, updW (fun _ => none) []⟩ (isa_moves_Q op_ reg_ r) := by
 unfold isa_moves at h
 refine Sq <| Ro <| Rc 2 [⟨.ptr [4] 0 0, [([4], some (.cells [.i 0, .i 0, .i 0, .b false] 0))]⟩, vb false] <| Rk <| Sq <| Sq <| Ro <| Rc 1 [vy op_] <| Rk <| Runs.block <| Sq <| Ro <| Rc 2 [vb (op_ == 128), vb (op_ == 128)] <| Rk ?_
 cases hb_1 : ((op_ == 128) : Bool) with
 | true =>
  replace h := ite_t hb_1 h
  refine Ct <| Sq <| Ro <| Rc 2 [vi reg_, vi (IntKind.wrap .i64 (1 + reg_))] ?_
  obtain ⟨r_1, hr_1, h⟩ := bind_s h
  have hc_1 := isa_mod_L (IntKind.wrap .i64 (1 + reg_)) 1 6 r_1 hr_1
  refine Rt (some 11) (.callf 73) [] none [.i (IntKind.wrap .i64 (1 + reg_)), .i 1, .i 6] (.tup [.d (Row.d r_1.1), .b r_1.2]) [] (cc hc_1) <| Rc 4 [⟨.d (Row.d r_1.1), []⟩, vb r_1.2, ⟨.tup [], [([4], some (.cells [.i r_1.1.Name, .i r_1.1.A, .i r_1.1.B, .b r_1.1.Mod] 0))]⟩, vb r_1.2] <| Rk <| Runs.ret <| kB_ret <| kS_ret ?_
  cases h
  exact Fq
 | false =>
  replace h := ite_f hb_1 h
  refine Cf <| Sq <| Ro <| Rc 2 [vb (op_ == 129), vb (op_ == 129)] <| Rk ?_
  cases hb_2 : ((op_ == 129) : Bool) with
  | true =>
   replace h := ite_t hb_2 h
   refine Ct <| Sq <| Ro <| Rc 2 [vi reg_, vi (IntKind.wrap .i64 (1 + reg_))] ?_
   obtain ⟨r_2, hr_2, h⟩ := bind_s h
   have hc_2 := isa_mod_L (IntKind.wrap .i64 (1 + reg_)) 2 7 r_2 hr_2
   refine Rt (some 18) (.callf 73) [] none [.i (IntKind.wrap .i64 (1 + reg_)), .i 2, .i 7] (.tup [.d (Row.d r_2.1), .b r_2.2]) [] (cc hc_2) <| Rc 4 [⟨.d (Row.d r_2.1), []⟩, vb r_2.2, ⟨.tup [], [([4], some (.cells [.i r_2.1.Name, .i r_2.1.A, .i r_2.1.B, .b r_2.1.Mod] 0))]⟩, vb r_2.2] <| Rk <| Runs.ret <| kB_ret <| kS_ret ?_
   cases h
   exact Fq
  | false =>
   replace h := ite_f hb_2 h
   refine Cf <| Sq <| Ro <| Rc 2 [vb (op_ == 131), vb (op_ == 131)] <| Rk ?_
   cases hb_3 : ((op_ == 131) : Bool) with
   | true =>
    replace h := ite_t hb_3 h
    refine Ct <| Sq <| Sq <| Ro <| Rc 3 [vi reg_, vb (reg_ == 1), vb (reg_ == 1)] ?_
    cases hb_4 : ((reg_ == 1) : Bool) with
    | true =>
     replace h := ite_t hb_4 h
     refine Rc 7 [vn, vn, vb true, vb true, vn, vn, vb true] <| Rk <| Ct <| Sq <| Ro ?_
     obtain ⟨r_3, hr_3, h⟩ := bind_s h
     have hc_3 := isa_bad_L r_3 hr_3
     refine Rt (some 33) (.callf 48) [] none [] (.tup [.d (Row.d r_3.1), .b r_3.2]) [] (cc hc_3) <| Rc 4 [⟨.d (Row.d r_3.1), []⟩, vb r_3.2, ⟨.tup [], [([4], some (.cells [.i r_3.1.Name, .i r_3.1.A, .i r_3.1.B, .b r_3.1.Mod] 0))]⟩, vb r_3.2] <| Rk <| Runs.ret <| kS_ret <| kB_ret <| kS_ret ?_
     cases h
     exact Fq
    | false =>
     replace h := ite_f hb_4 h
     refine Rc 4 [vi reg_, vb (reg_ == 4), vb (reg_ == 4), vb (reg_ == 4)] ?_
     cases hb_5 : ((reg_ == 4) : Bool) with
     | true =>
      replace h := ite_t hb_5 h
      refine Rc 3 [vn, vn, vb true] <| Rk <| Ct <| Sq <| Ro ?_
      obtain ⟨r_4, hr_4, h⟩ := bind_s h
      have hc_4 := isa_bad_L r_4 hr_4
      refine Rt (some 33) (.callf 48) [] none [] (.tup [.d (Row.d r_4.1), .b r_4.2]) [] (cc hc_4) <| Rc 4 [⟨.d (Row.d r_4.1), []⟩, vb r_4.2, ⟨.tup [], [([4], some (.cells [.i r_4.1.Name, .i r_4.1.A, .i r_4.1.B, .b r_4.1.Mod] 0))]⟩, vb r_4.2] <| Rk <| Runs.ret <| kS_ret <| kB_ret <| kS_ret ?_
      cases h
      exact Fq
     | false =>
      replace h := ite_f hb_5 h
      refine Rc 3 [vi reg_, vb (reg_ == 6), vb (reg_ == 6)] <| Rk ?_
      cases hb_6 : ((reg_ == 6) : Bool) with
      | true =>
       replace h := ite_t hb_6 h
       refine Ct <| Sq <| Ro ?_
       obtain ⟨r_5, hr_5, h⟩ := bind_s h
       have hc_5 := isa_bad_L r_5 hr_5
       refine Rt (some 33) (.callf 48) [] none [] (.tup [.d (Row.d r_5.1), .b r_5.2]) [] (cc hc_5) <| Rc 4 [⟨.d (Row.d r_5.1), []⟩, vb r_5.2, ⟨.tup [], [([4], some (.cells [.i r_5.1.Name, .i r_5.1.A, .i r_5.1.B, .b r_5.1.Mod] 0))]⟩, vb r_5.2] <| Rk <| Runs.ret <| kS_ret <| kB_ret <| kS_ret ?_
       cases h
       exact Fq
      | false =>
       replace h := ite_f hb_6 h
       refine Cf <| Runs.skip <| kS_nrm <| Sq <| Ro <| Rc 2 [vi reg_, vi (IntKind.wrap .i64 (1 + reg_))] ?_
       obtain ⟨r_6, hr_6, h⟩ := bind_s h
       have hc_6 := isa_mod_L (IntKind.wrap .i64 (1 + reg_)) 2 8 r_6 hr_6
       refine Rt (some 38) (.callf 73) [] none [.i (IntKind.wrap .i64 (1 + reg_)), .i 2, .i 8] (.tup [.d (Row.d r_6.1), .b r_6.2]) [] (cc hc_6) <| Rc 4 [⟨.d (Row.d r_6.1), []⟩, vb r_6.2, ⟨.tup [], [([4], some (.cells [.i r_6.1.Name, .i r_6.1.A, .i r_6.1.B, .b r_6.1.Mod] 0))]⟩, vb r_6.2] <| Rk <| Runs.ret <| kB_ret <| kS_ret ?_
       cases h
       exact Fq
   | false =>
    replace h := ite_f hb_3 h
    refine Cf <| Sq <| Ro <| Rc 2 [vb (op_ == 132), vb (op_ == 132)] <| Rk ?_
    cases hb_7 : ((op_ == 132) : Bool) with
    | true =>
     replace h := ite_t hb_7 h
     refine Ct <| Sq <| Ro ?_
     obtain ⟨r_7, hr_7, h⟩ := bind_s h
     have hc_7 := isa_mod_L 33 1 3 r_7 hr_7
     refine Rt (some 43) (.callf 73) [] none [.i 33, .i 1, .i 3] (.tup [.d (Row.d r_7.1), .b r_7.2]) [] (cc hc_7) <| Rc 4 [⟨.d (Row.d r_7.1), []⟩, vb r_7.2, ⟨.tup [], [([4], some (.cells [.i r_7.1.Name, .i r_7.1.A, .i r_7.1.B, .b r_7.1.Mod] 0))]⟩, vb r_7.2] <| Rk <| Runs.ret <| kB_ret <| kS_ret ?_
     cases h
     exact Fq
    | false =>
     replace h := ite_f hb_7 h
     refine Cf <| Sq <| Ro <| Rc 2 [vb (op_ == 133), vb (op_ == 133)] <| Rk ?_
     cases hb_8 : ((op_ == 133) : Bool) with
     | true =>
      replace h := ite_t hb_8 h
      refine Ct <| Sq <| Ro ?_
      obtain ⟨r_8, hr_8, h⟩ := bind_s h
      have hc_8 := isa_mod_L 33 2 4 r_8 hr_8
      refine Rt (some 48) (.callf 73) [] none [.i 33, .i 2, .i 4] (.tup [.d (Row.d r_8.1), .b r_8.2]) [] (cc hc_8) <| Rc 4 [⟨.d (Row.d r_8.1), []⟩, vb r_8.2, ⟨.tup [], [([4], some (.cells [.i r_8.1.Name, .i r_8.1.A, .i r_8.1.B, .b r_8.1.Mod] 0))]⟩, vb r_8.2] <| Rk <| Runs.ret <| kB_ret <| kS_ret ?_
      cases h
      exact Fq
     | false =>
      replace h := ite_f hb_8 h
      refine Cf <| Sq <| Ro <| Rc 2 [vb (op_ == 134), vb (op_ == 134)] <| Rk ?_
      cases hb_9 : ((op_ == 134) : Bool) with
      | true =>
       replace h := ite_t hb_9 h
       refine Ct <| Sq <| Ro ?_
       obtain ⟨r_9, hr_9, h⟩ := bind_s h
       have hc_9 := isa_mod_L 34 1 3 r_9 hr_9
       refine Rt (some 53) (.callf 73) [] none [.i 34, .i 1, .i 3] (.tup [.d (Row.d r_9.1), .b r_9.2]) [] (cc hc_9) <| Rc 4 [⟨.d (Row.d r_9.1), []⟩, vb r_9.2, ⟨.tup [], [([4], some (.cells [.i r_9.1.Name, .i r_9.1.A, .i r_9.1.B, .b r_9.1.Mod] 0))]⟩, vb r_9.2] <| Rk <| Runs.ret <| kB_ret <| kS_ret ?_
       cases h
       exact Fq
      | false =>
       replace h := ite_f hb_9 h
       refine Cf <| Sq <| Ro <| Rc 2 [vb (op_ == 135), vb (op_ == 135)] <| Rk ?_
       cases hb_10 : ((op_ == 135) : Bool) with
       | true =>
        replace h := ite_t hb_10 h
        refine Ct <| Sq <| Ro ?_
        obtain ⟨r_10, hr_10, h⟩ := bind_s h
        have hc_10 := isa_mod_L 34 2 4 r_10 hr_10
        refine Rt (some 58) (.callf 73) [] none [.i 34, .i 2, .i 4] (.tup [.d (Row.d r_10.1), .b r_10.2]) [] (cc hc_10) <| Rc 4 [⟨.d (Row.d r_10.1), []⟩, vb r_10.2, ⟨.tup [], [([4], some (.cells [.i r_10.1.Name, .i r_10.1.A, .i r_10.1.B, .b r_10.1.Mod] 0))]⟩, vb r_10.2] <| Rk <| Runs.ret <| kB_ret <| kS_ret ?_
        cases h
        exact Fq
       | false =>
        replace h := ite_f hb_10 h
        refine Cf <| Sq <| Ro <| Rc 2 [vb (op_ == 136), vb (op_ == 136)] <| Rk ?_
        cases hb_11 : ((op_ == 136) : Bool) with
        | true =>
         replace h := ite_t hb_11 h
         refine Ct <| Sq <| Ro ?_
         obtain ⟨r_11, hr_11, h⟩ := bind_s h
         have hc_11 := isa_mod_L 35 1 3 r_11 hr_11
         refine Rt (some 63) (.callf 73) [] none [.i 35, .i 1, .i 3] (.tup [.d (Row.d r_11.1), .b r_11.2]) [] (cc hc_11) <| Rc 4 [⟨.d (Row.d r_11.1), []⟩, vb r_11.2, ⟨.tup [], [([4], some (.cells [.i r_11.1.Name, .i r_11.1.A, .i r_11.1.B, .b r_11.1.Mod] 0))]⟩, vb r_11.2] <| Rk <| Runs.ret <| kB_ret <| kS_ret ?_
         cases h
         exact Fq
        | false =>
         replace h := ite_f hb_11 h
         refine Cf <| Sq <| Ro <| Rc 2 [vb (op_ == 137), vb (op_ == 137)] <| Rk ?_
         cases hb_12 : ((op_ == 137) : Bool) with
         | true =>
          replace h := ite_t hb_12 h
          refine Ct <| Sq <| Ro ?_
          obtain ⟨r_12, hr_12, h⟩ := bind_s h
          have hc_12 := isa_mod_L 35 2 4 r_12 hr_12
          refine Rt (some 68) (.callf 73) [] none [.i 35, .i 2, .i 4] (.tup [.d (Row.d r_12.1), .b r_12.2]) [] (cc hc_12) <| Rc 4 [⟨.d (Row.d r_12.1), []⟩, vb r_12.2, ⟨.tup [], [([4], some (.cells [.i r_12.1.Name, .i r_12.1.A, .i r_12.1.B, .b r_12.1.Mod] 0))]⟩, vb r_12.2] <| Rk <| Runs.ret <| kB_ret <| kS_ret ?_
          cases h
          exact Fq
         | false =>
          replace h := ite_f hb_12 h
          refine Cf <| Sq <| Ro <| Rc 2 [vb (op_ == 138), vb (op_ == 138)] <| Rk ?_
          cases hb_13 : ((op_ == 138) : Bool) with
          | true =>
           replace h := ite_t hb_13 h
           refine Ct <| Sq <| Ro ?_
           obtain ⟨r_13, hr_13, h⟩ := bind_s h
           have hc_13 := isa_mod_L 35 3 1 r_13 hr_13
           refine Rt (some 73) (.callf 73) [] none [.i 35, .i 3, .i 1] (.tup [.d (Row.d r_13.1), .b r_13.2]) [] (cc hc_13) <| Rc 4 [⟨.d (Row.d r_13.1), []⟩, vb r_13.2, ⟨.tup [], [([4], some (.cells [.i r_13.1.Name, .i r_13.1.A, .i r_13.1.B, .b r_13.1.Mod] 0))]⟩, vb r_13.2] <| Rk <| Runs.ret <| kB_ret <| kS_ret ?_
           cases h
           exact Fq
          | false =>
           replace h := ite_f hb_13 h
           refine Cf <| Sq <| Ro <| Rc 2 [vb (op_ == 139), vb (op_ == 139)] <| Rk ?_
           cases hb_14 : ((op_ == 139) : Bool) with
           | true =>
            replace h := ite_t hb_14 h
            refine Ct <| Sq <| Ro ?_
            obtain ⟨r_14, hr_14, h⟩ := bind_s h
            have hc_14 := isa_mod_L 35 4 2 r_14 hr_14
            refine Rt (some 78) (.callf 73) [] none [.i 35, .i 4, .i 2] (.tup [.d (Row.d r_14.1), .b r_14.2]) [] (cc hc_14) <| Rc 4 [⟨.d (Row.d r_14.1), []⟩, vb r_14.2, ⟨.tup [], [([4], some (.cells [.i r_14.1.Name, .i r_14.1.A, .i r_14.1.B, .b r_14.1.Mod] 0))]⟩, vb r_14.2] <| Rk <| Runs.ret <| kB_ret <| kS_ret ?_
            cases h
            exact Fq
           | false =>
            replace h := ite_f hb_14 h
            refine Cf <| Sq <| Ro <| Rc 2 [vb (op_ == 140), vb (op_ == 140)] <| Rk ?_
            cases hb_15 : ((op_ == 140) : Bool) with
            | true =>
             replace h := ite_t hb_15 h
             refine Ct <| Sq <| Ro <| Rc 2 [vi reg_, vb (decide (reg_ < 4))] <| Rk ?_
             cases hb_16 : ((decide (reg_ < 4)) : Bool) with
             | true =>
              replace h := ite_t hb_16 h
              refine Ct <| Sq <| Ro ?_
              obtain ⟨r_15, hr_15, h⟩ := bind_s h
              have hc_15 := isa_mod_L 35 2 5 r_15 hr_15
              refine Rt (some 85) (.callf 73) [] none [.i 35, .i 2, .i 5] (.tup [.d (Row.d r_15.1), .b r_15.2]) [] (cc hc_15) <| Rc 4 [⟨.d (Row.d r_15.1), []⟩, vb r_15.2, ⟨.tup [], [([4], some (.cells [.i r_15.1.Name, .i r_15.1.A, .i r_15.1.B, .b r_15.1.Mod] 0))]⟩, vb r_15.2] <| Rk <| Runs.ret <| kB_ret <| kS_ret ?_
              cases h
              exact Fq
             | false =>
              replace h := ite_f hb_16 h
              refine Cf <| Runs.skip <| kB_nrm <| kS_nrm <| Sq <| Ro ?_
              obtain ⟨r_16, hr_16, h⟩ := bind_s h
              have hc_16 := isa_bad_L r_16 hr_16
              refine Rt (some 111) (.callf 48) [] none [] (.tup [.d (Row.d r_16.1), .b r_16.2]) [] (cc hc_16) <| Rc 4 [⟨.d (Row.d r_16.1), []⟩, vb r_16.2, ⟨.tup [], [([4], some (.cells [.i r_16.1.Name, .i r_16.1.A, .i r_16.1.B, .b r_16.1.Mod] 0))]⟩, vb r_16.2] <| Rk <| Runs.ret ?_
              cases h
              exact Fq
            | false =>
             replace h := ite_f hb_15 h
             refine Cf <| Sq <| Ro <| Rc 2 [vb (op_ == 141), vb (op_ == 141)] <| Rk ?_
             cases hb_17 : ((op_ == 141) : Bool) with
             | true =>
              replace h := ite_t hb_17 h
              refine Ct <| Sq <| Ro ?_
              obtain ⟨r_17, hr_17, h⟩ := bind_s h
              have hc_17 := isa_mod_L 36 4 20 r_17 hr_17
              refine Rt (some 90) (.callf 73) [] none [.i 36, .i 4, .i 20] (.tup [.d (Row.d r_17.1), .b r_17.2]) [] (cc hc_17) <| Rc 4 [⟨.d (Row.d r_17.1), []⟩, vb r_17.2, ⟨.tup [], [([4], some (.cells [.i r_17.1.Name, .i r_17.1.A, .i r_17.1.B, .b r_17.1.Mod] 0))]⟩, vb r_17.2] <| Rk <| Runs.ret <| kB_ret <| kS_ret ?_
              cases h
              exact Fq
             | false =>
              replace h := ite_f hb_17 h
              refine Cf <| Sq <| Ro <| Rc 2 [vb (op_ == 142), vb (op_ == 142)] <| Rk ?_
              cases hb_18 : ((op_ == 142) : Bool) with
              | true =>
               replace h := ite_t hb_18 h
               refine Ct <| Sq <| Ro <| Rc 3 [vi reg_, vb (decide (reg_ < 4)), vb (decide (reg_ < 4))] ?_
               cases hb_19 : ((decide (reg_ < 4)) : Bool) with
               | true =>
                replace h := ite_t hb_19 h
                refine Rc 3 [vi reg_, vb (reg_ != 1), vb (reg_ != 1)] <| Rk ?_
                cases hb_20 : ((reg_ != 1) : Bool) with
                | true =>
                 replace h := ite_t hb_20 h
                 refine Ct <| Sq <| Ro ?_
                 obtain ⟨r_18, hr_18, h⟩ := bind_s h
                 have hc_18 := isa_mod_L 35 5 2 r_18 hr_18
                 refine Rt (some 101) (.callf 73) [] none [.i 35, .i 5, .i 2] (.tup [.d (Row.d r_18.1), .b r_18.2]) [] (cc hc_18) <| Rc 4 [⟨.d (Row.d r_18.1), []⟩, vb r_18.2, ⟨.tup [], [([4], some (.cells [.i r_18.1.Name, .i r_18.1.A, .i r_18.1.B, .b r_18.1.Mod] 0))]⟩, vb r_18.2] <| Rk <| Runs.ret <| kB_ret <| kS_ret ?_
                 cases h
                 exact Fq
                | false =>
                 replace h := ite_f hb_20 h
                 refine Cf <| Runs.skip <| kB_nrm <| kS_nrm <| Sq <| Ro ?_
                 obtain ⟨r_19, hr_19, h⟩ := bind_s h
                 have hc_19 := isa_bad_L r_19 hr_19
                 refine Rt (some 111) (.callf 48) [] none [] (.tup [.d (Row.d r_19.1), .b r_19.2]) [] (cc hc_19) <| Rc 4 [⟨.d (Row.d r_19.1), []⟩, vb r_19.2, ⟨.tup [], [([4], some (.cells [.i r_19.1.Name, .i r_19.1.A, .i r_19.1.B, .b r_19.1.Mod] 0))]⟩, vb r_19.2] <| Rk <| Runs.ret ?_
                 cases h
                 exact Fq
               | false =>
                replace h := ite_f hb_19 h
                refine Rc 3 [vn, vn, vb false] <| Rk <| Cf <| Runs.skip <| kB_nrm <| kS_nrm <| Sq <| Ro ?_
                obtain ⟨r_20, hr_20, h⟩ := bind_s h
                have hc_20 := isa_bad_L r_20 hr_20
                refine Rt (some 111) (.callf 48) [] none [] (.tup [.d (Row.d r_20.1), .b r_20.2]) [] (cc hc_20) <| Rc 4 [⟨.d (Row.d r_20.1), []⟩, vb r_20.2, ⟨.tup [], [([4], some (.cells [.i r_20.1.Name, .i r_20.1.A, .i r_20.1.B, .b r_20.1.Mod] 0))]⟩, vb r_20.2] <| Rk <| Runs.ret ?_
                cases h
                exact Fq
              | false =>
               replace h := ite_f hb_18 h
               refine Cf <| Sq <| Ro <| Rc 2 [vb (op_ == 143), vb (op_ == 143)] <| Rk ?_
               cases hb_21 : ((op_ == 143) : Bool) with
               | true =>
                replace h := ite_t hb_21 h
                refine Ct <| Sq <| Ro <| Rc 2 [vi reg_, vb (reg_ == 0)] <| Rk ?_
                cases hb_22 : ((reg_ == 0) : Bool) with
                | true =>
                 replace h := ite_t hb_22 h
                 refine Ct <| Sq <| Ro ?_
                 obtain ⟨r_21, hr_21, h⟩ := bind_s h
                 have hc_21 := isa_mod_L 10 2 0 r_21 hr_21
                 refine Rt (some 108) (.callf 73) [] none [.i 10, .i 2, .i 0] (.tup [.d (Row.d r_21.1), .b r_21.2]) [] (cc hc_21) <| Rc 4 [⟨.d (Row.d r_21.1), []⟩, vb r_21.2, ⟨.tup [], [([4], some (.cells [.i r_21.1.Name, .i r_21.1.A, .i r_21.1.B, .b r_21.1.Mod] 0))]⟩, vb r_21.2] <| Rk <| Runs.ret <| kB_ret <| kS_ret ?_
                 cases h
                 exact Fq
                | false =>
                 replace h := ite_f hb_22 h
                 refine Cf <| Runs.skip <| kB_nrm <| kS_nrm <| Sq <| Ro ?_
                 obtain ⟨r_22, hr_22, h⟩ := bind_s h
                 have hc_22 := isa_bad_L r_22 hr_22
                 refine Rt (some 111) (.callf 48) [] none [] (.tup [.d (Row.d r_22.1), .b r_22.2]) [] (cc hc_22) <| Rc 4 [⟨.d (Row.d r_22.1), []⟩, vb r_22.2, ⟨.tup [], [([4], some (.cells [.i r_22.1.Name, .i r_22.1.A, .i r_22.1.B, .b r_22.1.Mod] 0))]⟩, vb r_22.2] <| Rk <| Runs.ret ?_
                 cases h
                 exact Fq
               | false =>
                replace h := ite_f hb_21 h
                refine Cf <| Runs.skip <| kB_nrm <| kS_nrm <| Sq <| Ro ?_
                obtain ⟨r_23, hr_23, h⟩ := bind_s h
                have hc_23 := isa_bad_L r_23 hr_23
                refine Rt (some 111) (.callf 48) [] none [] (.tup [.d (Row.d r_23.1), .b r_23.2]) [] (cc hc_23) <| Rc 4 [⟨.d (Row.d r_23.1), []⟩, vb r_23.2, ⟨.tup [], [([4], some (.cells [.i r_23.1.Name, .i r_23.1.A, .i r_23.1.B, .b r_23.1.Mod] 0))]⟩, vb r_23.2] <| Rk <| Runs.ret ?_
                cases h
                exact Fq
theorem isa_moves_L (op_ : Int) (reg_ : Int) (r : (Row × Bool)) (h : isa_moves op_ reg_ = some r) : L 49 [.y op_, .i reg_] = some (.tup [.d (Row.d r.1), .b r.2], [.y op_, .i reg_]) := by
 obtain ⟨p, ⟨hne, hf⟩, hr⟩ := isa_moves_ok op_ reg_ r h
 obtain ⟨k, hk⟩ := run_of (F := F49) (args := [.y op_, .i reg_]) (ap := [.y op_, .i reg_]) (bx0 := updW (fun _ => none) []) rfl rfl (by kernel_rfl) ⟨p, ⟨hne, hf⟩, hr⟩
 exact lim_run (k := k) rfl hk
def isa_words_Q (op_ : Int) (r : (Row × Bool)) (p : Out × St) : Prop := (∀ i, p.1 ≠ .exit i) ∧ finF F50 [.y op_] p.2 = some (.tup [.d (Row.d r.1), .b r.2], [.y op_])
theorem isa_words_ok (op_ : Int) (r : (Row × Bool)) (h : isa_words op_ = some r) : Runs L F50.body ⟨tmOf [.y op_] 0, updW (fun _ => none) []⟩ (isa_words_Q op_ r) := by
 unfold isa_words at h
 refine Sq <| Ro <| Rc 2 [⟨.ptr [2] 0 0, [([2], some (.cells [.i 0, .i 0, .i 0, .b false] 0))]⟩, vb false] <| Rk <| Sq <| Sq <| Ro <| Rc 2 [vy op_, vb (decide (op_ < 152))] <| Rk ?_
 cases hb_1 : ((decide (op_ < 152)) : Bool) with
 | true =>
  replace h := ite_t hb_1 h
  refine Ct <| Sq <| Ro ?_
  obtain ⟨r_1, hr_1, h⟩ := bind_s h
  have hc_1 := isa_row_L 34 16 22 r_1 hr_1
  refine Rt (some 7) (.callf 47) [] none [.i 34, .i 16, .i 22] (.tup [.d (Row.d r_1.1), .b r_1.2]) [] (cc hc_1) <| Rc 4 [⟨.d (Row.d r_1.1), []⟩, vb r_1.2, ⟨.tup [], [([2], some (.cells [.i r_1.1.Name, .i r_1.1.A, .i r_1.1.B, .b r_1.1.Mod] 0))]⟩, vb r_1.2] <| Rk <| Runs.ret <| kS_ret ?_
  cases h
  exact Fq
 | false =>
  replace h := ite_f hb_1 h
  refine Cf <| Runs.skip <| kS_nrm <| Sq <| Sq <| Ro <| Rc 2 [vy op_, vb (op_ == 154)] <| Rk ?_
  cases hb_2 : ((op_ == 154) : Bool) with
  | true =>
   replace h := ite_t hb_2 h
   refine Ct <| Sq <| Ro ?_
   obtain ⟨r_2, hr_2, h⟩ := bind_s h
   have hc_2 := isa_row_L 40 11 0 r_2 hr_2
   refine Rt (some 12) (.callf 47) [] none [.i 40, .i 11, .i 0] (.tup [.d (Row.d r_2.1), .b r_2.2]) [] (cc hc_2) <| Rc 4 [⟨.d (Row.d r_2.1), []⟩, vb r_2.2, ⟨.tup [], [([2], some (.cells [.i r_2.1.Name, .i r_2.1.A, .i r_2.1.B, .b r_2.1.Mod] 0))]⟩, vb r_2.2] <| Rk <| Runs.ret <| kS_ret ?_
   cases h
   exact Fq
  | false =>
   replace h := ite_f hb_2 h
   refine Cf <| Runs.skip <| kS_nrm <| Sq <| Ro <| Rc 3 [⟨.ref [15] 0 0 (List.map (D.int .i64) ([37, 38, 0, 41, 42, 43, 44, 45] : List Int)).length 1, [([15], some (.arr (List.map (D.int .i64) ([37, 38, 0, 41, 42, 43, 44, 45] : List Int)) 0 false))]⟩, vy op_, vy (IntKind.wrap .u8 (op_ - 152))] ?_
   obtain ⟨z_1, hz_1, h⟩ := bind_s h
   refine Rt (some 18) (.iaddrS 1) [] none [.ref [15] 0 0 (List.map (D.int .i64) ([37, 38, 0, 41, 42, 43, 44, 45] : List Int)).length 1, .y (IntKind.wrap .u8 (op_ - 152))] (.eref [15] 0 (0 + ((IntKind.wrap .u8 (op_ - 152))).toNat) 0) [] (cut_atR (e := (D.int .i64)) (l := ([37, 38, 0, 41, 42, 43, 44, 45] : List Int)) hz_1 rfl) <| Rt (some 19) (.load none) [] none [.eref [15] 0 (0 + ((IntKind.wrap .u8 (op_ - 152))).toNat) 0] (.i z_1) [] (cut_loadR (e := (D.int .i64)) (l := ([37, 38, 0, 41, 42, 43, 44, 45] : List Int)) (fz := false) (y := z_1) (by kernel_rfl) hz_1 (by kernel_rfl) (by kernel_rfl)) <| Rc 1 [vi z_1] <| Rk <| Sq <| Ro <| Rc 1 [vi z_1] ?_
   obtain ⟨r_3, hr_3, h⟩ := bind_s h
   have hc_3 := isa_row_L z_1 0 0 r_3 hr_3
   refine Rt (some 21) (.callf 47) [] none [.i z_1, .i 0, .i 0] (.tup [.d (Row.d r_3.1), .b r_3.2]) [] (cc hc_3) <| Rc 4 [⟨.d (Row.d r_3.1), []⟩, vb r_3.2, ⟨.tup [], [([2], some (.cells [.i r_3.1.Name, .i r_3.1.A, .i r_3.1.B, .b r_3.1.Mod] 0))]⟩, vb r_3.2] <| Rk <| Runs.ret ?_
   cases h
   exact Fq
theorem isa_words_L (op_ : Int) (r : (Row × Bool)) (h : isa_words op_ = some r) : L 50 [.y op_] = some (.tup [.d (Row.d r.1), .b r.2], [.y op_]) := by
 obtain ⟨p, ⟨hne, hf⟩, hr⟩ := isa_words_ok op_ r h
 obtain ⟨k, hk⟩ := run_of (F := F50) (args := [.y op_]) (ap := [.y op_]) (bx0 := updW (fun _ => none) []) rfl rfl (by kernel_rfl) ⟨p, ⟨hne, hf⟩, hr⟩
 exact lim_run (k := k) rfl hk
def isa_texts_Q (op_ : Int) (r : (Row × Bool)) (p : Out × St) : Prop := (∀ i, p.1 ≠ .exit i) ∧ finF F51 [.y op_] p.2 = some (.tup [.d (Row.d r.1), .b r.2], [.y op_])
theorem isa_texts_ok (op_ : Int) (r : (Row × Bool)) (h : isa_texts op_ = some r) : Runs L F51.body ⟨tmOf [.y op_] 0, updW (fun _ => none) []⟩ (isa_texts_Q op_ r) := by
 unfold isa_texts at h
 refine Sq <| Ro <| Rc 2 [⟨.ptr [2] 0 0, [([2], some (.cells [.i 0, .i 0, .i 0, .b false] 0))]⟩, vb false] <| Rk <| Sq <| Sq <| Ro <| Rc 1 [vy op_] <| Rk <| Runs.block <| Sq <| Ro <| Rc 2 [vb (op_ == 160), vb (op_ == 160)] <| Rk ?_
 cases hb_1 : ((op_ == 160) : Bool) with
 | true =>
  replace h := ite_t hb_1 h
  refine Ct <| Sq <| Ro ?_
  obtain ⟨r_1, hr_1, h⟩ := bind_s h
  have hc_1 := isa_row_L 35 14 12 r_1 hr_1
  refine Rt (some 7) (.callf 47) [] none [.i 35, .i 14, .i 12] (.tup [.d (Row.d r_1.1), .b r_1.2]) [] (cc hc_1) <| Rc 4 [⟨.d (Row.d r_1.1), []⟩, vb r_1.2, ⟨.tup [], [([2], some (.cells [.i r_1.1.Name, .i r_1.1.A, .i r_1.1.B, .b r_1.1.Mod] 0))]⟩, vb r_1.2] <| Rk <| Runs.ret <| kB_ret <| kS_ret ?_
  cases h
  exact Fq
 | false =>
  replace h := ite_f hb_1 h
  refine Cf <| Sq <| Ro <| Rc 2 [vb (op_ == 161), vb (op_ == 161)] <| Rk ?_
  cases hb_2 : ((op_ == 161) : Bool) with
  | true =>
   replace h := ite_t hb_2 h
   refine Ct <| Sq <| Ro ?_
   obtain ⟨r_2, hr_2, h⟩ := bind_s h
   have hc_2 := isa_row_L 35 16 13 r_2 hr_2
   refine Rt (some 12) (.callf 47) [] none [.i 35, .i 16, .i 13] (.tup [.d (Row.d r_2.1), .b r_2.2]) [] (cc hc_2) <| Rc 4 [⟨.d (Row.d r_2.1), []⟩, vb r_2.2, ⟨.tup [], [([2], some (.cells [.i r_2.1.Name, .i r_2.1.A, .i r_2.1.B, .b r_2.1.Mod] 0))]⟩, vb r_2.2] <| Rk <| Runs.ret <| kB_ret <| kS_ret ?_
   cases h
   exact Fq
  | false =>
   replace h := ite_f hb_2 h
   refine Cf <| Sq <| Ro <| Rc 2 [vb (op_ == 162), vb (op_ == 162)] <| Rk ?_
   cases hb_3 : ((op_ == 162) : Bool) with
   | true =>
    replace h := ite_t hb_3 h
    refine Ct <| Sq <| Ro ?_
    obtain ⟨r_3, hr_3, h⟩ := bind_s h
    have hc_3 := isa_row_L 35 12 14 r_3 hr_3
    refine Rt (some 17) (.callf 47) [] none [.i 35, .i 12, .i 14] (.tup [.d (Row.d r_3.1), .b r_3.2]) [] (cc hc_3) <| Rc 4 [⟨.d (Row.d r_3.1), []⟩, vb r_3.2, ⟨.tup [], [([2], some (.cells [.i r_3.1.Name, .i r_3.1.A, .i r_3.1.B, .b r_3.1.Mod] 0))]⟩, vb r_3.2] <| Rk <| Runs.ret <| kB_ret <| kS_ret ?_
    cases h
    exact Fq
   | false =>
    replace h := ite_f hb_3 h
    refine Cf <| Sq <| Ro <| Rc 2 [vb (op_ == 163), vb (op_ == 163)] <| Rk ?_
    cases hb_4 : ((op_ == 163) : Bool) with
    | true =>
     replace h := ite_t hb_4 h
     refine Ct <| Sq <| Ro ?_
     obtain ⟨r_4, hr_4, h⟩ := bind_s h
     have hc_4 := isa_row_L 35 13 16 r_4 hr_4
     refine Rt (some 22) (.callf 47) [] none [.i 35, .i 13, .i 16] (.tup [.d (Row.d r_4.1), .b r_4.2]) [] (cc hc_4) <| Rc 4 [⟨.d (Row.d r_4.1), []⟩, vb r_4.2, ⟨.tup [], [([2], some (.cells [.i r_4.1.Name, .i r_4.1.A, .i r_4.1.B, .b r_4.1.Mod] 0))]⟩, vb r_4.2] <| Rk <| Runs.ret <| kB_ret <| kS_ret ?_
     cases h
     exact Fq
    | false =>
     replace h := ite_f hb_4 h
     refine Cf <| Sq <| Ro <| Rc 2 [vb (op_ == 168), vb (op_ == 168)] <| Rk ?_
     cases hb_5 : ((op_ == 168) : Bool) with
     | true =>
      replace h := ite_t hb_5 h
      refine Ct <| Sq <| Ro ?_
      obtain ⟨r_5, hr_5, h⟩ := bind_s h
      have hc_5 := isa_row_L 33 14 6 r_5 hr_5
      refine Rt (some 27) (.callf 47) [] none [.i 33, .i 14, .i 6] (.tup [.d (Row.d r_5.1), .b r_5.2]) [] (cc hc_5) <| Rc 4 [⟨.d (Row.d r_5.1), []⟩, vb r_5.2, ⟨.tup [], [([2], some (.cells [.i r_5.1.Name, .i r_5.1.A, .i r_5.1.B, .b r_5.1.Mod] 0))]⟩, vb r_5.2] <| Rk <| Runs.ret <| kB_ret <| kS_ret ?_
      cases h
      exact Fq
     | false =>
      replace h := ite_f hb_5 h
      refine Cf <| Sq <| Ro <| Rc 2 [vb (op_ == 169), vb (op_ == 169)] <| Rk ?_
      cases hb_6 : ((op_ == 169) : Bool) with
      | true =>
       replace h := ite_t hb_6 h
       refine Ct <| Sq <| Ro ?_
       obtain ⟨r_6, hr_6, h⟩ := bind_s h
       have hc_6 := isa_row_L 33 16 7 r_6 hr_6
       refine Rt (some 32) (.callf 47) [] none [.i 33, .i 16, .i 7] (.tup [.d (Row.d r_6.1), .b r_6.2]) [] (cc hc_6) <| Rc 4 [⟨.d (Row.d r_6.1), []⟩, vb r_6.2, ⟨.tup [], [([2], some (.cells [.i r_6.1.Name, .i r_6.1.A, .i r_6.1.B, .b r_6.1.Mod] 0))]⟩, vb r_6.2] <| Rk <| Runs.ret <| kB_ret <| kS_ret ?_
       cases h
       exact Fq
      | false =>
       replace h := ite_f hb_6 h
       refine Cf <| Runs.skip <| kB_nrm <| kS_nrm <| Sq <| Sq <| Ro <| Rc 2 [vy op_, vb (decide (op_ < 168))] <| Rk ?_
       cases hb_7 : ((decide (op_ < 168)) : Bool) with
       | true =>
        replace h := ite_t hb_7 h
        refine Ct <| Sq <| Ro <| Rc 4 [vy op_, vy (IntKind.wrap .u8 (op_ - 164)), vi (IntKind.wrap .i64 (IntKind.wrap .u8 (op_ - 164))), vi (IntKind.wrap .i64 (46 + (IntKind.wrap .i64 (IntKind.wrap .u8 (op_ - 164)))))] ?_
        obtain ⟨r_7, hr_7, h⟩ := bind_s h
        have hc_7 := isa_row_L (IntKind.wrap .i64 (46 + (IntKind.wrap .i64 (IntKind.wrap .u8 (op_ - 164))))) 0 0 r_7 hr_7
        refine Rt (some 41) (.callf 47) [] none [.i (IntKind.wrap .i64 (46 + (IntKind.wrap .i64 (IntKind.wrap .u8 (op_ - 164))))), .i 0, .i 0] (.tup [.d (Row.d r_7.1), .b r_7.2]) [] (cc hc_7) <| Rc 4 [⟨.d (Row.d r_7.1), []⟩, vb r_7.2, ⟨.tup [], [([2], some (.cells [.i r_7.1.Name, .i r_7.1.A, .i r_7.1.B, .b r_7.1.Mod] 0))]⟩, vb r_7.2] <| Rk <| Runs.ret <| kS_ret ?_
        cases h
        exact Fq
       | false =>
        replace h := ite_f hb_7 h
        refine Cf <| Runs.skip <| kS_nrm <| Sq <| Ro <| Rc 4 [vy op_, vy (IntKind.wrap .u8 (op_ - 170)), vi (IntKind.wrap .i64 (IntKind.wrap .u8 (op_ - 170))), vi (IntKind.wrap .i64 (50 + (IntKind.wrap .i64 (IntKind.wrap .u8 (op_ - 170)))))] ?_
        obtain ⟨r_8, hr_8, h⟩ := bind_s h
        have hc_8 := isa_row_L (IntKind.wrap .i64 (50 + (IntKind.wrap .i64 (IntKind.wrap .u8 (op_ - 170))))) 0 0 r_8 hr_8
        refine Rt (some 48) (.callf 47) [] none [.i (IntKind.wrap .i64 (50 + (IntKind.wrap .i64 (IntKind.wrap .u8 (op_ - 170))))), .i 0, .i 0] (.tup [.d (Row.d r_8.1), .b r_8.2]) [] (cc hc_8) <| Rc 4 [⟨.d (Row.d r_8.1), []⟩, vb r_8.2, ⟨.tup [], [([2], some (.cells [.i r_8.1.Name, .i r_8.1.A, .i r_8.1.B, .b r_8.1.Mod] 0))]⟩, vb r_8.2] <| Rk <| Runs.ret ?_
        cases h
        exact Fq
theorem isa_texts_L (op_ : Int) (r : (Row × Bool)) (h : isa_texts op_ = some r) : L 51 [.y op_] = some (.tup [.d (Row.d r.1), .b r.2], [.y op_]) := by
 obtain ⟨p, ⟨hne, hf⟩, hr⟩ := isa_texts_ok op_ r h
 obtain ⟨k, hk⟩ := run_of (F := F51) (args := [.y op_]) (ap := [.y op_]) (bx0 := updW (fun _ => none) []) rfl rfl (by kernel_rfl) ⟨p, ⟨hne, hf⟩, hr⟩
 exact lim_run (k := k) rfl hk
def isa_backs_Q (op_ : Int) (reg_ : Int) (r : (Row × Bool)) (p : Out × St) : Prop := (∀ i, p.1 ≠ .exit i) ∧ finF F52 [.y op_, .i reg_] p.2 = some (.tup [.d (Row.d r.1), .b r.2], [.y op_, .i reg_])
theorem isa_backs_ok (op_ : Int) (reg_ : Int) (r : (Row × Bool)) (h : isa_backs op_ reg_ = some r) : Runs L F52.body ⟨tmOf [.y op_, .i reg_] 0, updW (fun _ => none) []⟩ (isa_backs_Q op_ reg_ r) := by
 unfold isa_backs at h
 refine Sq <| Ro <| Rc 2 [⟨.ptr [4] 0 0, [([4], some (.cells [.i 0, .i 0, .i 0, .b false] 0))]⟩, vb false] <| Rk <| Sq <| Sq <| Ro <| Rc 1 [vy op_] <| Rk <| Runs.block <| Sq <| Ro <| Rc 2 [vb (op_ == 194), vb (op_ == 194)] <| Rk ?_
 cases hb_1 : ((op_ == 194) : Bool) with
 | true =>
  replace h := ite_t hb_1 h
  refine Ct <| Sq <| Ro ?_
  obtain ⟨r_1, hr_1, h⟩ := bind_s h
  have hc_1 := isa_row_L 56 7 0 r_1 hr_1
  refine Rt (some 9) (.callf 47) [] none [.i 56, .i 7, .i 0] (.tup [.d (Row.d r_1.1), .b r_1.2]) [] (cc hc_1) <| Rc 4 [⟨.d (Row.d r_1.1), []⟩, vb r_1.2, ⟨.tup [], [([4], some (.cells [.i r_1.1.Name, .i r_1.1.A, .i r_1.1.B, .b r_1.1.Mod] 0))]⟩, vb r_1.2] <| Rk <| Runs.ret <| kB_ret <| kS_ret ?_
  cases h
  exact Fq
 | false =>
  replace h := ite_f hb_1 h
  refine Cf <| Sq <| Ro <| Rc 2 [vb (op_ == 195), vb (op_ == 195)] <| Rk ?_
  cases hb_2 : ((op_ == 195) : Bool) with
  | true =>
   replace h := ite_t hb_2 h
   refine Ct <| Sq <| Ro ?_
   obtain ⟨r_2, hr_2, h⟩ := bind_s h
   have hc_2 := isa_row_L 56 0 0 r_2 hr_2
   refine Rt (some 14) (.callf 47) [] none [.i 56, .i 0, .i 0] (.tup [.d (Row.d r_2.1), .b r_2.2]) [] (cc hc_2) <| Rc 4 [⟨.d (Row.d r_2.1), []⟩, vb r_2.2, ⟨.tup [], [([4], some (.cells [.i r_2.1.Name, .i r_2.1.A, .i r_2.1.B, .b r_2.1.Mod] 0))]⟩, vb r_2.2] <| Rk <| Runs.ret <| kB_ret <| kS_ret ?_
   cases h
   exact Fq
  | false =>
   replace h := ite_f hb_2 h
   refine Cf <| Sq <| Ro <| Rc 2 [vb (op_ == 196), vb (op_ == 196)] <| Rk ?_
   cases hb_3 : ((op_ == 196) : Bool) with
   | true =>
    replace h := ite_t hb_3 h
    refine Ct <| Sq <| Ro ?_
    obtain ⟨r_3, hr_3, h⟩ := bind_s h
    have hc_3 := isa_mod_L 58 4 19 r_3 hr_3
    refine Rt (some 19) (.callf 73) [] none [.i 58, .i 4, .i 19] (.tup [.d (Row.d r_3.1), .b r_3.2]) [] (cc hc_3) <| Rc 4 [⟨.d (Row.d r_3.1), []⟩, vb r_3.2, ⟨.tup [], [([4], some (.cells [.i r_3.1.Name, .i r_3.1.A, .i r_3.1.B, .b r_3.1.Mod] 0))]⟩, vb r_3.2] <| Rk <| Runs.ret <| kB_ret <| kS_ret ?_
    cases h
    exact Fq
   | false =>
    replace h := ite_f hb_3 h
    refine Cf <| Sq <| Ro <| Rc 2 [vb (op_ == 197), vb (op_ == 197)] <| Rk ?_
    cases hb_4 : ((op_ == 197) : Bool) with
    | true =>
     replace h := ite_t hb_4 h
     refine Ct <| Sq <| Ro ?_
     obtain ⟨r_4, hr_4, h⟩ := bind_s h
     have hc_4 := isa_mod_L 59 4 19 r_4 hr_4
     refine Rt (some 24) (.callf 73) [] none [.i 59, .i 4, .i 19] (.tup [.d (Row.d r_4.1), .b r_4.2]) [] (cc hc_4) <| Rc 4 [⟨.d (Row.d r_4.1), []⟩, vb r_4.2, ⟨.tup [], [([4], some (.cells [.i r_4.1.Name, .i r_4.1.A, .i r_4.1.B, .b r_4.1.Mod] 0))]⟩, vb r_4.2] <| Rk <| Runs.ret <| kB_ret <| kS_ret ?_
     cases h
     exact Fq
    | false =>
     replace h := ite_f hb_4 h
     refine Cf <| Sq <| Ro <| Rc 2 [vb (op_ == 198), vb (op_ == 198)] <| Rk ?_
     cases hb_5 : ((op_ == 198) : Bool) with
     | true =>
      replace h := ite_t hb_5 h
      refine Ct <| Sq <| Ro <| Rc 2 [vi reg_, vb (reg_ == 0)] <| Rk ?_
      cases hb_6 : ((reg_ == 0) : Bool) with
      | true =>
       replace h := ite_t hb_6 h
       refine Ct <| Sq <| Ro ?_
       obtain ⟨r_5, hr_5, h⟩ := bind_s h
       have hc_5 := isa_mod_L 35 1 6 r_5 hr_5
       refine Rt (some 31) (.callf 73) [] none [.i 35, .i 1, .i 6] (.tup [.d (Row.d r_5.1), .b r_5.2]) [] (cc hc_5) <| Rc 4 [⟨.d (Row.d r_5.1), []⟩, vb r_5.2, ⟨.tup [], [([4], some (.cells [.i r_5.1.Name, .i r_5.1.A, .i r_5.1.B, .b r_5.1.Mod] 0))]⟩, vb r_5.2] <| Rk <| Runs.ret <| kB_ret <| kS_ret ?_
       cases h
       exact Fq
      | false =>
       replace h := ite_f hb_6 h
       refine Cf <| Runs.skip <| kB_nrm <| kS_nrm <| Sq <| Ro ?_
       obtain ⟨r_6, hr_6, h⟩ := bind_s h
       have hc_6 := isa_bad_L r_6 hr_6
       refine Rt (some 71) (.callf 48) [] none [] (.tup [.d (Row.d r_6.1), .b r_6.2]) [] (cc hc_6) <| Rc 4 [⟨.d (Row.d r_6.1), []⟩, vb r_6.2, ⟨.tup [], [([4], some (.cells [.i r_6.1.Name, .i r_6.1.A, .i r_6.1.B, .b r_6.1.Mod] 0))]⟩, vb r_6.2] <| Rk <| Runs.ret ?_
       cases h
       exact Fq
     | false =>
      replace h := ite_f hb_5 h
      refine Cf <| Sq <| Ro <| Rc 2 [vb (op_ == 199), vb (op_ == 199)] <| Rk ?_
      cases hb_7 : ((op_ == 199) : Bool) with
      | true =>
       replace h := ite_t hb_7 h
       refine Ct <| Sq <| Ro <| Rc 2 [vi reg_, vb (reg_ == 0)] <| Rk ?_
       cases hb_8 : ((reg_ == 0) : Bool) with
       | true =>
        replace h := ite_t hb_8 h
        refine Ct <| Sq <| Ro ?_
        obtain ⟨r_7, hr_7, h⟩ := bind_s h
        have hc_7 := isa_mod_L 35 2 7 r_7 hr_7
        refine Rt (some 38) (.callf 73) [] none [.i 35, .i 2, .i 7] (.tup [.d (Row.d r_7.1), .b r_7.2]) [] (cc hc_7) <| Rc 4 [⟨.d (Row.d r_7.1), []⟩, vb r_7.2, ⟨.tup [], [([4], some (.cells [.i r_7.1.Name, .i r_7.1.A, .i r_7.1.B, .b r_7.1.Mod] 0))]⟩, vb r_7.2] <| Rk <| Runs.ret <| kB_ret <| kS_ret ?_
        cases h
        exact Fq
       | false =>
        replace h := ite_f hb_8 h
        refine Cf <| Runs.skip <| kB_nrm <| kS_nrm <| Sq <| Ro ?_
        obtain ⟨r_8, hr_8, h⟩ := bind_s h
        have hc_8 := isa_bad_L r_8 hr_8
        refine Rt (some 71) (.callf 48) [] none [] (.tup [.d (Row.d r_8.1), .b r_8.2]) [] (cc hc_8) <| Rc 4 [⟨.d (Row.d r_8.1), []⟩, vb r_8.2, ⟨.tup [], [([4], some (.cells [.i r_8.1.Name, .i r_8.1.A, .i r_8.1.B, .b r_8.1.Mod] 0))]⟩, vb r_8.2] <| Rk <| Runs.ret ?_
        cases h
        exact Fq
      | false =>
       replace h := ite_f hb_7 h
       refine Cf <| Sq <| Ro <| Rc 2 [vb (op_ == 202), vb (op_ == 202)] <| Rk ?_
       cases hb_9 : ((op_ == 202) : Bool) with
       | true =>
        replace h := ite_t hb_9 h
        refine Ct <| Sq <| Ro ?_
        obtain ⟨r_9, hr_9, h⟩ := bind_s h
        have hc_9 := isa_row_L 57 7 0 r_9 hr_9
        refine Rt (some 43) (.callf 47) [] none [.i 57, .i 7, .i 0] (.tup [.d (Row.d r_9.1), .b r_9.2]) [] (cc hc_9) <| Rc 4 [⟨.d (Row.d r_9.1), []⟩, vb r_9.2, ⟨.tup [], [([4], some (.cells [.i r_9.1.Name, .i r_9.1.A, .i r_9.1.B, .b r_9.1.Mod] 0))]⟩, vb r_9.2] <| Rk <| Runs.ret <| kB_ret <| kS_ret ?_
        cases h
        exact Fq
       | false =>
        replace h := ite_f hb_9 h
        refine Cf <| Sq <| Ro <| Rc 2 [vb (op_ == 203), vb (op_ == 203)] <| Rk ?_
        cases hb_10 : ((op_ == 203) : Bool) with
        | true =>
         replace h := ite_t hb_10 h
         refine Ct <| Sq <| Ro ?_
         obtain ⟨r_10, hr_10, h⟩ := bind_s h
         have hc_10 := isa_row_L 57 0 0 r_10 hr_10
         refine Rt (some 48) (.callf 47) [] none [.i 57, .i 0, .i 0] (.tup [.d (Row.d r_10.1), .b r_10.2]) [] (cc hc_10) <| Rc 4 [⟨.d (Row.d r_10.1), []⟩, vb r_10.2, ⟨.tup [], [([4], some (.cells [.i r_10.1.Name, .i r_10.1.A, .i r_10.1.B, .b r_10.1.Mod] 0))]⟩, vb r_10.2] <| Rk <| Runs.ret <| kB_ret <| kS_ret ?_
         cases h
         exact Fq
        | false =>
         replace h := ite_f hb_10 h
         refine Cf <| Sq <| Ro <| Rc 2 [vb (op_ == 204), vb (op_ == 204)] <| Rk ?_
         cases hb_11 : ((op_ == 204) : Bool) with
         | true =>
          replace h := ite_t hb_11 h
          refine Ct <| Sq <| Ro ?_
          obtain ⟨r_11, hr_11, h⟩ := bind_s h
          have hc_11 := isa_row_L 60 24 0 r_11 hr_11
          refine Rt (some 53) (.callf 47) [] none [.i 60, .i 24, .i 0] (.tup [.d (Row.d r_11.1), .b r_11.2]) [] (cc hc_11) <| Rc 4 [⟨.d (Row.d r_11.1), []⟩, vb r_11.2, ⟨.tup [], [([4], some (.cells [.i r_11.1.Name, .i r_11.1.A, .i r_11.1.B, .b r_11.1.Mod] 0))]⟩, vb r_11.2] <| Rk <| Runs.ret <| kB_ret <| kS_ret ?_
          cases h
          exact Fq
         | false =>
          replace h := ite_f hb_11 h
          refine Cf <| Sq <| Ro <| Rc 2 [vb (op_ == 205), vb (op_ == 205)] <| Rk ?_
          cases hb_12 : ((op_ == 205) : Bool) with
          | true =>
           replace h := ite_t hb_12 h
           refine Ct <| Sq <| Ro ?_
           obtain ⟨r_12, hr_12, h⟩ := bind_s h
           have hc_12 := isa_row_L 60 6 0 r_12 hr_12
           refine Rt (some 58) (.callf 47) [] none [.i 60, .i 6, .i 0] (.tup [.d (Row.d r_12.1), .b r_12.2]) [] (cc hc_12) <| Rc 4 [⟨.d (Row.d r_12.1), []⟩, vb r_12.2, ⟨.tup [], [([4], some (.cells [.i r_12.1.Name, .i r_12.1.A, .i r_12.1.B, .b r_12.1.Mod] 0))]⟩, vb r_12.2] <| Rk <| Runs.ret <| kB_ret <| kS_ret ?_
           cases h
           exact Fq
          | false =>
           replace h := ite_f hb_12 h
           refine Cf <| Sq <| Ro <| Rc 2 [vb (op_ == 206), vb (op_ == 206)] <| Rk ?_
           cases hb_13 : ((op_ == 206) : Bool) with
           | true =>
            replace h := ite_t hb_13 h
            refine Ct <| Sq <| Ro ?_
            obtain ⟨r_13, hr_13, h⟩ := bind_s h
            have hc_13 := isa_row_L 61 0 0 r_13 hr_13
            refine Rt (some 63) (.callf 47) [] none [.i 61, .i 0, .i 0] (.tup [.d (Row.d r_13.1), .b r_13.2]) [] (cc hc_13) <| Rc 4 [⟨.d (Row.d r_13.1), []⟩, vb r_13.2, ⟨.tup [], [([4], some (.cells [.i r_13.1.Name, .i r_13.1.A, .i r_13.1.B, .b r_13.1.Mod] 0))]⟩, vb r_13.2] <| Rk <| Runs.ret <| kB_ret <| kS_ret ?_
            cases h
            exact Fq
           | false =>
            replace h := ite_f hb_13 h
            refine Cf <| Sq <| Ro <| Rc 2 [vb (op_ == 207), vb (op_ == 207)] <| Rk ?_
            cases hb_14 : ((op_ == 207) : Bool) with
            | true =>
             replace h := ite_t hb_14 h
             refine Ct <| Sq <| Ro ?_
             obtain ⟨r_14, hr_14, h⟩ := bind_s h
             have hc_14 := isa_row_L 62 0 0 r_14 hr_14
             refine Rt (some 68) (.callf 47) [] none [.i 62, .i 0, .i 0] (.tup [.d (Row.d r_14.1), .b r_14.2]) [] (cc hc_14) <| Rc 4 [⟨.d (Row.d r_14.1), []⟩, vb r_14.2, ⟨.tup [], [([4], some (.cells [.i r_14.1.Name, .i r_14.1.A, .i r_14.1.B, .b r_14.1.Mod] 0))]⟩, vb r_14.2] <| Rk <| Runs.ret <| kB_ret <| kS_ret ?_
             cases h
             exact Fq
            | false =>
             replace h := ite_f hb_14 h
             refine Cf <| Runs.skip <| kB_nrm <| kS_nrm <| Sq <| Ro ?_
             obtain ⟨r_15, hr_15, h⟩ := bind_s h
             have hc_15 := isa_bad_L r_15 hr_15
             refine Rt (some 71) (.callf 48) [] none [] (.tup [.d (Row.d r_15.1), .b r_15.2]) [] (cc hc_15) <| Rc 4 [⟨.d (Row.d r_15.1), []⟩, vb r_15.2, ⟨.tup [], [([4], some (.cells [.i r_15.1.Name, .i r_15.1.A, .i r_15.1.B, .b r_15.1.Mod] 0))]⟩, vb r_15.2] <| Rk <| Runs.ret ?_
             cases h
             exact Fq
theorem isa_backs_L (op_ : Int) (reg_ : Int) (r : (Row × Bool)) (h : isa_backs op_ reg_ = some r) : L 52 [.y op_, .i reg_] = some (.tup [.d (Row.d r.1), .b r.2], [.y op_, .i reg_]) := by
 obtain ⟨p, ⟨hne, hf⟩, hr⟩ := isa_backs_ok op_ reg_ r h
 obtain ⟨k, hk⟩ := run_of (F := F52) (args := [.y op_, .i reg_]) (ap := [.y op_, .i reg_]) (bx0 := updW (fun _ => none) []) rfl rfl (by kernel_rfl) ⟨p, ⟨hne, hf⟩, hr⟩
 exact lim_run (k := k) rfl hk
def isa_turns_Q (op_ : Int) (reg_ : Int) (r : (Row × Bool)) (p : Out × St) : Prop := (∀ i, p.1 ≠ .exit i) ∧ finF F53 [.y op_, .i reg_] p.2 = some (.tup [.d (Row.d r.1), .b r.2], [.y op_, .i reg_])
theorem isa_turns_ok (op_ : Int) (reg_ : Int) (r : (Row × Bool)) (h : isa_turns op_ reg_ = some r) : Runs L F53.body ⟨tmOf [.y op_, .i reg_] 0, updW (fun _ => none) []⟩ (isa_turns_Q op_ reg_ r) := by
 unfold isa_turns at h
 refine Sq <| Ro <| Rc 2 [⟨.ptr [4] 0 0, [([4], some (.cells [.i 0, .i 0, .i 0, .b false] 0))]⟩, vb false] <| Rk <| Sq <| Sq <| Ro <| Rc 2 [vy op_, vb (decide (op_ < 212))] <| Rk ?_
 cases hb_1 : ((decide (op_ < 212)) : Bool) with
 | true =>
  replace h := ite_t hb_1 h
  refine Ct <| Sq <| Sq <| Ro <| Rc 2 [vi reg_, vb (reg_ == 6)] <| Rk ?_
  cases hb_2 : ((reg_ == 6) : Bool) with
  | true =>
   replace h := ite_t hb_2 h
   refine Ct <| Sq <| Ro ?_
   obtain ⟨r_1, hr_1, h⟩ := bind_s h
   have hc_1 := isa_bad_L r_1 hr_1
   refine Rt (some 13) (.callf 48) [] none [] (.tup [.d (Row.d r_1.1), .b r_1.2]) [] (cc hc_1) <| Rc 4 [⟨.d (Row.d r_1.1), []⟩, vb r_1.2, ⟨.tup [], [([4], some (.cells [.i r_1.1.Name, .i r_1.1.A, .i r_1.1.B, .b r_1.1.Mod] 0))]⟩, vb r_1.2] <| Rk <| Runs.ret <| kS_ret <| kS_ret ?_
   cases h
   exact Fq
  | false =>
   replace h := ite_f hb_2 h
   refine Cf <| Runs.skip <| kS_nrm <| Sq <| Ro <| Rc 2 [⟨.ref [16] 0 0 (List.map (D.int .i64) ([63, 64, 65, 66, 67, 68, 0, 69] : List Int)).length 1, [([16], some (.arr (List.map (D.int .i64) ([63, 64, 65, 66, 67, 68, 0, 69] : List Int)) 0 false))]⟩, vi reg_] ?_
   obtain ⟨z_1, hz_1, h⟩ := bind_s h
   refine Rt (some 18) (.iaddrS 1) [] none [.ref [16] 0 0 (List.map (D.int .i64) ([63, 64, 65, 66, 67, 68, 0, 69] : List Int)).length 1, .i reg_] (.eref [16] 0 (0 + (reg_).toNat) 0) [] (cut_atR (e := (D.int .i64)) (l := ([63, 64, 65, 66, 67, 68, 0, 69] : List Int)) hz_1 rfl) <| Rt (some 19) (.load none) [] none [.eref [16] 0 (0 + (reg_).toNat) 0] (.i z_1) [] (cut_loadR (e := (D.int .i64)) (l := ([63, 64, 65, 66, 67, 68, 0, 69] : List Int)) (fz := false) (y := z_1) (by kernel_rfl) hz_1 (by kernel_rfl) (by kernel_rfl)) <| Rc 1 [vi z_1] <| Rk <| Sq <| Ro <| Rc 2 [vi 1, vi 18] <| Rk <| Sq <| Sq <| Ro <| Rc 3 [vy op_, vy (bitsOp .and .u8 op_ 1), vb ((bitsOp .and .u8 op_ 1) == 1)] <| Rk ?_
   cases hb_3 : (((bitsOp .and .u8 op_ 1) == 1) : Bool) with
   | true =>
    replace h := ite_t hb_3 h
    refine Ct <| Ro <| Rc 1 [vi 2] <| Rk <| Sq <| Sq <| Ro <| Rc 3 [vy op_, vy (bitsOp .and .u8 op_ 2), vb ((bitsOp .and .u8 op_ 2) != 0)] <| Rk ?_
    cases hb_4 : (((bitsOp .and .u8 op_ 2) != 0) : Bool) with
    | true =>
     replace h := ite_t hb_4 h
     refine Ct <| Ro <| Rc 1 [vi 15] <| Rk <| Sq <| Ro <| Rc 3 [vi z_1, vi 2, vi 15] ?_
     obtain ⟨r_2, hr_2, h⟩ := bind_s h
     have hc_2 := isa_mod_L z_1 2 15 r_2 hr_2
     refine Rt (some 29) (.callf 73) [] none [.i z_1, .i 2, .i 15] (.tup [.d (Row.d r_2.1), .b r_2.2]) [] (cc hc_2) <| Rc 4 [⟨.d (Row.d r_2.1), []⟩, vb r_2.2, ⟨.tup [], [([4], some (.cells [.i r_2.1.Name, .i r_2.1.A, .i r_2.1.B, .b r_2.1.Mod] 0))]⟩, vb r_2.2] <| Rk <| Runs.ret <| kS_ret ?_
     cases h
     exact Fq
    | false =>
     replace h := ite_f hb_4 h
     refine Cf <| Runs.skip <| kS_nrm <| Sq <| Ro <| Rc 3 [vi z_1, vi 2, vi 18] ?_
     obtain ⟨r_3, hr_3, h⟩ := bind_s h
     have hc_3 := isa_mod_L z_1 2 18 r_3 hr_3
     refine Rt (some 29) (.callf 73) [] none [.i z_1, .i 2, .i 18] (.tup [.d (Row.d r_3.1), .b r_3.2]) [] (cc hc_3) <| Rc 4 [⟨.d (Row.d r_3.1), []⟩, vb r_3.2, ⟨.tup [], [([4], some (.cells [.i r_3.1.Name, .i r_3.1.A, .i r_3.1.B, .b r_3.1.Mod] 0))]⟩, vb r_3.2] <| Rk <| Runs.ret <| kS_ret ?_
     cases h
     exact Fq
   | false =>
    replace h := ite_f hb_3 h
    refine Cf <| Runs.skip <| kS_nrm <| Sq <| Sq <| Ro <| Rc 3 [vy op_, vy (bitsOp .and .u8 op_ 2), vb ((bitsOp .and .u8 op_ 2) != 0)] <| Rk ?_
    cases hb_5 : (((bitsOp .and .u8 op_ 2) != 0) : Bool) with
    | true =>
     replace h := ite_t hb_5 h
     refine Ct <| Ro <| Rc 1 [vi 15] <| Rk <| Sq <| Ro <| Rc 3 [vi z_1, vi 1, vi 15] ?_
     obtain ⟨r_4, hr_4, h⟩ := bind_s h
     have hc_4 := isa_mod_L z_1 1 15 r_4 hr_4
     refine Rt (some 29) (.callf 73) [] none [.i z_1, .i 1, .i 15] (.tup [.d (Row.d r_4.1), .b r_4.2]) [] (cc hc_4) <| Rc 4 [⟨.d (Row.d r_4.1), []⟩, vb r_4.2, ⟨.tup [], [([4], some (.cells [.i r_4.1.Name, .i r_4.1.A, .i r_4.1.B, .b r_4.1.Mod] 0))]⟩, vb r_4.2] <| Rk <| Runs.ret <| kS_ret ?_
     cases h
     exact Fq
    | false =>
     replace h := ite_f hb_5 h
     refine Cf <| Runs.skip <| kS_nrm <| Sq <| Ro <| Rc 3 [vi z_1, vi 1, vi 18] ?_
     obtain ⟨r_5, hr_5, h⟩ := bind_s h
     have hc_5 := isa_mod_L z_1 1 18 r_5 hr_5
     refine Rt (some 29) (.callf 73) [] none [.i z_1, .i 1, .i 18] (.tup [.d (Row.d r_5.1), .b r_5.2]) [] (cc hc_5) <| Rc 4 [⟨.d (Row.d r_5.1), []⟩, vb r_5.2, ⟨.tup [], [([4], some (.cells [.i r_5.1.Name, .i r_5.1.A, .i r_5.1.B, .b r_5.1.Mod] 0))]⟩, vb r_5.2] <| Rk <| Runs.ret <| kS_ret ?_
     cases h
     exact Fq
 | false =>
  replace h := ite_f hb_1 h
  refine Cf <| Runs.skip <| kS_nrm <| Sq <| Runs.block <| Sq <| Ro <| Rc 3 [vy op_, vb (op_ == 212), vb (op_ == 212)] <| Rk ?_
  cases hb_6 : ((op_ == 212) : Bool) with
  | true =>
   replace h := ite_t hb_6 h
   refine Ct <| Sq <| Ro ?_
   obtain ⟨r_6, hr_6, h⟩ := bind_s h
   have hc_6 := isa_row_L 70 6 0 r_6 hr_6
   refine Rt (some 35) (.callf 47) [] none [.i 70, .i 6, .i 0] (.tup [.d (Row.d r_6.1), .b r_6.2]) [] (cc hc_6) <| Rc 4 [⟨.d (Row.d r_6.1), []⟩, vb r_6.2, ⟨.tup [], [([4], some (.cells [.i r_6.1.Name, .i r_6.1.A, .i r_6.1.B, .b r_6.1.Mod] 0))]⟩, vb r_6.2] <| Rk <| Runs.ret <| kB_ret <| kS_ret ?_
   cases h
   exact Fq
  | false =>
   replace h := ite_f hb_6 h
   refine Cf <| Sq <| Ro <| Rc 3 [vy op_, vb (op_ == 213), vb (op_ == 213)] <| Rk ?_
   cases hb_7 : ((op_ == 213) : Bool) with
   | true =>
    replace h := ite_t hb_7 h
    refine Ct <| Sq <| Ro ?_
    obtain ⟨r_7, hr_7, h⟩ := bind_s h
    have hc_7 := isa_row_L 71 6 0 r_7 hr_7
    refine Rt (some 41) (.callf 47) [] none [.i 71, .i 6, .i 0] (.tup [.d (Row.d r_7.1), .b r_7.2]) [] (cc hc_7) <| Rc 4 [⟨.d (Row.d r_7.1), []⟩, vb r_7.2, ⟨.tup [], [([4], some (.cells [.i r_7.1.Name, .i r_7.1.A, .i r_7.1.B, .b r_7.1.Mod] 0))]⟩, vb r_7.2] <| Rk <| Runs.ret <| kB_ret <| kS_ret ?_
    cases h
    exact Fq
   | false =>
    replace h := ite_f hb_7 h
    refine Cf <| Sq <| Ro <| Rc 3 [vy op_, vb (op_ == 215), vb (op_ == 215)] <| Rk ?_
    cases hb_8 : ((op_ == 215) : Bool) with
    | true =>
     replace h := ite_t hb_8 h
     refine Ct <| Sq <| Ro ?_
     obtain ⟨r_8, hr_8, h⟩ := bind_s h
     have hc_8 := isa_row_L 72 0 0 r_8 hr_8
     refine Rt (some 47) (.callf 47) [] none [.i 72, .i 0, .i 0] (.tup [.d (Row.d r_8.1), .b r_8.2]) [] (cc hc_8) <| Rc 4 [⟨.d (Row.d r_8.1), []⟩, vb r_8.2, ⟨.tup [], [([4], some (.cells [.i r_8.1.Name, .i r_8.1.A, .i r_8.1.B, .b r_8.1.Mod] 0))]⟩, vb r_8.2] <| Rk <| Runs.ret <| kB_ret <| kS_ret ?_
     cases h
     exact Fq
    | false =>
     replace h := ite_f hb_8 h
     refine Cf <| Sq <| Ro <| Rc 3 [vy op_, vb (decide (op_ ≥ 216)), vb (decide (op_ ≥ 216))] <| Rk ?_
     cases hb_9 : ((decide (op_ ≥ 216)) : Bool) with
     | true =>
      replace h := ite_t hb_9 h
      refine Ct <| Sq <| Ro ?_
      obtain ⟨r_9, hr_9, h⟩ := bind_s h
      have hc_9 := isa_mod_L 73 2 0 r_9 hr_9
      refine Rt (some 53) (.callf 73) [] none [.i 73, .i 2, .i 0] (.tup [.d (Row.d r_9.1), .b r_9.2]) [] (cc hc_9) <| Rc 4 [⟨.d (Row.d r_9.1), []⟩, vb r_9.2, ⟨.tup [], [([4], some (.cells [.i r_9.1.Name, .i r_9.1.A, .i r_9.1.B, .b r_9.1.Mod] 0))]⟩, vb r_9.2] <| Rk <| Runs.ret <| kB_ret <| kS_ret ?_
      cases h
      exact Fq
     | false =>
      replace h := ite_f hb_9 h
      refine Cf <| Runs.skip <| kB_nrm <| kS_nrm <| Sq <| Ro ?_
      obtain ⟨r_10, hr_10, h⟩ := bind_s h
      have hc_10 := isa_bad_L r_10 hr_10
      refine Rt (some 56) (.callf 48) [] none [] (.tup [.d (Row.d r_10.1), .b r_10.2]) [] (cc hc_10) <| Rc 4 [⟨.d (Row.d r_10.1), []⟩, vb r_10.2, ⟨.tup [], [([4], some (.cells [.i r_10.1.Name, .i r_10.1.A, .i r_10.1.B, .b r_10.1.Mod] 0))]⟩, vb r_10.2] <| Rk <| Runs.ret ?_
      cases h
      exact Fq
theorem isa_turns_L (op_ : Int) (reg_ : Int) (r : (Row × Bool)) (h : isa_turns op_ reg_ = some r) : L 53 [.y op_, .i reg_] = some (.tup [.d (Row.d r.1), .b r.2], [.y op_, .i reg_]) := by
 obtain ⟨p, ⟨hne, hf⟩, hr⟩ := isa_turns_ok op_ reg_ r h
 obtain ⟨k, hk⟩ := run_of (F := F53) (args := [.y op_, .i reg_]) (ap := [.y op_, .i reg_]) (bx0 := updW (fun _ => none) []) rfl rfl (by kernel_rfl) ⟨p, ⟨hne, hf⟩, hr⟩
 exact lim_run (k := k) rfl hk
def isa_goes_h20 (b_2 : Row) (op0 : Int) (t4 : Int) (t5 : Bool) : St := ⟨tab [(0, .y op0), (2, .ptr [2] 0 0), (4, .y t4), (5, .b t5)], tabB [([2], some (.cells [.i b_2.Name, .i b_2.A, .i b_2.B, .b b_2.Mod] 0))]⟩
def isa_goes_Q (op_ : Int) (r : (Row × Bool)) (p : Out × St) : Prop := (∀ i, p.1 ≠ .exit i) ∧ finF F54 [.y op_] p.2 = some (.tup [.d (Row.d r.1), .b r.2], [.y op_])
theorem isa_goes_j20_ok (op_ : Int) (b_2 : Row) (op0 : Int) (t4 : Int) (t5 : Bool) (r : (Row × Bool)) (h : isa_goes_j20 b_2 op0 t4 t5 = some r) : Runs L F54b20 (isa_goes_h20 b_2 op0 t4 t5) (kB 0 (kS L F54c91 (isa_goes_Q op_ r))) := by
 unfold isa_goes_j20 at h
 cases hb_2 : (t5 : Bool) with
 | true =>
  replace h := ite_t hb_2 h
  refine Ct <| Sq <| Ro <| Rc 4 [vy op0, vy (IntKind.wrap .u8 (op0 - 224)), vi (IntKind.wrap .i64 (IntKind.wrap .u8 (op0 - 224))), vi (IntKind.wrap .i64 (74 + (IntKind.wrap .i64 (IntKind.wrap .u8 (op0 - 224)))))] ?_
  obtain ⟨r_1, hr_1, h⟩ := bind_s h
  have hc_1 := isa_row_L (IntKind.wrap .i64 (74 + (IntKind.wrap .i64 (IntKind.wrap .u8 (op0 - 224))))) 9 0 r_1 hr_1
  refine Rt (some 14) (.callf 47) [] none [.i (IntKind.wrap .i64 (74 + (IntKind.wrap .i64 (IntKind.wrap .u8 (op0 - 224))))), .i 9, .i 0] (.tup [.d (Row.d r_1.1), .b r_1.2]) [] (cc hc_1) <| Rc 4 [⟨.d (Row.d r_1.1), []⟩, vb r_1.2, ⟨.tup [], [([2], some (.cells [.i r_1.1.Name, .i r_1.1.A, .i r_1.1.B, .b r_1.1.Mod] 0))]⟩, vb r_1.2] <| Rk <| Runs.ret <| kB_ret <| kS_ret ?_
  cases h
  exact Fq
 | false =>
  replace h := ite_f hb_2 h
  refine Cf <| Sq <| Ro <| Rc 2 [vb (t4 == 228), vb (t4 == 228)] <| Rk ?_
  cases hb_3 : ((t4 == 228) : Bool) with
  | true =>
   replace h := ite_t hb_3 h
   refine Ct <| Sq <| Ro ?_
   obtain ⟨r_2, hr_2, h⟩ := bind_s h
   have hc_2 := isa_row_L 78 14 6 r_2 hr_2
   refine Rt (some 19) (.callf 47) [] none [.i 78, .i 14, .i 6] (.tup [.d (Row.d r_2.1), .b r_2.2]) [] (cc hc_2) <| Rc 4 [⟨.d (Row.d r_2.1), []⟩, vb r_2.2, ⟨.tup [], [([2], some (.cells [.i r_2.1.Name, .i r_2.1.A, .i r_2.1.B, .b r_2.1.Mod] 0))]⟩, vb r_2.2] <| Rk <| Runs.ret <| kB_ret <| kS_ret ?_
   cases h
   exact Fq
  | false =>
   replace h := ite_f hb_3 h
   refine Cf <| Sq <| Ro <| Rc 2 [vb (t4 == 229), vb (t4 == 229)] <| Rk ?_
   cases hb_4 : ((t4 == 229) : Bool) with
   | true =>
    replace h := ite_t hb_4 h
    refine Ct <| Sq <| Ro ?_
    obtain ⟨r_3, hr_3, h⟩ := bind_s h
    have hc_3 := isa_row_L 78 16 6 r_3 hr_3
    refine Rt (some 24) (.callf 47) [] none [.i 78, .i 16, .i 6] (.tup [.d (Row.d r_3.1), .b r_3.2]) [] (cc hc_3) <| Rc 4 [⟨.d (Row.d r_3.1), []⟩, vb r_3.2, ⟨.tup [], [([2], some (.cells [.i r_3.1.Name, .i r_3.1.A, .i r_3.1.B, .b r_3.1.Mod] 0))]⟩, vb r_3.2] <| Rk <| Runs.ret <| kB_ret <| kS_ret ?_
    cases h
    exact Fq
   | false =>
    replace h := ite_f hb_4 h
    refine Cf <| Sq <| Ro <| Rc 2 [vb (t4 == 230), vb (t4 == 230)] <| Rk ?_
    cases hb_5 : ((t4 == 230) : Bool) with
    | true =>
     replace h := ite_t hb_5 h
     refine Ct <| Sq <| Ro ?_
     obtain ⟨r_4, hr_4, h⟩ := bind_s h
     have hc_4 := isa_row_L 79 6 14 r_4 hr_4
     refine Rt (some 29) (.callf 47) [] none [.i 79, .i 6, .i 14] (.tup [.d (Row.d r_4.1), .b r_4.2]) [] (cc hc_4) <| Rc 4 [⟨.d (Row.d r_4.1), []⟩, vb r_4.2, ⟨.tup [], [([2], some (.cells [.i r_4.1.Name, .i r_4.1.A, .i r_4.1.B, .b r_4.1.Mod] 0))]⟩, vb r_4.2] <| Rk <| Runs.ret <| kB_ret <| kS_ret ?_
     cases h
     exact Fq
    | false =>
     replace h := ite_f hb_5 h
     refine Cf <| Sq <| Ro <| Rc 2 [vb (t4 == 231), vb (t4 == 231)] <| Rk ?_
     cases hb_6 : ((t4 == 231) : Bool) with
     | true =>
      replace h := ite_t hb_6 h
      refine Ct <| Sq <| Ro ?_
      obtain ⟨r_5, hr_5, h⟩ := bind_s h
      have hc_5 := isa_row_L 79 6 16 r_5 hr_5
      refine Rt (some 34) (.callf 47) [] none [.i 79, .i 6, .i 16] (.tup [.d (Row.d r_5.1), .b r_5.2]) [] (cc hc_5) <| Rc 4 [⟨.d (Row.d r_5.1), []⟩, vb r_5.2, ⟨.tup [], [([2], some (.cells [.i r_5.1.Name, .i r_5.1.A, .i r_5.1.B, .b r_5.1.Mod] 0))]⟩, vb r_5.2] <| Rk <| Runs.ret <| kB_ret <| kS_ret ?_
      cases h
      exact Fq
     | false =>
      replace h := ite_f hb_6 h
      refine Cf <| Sq <| Ro <| Rc 2 [vb (t4 == 232), vb (t4 == 232)] <| Rk ?_
      cases hb_7 : ((t4 == 232) : Bool) with
      | true =>
       replace h := ite_t hb_7 h
       refine Ct <| Sq <| Ro ?_
       obtain ⟨r_6, hr_6, h⟩ := bind_s h
       have hc_6 := isa_row_L 39 10 0 r_6 hr_6
       refine Rt (some 39) (.callf 47) [] none [.i 39, .i 10, .i 0] (.tup [.d (Row.d r_6.1), .b r_6.2]) [] (cc hc_6) <| Rc 4 [⟨.d (Row.d r_6.1), []⟩, vb r_6.2, ⟨.tup [], [([2], some (.cells [.i r_6.1.Name, .i r_6.1.A, .i r_6.1.B, .b r_6.1.Mod] 0))]⟩, vb r_6.2] <| Rk <| Runs.ret <| kB_ret <| kS_ret ?_
       cases h
       exact Fq
      | false =>
       replace h := ite_f hb_7 h
       refine Cf <| Sq <| Ro <| Rc 2 [vb (t4 == 233), vb (t4 == 233)] <| Rk ?_
       cases hb_8 : ((t4 == 233) : Bool) with
       | true =>
        replace h := ite_t hb_8 h
        refine Ct <| Sq <| Ro ?_
        obtain ⟨r_7, hr_7, h⟩ := bind_s h
        have hc_7 := isa_row_L 80 10 0 r_7 hr_7
        refine Rt (some 44) (.callf 47) [] none [.i 80, .i 10, .i 0] (.tup [.d (Row.d r_7.1), .b r_7.2]) [] (cc hc_7) <| Rc 4 [⟨.d (Row.d r_7.1), []⟩, vb r_7.2, ⟨.tup [], [([2], some (.cells [.i r_7.1.Name, .i r_7.1.A, .i r_7.1.B, .b r_7.1.Mod] 0))]⟩, vb r_7.2] <| Rk <| Runs.ret <| kB_ret <| kS_ret ?_
        cases h
        exact Fq
       | false =>
        replace h := ite_f hb_8 h
        refine Cf <| Sq <| Ro <| Rc 2 [vb (t4 == 234), vb (t4 == 234)] <| Rk ?_
        cases hb_9 : ((t4 == 234) : Bool) with
        | true =>
         replace h := ite_t hb_9 h
         refine Ct <| Sq <| Ro ?_
         obtain ⟨r_8, hr_8, h⟩ := bind_s h
         have hc_8 := isa_row_L 81 11 0 r_8 hr_8
         refine Rt (some 49) (.callf 47) [] none [.i 81, .i 11, .i 0] (.tup [.d (Row.d r_8.1), .b r_8.2]) [] (cc hc_8) <| Rc 4 [⟨.d (Row.d r_8.1), []⟩, vb r_8.2, ⟨.tup [], [([2], some (.cells [.i r_8.1.Name, .i r_8.1.A, .i r_8.1.B, .b r_8.1.Mod] 0))]⟩, vb r_8.2] <| Rk <| Runs.ret <| kB_ret <| kS_ret ?_
         cases h
         exact Fq
        | false =>
         replace h := ite_f hb_9 h
         refine Cf <| Sq <| Ro <| Rc 2 [vb (t4 == 235), vb (t4 == 235)] <| Rk ?_
         cases hb_10 : ((t4 == 235) : Bool) with
         | true =>
          replace h := ite_t hb_10 h
          refine Ct <| Sq <| Ro ?_
          obtain ⟨r_9, hr_9, h⟩ := bind_s h
          have hc_9 := isa_row_L 80 9 0 r_9 hr_9
          refine Rt (some 54) (.callf 47) [] none [.i 80, .i 9, .i 0] (.tup [.d (Row.d r_9.1), .b r_9.2]) [] (cc hc_9) <| Rc 4 [⟨.d (Row.d r_9.1), []⟩, vb r_9.2, ⟨.tup [], [([2], some (.cells [.i r_9.1.Name, .i r_9.1.A, .i r_9.1.B, .b r_9.1.Mod] 0))]⟩, vb r_9.2] <| Rk <| Runs.ret <| kB_ret <| kS_ret ?_
          cases h
          exact Fq
         | false =>
          replace h := ite_f hb_10 h
          refine Cf <| Sq <| Ro <| Rc 2 [vb (t4 == 236), vb (t4 == 236)] <| Rk ?_
          cases hb_11 : ((t4 == 236) : Bool) with
          | true =>
           replace h := ite_t hb_11 h
           refine Ct <| Sq <| Ro ?_
           obtain ⟨r_10, hr_10, h⟩ := bind_s h
           have hc_10 := isa_row_L 78 14 17 r_10 hr_10
           refine Rt (some 59) (.callf 47) [] none [.i 78, .i 14, .i 17] (.tup [.d (Row.d r_10.1), .b r_10.2]) [] (cc hc_10) <| Rc 4 [⟨.d (Row.d r_10.1), []⟩, vb r_10.2, ⟨.tup [], [([2], some (.cells [.i r_10.1.Name, .i r_10.1.A, .i r_10.1.B, .b r_10.1.Mod] 0))]⟩, vb r_10.2] <| Rk <| Runs.ret <| kB_ret <| kS_ret ?_
           cases h
           exact Fq
          | false =>
           replace h := ite_f hb_11 h
           refine Cf <| Sq <| Ro <| Rc 2 [vb (t4 == 237), vb (t4 == 237)] <| Rk ?_
           cases hb_12 : ((t4 == 237) : Bool) with
           | true =>
            replace h := ite_t hb_12 h
            refine Ct <| Sq <| Ro ?_
            obtain ⟨r_11, hr_11, h⟩ := bind_s h
            have hc_11 := isa_row_L 78 16 17 r_11 hr_11
            refine Rt (some 64) (.callf 47) [] none [.i 78, .i 16, .i 17] (.tup [.d (Row.d r_11.1), .b r_11.2]) [] (cc hc_11) <| Rc 4 [⟨.d (Row.d r_11.1), []⟩, vb r_11.2, ⟨.tup [], [([2], some (.cells [.i r_11.1.Name, .i r_11.1.A, .i r_11.1.B, .b r_11.1.Mod] 0))]⟩, vb r_11.2] <| Rk <| Runs.ret <| kB_ret <| kS_ret ?_
            cases h
            exact Fq
           | false =>
            replace h := ite_f hb_12 h
            refine Cf <| Sq <| Ro <| Rc 2 [vb (t4 == 238), vb (t4 == 238)] <| Rk ?_
            cases hb_13 : ((t4 == 238) : Bool) with
            | true =>
             replace h := ite_t hb_13 h
             refine Ct <| Sq <| Ro ?_
             obtain ⟨r_12, hr_12, h⟩ := bind_s h
             have hc_12 := isa_row_L 79 17 14 r_12 hr_12
             refine Rt (some 69) (.callf 47) [] none [.i 79, .i 17, .i 14] (.tup [.d (Row.d r_12.1), .b r_12.2]) [] (cc hc_12) <| Rc 4 [⟨.d (Row.d r_12.1), []⟩, vb r_12.2, ⟨.tup [], [([2], some (.cells [.i r_12.1.Name, .i r_12.1.A, .i r_12.1.B, .b r_12.1.Mod] 0))]⟩, vb r_12.2] <| Rk <| Runs.ret <| kB_ret <| kS_ret ?_
             cases h
             exact Fq
            | false =>
             replace h := ite_f hb_13 h
             refine Cf <| Runs.skip <| kB_nrm <| kS_nrm <| Sq <| Ro ?_
             obtain ⟨r_13, hr_13, h⟩ := bind_s h
             have hc_13 := isa_row_L 79 17 16 r_13 hr_13
             refine Rt (some 72) (.callf 47) [] none [.i 79, .i 17, .i 16] (.tup [.d (Row.d r_13.1), .b r_13.2]) [] (cc hc_13) <| Rc 4 [⟨.d (Row.d r_13.1), []⟩, vb r_13.2, ⟨.tup [], [([2], some (.cells [.i r_13.1.Name, .i r_13.1.A, .i r_13.1.B, .b r_13.1.Mod] 0))]⟩, vb r_13.2] <| Rk <| Runs.ret ?_
             cases h
             exact Fq
theorem isa_goes_ok (op_ : Int) (r : (Row × Bool)) (h : isa_goes op_ = some r) : Runs L F54.body ⟨tmOf [.y op_] 0, updW (fun _ => none) []⟩ (isa_goes_Q op_ r) := by
 unfold isa_goes at h
 refine Sq <| Ro <| Rc 2 [⟨.ptr [2] 0 0, [([2], some (.cells [.i 0, .i 0, .i 0, .b false] 0))]⟩, vb false] <| Rk <| Sq <| Sq <| Ro <| Rc 1 [vy op_] <| Rk <| Runs.block <| Sq <| Sq <| Ro <| Rc 2 [vb (op_ == 224), vb (op_ == 224)] <| Rk ?_
 cases hb_1 : ((op_ == 224) : Bool) with
 | true =>
  replace h := ite_t hb_1 h
  refine Ct <| Runs.skip <| kS_nrm <| Runs.canon (isa_goes_h20 ({ Name := 0, A := 0, B := 0, Mod := false } : Row) op_ op_ true) Cz ?_
  exact isa_goes_j20_ok op_ ({ Name := 0, A := 0, B := 0, Mod := false } : Row) op_ op_ true r h
 | false =>
  replace h := ite_f hb_1 h
  refine Cf <| Sq <| Ro <| Rc 2 [vb (op_ == 225), vb (op_ == 225)] <| Rk ?_
  cases hb_14 : ((op_ == 225) : Bool) with
  | true =>
   replace h := ite_t hb_14 h
   refine Ct <| Runs.skip <| kS_nrm <| Runs.canon (isa_goes_h20 ({ Name := 0, A := 0, B := 0, Mod := false } : Row) op_ op_ true) Cz ?_
   exact isa_goes_j20_ok op_ ({ Name := 0, A := 0, B := 0, Mod := false } : Row) op_ op_ true r h
  | false =>
   replace h := ite_f hb_14 h
   refine Cf <| Sq <| Ro <| Rc 2 [vb (op_ == 226), vb (op_ == 226)] <| Rk ?_
   cases hb_15 : ((op_ == 226) : Bool) with
   | true =>
    replace h := ite_t hb_15 h
    refine Ct <| Runs.skip <| kS_nrm <| Runs.canon (isa_goes_h20 ({ Name := 0, A := 0, B := 0, Mod := false } : Row) op_ op_ true) Cz ?_
    exact isa_goes_j20_ok op_ ({ Name := 0, A := 0, B := 0, Mod := false } : Row) op_ op_ true r h
   | false =>
    replace h := ite_f hb_15 h
    refine Cf <| Ro <| Rc 2 [vb (op_ == 227), vb (op_ == 227)] <| Rk <| Runs.canon (isa_goes_h20 ({ Name := 0, A := 0, B := 0, Mod := false } : Row) op_ op_ (op_ == 227)) Cz ?_
    exact isa_goes_j20_ok op_ ({ Name := 0, A := 0, B := 0, Mod := false } : Row) op_ op_ (op_ == 227) r h
theorem isa_goes_L (op_ : Int) (r : (Row × Bool)) (h : isa_goes op_ = some r) : L 54 [.y op_] = some (.tup [.d (Row.d r.1), .b r.2], [.y op_]) := by
 obtain ⟨p, ⟨hne, hf⟩, hr⟩ := isa_goes_ok op_ r h
 obtain ⟨k, hk⟩ := run_of (F := F54) (args := [.y op_]) (ap := [.y op_]) (bx0 := updW (fun _ => none) []) rfl rfl (by kernel_rfl) ⟨p, ⟨hne, hf⟩, hr⟩
 exact lim_run (k := k) rfl hk
def isa_rest_h18 (b_4 : Row) (op0 : Int) (reg1 : Int) (t21 : Bool) : St := ⟨tab [(0, .y op0), (1, .i reg1), (4, .ptr [4] 0 0), (21, .b t21)], tabB [([4], some (.cells [.i b_4.Name, .i b_4.A, .i b_4.B, .b b_4.Mod] 0))]⟩
def isa_rest_h37 (b_4 : Row) (op0 : Int) (reg1 : Int) (e6 : Int) (i7 : Int) : St := ⟨tab [(0, .y op0), (1, .i reg1), (4, .ptr [4] 0 0), (6, .i e6), (7, .i i7)], tabB [([4], some (.cells [.i b_4.Name, .i b_4.A, .i b_4.B, .b b_4.Mod] 0))]⟩
def isa_rest_Q (op_ : Int) (reg_ : Int) (r : (Row × Bool)) (p : Out × St) : Prop := (∀ i, p.1 ≠ .exit i) ∧ finF F55 [.y op_, .i reg_] p.2 = some (.tup [.d (Row.d r.1), .b r.2], [.y op_, .i reg_])
theorem isa_rest_j37_ok (op_ : Int) (reg_ : Int) (b_4 : Row) (op0 : Int) (reg1 : Int) (e6 : Int) (i7 : Int) (r : (Row × Bool)) (h : isa_rest_j37 b_4 op0 reg1 e6 i7 = some r) : Runs L F55b37 (isa_rest_h37 b_4 op0 reg1 e6 i7) (isa_rest_Q op_ reg_ r) := by
 unfold isa_rest_j37 at h
 refine Sq <| Sq <| Ro <| Rc 2 [vy op0, vb (decide (op0 < 248))] <| Rk ?_
 cases hb_7 : ((decide (op0 < 248)) : Bool) with
 | true =>
  replace h := ite_t hb_7 h
  refine Ct <| Sq <| Sq <| Ro <| Rc 1 [vi reg1] <| Rk <| Runs.block <| Sq <| Ro <| Rc 2 [vb (reg1 == 0), vb (reg1 == 0)] <| Rk ?_
  cases hb_8 : ((reg1 == 0) : Bool) with
  | true =>
   replace h := ite_t hb_8 h
   refine Ct <| Sq <| Ro <| Rc 2 [vi e6, vi i7] ?_
   obtain ⟨r_5, hr_5, h⟩ := bind_s h
   have hc_5 := isa_mod_L 33 e6 i7 r_5 hr_5
   refine Rt (some 51) (.callf 73) [] none [.i 33, .i e6, .i i7] (.tup [.d (Row.d r_5.1), .b r_5.2]) [] (cc hc_5) <| Rc 4 [⟨.d (Row.d r_5.1), []⟩, vb r_5.2, ⟨.tup [], [([4], some (.cells [.i r_5.1.Name, .i r_5.1.A, .i r_5.1.B, .b r_5.1.Mod] 0))]⟩, vb r_5.2] <| Rk <| Runs.ret <| kB_ret <| kS_ret <| kS_ret ?_
   cases h
   exact Fq
  | false =>
   replace h := ite_f hb_8 h
   refine Cf <| Sq <| Ro <| Rc 2 [vb (reg1 == 1), vb (reg1 == 1)] <| Rk ?_
   cases hb_9 : ((reg1 == 1) : Bool) with
   | true =>
    replace h := ite_t hb_9 h
    refine Ct <| Sq <| Ro ?_
    obtain ⟨r_6, hr_6, h⟩ := bind_s h
    have hc_6 := isa_bad_L r_6 hr_6
    refine Rt (some 56) (.callf 48) [] none [] (.tup [.d (Row.d r_6.1), .b r_6.2]) [] (cc hc_6) <| Rc 4 [⟨.d (Row.d r_6.1), []⟩, vb r_6.2, ⟨.tup [], [([4], some (.cells [.i r_6.1.Name, .i r_6.1.A, .i r_6.1.B, .b r_6.1.Mod] 0))]⟩, vb r_6.2] <| Rk <| Runs.ret <| kB_ret <| kS_ret <| kS_ret ?_
    cases h
    exact Fq
   | false =>
    replace h := ite_f hb_9 h
    refine Cf <| Runs.skip <| kB_nrm <| kS_nrm <| Sq <| Ro <| Rc 4 [vi reg1, vi (IntKind.wrap .i64 (84 + reg1)), vi (IntKind.wrap .i64 ((IntKind.wrap .i64 (84 + reg1)) - 2)), vi e6] ?_
    obtain ⟨r_7, hr_7, h⟩ := bind_s h
    have hc_7 := isa_mod_L (IntKind.wrap .i64 ((IntKind.wrap .i64 (84 + reg1)) - 2)) e6 0 r_7 hr_7
    refine Rt (some 63) (.callf 73) [] none [.i (IntKind.wrap .i64 ((IntKind.wrap .i64 (84 + reg1)) - 2)), .i e6, .i 0] (.tup [.d (Row.d r_7.1), .b r_7.2]) [] (cc hc_7) <| Rc 4 [⟨.d (Row.d r_7.1), []⟩, vb r_7.2, ⟨.tup [], [([4], some (.cells [.i r_7.1.Name, .i r_7.1.A, .i r_7.1.B, .b r_7.1.Mod] 0))]⟩, vb r_7.2] <| Rk <| Runs.ret <| kS_ret ?_
    cases h
    exact Fq
 | false =>
  replace h := ite_f hb_7 h
  refine Cf <| Runs.skip <| kS_nrm <| Sq <| Runs.block <| Sq <| Ro <| Rc 3 [vi reg1, vb (decide (reg1 < 2)), vb (decide (reg1 < 2))] <| Rk ?_
  cases hb_10 : ((decide (reg1 < 2)) : Bool) with
  | true =>
   replace h := ite_t hb_10 h
   refine Ct <| Sq <| Ro <| Rc 3 [vi reg1, vi (IntKind.wrap .i64 (15 + reg1)), vi e6] ?_
   obtain ⟨r_8, hr_8, h⟩ := bind_s h
   have hc_8 := isa_mod_L (IntKind.wrap .i64 (15 + reg1)) e6 0 r_8 hr_8
   refine Rt (some 72) (.callf 73) [] none [.i (IntKind.wrap .i64 (15 + reg1)), .i e6, .i 0] (.tup [.d (Row.d r_8.1), .b r_8.2]) [] (cc hc_8) <| Rc 4 [⟨.d (Row.d r_8.1), []⟩, vb r_8.2, ⟨.tup [], [([4], some (.cells [.i r_8.1.Name, .i r_8.1.A, .i r_8.1.B, .b r_8.1.Mod] 0))]⟩, vb r_8.2] <| Rk <| Runs.ret <| kB_ret <| kS_ret ?_
   cases h
   exact Fq
  | false =>
   replace h := ite_f hb_10 h
   refine Cf <| Sq <| Ro <| Rc 3 [vy op0, vb (op0 == 254), vb (op0 == 254)] ?_
   cases hb_11 : ((op0 == 254) : Bool) with
   | true =>
    replace h := ite_t hb_11 h
    refine Rc 4 [vn, vn, vb true, vb true] <| Rk <| Ct <| Sq <| Ro ?_
    obtain ⟨r_9, hr_9, h⟩ := bind_s h
    have hc_9 := isa_bad_L r_9 hr_9
    refine Rt (some 82) (.callf 48) [] none [] (.tup [.d (Row.d r_9.1), .b r_9.2]) [] (cc hc_9) <| Rc 4 [⟨.d (Row.d r_9.1), []⟩, vb r_9.2, ⟨.tup [], [([4], some (.cells [.i r_9.1.Name, .i r_9.1.A, .i r_9.1.B, .b r_9.1.Mod] 0))]⟩, vb r_9.2] <| Rk <| Runs.ret <| kB_ret <| kS_ret ?_
    cases h
    exact Fq
   | false =>
    replace h := ite_f hb_11 h
    refine Rc 4 [vi reg1, vb (reg1 == 7), vb (reg1 == 7), vb (reg1 == 7)] <| Rk ?_
    cases hb_12 : ((reg1 == 7) : Bool) with
    | true =>
     replace h := ite_t hb_12 h
     refine Ct <| Sq <| Ro ?_
     obtain ⟨r_10, hr_10, h⟩ := bind_s h
     have hc_10 := isa_bad_L r_10 hr_10
     refine Rt (some 82) (.callf 48) [] none [] (.tup [.d (Row.d r_10.1), .b r_10.2]) [] (cc hc_10) <| Rc 4 [⟨.d (Row.d r_10.1), []⟩, vb r_10.2, ⟨.tup [], [([4], some (.cells [.i r_10.1.Name, .i r_10.1.A, .i r_10.1.B, .b r_10.1.Mod] 0))]⟩, vb r_10.2] <| Rk <| Runs.ret <| kB_ret <| kS_ret ?_
     cases h
     exact Fq
    | false =>
     replace h := ite_f hb_12 h
     refine Cf <| Runs.skip <| kB_nrm <| kS_nrm <| Sq <| Ro <| Rc 3 [⟨.ref [85] 0 0 (List.map (D.int .i64) ([39, 40, 80, 81, 9] : List Int)).length 1, [([85], some (.arr (List.map (D.int .i64) ([39, 40, 80, 81, 9] : List Int)) 0 false))]⟩, vi reg1, vi (IntKind.wrap .i64 (reg1 - 2))] ?_
     obtain ⟨z_1, hz_1, h⟩ := bind_s h
     refine Rt (some 88) (.iaddrS 1) [] none [.ref [85] 0 0 (List.map (D.int .i64) ([39, 40, 80, 81, 9] : List Int)).length 1, .i (IntKind.wrap .i64 (reg1 - 2))] (.eref [85] 0 (0 + ((IntKind.wrap .i64 (reg1 - 2))).toNat) 0) [] (cut_atR (e := (D.int .i64)) (l := ([39, 40, 80, 81, 9] : List Int)) hz_1 rfl) <| Rt (some 89) (.load none) [] none [.eref [85] 0 (0 + ((IntKind.wrap .i64 (reg1 - 2))).toNat) 0] (.i z_1) [] (cut_loadR (e := (D.int .i64)) (l := ([39, 40, 80, 81, 9] : List Int)) (fz := false) (y := z_1) (by kernel_rfl) hz_1 (by kernel_rfl) (by kernel_rfl)) <| Rc 1 [vi z_1] <| Rk <| Sq <| Sq <| Ro <| Rc 3 [vi reg1, vb (reg1 == 3), vb (reg1 == 3)] ?_
     cases hb_13 : ((reg1 == 3) : Bool) with
     | true =>
      replace h := ite_t hb_13 h
      refine Rc 3 [vn, vn, vb true] <| Rk <| Ct <| Ro <| Rc 1 [vi 19] <| Rk <| Sq <| Ro <| Rc 2 [vi z_1, vi 19] ?_
      obtain ⟨r_11, hr_11, h⟩ := bind_s h
      have hc_11 := isa_mod_L z_1 19 0 r_11 hr_11
      refine Rt (some 98) (.callf 73) [] none [.i z_1, .i 19, .i 0] (.tup [.d (Row.d r_11.1), .b r_11.2]) [] (cc hc_11) <| Rc 4 [⟨.d (Row.d r_11.1), []⟩, vb r_11.2, ⟨.tup [], [([4], some (.cells [.i r_11.1.Name, .i r_11.1.A, .i r_11.1.B, .b r_11.1.Mod] 0))]⟩, vb r_11.2] <| Rk <| Runs.ret ?_
      cases h
      exact Fq
     | false =>
      replace h := ite_f hb_13 h
      refine Rc 3 [vi reg1, vb (reg1 == 5), vb (reg1 == 5)] <| Rk ?_
      cases hb_14 : ((reg1 == 5) : Bool) with
      | true =>
       replace h := ite_t hb_14 h
       refine Ct <| Ro <| Rc 1 [vi 19] <| Rk <| Sq <| Ro <| Rc 2 [vi z_1, vi 19] ?_
       obtain ⟨r_12, hr_12, h⟩ := bind_s h
       have hc_12 := isa_mod_L z_1 19 0 r_12 hr_12
       refine Rt (some 98) (.callf 73) [] none [.i z_1, .i 19, .i 0] (.tup [.d (Row.d r_12.1), .b r_12.2]) [] (cc hc_12) <| Rc 4 [⟨.d (Row.d r_12.1), []⟩, vb r_12.2, ⟨.tup [], [([4], some (.cells [.i r_12.1.Name, .i r_12.1.A, .i r_12.1.B, .b r_12.1.Mod] 0))]⟩, vb r_12.2] <| Rk <| Runs.ret ?_
       cases h
       exact Fq
      | false =>
       replace h := ite_f hb_14 h
       refine Cf <| Runs.skip <| kS_nrm <| Sq <| Ro <| Rc 2 [vi z_1, vi e6] ?_
       obtain ⟨r_13, hr_13, h⟩ := bind_s h
       have hc_13 := isa_mod_L z_1 e6 0 r_13 hr_13
       refine Rt (some 98) (.callf 73) [] none [.i z_1, .i e6, .i 0] (.tup [.d (Row.d r_13.1), .b r_13.2]) [] (cc hc_13) <| Rc 4 [⟨.d (Row.d r_13.1), []⟩, vb r_13.2, ⟨.tup [], [([4], some (.cells [.i r_13.1.Name, .i r_13.1.A, .i r_13.1.B, .b r_13.1.Mod] 0))]⟩, vb r_13.2] <| Rk <| Runs.ret ?_
       cases h
       exact Fq
theorem isa_rest_j18_ok (op_ : Int) (reg_ : Int) (b_4 : Row) (op0 : Int) (reg1 : Int) (t21 : Bool) (r : (Row × Bool)) (h : isa_rest_j18 b_4 op0 reg1 t21 = some r) : Runs L F55b18 (isa_rest_h18 b_4 op0 reg1 t21) (kB 0 (kS L F55c29 (isa_rest_Q op_ reg_ r))) := by
 unfold isa_rest_j18 at h
 cases hb_4 : (t21 : Bool) with
 | true =>
  replace h := ite_t hb_4 h
  refine Ct <| Sq <| Ro <| Rc 4 [vy op0, vy (IntKind.wrap .u8 (op0 - 248)), vi (IntKind.wrap .i64 (IntKind.wrap .u8 (op0 - 248))), vi (IntKind.wrap .i64 (90 + (IntKind.wrap .i64 (IntKind.wrap .u8 (op0 - 248)))))] ?_
  obtain ⟨r_3, hr_3, h⟩ := bind_s h
  have hc_3 := isa_row_L (IntKind.wrap .i64 (90 + (IntKind.wrap .i64 (IntKind.wrap .u8 (op0 - 248))))) 0 0 r_3 hr_3
  refine Rt (some 32) (.callf 47) [] none [.i (IntKind.wrap .i64 (90 + (IntKind.wrap .i64 (IntKind.wrap .u8 (op0 - 248))))), .i 0, .i 0] (.tup [.d (Row.d r_3.1), .b r_3.2]) [] (cc hc_3) <| Rc 4 [⟨.d (Row.d r_3.1), []⟩, vb r_3.2, ⟨.tup [], [([4], some (.cells [.i r_3.1.Name, .i r_3.1.A, .i r_3.1.B, .b r_3.1.Mod] 0))]⟩, vb r_3.2] <| Rk <| Runs.ret <| kB_ret <| kS_ret ?_
  cases h
  exact Fq
 | false =>
  replace h := ite_f hb_4 h
  refine Cf <| Sq <| Ro <| Rc 3 [vy op0, vb (decide (op0 < 246)), vb (decide (op0 < 246))] <| Rk ?_
  cases hb_5 : ((decide (op0 < 246)) : Bool) with
  | true =>
   replace h := ite_t hb_5 h
   refine Ct <| Sq <| Ro ?_
   obtain ⟨r_4, hr_4, h⟩ := bind_s h
   have hc_4 := isa_bad_L r_4 hr_4
   refine Rt (some 38) (.callf 48) [] none [] (.tup [.d (Row.d r_4.1), .b r_4.2]) [] (cc hc_4) <| Rc 4 [⟨.d (Row.d r_4.1), []⟩, vb r_4.2, ⟨.tup [], [([4], some (.cells [.i r_4.1.Name, .i r_4.1.A, .i r_4.1.B, .b r_4.1.Mod] 0))]⟩, vb r_4.2] <| Rk <| Runs.ret <| kB_ret <| kS_ret ?_
   cases h
   exact Fq
  | false =>
   replace h := ite_f hb_5 h
   refine Cf <| Runs.skip <| kB_nrm <| kS_nrm <| Sq <| Ro <| Rc 2 [vi 1, vi 6] <| Rk <| Sq <| Sq <| Ro <| Rc 3 [vy op0, vy (bitsOp .and .u8 op0 1), vb ((bitsOp .and .u8 op0 1) == 1)] <| Rk ?_
   cases hb_6 : (((bitsOp .and .u8 op0 1) == 1) : Bool) with
   | true =>
    replace h := ite_t hb_6 h
    refine Ct <| Ro <| Rc 2 [vi 2, vi 7] <| Rk <| Runs.canon (isa_rest_h37 b_4 op0 reg1 2 7) Cz ?_
    exact isa_rest_j37_ok op_ reg_ b_4 op0 reg1 2 7 r h
   | false =>
    replace h := ite_f hb_6 h
    refine Cf <| Runs.skip <| kS_nrm <| Runs.canon (isa_rest_h37 b_4 op0 reg1 1 6) Cz ?_
    exact isa_rest_j37_ok op_ reg_ b_4 op0 reg1 1 6 r h
theorem isa_rest_ok (op_ : Int) (reg_ : Int) (r : (Row × Bool)) (h : isa_rest op_ reg_ = some r) : Runs L F55.body ⟨tmOf [.y op_, .i reg_] 0, updW (fun _ => none) []⟩ (isa_rest_Q op_ reg_ r) := by
 unfold isa_rest at h
 refine Sq <| Ro <| Rc 2 [⟨.ptr [4] 0 0, [([4], some (.cells [.i 0, .i 0, .i 0, .b false] 0))]⟩, vb false] <| Rk <| Sq <| Runs.block <| Sq <| Ro <| Rc 3 [vy op_, vb (op_ == 244), vb (op_ == 244)] <| Rk ?_
 cases hb_1 : ((op_ == 244) : Bool) with
 | true =>
  replace h := ite_t hb_1 h
  refine Ct <| Sq <| Ro ?_
  obtain ⟨r_1, hr_1, h⟩ := bind_s h
  have hc_1 := isa_row_L 82 0 0 r_1 hr_1
  refine Rt (some 12) (.callf 47) [] none [.i 82, .i 0, .i 0] (.tup [.d (Row.d r_1.1), .b r_1.2]) [] (cc hc_1) <| Rc 4 [⟨.d (Row.d r_1.1), []⟩, vb r_1.2, ⟨.tup [], [([4], some (.cells [.i r_1.1.Name, .i r_1.1.A, .i r_1.1.B, .b r_1.1.Mod] 0))]⟩, vb r_1.2] <| Rk <| Runs.ret <| kB_ret <| kS_ret ?_
  cases h
  exact Fq
 | false =>
  replace h := ite_f hb_1 h
  refine Cf <| Sq <| Ro <| Rc 3 [vy op_, vb (op_ == 245), vb (op_ == 245)] <| Rk ?_
  cases hb_2 : ((op_ == 245) : Bool) with
  | true =>
   replace h := ite_t hb_2 h
   refine Ct <| Sq <| Ro ?_
   obtain ⟨r_2, hr_2, h⟩ := bind_s h
   have hc_2 := isa_row_L 83 0 0 r_2 hr_2
   refine Rt (some 18) (.callf 47) [] none [.i 83, .i 0, .i 0] (.tup [.d (Row.d r_2.1), .b r_2.2]) [] (cc hc_2) <| Rc 4 [⟨.d (Row.d r_2.1), []⟩, vb r_2.2, ⟨.tup [], [([4], some (.cells [.i r_2.1.Name, .i r_2.1.A, .i r_2.1.B, .b r_2.1.Mod] 0))]⟩, vb r_2.2] <| Rk <| Runs.ret <| kB_ret <| kS_ret ?_
   cases h
   exact Fq
  | false =>
   replace h := ite_f hb_2 h
   refine Cf <| Sq <| Ro <| Rc 3 [vy op_, vb (decide (op_ ≥ 248)), vb (decide (op_ ≥ 248))] ?_
   cases hb_3 : ((decide (op_ ≥ 248)) : Bool) with
   | true =>
    replace h := ite_t hb_3 h
    refine Rc 4 [vy op_, vb (decide (op_ < 254)), vb (decide (op_ < 254)), vb (decide (op_ < 254))] <| Rk <| Runs.canon (isa_rest_h18 ({ Name := 0, A := 0, B := 0, Mod := false } : Row) op_ reg_ (decide (op_ < 254))) Cz ?_
    exact isa_rest_j18_ok op_ reg_ ({ Name := 0, A := 0, B := 0, Mod := false } : Row) op_ reg_ (decide (op_ < 254)) r h
   | false =>
    replace h := ite_f hb_3 h
    refine Rc 4 [vn, vn, vb false, vb false] <| Rk <| Runs.canon (isa_rest_h18 ({ Name := 0, A := 0, B := 0, Mod := false } : Row) op_ reg_ false) Cz ?_
    exact isa_rest_j18_ok op_ reg_ ({ Name := 0, A := 0, B := 0, Mod := false } : Row) op_ reg_ false r h
theorem isa_rest_L (op_ : Int) (reg_ : Int) (r : (Row × Bool)) (h : isa_rest op_ reg_ = some r) : L 55 [.y op_, .i reg_] = some (.tup [.d (Row.d r.1), .b r.2], [.y op_, .i reg_]) := by
 obtain ⟨p, ⟨hne, hf⟩, hr⟩ := isa_rest_ok op_ reg_ r h
 obtain ⟨k, hk⟩ := run_of (F := F55) (args := [.y op_, .i reg_]) (ap := [.y op_, .i reg_]) (bx0 := updW (fun _ => none) []) rfl rfl (by kernel_rfl) ⟨p, ⟨hne, hf⟩, hr⟩
 exact lim_run (k := k) rfl hk
def isa_Of_Q (op_ : Int) (reg_ : Int) (r : (Row × Bool)) (p : Out × St) : Prop := (∀ i, p.1 ≠ .exit i) ∧ finF F27 [.y op_, .i reg_] p.2 = some (.tup [.d (Row.d r.1), .b r.2], [.y op_, .i reg_])
theorem isa_Of_ok (op_ : Int) (reg_ : Int) (r : (Row × Bool)) (h : isa_Of op_ reg_ = some r) : Runs L F27.body ⟨tmOf [.y op_, .i reg_] 0, updW (fun _ => none) []⟩ (isa_Of_Q op_ reg_ r) := by
 unfold isa_Of at h
 refine Sq <| Ro <| Rc 2 [⟨.ptr [4] 0 0, [([4], some (.cells [.i 0, .i 0, .i 0, .b false] 0))]⟩, vb false] <| Rk <| Sq <| Ro <| Rc 3 [vi reg_, vi (bitsOp .and .i64 reg_ 7), vi (bitsOp .and .i64 reg_ 7)] <| Rk <| Sq <| Runs.block <| Sq <| Ro <| Rc 3 [vy op_, vb (decide (op_ < 64)), vb (decide (op_ < 64))] <| Rk ?_
 cases hb_1 : ((decide (op_ < 64)) : Bool) with
 | true =>
  replace h := ite_t hb_1 h
  refine Ct <| Sq <| Ro <| Rc 1 [vy op_] ?_
  obtain ⟨r_1, hr_1, h⟩ := bind_s h
  have hc_1 := isa_sums_L op_ r_1 hr_1
  refine Rt (some 13) (.callf 46) [] none [.y op_] (.tup [.d (Row.d r_1.1), .b r_1.2]) [] (cc hc_1) <| Rc 4 [⟨.d (Row.d r_1.1), []⟩, vb r_1.2, ⟨.tup [], [([4], some (.cells [.i r_1.1.Name, .i r_1.1.A, .i r_1.1.B, .b r_1.1.Mod] 0))]⟩, vb r_1.2] <| Rk <| Runs.ret <| kB_ret <| kS_ret ?_
  cases h
  exact Fq
 | false =>
  replace h := ite_f hb_1 h
  refine Cf <| Sq <| Ro <| Rc 3 [vy op_, vb (decide (op_ < 96)), vb (decide (op_ < 96))] <| Rk ?_
  cases hb_2 : ((decide (op_ < 96)) : Bool) with
  | true =>
   replace h := ite_t hb_2 h
   refine Ct <| Sq <| Ro <| Rc 4 [⟨.ref [19] 0 0 (List.map (D.int .i64) ([15, 16, 9, 10] : List Int)).length 1, [([19], some (.arr (List.map (D.int .i64) ([15, 16, 9, 10] : List Int)) 0 false))]⟩, vy op_, vy (IntKind.wrap .u8 (op_ - 64)), vy (shrI .u8 (IntKind.wrap .u8 (op_ - 64)) 3)] ?_
   obtain ⟨z_1, hz_1, h⟩ := bind_s h
   refine Rt (some 23) (.iaddrS 1) [] none [.ref [19] 0 0 (List.map (D.int .i64) ([15, 16, 9, 10] : List Int)).length 1, .y (shrI .u8 (IntKind.wrap .u8 (op_ - 64)) 3)] (.eref [19] 0 (0 + ((shrI .u8 (IntKind.wrap .u8 (op_ - 64)) 3)).toNat) 0) [] (cut_atR (e := (D.int .i64)) (l := ([15, 16, 9, 10] : List Int)) hz_1 rfl) <| Rt (some 24) (.load none) [] none [.eref [19] 0 (0 + ((shrI .u8 (IntKind.wrap .u8 (op_ - 64)) 3)).toNat) 0] (.i z_1) [] (cut_loadR (e := (D.int .i64)) (l := ([15, 16, 9, 10] : List Int)) (fz := false) (y := z_1) (by kernel_rfl) hz_1 (by kernel_rfl) (by kernel_rfl)) <| Rc 1 [vi z_1] <| Rk <| Sq <| Ro <| Rc 1 [vi z_1] ?_
   obtain ⟨r_2, hr_2, h⟩ := bind_s h
   have hc_2 := isa_row_L z_1 22 0 r_2 hr_2
   refine Rt (some 26) (.callf 47) [] none [.i z_1, .i 22, .i 0] (.tup [.d (Row.d r_2.1), .b r_2.2]) [] (cc hc_2) <| Rc 4 [⟨.d (Row.d r_2.1), []⟩, vb r_2.2, ⟨.tup [], [([4], some (.cells [.i r_2.1.Name, .i r_2.1.A, .i r_2.1.B, .b r_2.1.Mod] 0))]⟩, vb r_2.2] <| Rk <| Runs.ret <| kB_ret <| kS_ret ?_
   cases h
   exact Fq
  | false =>
   replace h := ite_f hb_2 h
   refine Cf <| Sq <| Ro <| Rc 3 [vy op_, vb (decide (op_ < 112)), vb (decide (op_ < 112))] <| Rk ?_
   cases hb_3 : ((decide (op_ < 112)) : Bool) with
   | true =>
    replace h := ite_t hb_3 h
    refine Ct <| Sq <| Ro ?_
    obtain ⟨r_3, hr_3, h⟩ := bind_s h
    have hc_3 := isa_bad_L r_3 hr_3
    refine Rt (some 32) (.callf 48) [] none [] (.tup [.d (Row.d r_3.1), .b r_3.2]) [] (cc hc_3) <| Rc 4 [⟨.d (Row.d r_3.1), []⟩, vb r_3.2, ⟨.tup [], [([4], some (.cells [.i r_3.1.Name, .i r_3.1.A, .i r_3.1.B, .b r_3.1.Mod] 0))]⟩, vb r_3.2] <| Rk <| Runs.ret <| kB_ret <| kS_ret ?_
    cases h
    exact Fq
   | false =>
    replace h := ite_f hb_3 h
    refine Cf <| Sq <| Ro <| Rc 3 [vy op_, vb (decide (op_ < 128)), vb (decide (op_ < 128))] <| Rk ?_
    cases hb_4 : ((decide (op_ < 128)) : Bool) with
    | true =>
     replace h := ite_t hb_4 h
     refine Ct <| Sq <| Ro <| Rc 4 [vy op_, vy (IntKind.wrap .u8 (op_ - 112)), vi (IntKind.wrap .i64 (IntKind.wrap .u8 (op_ - 112))), vi (IntKind.wrap .i64 (17 + (IntKind.wrap .i64 (IntKind.wrap .u8 (op_ - 112)))))] ?_
     obtain ⟨r_4, hr_4, h⟩ := bind_s h
     have hc_4 := isa_row_L (IntKind.wrap .i64 (17 + (IntKind.wrap .i64 (IntKind.wrap .u8 (op_ - 112))))) 9 0 r_4 hr_4
     refine Rt (some 42) (.callf 47) [] none [.i (IntKind.wrap .i64 (17 + (IntKind.wrap .i64 (IntKind.wrap .u8 (op_ - 112))))), .i 9, .i 0] (.tup [.d (Row.d r_4.1), .b r_4.2]) [] (cc hc_4) <| Rc 4 [⟨.d (Row.d r_4.1), []⟩, vb r_4.2, ⟨.tup [], [([4], some (.cells [.i r_4.1.Name, .i r_4.1.A, .i r_4.1.B, .b r_4.1.Mod] 0))]⟩, vb r_4.2] <| Rk <| Runs.ret <| kB_ret <| kS_ret ?_
     cases h
     exact Fq
    | false =>
     replace h := ite_f hb_4 h
     refine Cf <| Sq <| Ro <| Rc 3 [vy op_, vb (decide (op_ < 144)), vb (decide (op_ < 144))] <| Rk ?_
     cases hb_5 : ((decide (op_ < 144)) : Bool) with
     | true =>
      replace h := ite_t hb_5 h
      refine Ct <| Sq <| Ro <| Rc 2 [vy op_, vi (bitsOp .and .i64 reg_ 7)] ?_
      obtain ⟨r_5, hr_5, h⟩ := bind_s h
      have hc_5 := isa_moves_L op_ (bitsOp .and .i64 reg_ 7) r_5 hr_5
      refine Rt (some 50) (.callf 49) [] none [.y op_, .i (bitsOp .and .i64 reg_ 7)] (.tup [.d (Row.d r_5.1), .b r_5.2]) [] (cc hc_5) <| Rc 4 [⟨.d (Row.d r_5.1), []⟩, vb r_5.2, ⟨.tup [], [([4], some (.cells [.i r_5.1.Name, .i r_5.1.A, .i r_5.1.B, .b r_5.1.Mod] 0))]⟩, vb r_5.2] <| Rk <| Runs.ret <| kB_ret <| kS_ret ?_
      cases h
      exact Fq
     | false =>
      replace h := ite_f hb_5 h
      refine Cf <| Sq <| Ro <| Rc 3 [vy op_, vb (decide (op_ < 160)), vb (decide (op_ < 160))] <| Rk ?_
      cases hb_6 : ((decide (op_ < 160)) : Bool) with
      | true =>
       replace h := ite_t hb_6 h
       refine Ct <| Sq <| Ro <| Rc 1 [vy op_] ?_
       obtain ⟨r_6, hr_6, h⟩ := bind_s h
       have hc_6 := isa_words_L op_ r_6 hr_6
       refine Rt (some 57) (.callf 50) [] none [.y op_] (.tup [.d (Row.d r_6.1), .b r_6.2]) [] (cc hc_6) <| Rc 4 [⟨.d (Row.d r_6.1), []⟩, vb r_6.2, ⟨.tup [], [([4], some (.cells [.i r_6.1.Name, .i r_6.1.A, .i r_6.1.B, .b r_6.1.Mod] 0))]⟩, vb r_6.2] <| Rk <| Runs.ret <| kB_ret <| kS_ret ?_
       cases h
       exact Fq
      | false =>
       replace h := ite_f hb_6 h
       refine Cf <| Sq <| Ro <| Rc 3 [vy op_, vb (decide (op_ < 176)), vb (decide (op_ < 176))] <| Rk ?_
       cases hb_7 : ((decide (op_ < 176)) : Bool) with
       | true =>
        replace h := ite_t hb_7 h
        refine Ct <| Sq <| Ro <| Rc 1 [vy op_] ?_
        obtain ⟨r_7, hr_7, h⟩ := bind_s h
        have hc_7 := isa_texts_L op_ r_7 hr_7
        refine Rt (some 64) (.callf 51) [] none [.y op_] (.tup [.d (Row.d r_7.1), .b r_7.2]) [] (cc hc_7) <| Rc 4 [⟨.d (Row.d r_7.1), []⟩, vb r_7.2, ⟨.tup [], [([4], some (.cells [.i r_7.1.Name, .i r_7.1.A, .i r_7.1.B, .b r_7.1.Mod] 0))]⟩, vb r_7.2] <| Rk <| Runs.ret <| kB_ret <| kS_ret ?_
        cases h
        exact Fq
       | false =>
        replace h := ite_f hb_7 h
        refine Cf <| Sq <| Ro <| Rc 3 [vy op_, vb (decide (op_ < 184)), vb (decide (op_ < 184))] <| Rk ?_
        cases hb_8 : ((decide (op_ < 184)) : Bool) with
        | true =>
         replace h := ite_t hb_8 h
         refine Ct <| Sq <| Ro ?_
         obtain ⟨r_8, hr_8, h⟩ := bind_s h
         have hc_8 := isa_row_L 35 21 6 r_8 hr_8
         refine Rt (some 70) (.callf 47) [] none [.i 35, .i 21, .i 6] (.tup [.d (Row.d r_8.1), .b r_8.2]) [] (cc hc_8) <| Rc 4 [⟨.d (Row.d r_8.1), []⟩, vb r_8.2, ⟨.tup [], [([4], some (.cells [.i r_8.1.Name, .i r_8.1.A, .i r_8.1.B, .b r_8.1.Mod] 0))]⟩, vb r_8.2] <| Rk <| Runs.ret <| kB_ret <| kS_ret ?_
         cases h
         exact Fq
        | false =>
         replace h := ite_f hb_8 h
         refine Cf <| Sq <| Ro <| Rc 3 [vy op_, vb (decide (op_ < 192)), vb (decide (op_ < 192))] <| Rk ?_
         cases hb_9 : ((decide (op_ < 192)) : Bool) with
         | true =>
          replace h := ite_t hb_9 h
          refine Ct <| Sq <| Ro ?_
          obtain ⟨r_9, hr_9, h⟩ := bind_s h
          have hc_9 := isa_row_L 35 22 7 r_9 hr_9
          refine Rt (some 76) (.callf 47) [] none [.i 35, .i 22, .i 7] (.tup [.d (Row.d r_9.1), .b r_9.2]) [] (cc hc_9) <| Rc 4 [⟨.d (Row.d r_9.1), []⟩, vb r_9.2, ⟨.tup [], [([4], some (.cells [.i r_9.1.Name, .i r_9.1.A, .i r_9.1.B, .b r_9.1.Mod] 0))]⟩, vb r_9.2] <| Rk <| Runs.ret <| kB_ret <| kS_ret ?_
          cases h
          exact Fq
         | false =>
          replace h := ite_f hb_9 h
          refine Cf <| Sq <| Ro <| Rc 3 [vy op_, vb (decide (op_ < 208)), vb (decide (op_ < 208))] <| Rk ?_
          cases hb_10 : ((decide (op_ < 208)) : Bool) with
          | true =>
           replace h := ite_t hb_10 h
           refine Ct <| Sq <| Ro <| Rc 2 [vy op_, vi (bitsOp .and .i64 reg_ 7)] ?_
           obtain ⟨r_10, hr_10, h⟩ := bind_s h
           have hc_10 := isa_backs_L op_ (bitsOp .and .i64 reg_ 7) r_10 hr_10
           refine Rt (some 84) (.callf 52) [] none [.y op_, .i (bitsOp .and .i64 reg_ 7)] (.tup [.d (Row.d r_10.1), .b r_10.2]) [] (cc hc_10) <| Rc 4 [⟨.d (Row.d r_10.1), []⟩, vb r_10.2, ⟨.tup [], [([4], some (.cells [.i r_10.1.Name, .i r_10.1.A, .i r_10.1.B, .b r_10.1.Mod] 0))]⟩, vb r_10.2] <| Rk <| Runs.ret <| kB_ret <| kS_ret ?_
           cases h
           exact Fq
          | false =>
           replace h := ite_f hb_10 h
           refine Cf <| Sq <| Ro <| Rc 3 [vy op_, vb (decide (op_ < 224)), vb (decide (op_ < 224))] <| Rk ?_
           cases hb_11 : ((decide (op_ < 224)) : Bool) with
           | true =>
            replace h := ite_t hb_11 h
            refine Ct <| Sq <| Ro <| Rc 2 [vy op_, vi (bitsOp .and .i64 reg_ 7)] ?_
            obtain ⟨r_11, hr_11, h⟩ := bind_s h
            have hc_11 := isa_turns_L op_ (bitsOp .and .i64 reg_ 7) r_11 hr_11
            refine Rt (some 92) (.callf 53) [] none [.y op_, .i (bitsOp .and .i64 reg_ 7)] (.tup [.d (Row.d r_11.1), .b r_11.2]) [] (cc hc_11) <| Rc 4 [⟨.d (Row.d r_11.1), []⟩, vb r_11.2, ⟨.tup [], [([4], some (.cells [.i r_11.1.Name, .i r_11.1.A, .i r_11.1.B, .b r_11.1.Mod] 0))]⟩, vb r_11.2] <| Rk <| Runs.ret <| kB_ret <| kS_ret ?_
            cases h
            exact Fq
           | false =>
            replace h := ite_f hb_11 h
            refine Cf <| Sq <| Ro <| Rc 3 [vy op_, vb (decide (op_ < 240)), vb (decide (op_ < 240))] <| Rk ?_
            cases hb_12 : ((decide (op_ < 240)) : Bool) with
            | true =>
             replace h := ite_t hb_12 h
             refine Ct <| Sq <| Ro <| Rc 1 [vy op_] ?_
             obtain ⟨r_12, hr_12, h⟩ := bind_s h
             have hc_12 := isa_goes_L op_ r_12 hr_12
             refine Rt (some 99) (.callf 54) [] none [.y op_] (.tup [.d (Row.d r_12.1), .b r_12.2]) [] (cc hc_12) <| Rc 4 [⟨.d (Row.d r_12.1), []⟩, vb r_12.2, ⟨.tup [], [([4], some (.cells [.i r_12.1.Name, .i r_12.1.A, .i r_12.1.B, .b r_12.1.Mod] 0))]⟩, vb r_12.2] <| Rk <| Runs.ret <| kB_ret <| kS_ret ?_
             cases h
             exact Fq
            | false =>
             replace h := ite_f hb_12 h
             refine Cf <| Runs.skip <| kB_nrm <| kS_nrm <| Sq <| Ro <| Rc 2 [vy op_, vi (bitsOp .and .i64 reg_ 7)] ?_
             obtain ⟨r_13, hr_13, h⟩ := bind_s h
             have hc_13 := isa_rest_L op_ (bitsOp .and .i64 reg_ 7) r_13 hr_13
             refine Rt (some 104) (.callf 55) [] none [.y op_, .i (bitsOp .and .i64 reg_ 7)] (.tup [.d (Row.d r_13.1), .b r_13.2]) [] (cc hc_13) <| Rc 4 [⟨.d (Row.d r_13.1), []⟩, vb r_13.2, ⟨.tup [], [([4], some (.cells [.i r_13.1.Name, .i r_13.1.A, .i r_13.1.B, .b r_13.1.Mod] 0))]⟩, vb r_13.2] <| Rk <| Runs.ret ?_
             cases h
             exact Fq
theorem isa_Of_L (op_ : Int) (reg_ : Int) (r : (Row × Bool)) (h : isa_Of op_ reg_ = some r) : L 27 [.y op_, .i reg_] = some (.tup [.d (Row.d r.1), .b r.2], [.y op_, .i reg_]) := by
 obtain ⟨p, ⟨hne, hf⟩, hr⟩ := isa_Of_ok op_ reg_ r h
 obtain ⟨k, hk⟩ := run_of (F := F27) (args := [.y op_, .i reg_]) (ap := [.y op_, .i reg_]) (bx0 := updW (fun _ => none) []) rfl rfl (by kernel_rfl) ⟨p, ⟨hne, hf⟩, hr⟩
 exact lim_run (k := k) rfl hk
def pick_memory_Q (o_ : Operand) (size_ : Int) (r : Bool) (p : Out × St) : Prop := (∀ i, p.1 ≠ .exit i) ∧ finF F56 [.d (Operand.d o_), .i size_] p.2 = some (.b r, [.d (Operand.d o_), .i size_])
theorem pick_memory_ok (o_ : Operand) (size_ : Int) (r : Bool) (h : pick_memory o_ size_ = some r) : Runs L F56.body ⟨tmOf [.d (Operand.d o_), .i size_] 0, updW (fun _ => none) []⟩ (pick_memory_Q o_ size_ r) := by
 unfold pick_memory at h
 refine Sq <| Ro <| Rc 2 [⟨.ptr [2] 0 0, [([2], some (.cells [.i o_.Kind, .i o_.N, .i o_.RM, .i o_.V.N, .i o_.V.From, .i o_.V.Which, .i o_.V.Type_, .i o_.V.Wants, .b o_.V.Known, .i o_.Type_, .i o_.Over, .b o_.Short] 0))]⟩, vb false] <| Rk <| Sq <| Ro <| Rc 4 [vp [2] 0 0, vi o_.Kind, vb (o_.Kind == 5), vb (o_.Kind == 5)] ?_
 cases hb_1 : ((o_.Kind == 5) : Bool) with
 | true =>
  replace h := ite_t hb_1 h
  refine Rc 5 [vp [2] 0 9, vi o_.Type_, vi size_, vb (o_.Type_ == size_), vb (o_.Type_ == size_)] ?_
  cases hb_2 : ((o_.Type_ == size_) : Bool) with
  | true =>
   replace h := ite_t hb_2 h
   refine Rc 10 [vn, vn, vn, vb true, vb true, vn, vn, vb true, vb true, vb true] <| Rk <| Runs.ret ?_
   cases h
   exact Fq
  | false =>
   replace h := ite_f hb_2 h
   refine Rc 5 [vp [2] 0 9, vi o_.Type_, vb (o_.Type_ == 0), vb (o_.Type_ == 0), vb (o_.Type_ == 0)] ?_
   cases hb_3 : ((o_.Type_ == 0) : Bool) with
   | true =>
    replace h := ite_t hb_3 h
    refine Rc 5 [vn, vn, vb true, vb true, vb true] <| Rk <| Runs.ret ?_
    cases h
    exact Fq
   | false =>
    replace h := ite_f hb_3 h
    refine Rc 5 [vi size_, vb (size_ == 0), vb (size_ == 0), vb (size_ == 0), vb (size_ == 0)] <| Rk <| Runs.ret ?_
    cases h
    exact Fq
 | false =>
  replace h := ite_f hb_1 h
  refine Rc 15 [vn, vn, vn, vn, vn, vn, vn, vn, vn, vn, vn, vn, vn, vb false, vb false] <| Rk <| Runs.ret ?_
  cases h
  exact Fq
theorem pick_memory_L (o_ : Operand) (size_ : Int) (r : Bool) (h : pick_memory o_ size_ = some r) : L 56 [.d (Operand.d o_), .i size_] = some (.b r, [.d (Operand.d o_), .i size_]) := by
 obtain ⟨p, ⟨hne, hf⟩, hr⟩ := pick_memory_ok o_ size_ r h
 obtain ⟨k, hk⟩ := run_of (F := F56) (args := [.d (Operand.d o_), .i size_]) (ap := [.d (Operand.d o_), .i size_]) (bx0 := updW (fun _ => none) []) rfl rfl (by kernel_rfl) ⟨p, ⟨hne, hf⟩, hr⟩
 exact lim_run (k := k) rfl hk
def value_Plain_Q (v_ : api_Value) (r : Bool) (p : Out × St) : Prop := (∀ i, p.1 ≠ .exit i) ∧ finF F60 [.d (api_Value.d v_)] p.2 = some (.b r, [.d (api_Value.d v_)])
theorem value_Plain_ok (v_ : api_Value) (r : Bool) (h : value_Plain v_ = some r) : Runs L F60.body ⟨tmOf [.d (api_Value.d v_)] 0, updW (fun _ => none) []⟩ (value_Plain_Q v_ r) := by
 unfold value_Plain at h
 refine Sq <| Ro <| Rc 2 [⟨.ptr [1] 0 0, [([1], some (.cells [.i v_.N, .i v_.From, .i v_.Which, .i v_.Type_, .i v_.Wants, .b v_.Known] 0))]⟩, vb false] <| Rk <| Sq <| Ro <| Rc 4 [vp [1] 0 1, vi v_.From, vb (v_.From == 0), vb (v_.From == 0)] ?_
 cases hb_1 : ((v_.From == 0) : Bool) with
 | true =>
  replace h := ite_t hb_1 h
  refine Rc 5 [vp [1] 0 4, vi v_.Wants, vb (v_.Wants == 0), vb (v_.Wants == 0), vb (v_.Wants == 0)] <| Rk <| Runs.ret ?_
  cases h
  exact Fq
 | false =>
  replace h := ite_f hb_1 h
  refine Rc 5 [vn, vn, vn, vb false, vb false] <| Rk <| Runs.ret ?_
  cases h
  exact Fq
theorem value_Plain_L (v_ : api_Value) (r : Bool) (h : value_Plain v_ = some r) : L 60 [.d (api_Value.d v_)] = some (.b r, [.d (api_Value.d v_)]) := by
 obtain ⟨p, ⟨hne, hf⟩, hr⟩ := value_Plain_ok v_ r h
 obtain ⟨k, hk⟩ := run_of (F := F60) (args := [.d (api_Value.d v_)]) (ap := [.d (api_Value.d v_)]) (bx0 := updW (fun _ => none) []) rfl rfl (by kernel_rfl) ⟨p, ⟨hne, hf⟩, hr⟩
 exact lim_run (k := k) rfl hk
def pick_plain_Q (o_ : Operand) (r : Bool) (p : Out × St) : Prop := (∀ i, p.1 ≠ .exit i) ∧ finF F57 [.d (Operand.d o_)] p.2 = some (.b r, [.d (Operand.d o_)])
theorem pick_plain_ok (o_ : Operand) (r : Bool) (h : pick_plain o_ = some r) : Runs L F57.body ⟨tmOf [.d (Operand.d o_)] 0, updW (fun _ => none) []⟩ (pick_plain_Q o_ r) := by
 unfold pick_plain at h
 refine Sq <| Ro <| Rc 2 [⟨.ptr [1] 0 0, [([1], some (.cells [.i o_.Kind, .i o_.N, .i o_.RM, .i o_.V.N, .i o_.V.From, .i o_.V.Which, .i o_.V.Type_, .i o_.V.Wants, .b o_.V.Known, .i o_.Type_, .i o_.Over, .b o_.Short] 0))]⟩, vb false] <| Rk <| Sq <| Ro <| Rc 4 [vp [1] 0 0, vi o_.Kind, vb (o_.Kind == 4), vb (o_.Kind == 4)] ?_
 cases hb_1 : ((o_.Kind == 4) : Bool) with
 | true =>
  replace h := ite_t hb_1 h
  refine Rc 2 [vp [1] 0 3, ⟨.d (api_Value.d o_.V), []⟩] ?_
  obtain ⟨r_1, hr_1, h⟩ := bind_s h
  have hc_1 := value_Plain_L o_.V r_1 hr_1
  refine Rt (some 9) (.callf 60) [] none [.d (api_Value.d o_.V)] (.b r_1) [] (cc hc_1) <| Rc 2 [vb r_1, vb r_1] ?_
  cases hb_2 : (r_1 : Bool) with
  | true =>
   replace h := ite_t hb_2 h
   refine Rc 5 [vp [1] 0 3, vp [1] 0 8, vb o_.V.Known, vb o_.V.Known, vb o_.V.Known] <| Rk <| Runs.ret ?_
   cases h
   exact Fq
  | false =>
   replace h := ite_f hb_2 h
   refine Rc 5 [vn, vn, vn, vb false, vb false] <| Rk <| Runs.ret ?_
   cases h
   exact Fq
 | false =>
  replace h := ite_f hb_1 h
  refine Rc 10 [vn, vn, vn, vb false, vb false, vn, vn, vn, vb false, vb false] <| Rk <| Runs.ret ?_
  cases h
  exact Fq
theorem pick_plain_L (o_ : Operand) (r : Bool) (h : pick_plain o_ = some r) : L 57 [.d (Operand.d o_)] = some (.b r, [.d (Operand.d o_)]) := by
 obtain ⟨p, ⟨hne, hf⟩, hr⟩ := pick_plain_ok o_ r h
 obtain ⟨k, hk⟩ := run_of (F := F57) (args := [.d (Operand.d o_)]) (ap := [.d (Operand.d o_)]) (bx0 := updW (fun _ => none) []) rfl rfl (by kernel_rfl) ⟨p, ⟨hne, hf⟩, hr⟩
 exact lim_run (k := k) rfl hk
def value_Fits_Q (n_ : Int) (size_ : Int) (r : Bool) (p : Out × St) : Prop := (∀ i, p.1 ≠ .exit i) ∧ finF F58 [.i n_, .i size_] p.2 = some (.b r, [.i n_, .i size_])
theorem value_Fits_ok (n_ : Int) (size_ : Int) (r : Bool) (h : value_Fits n_ size_ = some r) : Runs L F58.body ⟨tmOf [.i n_, .i size_] 0, updW (fun _ => none) []⟩ (value_Fits_Q n_ size_ r) := by
 unfold value_Fits at h
 refine Sq <| Ro <| Rc 1 [vb false] <| Rk <| Sq <| Sq <| Ro <| Rc 2 [vi size_, vb (size_ == 1)] <| Rk ?_
 cases hb_1 : ((size_ == 1) : Bool) with
 | true =>
  replace h := ite_t hb_1 h
  refine Ct <| Sq <| Ro <| Rc 3 [vi n_, vb (decide (n_ ≥ (-128))), vb (decide (n_ ≥ (-128)))] ?_
  cases hb_2 : ((decide (n_ ≥ (-128))) : Bool) with
  | true =>
   replace h := ite_t hb_2 h
   refine Rc 4 [vi n_, vb (decide (n_ ≤ 255)), vb (decide (n_ ≤ 255)), vb (decide (n_ ≤ 255))] <| Rk <| Runs.ret <| kS_ret ?_
   cases h
   exact Fq
  | false =>
   replace h := ite_f hb_2 h
   refine Rc 4 [vn, vn, vb false, vb false] <| Rk <| Runs.ret <| kS_ret ?_
   cases h
   exact Fq
 | false =>
  replace h := ite_f hb_1 h
  refine Cf <| Runs.skip <| kS_nrm <| Sq <| Ro <| Rc 3 [vi n_, vb (decide (n_ ≥ (-32768))), vb (decide (n_ ≥ (-32768)))] ?_
  cases hb_3 : ((decide (n_ ≥ (-32768))) : Bool) with
  | true =>
   replace h := ite_t hb_3 h
   refine Rc 4 [vi n_, vb (decide (n_ ≤ 65535)), vb (decide (n_ ≤ 65535)), vb (decide (n_ ≤ 65535))] <| Rk <| Runs.ret ?_
   cases h
   exact Fq
  | false =>
   replace h := ite_f hb_3 h
   refine Rc 4 [vn, vn, vb false, vb false] <| Rk <| Runs.ret ?_
   cases h
   exact Fq
theorem value_Fits_L (n_ : Int) (size_ : Int) (r : Bool) (h : value_Fits n_ size_ = some r) : L 58 [.i n_, .i size_] = some (.b r, [.i n_, .i size_]) := by
 obtain ⟨p, ⟨hne, hf⟩, hr⟩ := value_Fits_ok n_ size_ r h
 obtain ⟨k, hk⟩ := run_of (F := F58) (args := [.i n_, .i size_]) (ap := [.i n_, .i size_]) (bx0 := updW (fun _ => none) []) rfl rfl (by kernel_rfl) ⟨p, ⟨hne, hf⟩, hr⟩
 exact lim_run (k := k) rfl hk
def pick_number_Q (o_ : Operand) (r : Bool) (p : Out × St) : Prop := (∀ i, p.1 ≠ .exit i) ∧ finF F59 [.d (Operand.d o_)] p.2 = some (.b r, [.d (Operand.d o_)])
theorem pick_number_ok (o_ : Operand) (r : Bool) (h : pick_number o_ = some r) : Runs L F59.body ⟨tmOf [.d (Operand.d o_)] 0, updW (fun _ => none) []⟩ (pick_number_Q o_ r) := by
 unfold pick_number at h
 refine Sq <| Ro <| Rc 2 [⟨.ptr [1] 0 0, [([1], some (.cells [.i o_.Kind, .i o_.N, .i o_.RM, .i o_.V.N, .i o_.V.From, .i o_.V.Which, .i o_.V.Type_, .i o_.V.Wants, .b o_.V.Known, .i o_.Type_, .i o_.Over, .b o_.Short] 0))]⟩, vb false] <| Rk <| Sq <| Ro <| Rc 4 [vp [1] 0 0, vi o_.Kind, vb (o_.Kind == 4), vb (o_.Kind == 4)] ?_
 cases hb_1 : ((o_.Kind == 4) : Bool) with
 | true =>
  replace h := ite_t hb_1 h
  refine Rc 2 [vp [1] 0 3, ⟨.d (api_Value.d o_.V), []⟩] ?_
  obtain ⟨r_1, hr_1, h⟩ := bind_s h
  have hc_1 := value_Plain_L o_.V r_1 hr_1
  refine Rt (some 9) (.callf 60) [] none [.d (api_Value.d o_.V)] (.b r_1) [] (cc hc_1) <| Rc 1 [vb r_1] ?_
  cases hb_2 : (r_1 : Bool) with
  | true =>
   replace h := ite_t hb_2 h
   refine Rc 7 [vn, vn, vn, vn, vb true, vb true, vb true] <| Rk <| Runs.ret ?_
   cases h
   exact Fq
  | false =>
   replace h := ite_f hb_2 h
   refine Rc 7 [vp [1] 0 3, vp [1] 0 7, vi o_.V.Wants, vb (o_.V.Wants != 0), vb (o_.V.Wants != 0), vb (o_.V.Wants != 0), vb (o_.V.Wants != 0)] <| Rk <| Runs.ret ?_
   cases h
   exact Fq
 | false =>
  replace h := ite_f hb_1 h
  refine Rc 11 [vn, vn, vn, vn, vn, vn, vn, vn, vn, vb false, vb false] <| Rk <| Runs.ret ?_
  cases h
  exact Fq
theorem pick_number_L (o_ : Operand) (r : Bool) (h : pick_number o_ = some r) : L 59 [.d (Operand.d o_)] = some (.b r, [.d (Operand.d o_)]) := by
 obtain ⟨p, ⟨hne, hf⟩, hr⟩ := pick_number_ok o_ r h
 obtain ⟨k, hk⟩ := run_of (F := F59) (args := [.d (Operand.d o_)]) (ap := [.d (Operand.d o_)]) (bx0 := updW (fun _ => none) []) rfl rfl (by kernel_rfl) ⟨p, ⟨hne, hf⟩, hr⟩
 exact lim_run (k := k) rfl hk
def bits_Low_Q (w_ : Int) (r : Int) (p : Out × St) : Prop := (∀ i, p.1 ≠ .exit i) ∧ finF F79 [.w w_] p.2 = some (.y r, [.w w_])
theorem bits_Low_ok (w_ : Int) (r : Int) (h : bits_Low w_ = some r) : Runs L F79.body ⟨tmOf [.w w_] 0, updW (fun _ => none) []⟩ (bits_Low_Q w_ r) := by
 unfold bits_Low at h
 refine Sq <| Ro <| Rc 1 [vy 0] <| Rk <| Sq <| Ro <| Rc 3 [vw w_, vy (IntKind.wrap .u8 w_), vy (IntKind.wrap .u8 w_)] <| Rk <| Runs.ret ?_
 cases h
 exact Fq
theorem bits_Low_L (w_ : Int) (r : Int) (h : bits_Low w_ = some r) : L 79 [.w w_] = some (.y r, [.w w_]) := by
 obtain ⟨p, ⟨hne, hf⟩, hr⟩ := bits_Low_ok w_ r h
 obtain ⟨k, hk⟩ := run_of (F := F79) (args := [.w w_]) (ap := [.w w_]) (bx0 := updW (fun _ => none) []) rfl rfl (by kernel_rfl) ⟨p, ⟨hne, hf⟩, hr⟩
 exact lim_run (k := k) rfl hk
def bits_Sign_Q (b_ : Int) (r : Int) (p : Out × St) : Prop := (∀ i, p.1 ≠ .exit i) ∧ finF F78 [.y b_] p.2 = some (.w r, [.y b_])
theorem bits_Sign_ok (b_ : Int) (r : Int) (h : bits_Sign b_ = some r) : Runs L F78.body ⟨tmOf [.y b_] 0, updW (fun _ => none) []⟩ (bits_Sign_Q b_ r) := by
 unfold bits_Sign at h
 refine Sq <| Ro <| Rc 1 [vw 0] <| Rk <| Sq <| Ro <| Rc 5 [vy b_, ⟨.d (.int .i8 (IntKind.wrap .i8 b_)), []⟩, ⟨.d (.int .i16 (IntKind.wrap .i16 (IntKind.wrap .i8 b_))), []⟩, vw (IntKind.wrap .u16 (IntKind.wrap .i16 (IntKind.wrap .i8 b_))), vw (IntKind.wrap .u16 (IntKind.wrap .i16 (IntKind.wrap .i8 b_)))] <| Rk <| Runs.ret ?_
 cases h
 exact Fq
theorem bits_Sign_L (b_ : Int) (r : Int) (h : bits_Sign b_ = some r) : L 78 [.y b_] = some (.w r, [.y b_]) := by
 obtain ⟨p, ⟨hne, hf⟩, hr⟩ := bits_Sign_ok b_ r h
 obtain ⟨k, hk⟩ := run_of (F := F78) (args := [.y b_]) (ap := [.y b_]) (bx0 := updW (fun _ => none) []) rfl rfl (by kernel_rfl) ⟨p, ⟨hne, hf⟩, hr⟩
 exact lim_run (k := k) rfl hk
def bits_Fits_Q (w_ : Int) (r : Bool) (p : Out × St) : Prop := (∀ i, p.1 ≠ .exit i) ∧ finF F74 [.w w_] p.2 = some (.b r, [.w w_])
theorem bits_Fits_ok (w_ : Int) (r : Bool) (h : bits_Fits w_ = some r) : Runs L F74.body ⟨tmOf [.w w_] 0, updW (fun _ => none) []⟩ (bits_Fits_Q w_ r) := by
 unfold bits_Fits at h
 refine Sq <| Ro <| Rc 1 [vb false] <| Rk <| Sq <| Ro <| Rc 1 [vw w_] ?_
 obtain ⟨r_1, hr_1, h⟩ := bind_s h
 have hc_1 := bits_Low_L w_ r_1 hr_1
 refine Rt (some 4) (.callf 79) [] none [.w w_] (.y r_1) [] (cc hc_1) ?_
 obtain ⟨r_2, hr_2, h⟩ := bind_s h
 have hc_2 := bits_Sign_L r_1 r_2 hr_2
 refine Rt (some 5) (.callf 78) [] none [.y r_1] (.w r_2) [] (cc hc_2) <| Rc 3 [vw w_, vb (r_2 == w_), vb (r_2 == w_)] <| Rk <| Runs.ret ?_
 cases h
 exact Fq
theorem bits_Fits_L (w_ : Int) (r : Bool) (h : bits_Fits w_ = some r) : L 74 [.w w_] = some (.b r, [.w w_]) := by
 obtain ⟨p, ⟨hne, hf⟩, hr⟩ := bits_Fits_ok w_ r h
 obtain ⟨k, hk⟩ := run_of (F := F74) (args := [.w w_]) (ap := [.w w_]) (bx0 := updW (fun _ => none) []) rfl rfl (by kernel_rfl) ⟨p, ⟨hne, hf⟩, hr⟩
 exact lim_run (k := k) rfl hk
def pick_signed_Q (n_ : Int) (r : Bool) (p : Out × St) : Prop := (∀ i, p.1 ≠ .exit i) ∧ finF F61 [.i n_] p.2 = some (.b r, [.i n_])
theorem pick_signed_ok (n_ : Int) (r : Bool) (h : pick_signed n_ = some r) : Runs L F61.body ⟨tmOf [.i n_] 0, updW (fun _ => none) []⟩ (pick_signed_Q n_ r) := by
 unfold pick_signed at h
 refine Sq <| Ro <| Rc 1 [vb false] <| Rk <| Sq <| Ro <| Rc 2 [vi n_, vw (IntKind.wrap .u16 n_)] ?_
 obtain ⟨r_1, hr_1, h⟩ := bind_s h
 have hc_1 := bits_Fits_L (IntKind.wrap .u16 n_) r_1 hr_1
 refine Rt (some 5) (.callf 74) [] none [.w (IntKind.wrap .u16 n_)] (.b r_1) [] (cc hc_1) <| Rc 1 [vb r_1] ?_
 cases hb_1 : (r_1 : Bool) with
 | true =>
  replace h := ite_t hb_1 h
  refine Rc 1 [vi n_] ?_
  obtain ⟨r_2, hr_2, h⟩ := bind_s h
  have hc_2 := value_Fits_L n_ 2 r_2 hr_2
  refine Rt (some 8) (.callf 58) [] none [.i n_, .i 2] (.b r_2) [] (cc hc_2) <| Rc 2 [vb r_2, vb r_2] <| Rk <| Runs.ret ?_
  cases h
  exact Fq
 | false =>
  replace h := ite_f hb_1 h
  refine Rc 4 [vn, vn, vb false, vb false] <| Rk <| Runs.ret ?_
  cases h
  exact Fq
theorem pick_signed_L (n_ : Int) (r : Bool) (h : pick_signed n_ = some r) : L 61 [.i n_] = some (.b r, [.i n_]) := by
 obtain ⟨p, ⟨hne, hf⟩, hr⟩ := pick_signed_ok n_ r h
 obtain ⟨k, hk⟩ := run_of (F := F61) (args := [.i n_]) (ap := [.i n_]) (bx0 := updW (fun _ => none) []) rfl rfl (by kernel_rfl) ⟨p, ⟨hne, hf⟩, hr⟩
 exact lim_run (k := k) rfl hk
def pick_label_Q (o_ : Operand) (far_ : Bool) (r : Bool) (p : Out × St) : Prop := (∀ i, p.1 ≠ .exit i) ∧ finF F62 [.d (Operand.d o_), .b far_] p.2 = some (.b r, [.d (Operand.d o_), .b far_])
theorem pick_label_ok (o_ : Operand) (far_ : Bool) (r : Bool) (h : pick_label o_ far_ = some r) : Runs L F62.body ⟨tmOf [.d (Operand.d o_), .b far_] 0, updW (fun _ => none) []⟩ (pick_label_Q o_ far_ r) := by
 unfold pick_label at h
 refine Sq <| Ro <| Rc 2 [⟨.ptr [2] 0 0, [([2], some (.cells [.i o_.Kind, .i o_.N, .i o_.RM, .i o_.V.N, .i o_.V.From, .i o_.V.Which, .i o_.V.Type_, .i o_.V.Wants, .b o_.V.Known, .i o_.Type_, .i o_.Over, .b o_.Short] 0))]⟩, vb false] <| Rk <| Sq <| Sq <| Ro <| Rc 4 [vp [2] 0 0, vi o_.Kind, vb (o_.Kind != 4), vb (o_.Kind != 4)] ?_
 cases hb_1 : ((o_.Kind != 4) : Bool) with
 | true =>
  replace h := ite_t hb_1 h
  refine Rc 15 [vn, vn, vn, vn, vb true, vb true, vn, vn, vn, vn, vn, vn, vn, vn, vb true] <| Rk <| Ct <| Sq <| Ro <| Rc 1 [vb false] <| Rk <| Runs.ret <| kS_ret ?_
  cases h
  exact Fq
 | false =>
  replace h := ite_f hb_1 h
  refine Rc 6 [vp [2] 0 3, vp [2] 0 7, vi o_.V.Wants, vb (o_.V.Wants != 0), vb (o_.V.Wants != 0), vb (o_.V.Wants != 0)] ?_
  cases hb_2 : ((o_.V.Wants != 0) : Bool) with
  | true =>
   replace h := ite_t hb_2 h
   refine Rc 9 [vn, vn, vn, vn, vn, vn, vn, vn, vb true] <| Rk <| Ct <| Sq <| Ro <| Rc 1 [vb false] <| Rk <| Runs.ret <| kS_ret ?_
   cases h
   exact Fq
  | false =>
   replace h := ite_f hb_2 h
   refine Rc 2 [vp [2] 0 3, ⟨.d (api_Value.d o_.V), []⟩] ?_
   obtain ⟨r_1, hr_1, h⟩ := bind_s h
   have hc_1 := value_Plain_L o_.V r_1 hr_1
   refine Rt (some 17) (.callf 60) [] none [.d (api_Value.d o_.V)] (.b r_1) [] (cc hc_1) <| Rc 1 [vb r_1] ?_
   cases hb_3 : (r_1 : Bool) with
   | true =>
    replace h := ite_t hb_3 h
    refine Rc 5 [vp [2] 0 3, vp [2] 0 8, vb o_.V.Known, vb o_.V.Known, vb o_.V.Known] <| Rk ?_
    cases hb_4 : (o_.V.Known : Bool) with
    | true =>
     replace h := ite_t hb_4 h
     refine Ct <| Sq <| Ro <| Rc 1 [vb false] <| Rk <| Runs.ret <| kS_ret ?_
     cases h
     exact Fq
    | false =>
     replace h := ite_f hb_4 h
     refine Cf <| Runs.skip <| kS_nrm <| Sq <| Ro <| Rc 6 [vp [2] 0 9, vi o_.Type_, vb (o_.Type_ == 102), vb far_, vb ((o_.Type_ == 102) == far_), vb ((o_.Type_ == 102) == far_)] <| Rk <| Runs.ret ?_
     cases h
     exact Fq
   | false =>
    replace h := ite_f hb_3 h
    refine Rc 5 [vn, vn, vn, vb false, vb false] <| Rk <| Cf <| Runs.skip <| kS_nrm <| Sq <| Ro <| Rc 6 [vp [2] 0 9, vi o_.Type_, vb (o_.Type_ == 102), vb far_, vb ((o_.Type_ == 102) == far_), vb ((o_.Type_ == 102) == far_)] <| Rk <| Runs.ret ?_
    cases h
    exact Fq
theorem pick_label_L (o_ : Operand) (far_ : Bool) (r : Bool) (h : pick_label o_ far_ = some r) : L 62 [.d (Operand.d o_), .b far_] = some (.b r, [.d (Operand.d o_), .b far_]) := by
 obtain ⟨p, ⟨hne, hf⟩, hr⟩ := pick_label_ok o_ far_ r h
 obtain ⟨k, hk⟩ := run_of (F := F62) (args := [.d (Operand.d o_), .b far_]) (ap := [.d (Operand.d o_), .b far_]) (bx0 := updW (fun _ => none) []) rfl rfl (by kernel_rfl) ⟨p, ⟨hne, hf⟩, hr⟩
 exact lim_run (k := k) rfl hk
def pick_direct_Q (o_ : Operand) (size_ : Int) (r : Bool) (p : Out × St) : Prop := (∀ i, p.1 ≠ .exit i) ∧ finF F63 [.d (Operand.d o_), .i size_] p.2 = some (.b r, [.d (Operand.d o_), .i size_])
theorem pick_direct_ok (o_ : Operand) (size_ : Int) (r : Bool) (h : pick_direct o_ size_ = some r) : Runs L F63.body ⟨tmOf [.d (Operand.d o_), .i size_] 0, updW (fun _ => none) []⟩ (pick_direct_Q o_ size_ r) := by
 unfold pick_direct at h
 refine Sq <| Ro <| Rc 2 [⟨.ptr [2] 0 0, [([2], some (.cells [.i o_.Kind, .i o_.N, .i o_.RM, .i o_.V.N, .i o_.V.From, .i o_.V.Which, .i o_.V.Type_, .i o_.V.Wants, .b o_.V.Known, .i o_.Type_, .i o_.Over, .b o_.Short] 0))]⟩, vb false] <| Rk <| Sq <| Ro <| Rc 2 [⟨.d (Operand.d o_), []⟩, vi size_] ?_
 obtain ⟨r_1, hr_1, h⟩ := bind_s h
 have hc_1 := pick_memory_L o_ size_ r_1 hr_1
 refine Rt (some 7) (.callf 56) [] none [.d (Operand.d o_), .i size_] (.b r_1) [] (cc hc_1) <| Rc 1 [vb r_1] ?_
 cases hb_1 : (r_1 : Bool) with
 | true =>
  replace h := ite_t hb_1 h
  refine Rc 5 [vp [2] 0 2, vi o_.RM, vb (o_.RM == 8), vb (o_.RM == 8), vb (o_.RM == 8)] <| Rk <| Runs.ret ?_
  cases h
  exact Fq
 | false =>
  replace h := ite_f hb_1 h
  refine Rc 5 [vn, vn, vn, vb false, vb false] <| Rk <| Runs.ret ?_
  cases h
  exact Fq
theorem pick_direct_L (o_ : Operand) (size_ : Int) (r : Bool) (h : pick_direct o_ size_ = some r) : L 63 [.d (Operand.d o_), .i size_] = some (.b r, [.d (Operand.d o_), .i size_]) := by
 obtain ⟨p, ⟨hne, hf⟩, hr⟩ := pick_direct_ok o_ size_ r h
 obtain ⟨k, hk⟩ := run_of (F := F63) (args := [.d (Operand.d o_), .i size_]) (ap := [.d (Operand.d o_), .i size_]) (bx0 := updW (fun _ => none) []) rfl rfl (by kernel_rfl) ⟨p, ⟨hne, hf⟩, hr⟩
 exact lim_run (k := k) rfl hk
def pick_fixed_Q (op_ : Int) (o_ : Operand) (first_ : Int) (r : Bool) (p : Out × St) : Prop := (∀ i, p.1 ≠ .exit i) ∧ finF F64 [.i op_, .d (Operand.d o_), .y first_] p.2 = some (.b r, [.i op_, .d (Operand.d o_), .y first_])
theorem pick_fixed_ok (op_ : Int) (o_ : Operand) (first_ : Int) (r : Bool) (h : pick_fixed op_ o_ first_ = some r) : Runs L F64.body ⟨tmOf [.i op_, .d (Operand.d o_), .y first_] 0, updW (fun _ => none) []⟩ (pick_fixed_Q op_ o_ first_ r) := by
 unfold pick_fixed at h
 refine Sq <| Ro <| Rc 2 [⟨.ptr [4] 0 0, [([4], some (.cells [.i o_.Kind, .i o_.N, .i o_.RM, .i o_.V.N, .i o_.V.From, .i o_.V.Which, .i o_.V.Type_, .i o_.V.Wants, .b o_.V.Known, .i o_.Type_, .i o_.Over, .b o_.Short] 0))]⟩, vb false] <| Rk <| Sq <| Sq <| Ro <| Rc 1 [vi op_] <| Rk <| Runs.block <| Sq <| Ro <| Rc 2 [vb (op_ == 14), vb (op_ == 14)] <| Rk ?_
 cases hb_1 : ((op_ == 14) : Bool) with
 | true =>
  replace h := ite_t hb_1 h
  refine Ct <| Sq <| Ro <| Rc 4 [vp [4] 0 0, vi o_.Kind, vb (o_.Kind == 1), vb (o_.Kind == 1)] ?_
  cases hb_2 : ((o_.Kind == 1) : Bool) with
  | true =>
   replace h := ite_t hb_2 h
   refine Rc 5 [vp [4] 0 1, vi o_.N, vb (o_.N == 0), vb (o_.N == 0), vb (o_.N == 0)] <| Rk <| Runs.ret <| kB_ret <| kS_ret ?_
   cases h
   exact Fq
  | false =>
   replace h := ite_f hb_2 h
   refine Rc 5 [vn, vn, vn, vb false, vb false] <| Rk <| Runs.ret <| kB_ret <| kS_ret ?_
   cases h
   exact Fq
 | false =>
  replace h := ite_f hb_1 h
  refine Cf <| Sq <| Ro <| Rc 2 [vb (op_ == 15), vb (op_ == 15)] <| Rk ?_
  cases hb_3 : ((op_ == 15) : Bool) with
  | true =>
   replace h := ite_t hb_3 h
   refine Ct <| Sq <| Ro <| Rc 4 [vp [4] 0 0, vi o_.Kind, vb (o_.Kind == 1), vb (o_.Kind == 1)] ?_
   cases hb_4 : ((o_.Kind == 1) : Bool) with
   | true =>
    replace h := ite_t hb_4 h
    refine Rc 5 [vp [4] 0 1, vi o_.N, vb (o_.N == 1), vb (o_.N == 1), vb (o_.N == 1)] <| Rk <| Runs.ret <| kB_ret <| kS_ret ?_
    cases h
    exact Fq
   | false =>
    replace h := ite_f hb_4 h
    refine Rc 5 [vn, vn, vn, vb false, vb false] <| Rk <| Runs.ret <| kB_ret <| kS_ret ?_
    cases h
    exact Fq
  | false =>
   replace h := ite_f hb_3 h
   refine Cf <| Sq <| Ro <| Rc 2 [vb (op_ == 16), vb (op_ == 16)] <| Rk ?_
   cases hb_5 : ((op_ == 16) : Bool) with
   | true =>
    replace h := ite_t hb_5 h
    refine Ct <| Sq <| Ro <| Rc 4 [vp [4] 0 0, vi o_.Kind, vb (o_.Kind == 2), vb (o_.Kind == 2)] ?_
    cases hb_6 : ((o_.Kind == 2) : Bool) with
    | true =>
     replace h := ite_t hb_6 h
     refine Rc 5 [vp [4] 0 1, vi o_.N, vb (o_.N == 0), vb (o_.N == 0), vb (o_.N == 0)] <| Rk <| Runs.ret <| kB_ret <| kS_ret ?_
     cases h
     exact Fq
    | false =>
     replace h := ite_f hb_6 h
     refine Rc 5 [vn, vn, vn, vb false, vb false] <| Rk <| Runs.ret <| kB_ret <| kS_ret ?_
     cases h
     exact Fq
   | false =>
    replace h := ite_f hb_5 h
    refine Cf <| Sq <| Ro <| Rc 2 [vb (op_ == 17), vb (op_ == 17)] <| Rk ?_
    cases hb_7 : ((op_ == 17) : Bool) with
    | true =>
     replace h := ite_t hb_7 h
     refine Ct <| Sq <| Ro <| Rc 4 [vp [4] 0 0, vi o_.Kind, vb (o_.Kind == 2), vb (o_.Kind == 2)] ?_
     cases hb_8 : ((o_.Kind == 2) : Bool) with
     | true =>
      replace h := ite_t hb_8 h
      refine Rc 5 [vp [4] 0 1, vi o_.N, vb (o_.N == 2), vb (o_.N == 2), vb (o_.N == 2)] <| Rk <| Runs.ret <| kB_ret <| kS_ret ?_
      cases h
      exact Fq
     | false =>
      replace h := ite_f hb_8 h
      refine Rc 5 [vn, vn, vn, vb false, vb false] <| Rk <| Runs.ret <| kB_ret <| kS_ret ?_
      cases h
      exact Fq
    | false =>
     replace h := ite_f hb_7 h
     refine Cf <| Sq <| Ro <| Rc 2 [vb (op_ == 18), vb (op_ == 18)] <| Rk ?_
     cases hb_9 : ((op_ == 18) : Bool) with
     | true =>
      replace h := ite_t hb_9 h
      refine Ct <| Sq <| Ro <| Rc 1 [⟨.d (Operand.d o_), []⟩] ?_
      obtain ⟨r_1, hr_1, h⟩ := bind_s h
      have hc_1 := pick_plain_L o_ r_1 hr_1
      refine Rt (some 51) (.callf 57) [] none [.d (Operand.d o_)] (.b r_1) [] (cc hc_1) <| Rc 1 [vb r_1] ?_
      cases hb_10 : (r_1 : Bool) with
      | true =>
       replace h := ite_t hb_10 h
       refine Rc 6 [vp [4] 0 3, vp [4] 0 3, vi o_.V.N, vb (o_.V.N == 1), vb (o_.V.N == 1), vb (o_.V.N == 1)] <| Rk <| Runs.ret <| kB_ret <| kS_ret ?_
       cases h
       exact Fq
      | false =>
       replace h := ite_f hb_10 h
       refine Rc 6 [vn, vn, vn, vn, vb false, vb false] <| Rk <| Runs.ret <| kB_ret <| kS_ret ?_
       cases h
       exact Fq
     | false =>
      replace h := ite_f hb_9 h
      refine Cf <| Sq <| Ro <| Rc 2 [vb (op_ == 24), vb (op_ == 24)] <| Rk ?_
      cases hb_11 : ((op_ == 24) : Bool) with
      | true =>
       replace h := ite_t hb_11 h
       refine Ct <| Sq <| Ro <| Rc 1 [⟨.d (Operand.d o_), []⟩] ?_
       obtain ⟨r_2, hr_2, h⟩ := bind_s h
       have hc_2 := pick_plain_L o_ r_2 hr_2
       refine Rt (some 61) (.callf 57) [] none [.d (Operand.d o_)] (.b r_2) [] (cc hc_2) <| Rc 1 [vb r_2] ?_
       cases hb_12 : (r_2 : Bool) with
       | true =>
        replace h := ite_t hb_12 h
        refine Rc 6 [vp [4] 0 3, vp [4] 0 3, vi o_.V.N, vb (o_.V.N == 3), vb (o_.V.N == 3), vb (o_.V.N == 3)] <| Rk <| Runs.ret <| kB_ret <| kS_ret ?_
        cases h
        exact Fq
       | false =>
        replace h := ite_f hb_12 h
        refine Rc 6 [vn, vn, vn, vn, vb false, vb false] <| Rk <| Runs.ret <| kB_ret <| kS_ret ?_
        cases h
        exact Fq
      | false =>
       replace h := ite_f hb_11 h
       refine Cf <| Sq <| Ro <| Rc 2 [vb (op_ == 21), vb (op_ == 21)] <| Rk ?_
       cases hb_13 : ((op_ == 21) : Bool) with
       | true =>
        replace h := ite_t hb_13 h
        refine Ct <| Sq <| Ro <| Rc 4 [vp [4] 0 0, vi o_.Kind, vb (o_.Kind == 1), vb (o_.Kind == 1)] ?_
        cases hb_14 : ((o_.Kind == 1) : Bool) with
        | true =>
         replace h := ite_t hb_14 h
         refine Rc 8 [vp [4] 0 1, vi o_.N, vy first_, vy (bitsOp .and .u8 first_ 7), vi (IntKind.wrap .i64 (bitsOp .and .u8 first_ 7)), vb (o_.N == (IntKind.wrap .i64 (bitsOp .and .u8 first_ 7))), vb (o_.N == (IntKind.wrap .i64 (bitsOp .and .u8 first_ 7))), vb (o_.N == (IntKind.wrap .i64 (bitsOp .and .u8 first_ 7)))] <| Rk <| Runs.ret <| kB_ret <| kS_ret ?_
         cases h
         exact Fq
        | false =>
         replace h := ite_f hb_14 h
         refine Rc 8 [vn, vn, vn, vn, vn, vn, vb false, vb false] <| Rk <| Runs.ret <| kB_ret <| kS_ret ?_
         cases h
         exact Fq
       | false =>
        replace h := ite_f hb_13 h
        refine Cf <| Sq <| Ro <| Rc 2 [vb (op_ == 22), vb (op_ == 22)] <| Rk ?_
        cases hb_15 : ((op_ == 22) : Bool) with
        | true =>
         replace h := ite_t hb_15 h
         refine Ct <| Sq <| Ro <| Rc 4 [vp [4] 0 0, vi o_.Kind, vb (o_.Kind == 2), vb (o_.Kind == 2)] ?_
         cases hb_16 : ((o_.Kind == 2) : Bool) with
         | true =>
          replace h := ite_t hb_16 h
          refine Rc 8 [vp [4] 0 1, vi o_.N, vy first_, vy (bitsOp .and .u8 first_ 7), vi (IntKind.wrap .i64 (bitsOp .and .u8 first_ 7)), vb (o_.N == (IntKind.wrap .i64 (bitsOp .and .u8 first_ 7))), vb (o_.N == (IntKind.wrap .i64 (bitsOp .and .u8 first_ 7))), vb (o_.N == (IntKind.wrap .i64 (bitsOp .and .u8 first_ 7)))] <| Rk <| Runs.ret <| kB_ret <| kS_ret ?_
          cases h
          exact Fq
         | false =>
          replace h := ite_f hb_16 h
          refine Rc 8 [vn, vn, vn, vn, vn, vn, vb false, vb false] <| Rk <| Runs.ret <| kB_ret <| kS_ret ?_
          cases h
          exact Fq
        | false =>
         replace h := ite_f hb_15 h
         refine Cf <| Sq <| Ro <| Rc 2 [vb (op_ == 23), vb (op_ == 23)] <| Rk ?_
         cases hb_17 : ((op_ == 23) : Bool) with
         | true =>
          replace h := ite_t hb_17 h
          refine Ct <| Sq <| Ro <| Rc 4 [vp [4] 0 0, vi o_.Kind, vb (o_.Kind == 3), vb (o_.Kind == 3)] ?_
          cases hb_18 : ((o_.Kind == 3) : Bool) with
          | true =>
           replace h := ite_t hb_18 h
           refine Rc 9 [vp [4] 0 1, vi o_.N, vy first_, vy (shrI .u8 first_ 3), vy (bitsOp .and .u8 (shrI .u8 first_ 3) 3), vi (IntKind.wrap .i64 (bitsOp .and .u8 (shrI .u8 first_ 3) 3)), vb (o_.N == (IntKind.wrap .i64 (bitsOp .and .u8 (shrI .u8 first_ 3) 3))), vb (o_.N == (IntKind.wrap .i64 (bitsOp .and .u8 (shrI .u8 first_ 3) 3))), vb (o_.N == (IntKind.wrap .i64 (bitsOp .and .u8 (shrI .u8 first_ 3) 3)))] <| Rk <| Runs.ret <| kB_ret <| kS_ret ?_
           cases h
           exact Fq
          | false =>
           replace h := ite_f hb_18 h
           refine Rc 9 [vn, vn, vn, vn, vn, vn, vn, vb false, vb false] <| Rk <| Runs.ret <| kB_ret <| kS_ret ?_
           cases h
           exact Fq
         | false =>
          replace h := ite_f hb_17 h
          refine Cf <| Runs.skip <| kB_nrm <| kS_nrm <| Sq <| Ro <| Rc 1 [vb false] <| Rk <| Runs.ret ?_
          cases h
          exact Fq
theorem pick_fixed_L (op_ : Int) (o_ : Operand) (first_ : Int) (r : Bool) (h : pick_fixed op_ o_ first_ = some r) : L 64 [.i op_, .d (Operand.d o_), .y first_] = some (.b r, [.i op_, .d (Operand.d o_), .y first_]) := by
 obtain ⟨p, ⟨hne, hf⟩, hr⟩ := pick_fixed_ok op_ o_ first_ r h
 obtain ⟨k, hk⟩ := run_of (F := F64) (args := [.i op_, .d (Operand.d o_), .y first_]) (ap := [.i op_, .d (Operand.d o_), .y first_]) (bx0 := updW (fun _ => none) []) rfl rfl (by kernel_rfl) ⟨p, ⟨hne, hf⟩, hr⟩
 exact lim_run (k := k) rfl hk
def pick_Fits_Q (op_ : Int) (o_ : Operand) (first_ : Int) (r : Bool) (p : Out × St) : Prop := (∀ i, p.1 ≠ .exit i) ∧ finF F28 [.i op_, .d (Operand.d o_), .y first_] p.2 = some (.b r, [.i op_, .d (Operand.d o_), .y first_])
theorem pick_Fits_ok (op_ : Int) (o_ : Operand) (first_ : Int) (r : Bool) (h : pick_Fits op_ o_ first_ = some r) : Runs L F28.body ⟨tmOf [.i op_, .d (Operand.d o_), .y first_] 0, updW (fun _ => none) []⟩ (pick_Fits_Q op_ o_ first_ r) := by
 unfold pick_Fits at h
 refine Sq <| Ro <| Rc 2 [⟨.ptr [4] 0 0, [([4], some (.cells [.i o_.Kind, .i o_.N, .i o_.RM, .i o_.V.N, .i o_.V.From, .i o_.V.Which, .i o_.V.Type_, .i o_.V.Wants, .b o_.V.Known, .i o_.Type_, .i o_.Over, .b o_.Short] 0))]⟩, vb false] <| Rk <| Sq <| Sq <| Ro <| Rc 1 [vi op_] <| Rk <| Runs.block <| Sq <| Ro <| Rc 2 [vb (op_ == 0), vb (op_ == 0)] <| Rk ?_
 cases hb_1 : ((op_ == 0) : Bool) with
 | true =>
  replace h := ite_t hb_1 h
  refine Ct <| Sq <| Ro <| Rc 4 [vp [4] 0 0, vi o_.Kind, vb (o_.Kind == 0), vb (o_.Kind == 0)] <| Rk <| Runs.ret <| kB_ret <| kS_ret ?_
  cases h
  exact Fq
 | false =>
  replace h := ite_f hb_1 h
  refine Cf <| Sq <| Ro <| Rc 2 [vb (op_ == 1), vb (op_ == 1)] <| Rk ?_
  cases hb_2 : ((op_ == 1) : Bool) with
  | true =>
   replace h := ite_t hb_2 h
   refine Ct <| Sq <| Ro <| Rc 4 [vp [4] 0 0, vi o_.Kind, vb (o_.Kind == 1), vb (o_.Kind == 1)] ?_
   cases hb_3 : ((o_.Kind == 1) : Bool) with
   | true =>
    replace h := ite_t hb_3 h
    refine Rc 4 [vn, vn, vb true, vb true] <| Rk <| Runs.ret <| kB_ret <| kS_ret ?_
    cases h
    exact Fq
   | false =>
    replace h := ite_f hb_3 h
    refine Rc 1 [⟨.d (Operand.d o_), []⟩] ?_
    obtain ⟨r_1, hr_1, h⟩ := bind_s h
    have hc_1 := pick_memory_L o_ 1 r_1 hr_1
    refine Rt (some 20) (.callf 56) [] none [.d (Operand.d o_), .i 1] (.b r_1) [] (cc hc_1) <| Rc 2 [vb r_1, vb r_1] <| Rk <| Runs.ret <| kB_ret <| kS_ret ?_
    cases h
    exact Fq
  | false =>
   replace h := ite_f hb_2 h
   refine Cf <| Sq <| Ro <| Rc 2 [vb (op_ == 2), vb (op_ == 2)] <| Rk ?_
   cases hb_4 : ((op_ == 2) : Bool) with
   | true =>
    replace h := ite_t hb_4 h
    refine Ct <| Sq <| Ro <| Rc 4 [vp [4] 0 0, vi o_.Kind, vb (o_.Kind == 2), vb (o_.Kind == 2)] ?_
    cases hb_5 : ((o_.Kind == 2) : Bool) with
    | true =>
     replace h := ite_t hb_5 h
     refine Rc 4 [vn, vn, vb true, vb true] <| Rk <| Runs.ret <| kB_ret <| kS_ret ?_
     cases h
     exact Fq
    | false =>
     replace h := ite_f hb_5 h
     refine Rc 1 [⟨.d (Operand.d o_), []⟩] ?_
     obtain ⟨r_2, hr_2, h⟩ := bind_s h
     have hc_2 := pick_memory_L o_ 2 r_2 hr_2
     refine Rt (some 29) (.callf 56) [] none [.d (Operand.d o_), .i 2] (.b r_2) [] (cc hc_2) <| Rc 2 [vb r_2, vb r_2] <| Rk <| Runs.ret <| kB_ret <| kS_ret ?_
     cases h
     exact Fq
   | false =>
    replace h := ite_f hb_4 h
    refine Cf <| Sq <| Ro <| Rc 2 [vb (op_ == 3), vb (op_ == 3)] <| Rk ?_
    cases hb_6 : ((op_ == 3) : Bool) with
    | true =>
     replace h := ite_t hb_6 h
     refine Ct <| Sq <| Ro <| Rc 4 [vp [4] 0 0, vi o_.Kind, vb (o_.Kind == 1), vb (o_.Kind == 1)] <| Rk <| Runs.ret <| kB_ret <| kS_ret ?_
     cases h
     exact Fq
    | false =>
     replace h := ite_f hb_6 h
     refine Cf <| Sq <| Ro <| Rc 2 [vb (op_ == 4), vb (op_ == 4)] <| Rk ?_
     cases hb_7 : ((op_ == 4) : Bool) with
     | true =>
      replace h := ite_t hb_7 h
      refine Ct <| Sq <| Ro <| Rc 4 [vp [4] 0 0, vi o_.Kind, vb (o_.Kind == 2), vb (o_.Kind == 2)] <| Rk <| Runs.ret <| kB_ret <| kS_ret ?_
      cases h
      exact Fq
     | false =>
      replace h := ite_f hb_7 h
      refine Cf <| Sq <| Ro <| Rc 2 [vb (op_ == 5), vb (op_ == 5)] <| Rk ?_
      cases hb_8 : ((op_ == 5) : Bool) with
      | true =>
       replace h := ite_t hb_8 h
       refine Ct <| Sq <| Ro <| Rc 4 [vp [4] 0 0, vi o_.Kind, vb (o_.Kind == 3), vb (o_.Kind == 3)] <| Rk <| Runs.ret <| kB_ret <| kS_ret ?_
       cases h
       exact Fq
      | false =>
       replace h := ite_f hb_8 h
       refine Cf <| Sq <| Ro <| Rc 2 [vb (op_ == 6), vb (op_ == 6)] <| Rk ?_
       cases hb_9 : ((op_ == 6) : Bool) with
       | true =>
        replace h := ite_t hb_9 h
        refine Ct <| Sq <| Ro <| Rc 1 [⟨.d (Operand.d o_), []⟩] ?_
        obtain ⟨r_3, hr_3, h⟩ := bind_s h
        have hc_3 := pick_plain_L o_ r_3 hr_3
        refine Rt (some 49) (.callf 57) [] none [.d (Operand.d o_)] (.b r_3) [] (cc hc_3) <| Rc 1 [vb r_3] ?_
        cases hb_10 : (r_3 : Bool) with
        | true =>
         replace h := ite_t hb_10 h
         refine Rc 3 [vp [4] 0 3, vp [4] 0 3, vi o_.V.N] ?_
         obtain ⟨r_4, hr_4, h⟩ := bind_s h
         have hc_4 := value_Fits_L o_.V.N 1 r_4 hr_4
         refine Rt (some 54) (.callf 58) [] none [.i o_.V.N, .i 1] (.b r_4) [] (cc hc_4) <| Rc 2 [vb r_4, vb r_4] <| Rk <| Runs.ret <| kB_ret <| kS_ret ?_
         cases h
         exact Fq
        | false =>
         replace h := ite_f hb_10 h
         refine Rc 6 [vn, vn, vn, vn, vb false, vb false] <| Rk <| Runs.ret <| kB_ret <| kS_ret ?_
         cases h
         exact Fq
       | false =>
        replace h := ite_f hb_9 h
        refine Cf <| Sq <| Ro <| Rc 2 [vb (op_ == 7), vb (op_ == 7)] <| Rk ?_
        cases hb_11 : ((op_ == 7) : Bool) with
        | true =>
         replace h := ite_t hb_11 h
         refine Ct <| Sq <| Ro <| Rc 1 [⟨.d (Operand.d o_), []⟩] ?_
         obtain ⟨r_5, hr_5, h⟩ := bind_s h
         have hc_5 := pick_number_L o_ r_5 hr_5
         refine Rt (some 59) (.callf 59) [] none [.d (Operand.d o_)] (.b r_5) [] (cc hc_5) <| Rc 1 [vb r_5] ?_
         cases hb_12 : (r_5 : Bool) with
         | true =>
          replace h := ite_t hb_12 h
          refine Rc 2 [vp [4] 0 3, ⟨.d (api_Value.d o_.V), []⟩] ?_
          obtain ⟨r_6, hr_6, h⟩ := bind_s h
          have hc_6 := value_Plain_L o_.V r_6 hr_6
          refine Rt (some 63) (.callf 60) [] none [.d (api_Value.d o_.V)] (.b r_6) [] (cc hc_6) <| Rc 2 [vb (!r_6), vb (!r_6)] ?_
          cases hb_13 : ((!r_6) : Bool) with
          | true =>
           replace h := ite_t hb_13 h
           refine Rc 7 [vn, vn, vn, vn, vb true, vb true, vb true] <| Rk <| Runs.ret <| kB_ret <| kS_ret ?_
           cases h
           exact Fq
          | false =>
           replace h := ite_f hb_13 h
           refine Rc 3 [vp [4] 0 3, vp [4] 0 3, vi o_.V.N] ?_
           obtain ⟨r_7, hr_7, h⟩ := bind_s h
           have hc_7 := value_Fits_L o_.V.N 2 r_7 hr_7
           refine Rt (some 69) (.callf 58) [] none [.i o_.V.N, .i 2] (.b r_7) [] (cc hc_7) <| Rc 3 [vb r_7, vb r_7, vb r_7] <| Rk <| Runs.ret <| kB_ret <| kS_ret ?_
           cases h
           exact Fq
         | false =>
          replace h := ite_f hb_12 h
          refine Rc 12 [vn, vn, vn, vn, vn, vn, vn, vn, vn, vn, vb false, vb false] <| Rk <| Runs.ret <| kB_ret <| kS_ret ?_
          cases h
          exact Fq
        | false =>
         replace h := ite_f hb_11 h
         refine Cf <| Sq <| Ro <| Rc 2 [vb (op_ == 8), vb (op_ == 8)] <| Rk ?_
         cases hb_14 : ((op_ == 8) : Bool) with
         | true =>
          replace h := ite_t hb_14 h
          refine Ct <| Sq <| Ro <| Rc 1 [⟨.d (Operand.d o_), []⟩] ?_
          obtain ⟨r_8, hr_8, h⟩ := bind_s h
          have hc_8 := pick_plain_L o_ r_8 hr_8
          refine Rt (some 75) (.callf 57) [] none [.d (Operand.d o_)] (.b r_8) [] (cc hc_8) <| Rc 1 [vb r_8] ?_
          cases hb_15 : (r_8 : Bool) with
          | true =>
           replace h := ite_t hb_15 h
           refine Rc 3 [vp [4] 0 3, vp [4] 0 3, vi o_.V.N] ?_
           obtain ⟨r_9, hr_9, h⟩ := bind_s h
           have hc_9 := pick_signed_L o_.V.N r_9 hr_9
           refine Rt (some 80) (.callf 61) [] none [.i o_.V.N] (.b r_9) [] (cc hc_9) <| Rc 2 [vb r_9, vb r_9] <| Rk <| Runs.ret <| kB_ret <| kS_ret ?_
           cases h
           exact Fq
          | false =>
           replace h := ite_f hb_15 h
           refine Rc 6 [vn, vn, vn, vn, vb false, vb false] <| Rk <| Runs.ret <| kB_ret <| kS_ret ?_
           cases h
           exact Fq
         | false =>
          replace h := ite_f hb_14 h
          refine Cf <| Sq <| Ro <| Rc 2 [vb (op_ == 9), vb (op_ == 9)] <| Rk ?_
          cases hb_16 : ((op_ == 9) : Bool) with
          | true =>
           replace h := ite_t hb_16 h
           refine Ct <| Sq <| Ro <| Rc 1 [⟨.d (Operand.d o_), []⟩] ?_
           obtain ⟨r_10, hr_10, h⟩ := bind_s h
           have hc_10 := pick_label_L o_ false r_10 hr_10
           refine Rt (some 85) (.callf 62) [] none [.d (Operand.d o_), .b false] (.b r_10) [] (cc hc_10) <| Rc 1 [vb r_10] <| Rk <| Runs.ret <| kB_ret <| kS_ret ?_
           cases h
           exact Fq
          | false =>
           replace h := ite_f hb_16 h
           refine Cf <| Sq <| Ro <| Rc 2 [vb (op_ == 10), vb (op_ == 10)] <| Rk ?_
           cases hb_17 : ((op_ == 10) : Bool) with
           | true =>
            replace h := ite_t hb_17 h
            refine Ct <| Sq <| Ro <| Rc 1 [⟨.d (Operand.d o_), []⟩] ?_
            obtain ⟨r_11, hr_11, h⟩ := bind_s h
            have hc_11 := pick_label_L o_ false r_11 hr_11
            refine Rt (some 89) (.callf 62) [] none [.d (Operand.d o_), .b false] (.b r_11) [] (cc hc_11) <| Rc 1 [vb r_11] ?_
            cases hb_18 : (r_11 : Bool) with
            | true =>
             replace h := ite_t hb_18 h
             refine Rc 5 [vp [4] 0 11, vb o_.Short, vb (!o_.Short), vb (!o_.Short), vb (!o_.Short)] <| Rk <| Runs.ret <| kB_ret <| kS_ret ?_
             cases h
             exact Fq
            | false =>
             replace h := ite_f hb_18 h
             refine Rc 5 [vn, vn, vn, vb false, vb false] <| Rk <| Runs.ret <| kB_ret <| kS_ret ?_
             cases h
             exact Fq
           | false =>
            replace h := ite_f hb_17 h
            refine Cf <| Sq <| Ro <| Rc 2 [vb (op_ == 11), vb (op_ == 11)] <| Rk ?_
            cases hb_19 : ((op_ == 11) : Bool) with
            | true =>
             replace h := ite_t hb_19 h
             refine Ct <| Sq <| Ro <| Rc 1 [⟨.d (Operand.d o_), []⟩] ?_
             obtain ⟨r_12, hr_12, h⟩ := bind_s h
             have hc_12 := pick_label_L o_ true r_12 hr_12
             refine Rt (some 98) (.callf 62) [] none [.d (Operand.d o_), .b true] (.b r_12) [] (cc hc_12) <| Rc 1 [vb r_12] ?_
             cases hb_20 : (r_12 : Bool) with
             | true =>
              replace h := ite_t hb_20 h
              refine Rc 5 [vp [4] 0 11, vb o_.Short, vb (!o_.Short), vb (!o_.Short), vb (!o_.Short)] <| Rk <| Runs.ret <| kB_ret <| kS_ret ?_
              cases h
              exact Fq
             | false =>
              replace h := ite_f hb_20 h
              refine Rc 5 [vn, vn, vn, vb false, vb false] <| Rk <| Runs.ret <| kB_ret <| kS_ret ?_
              cases h
              exact Fq
            | false =>
             replace h := ite_f hb_19 h
             refine Cf <| Sq <| Ro <| Rc 2 [vb (op_ == 12), vb (op_ == 12)] <| Rk ?_
             cases hb_21 : ((op_ == 12) : Bool) with
             | true =>
              replace h := ite_t hb_21 h
              refine Ct <| Sq <| Ro <| Rc 1 [⟨.d (Operand.d o_), []⟩] ?_
              obtain ⟨r_13, hr_13, h⟩ := bind_s h
              have hc_13 := pick_direct_L o_ 1 r_13 hr_13
              refine Rt (some 107) (.callf 63) [] none [.d (Operand.d o_), .i 1] (.b r_13) [] (cc hc_13) <| Rc 1 [vb r_13] <| Rk <| Runs.ret <| kB_ret <| kS_ret ?_
              cases h
              exact Fq
             | false =>
              replace h := ite_f hb_21 h
              refine Cf <| Sq <| Ro <| Rc 2 [vb (op_ == 13), vb (op_ == 13)] <| Rk ?_
              cases hb_22 : ((op_ == 13) : Bool) with
              | true =>
               replace h := ite_t hb_22 h
               refine Ct <| Sq <| Ro <| Rc 1 [⟨.d (Operand.d o_), []⟩] ?_
               obtain ⟨r_14, hr_14, h⟩ := bind_s h
               have hc_14 := pick_direct_L o_ 2 r_14 hr_14
               refine Rt (some 111) (.callf 63) [] none [.d (Operand.d o_), .i 2] (.b r_14) [] (cc hc_14) <| Rc 1 [vb r_14] <| Rk <| Runs.ret <| kB_ret <| kS_ret ?_
               cases h
               exact Fq
              | false =>
               replace h := ite_f hb_22 h
               refine Cf <| Sq <| Ro <| Rc 2 [vb (op_ == 20), vb (op_ == 20)] <| Rk ?_
               cases hb_23 : ((op_ == 20) : Bool) with
               | true =>
                replace h := ite_t hb_23 h
                refine Ct <| Sq <| Ro <| Rc 1 [⟨.d (Operand.d o_), []⟩] ?_
                obtain ⟨r_15, hr_15, h⟩ := bind_s h
                have hc_15 := pick_memory_L o_ 0 r_15 hr_15
                refine Rt (some 115) (.callf 56) [] none [.d (Operand.d o_), .i 0] (.b r_15) [] (cc hc_15) <| Rc 1 [vb r_15] <| Rk <| Runs.ret <| kB_ret <| kS_ret ?_
                cases h
                exact Fq
               | false =>
                replace h := ite_f hb_23 h
                refine Cf <| Sq <| Ro <| Rc 2 [vb (op_ == 19), vb (op_ == 19)] <| Rk ?_
                cases hb_24 : ((op_ == 19) : Bool) with
                | true =>
                 replace h := ite_t hb_24 h
                 refine Ct <| Sq <| Ro <| Rc 4 [vp [4] 0 0, vi o_.Kind, vb (o_.Kind == 5), vb (o_.Kind == 5)] ?_
                 cases hb_25 : ((o_.Kind == 5) : Bool) with
                 | true =>
                  replace h := ite_t hb_25 h
                  refine Rc 4 [vp [4] 0 9, vi o_.Type_, vb (o_.Type_ == 4), vb (o_.Type_ == 4)] ?_
                  cases hb_26 : ((o_.Type_ == 4) : Bool) with
                  | true =>
                   replace h := ite_t hb_26 h
                   refine Rc 6 [vn, vn, vn, vb true, vb true, vb true] <| Rk <| Runs.ret <| kB_ret <| kS_ret ?_
                   cases h
                   exact Fq
                  | false =>
                   replace h := ite_f hb_26 h
                   refine Rc 6 [vp [4] 0 9, vi o_.Type_, vb (o_.Type_ == 0), vb (o_.Type_ == 0), vb (o_.Type_ == 0), vb (o_.Type_ == 0)] <| Rk <| Runs.ret <| kB_ret <| kS_ret ?_
                   cases h
                   exact Fq
                 | false =>
                  replace h := ite_f hb_25 h
                  refine Rc 10 [vn, vn, vn, vn, vn, vn, vn, vn, vb false, vb false] <| Rk <| Runs.ret <| kB_ret <| kS_ret ?_
                  cases h
                  exact Fq
                | false =>
                 replace h := ite_f hb_24 h
                 refine Cf <| Runs.skip <| kB_nrm <| kS_nrm <| Sq <| Ro <| Rc 3 [vi op_, ⟨.d (Operand.d o_), []⟩, vy first_] ?_
                 obtain ⟨r_16, hr_16, h⟩ := bind_s h
                 have hc_16 := pick_fixed_L op_ o_ first_ r_16 hr_16
                 refine Rt (some 134) (.callf 64) [] none [.i op_, .d (Operand.d o_), .y first_] (.b r_16) [] (cc hc_16) <| Rc 1 [vb r_16] <| Rk <| Runs.ret ?_
                 cases h
                 exact Fq
theorem pick_Fits_L (op_ : Int) (o_ : Operand) (first_ : Int) (r : Bool) (h : pick_Fits op_ o_ first_ = some r) : L 28 [.i op_, .d (Operand.d o_), .y first_] = some (.b r, [.i op_, .d (Operand.d o_), .y first_]) := by
 obtain ⟨p, ⟨hne, hf⟩, hr⟩ := pick_Fits_ok op_ o_ first_ r h
 obtain ⟨k, hk⟩ := run_of (F := F28) (args := [.i op_, .d (Operand.d o_), .y first_]) (ap := [.i op_, .d (Operand.d o_), .y first_]) (bx0 := updW (fun _ => none) []) rfl rfl (by kernel_rfl) ⟨p, ⟨hne, hf⟩, hr⟩
 exact lim_run (k := k) rfl hk
def isa_Immediate_h16 (t3 : Int) (t4 : Bool) : St := ⟨tab [(3, .i t3), (4, .b t4)], tabB []⟩
def isa_Immediate_Q (op_ : Int) (r : Int) (p : Out × St) : Prop := (∀ i, p.1 ≠ .exit i) ∧ finF F65 [.i op_] p.2 = some (.i r, [.i op_])
theorem isa_Immediate_j16_ok (op_ : Int) (t3 : Int) (t4 : Bool) (r : Int) (h : isa_Immediate_j16 t3 t4 = some r) : Runs L F65b16 (isa_Immediate_h16 t3 t4) (kB 0 (kS L F65c45 (isa_Immediate_Q op_ r))) := by
 unfold isa_Immediate_j16 at h
 cases hb_2 : (t4 : Bool) with
 | true =>
  replace h := ite_t hb_2 h
  refine Ct <| Sq <| Ro <| Rc 1 [vi 1] <| Rk <| Runs.ret <| kB_ret <| kS_ret ?_
  cases h
  exact Fq
 | false =>
  replace h := ite_f hb_2 h
  refine Cf <| Sq <| Sq <| Ro <| Rc 2 [vb (t3 == 7), vb (t3 == 7)] <| Rk ?_
  cases hb_3 : ((t3 == 7) : Bool) with
  | true =>
   replace h := ite_t hb_3 h
   refine Ct <| Runs.skip <| kS_nrm <| Ct <| Sq <| Ro <| Rc 1 [vi 2] <| Rk <| Runs.ret <| kB_ret <| kS_ret ?_
   cases h
   exact Fq
  | false =>
   replace h := ite_f hb_3 h
   refine Cf <| Sq <| Ro <| Rc 2 [vb (t3 == 10), vb (t3 == 10)] <| Rk ?_
   cases hb_4 : ((t3 == 10) : Bool) with
   | true =>
    replace h := ite_t hb_4 h
    refine Ct <| Runs.skip <| kS_nrm <| Ct <| Sq <| Ro <| Rc 1 [vi 2] <| Rk <| Runs.ret <| kB_ret <| kS_ret ?_
    cases h
    exact Fq
   | false =>
    replace h := ite_f hb_4 h
    refine Cf <| Sq <| Ro <| Rc 2 [vb (t3 == 12), vb (t3 == 12)] <| Rk ?_
    cases hb_5 : ((t3 == 12) : Bool) with
    | true =>
     replace h := ite_t hb_5 h
     refine Ct <| Runs.skip <| kS_nrm <| Ct <| Sq <| Ro <| Rc 1 [vi 2] <| Rk <| Runs.ret <| kB_ret <| kS_ret ?_
     cases h
     exact Fq
    | false =>
     replace h := ite_f hb_5 h
     refine Cf <| Ro <| Rc 2 [vb (t3 == 13), vb (t3 == 13)] <| Rk ?_
     cases hb_6 : ((t3 == 13) : Bool) with
     | true =>
      replace h := ite_t hb_6 h
      refine Ct <| Sq <| Ro <| Rc 1 [vi 2] <| Rk <| Runs.ret <| kB_ret <| kS_ret ?_
      cases h
      exact Fq
     | false =>
      replace h := ite_f hb_6 h
      refine Cf <| Sq <| Ro <| Rc 2 [vb (t3 == 11), vb (t3 == 11)] <| Rk ?_
      cases hb_7 : ((t3 == 11) : Bool) with
      | true =>
       replace h := ite_t hb_7 h
       refine Ct <| Sq <| Ro <| Rc 1 [vi 4] <| Rk <| Runs.ret <| kB_ret <| kS_ret ?_
       cases h
       exact Fq
      | false =>
       replace h := ite_f hb_7 h
       refine Cf <| Runs.skip <| kB_nrm <| kS_nrm <| Sq <| Ro <| Rc 1 [vi 0] <| Rk <| Runs.ret ?_
       cases h
       exact Fq
theorem isa_Immediate_ok (op_ : Int) (r : Int) (h : isa_Immediate op_ = some r) : Runs L F65.body ⟨tmOf [.i op_] 0, updW (fun _ => none) []⟩ (isa_Immediate_Q op_ r) := by
 unfold isa_Immediate at h
 refine Sq <| Ro <| Rc 1 [vi 0] <| Rk <| Sq <| Sq <| Ro <| Rc 1 [vi op_] <| Rk <| Runs.block <| Sq <| Sq <| Ro <| Rc 2 [vb (op_ == 6), vb (op_ == 6)] <| Rk ?_
 cases hb_1 : ((op_ == 6) : Bool) with
 | true =>
  replace h := ite_t hb_1 h
  refine Ct <| Runs.skip <| kS_nrm <| Runs.canon (isa_Immediate_h16 op_ true) Cz ?_
  exact isa_Immediate_j16_ok op_ op_ true r h
 | false =>
  replace h := ite_f hb_1 h
  refine Cf <| Sq <| Ro <| Rc 2 [vb (op_ == 8), vb (op_ == 8)] <| Rk ?_
  cases hb_8 : ((op_ == 8) : Bool) with
  | true =>
   replace h := ite_t hb_8 h
   refine Ct <| Runs.skip <| kS_nrm <| Runs.canon (isa_Immediate_h16 op_ true) Cz ?_
   exact isa_Immediate_j16_ok op_ op_ true r h
  | false =>
   replace h := ite_f hb_8 h
   refine Cf <| Ro <| Rc 2 [vb (op_ == 9), vb (op_ == 9)] <| Rk <| Runs.canon (isa_Immediate_h16 op_ (op_ == 9)) Cz ?_
   exact isa_Immediate_j16_ok op_ op_ (op_ == 9) r h
theorem isa_Immediate_L (op_ : Int) (r : Int) (h : isa_Immediate op_ = some r) : L 65 [.i op_] = some (.i r, [.i op_]) := by
 obtain ⟨p, ⟨hne, hf⟩, hr⟩ := isa_Immediate_ok op_ r h
 obtain ⟨k, hk⟩ := run_of (F := F65) (args := [.i op_]) (ap := [.i op_]) (bx0 := updW (fun _ => none) []) rfl rfl (by kernel_rfl) ⟨p, ⟨hne, hf⟩, hr⟩
 exact lim_run (k := k) rfl hk
def pick_sized_h6 (r2 : Row) (ops3 : (A2 Operand)) (t12 : (A2 Int)) (t13 : Int) : St := ⟨tab [(2, .ptr [2] 0 0), (3, .ptr [3] 0 0), (12, .d (.agg [.int .i64 t12.a0, .int .i64 t12.a1])), (13, .i t13)], tabB [([2], some (.cells [.i r2.Name, .i r2.A, .i r2.B, .b r2.Mod] 0)), ([3], some (.cells [.i ops3.a0.Kind, .i ops3.a0.N, .i ops3.a0.RM, .i ops3.a0.V.N, .i ops3.a0.V.From, .i ops3.a0.V.Which, .i ops3.a0.V.Type_, .i ops3.a0.V.Wants, .b ops3.a0.V.Known, .i ops3.a0.Type_, .i ops3.a0.Over, .b ops3.a0.Short, .i ops3.a1.Kind, .i ops3.a1.N, .i ops3.a1.RM, .i ops3.a1.V.N, .i ops3.a1.V.From, .i ops3.a1.V.Which, .i ops3.a1.V.Type_, .i ops3.a1.V.Wants, .b ops3.a1.V.Known, .i ops3.a1.Type_, .i ops3.a1.Over, .b ops3.a1.Short] 0))]⟩
def pick_sized_h19 (r2 : Row) (ops3 : (A2 Operand)) (k5 : Int) (t12 : (A2 Int)) (t13 : Int) (t50 : Bool) : St := ⟨tab [(2, .ptr [2] 0 0), (3, .ptr [3] 0 0), (5, .i k5), (12, .d (.agg [.int .i64 t12.a0, .int .i64 t12.a1])), (13, .i t13), (50, .b t50)], tabB [([2], some (.cells [.i r2.Name, .i r2.A, .i r2.B, .b r2.Mod] 0)), ([3], some (.cells [.i ops3.a0.Kind, .i ops3.a0.N, .i ops3.a0.RM, .i ops3.a0.V.N, .i ops3.a0.V.From, .i ops3.a0.V.Which, .i ops3.a0.V.Type_, .i ops3.a0.V.Wants, .b ops3.a0.V.Known, .i ops3.a0.Type_, .i ops3.a0.Over, .b ops3.a0.Short, .i ops3.a1.Kind, .i ops3.a1.N, .i ops3.a1.RM, .i ops3.a1.V.N, .i ops3.a1.V.From, .i ops3.a1.V.Which, .i ops3.a1.V.Type_, .i ops3.a1.V.Wants, .b ops3.a1.V.Known, .i ops3.a1.Type_, .i ops3.a1.Over, .b ops3.a1.Short] 0))]⟩
def pick_sized_h31  : St := ⟨tab [], tabB []⟩
def pick_sized_Q (r_ : Row) (ops_ : (A2 Operand)) (r : Bool) (p : Out × St) : Prop := (∀ i, p.1 ≠ .exit i) ∧ finF F29 [.d (Row.d r_), .d (.agg [.int .i64 ops_.a0.Kind, .int .i64 ops_.a0.N, .int .i64 ops_.a0.RM, .int .i64 ops_.a0.V.N, .int .i64 ops_.a0.V.From, .int .i64 ops_.a0.V.Which, .int .i64 ops_.a0.V.Type_, .int .i64 ops_.a0.V.Wants, .bool ops_.a0.V.Known, .int .i64 ops_.a0.Type_, .int .i64 ops_.a0.Over, .bool ops_.a0.Short, .int .i64 ops_.a1.Kind, .int .i64 ops_.a1.N, .int .i64 ops_.a1.RM, .int .i64 ops_.a1.V.N, .int .i64 ops_.a1.V.From, .int .i64 ops_.a1.V.Which, .int .i64 ops_.a1.V.Type_, .int .i64 ops_.a1.V.Wants, .bool ops_.a1.V.Known, .int .i64 ops_.a1.Type_, .int .i64 ops_.a1.Over, .bool ops_.a1.Short])] p.2 = some (.b r, [.d (Row.d r_), .d (.agg [.int .i64 ops_.a0.Kind, .int .i64 ops_.a0.N, .int .i64 ops_.a0.RM, .int .i64 ops_.a0.V.N, .int .i64 ops_.a0.V.From, .int .i64 ops_.a0.V.Which, .int .i64 ops_.a0.V.Type_, .int .i64 ops_.a0.V.Wants, .bool ops_.a0.V.Known, .int .i64 ops_.a0.Type_, .int .i64 ops_.a0.Over, .bool ops_.a0.Short, .int .i64 ops_.a1.Kind, .int .i64 ops_.a1.N, .int .i64 ops_.a1.RM, .int .i64 ops_.a1.V.N, .int .i64 ops_.a1.V.From, .int .i64 ops_.a1.V.Which, .int .i64 ops_.a1.V.Type_, .int .i64 ops_.a1.V.Wants, .bool ops_.a1.V.Known, .int .i64 ops_.a1.Type_, .int .i64 ops_.a1.Over, .bool ops_.a1.Short])])
def pick_sized_P6 (r_ : Row) (ops_ : (A2 Operand)) (r2 : Row) (ops3 : (A2 Operand)) (t12 : (A2 Int)) (e : (Bool ⊕ Unit)) (p : Out × St) : Prop := match e with
 | .inl x => p.1 = .ret ∧ finF F29 [.d (Row.d r_), .d (.agg [.int .i64 ops_.a0.Kind, .int .i64 ops_.a0.N, .int .i64 ops_.a0.RM, .int .i64 ops_.a0.V.N, .int .i64 ops_.a0.V.From, .int .i64 ops_.a0.V.Which, .int .i64 ops_.a0.V.Type_, .int .i64 ops_.a0.V.Wants, .bool ops_.a0.V.Known, .int .i64 ops_.a0.Type_, .int .i64 ops_.a0.Over, .bool ops_.a0.Short, .int .i64 ops_.a1.Kind, .int .i64 ops_.a1.N, .int .i64 ops_.a1.RM, .int .i64 ops_.a1.V.N, .int .i64 ops_.a1.V.From, .int .i64 ops_.a1.V.Which, .int .i64 ops_.a1.V.Type_, .int .i64 ops_.a1.V.Wants, .bool ops_.a1.V.Known, .int .i64 ops_.a1.Type_, .int .i64 ops_.a1.Over, .bool ops_.a1.Short])] p.2 = some (.b x, [.d (Row.d r_), .d (.agg [.int .i64 ops_.a0.Kind, .int .i64 ops_.a0.N, .int .i64 ops_.a0.RM, .int .i64 ops_.a0.V.N, .int .i64 ops_.a0.V.From, .int .i64 ops_.a0.V.Which, .int .i64 ops_.a0.V.Type_, .int .i64 ops_.a0.V.Wants, .bool ops_.a0.V.Known, .int .i64 ops_.a0.Type_, .int .i64 ops_.a0.Over, .bool ops_.a0.Short, .int .i64 ops_.a1.Kind, .int .i64 ops_.a1.N, .int .i64 ops_.a1.RM, .int .i64 ops_.a1.V.N, .int .i64 ops_.a1.V.From, .int .i64 ops_.a1.V.Which, .int .i64 ops_.a1.V.Type_, .int .i64 ops_.a1.V.Wants, .bool ops_.a1.V.Known, .int .i64 ops_.a1.Type_, .int .i64 ops_.a1.Over, .bool ops_.a1.Short])])
 | .inr x => p.1 = .exit 0 ∧ ∃ g : Unit, Canon [] [] [] p.2 (pick_sized_h31)
theorem pick_sized_j19_ok (r_ : Row) (ops_ : (A2 Operand)) (r2 : Row) (ops3 : (A2 Operand)) (k5 : Int) (t12 : (A2 Int)) (t13 : Int) (t50 : Bool) (r : (Lp Int (Bool ⊕ Unit))) (h : pick_sized_j19 r2 ops3 k5 t12 t13 t50 = some r) : Runs L F29b19 (pick_sized_h19 r2 ops3 k5 t12 t13 t50) (kB 1 (kS L F29c30 (LQ [] [2, 3, 12, 13] [[2], [3]] (fun (x : Int) (g : Unit) => pick_sized_h6 r2 ops3 t12 x) (pick_sized_P6 r_ ops_ r2 ops3 t12) r))) := by
 unfold pick_sized_j19 at h
 cases hb_4 : (t50 : Bool) with
 | true =>
  replace h := ite_t hb_4 h
  refine Ct <| Sq <| Ro <| Rc 2 [vi k5, vi (IntKind.wrap .i64 (1 - k5))] ?_
  obtain ⟨z_4, hz_4, h⟩ := bind_s h
  refine Rt (some 53) (.iaddrA 2 12) [] none [.ptr [3] 0 0, .i (IntKind.wrap .i64 (1 - k5))] (.ptr [3] 0 (0 + ((IntKind.wrap .i64 (1 - k5))).toNat * 12 + 0)) [] (cut_iaA (l := ops3.l) hz_4 rfl) <| Rt (some 54) (.load (some 12)) [] none [.ptr [3] 0 (0 + ((IntKind.wrap .i64 (1 - k5))).toNat * 12 + 0)] (.d (Operand.d z_4)) [] (cut_ldBn (f := fun a => (Operand.d a).cells) (z := 12) (l := ops3.l) (y := z_4) (xs := (Operand.d z_4).cells) hz_4 (fun _ => rfl) (by kernel_rfl) (by kernel_rfl) (by kernel_rfl)) <| Rc 2 [⟨.ptr [7] 0 0, [([7], some (.cells [.i 0, .i 0, .i 0, .i 0, .i 0, .i 0, .i 0, .i 0, .b false, .i 0, .i 0, .b false] 0))]⟩, ⟨.tup [], [([7], some (.cells [.i z_4.Kind, .i z_4.N, .i z_4.RM, .i z_4.V.N, .i z_4.V.From, .i z_4.V.Which, .i z_4.V.Type_, .i z_4.V.Wants, .b z_4.V.Known, .i z_4.Type_, .i z_4.Over, .b z_4.Short] 0))]⟩] <| Rk <| Sq <| Ro <| Rc 4 [vp [7] 0 0, vi z_4.Kind, vb (z_4.Kind != 1), vb (z_4.Kind != 1)] ?_
  cases hb_5 : ((z_4.Kind != 1) : Bool) with
  | true =>
   replace h := ite_t hb_5 h
   refine Rc 5 [vp [7] 0 0, vi z_4.Kind, vb (z_4.Kind != 2), vb (z_4.Kind != 2), vb (z_4.Kind != 2)] ?_
   cases hb_6 : ((z_4.Kind != 2) : Bool) with
   | true =>
    replace h := ite_t hb_6 h
    refine Rc 5 [vp [7] 0 0, vi z_4.Kind, vb (z_4.Kind != 3), vb (z_4.Kind != 3), vb (z_4.Kind != 3)] ?_
    cases hb_7 : ((z_4.Kind != 3) : Bool) with
    | true =>
     replace h := ite_t hb_7 h
     refine Rc 10 [vn, vn, vn, vn, vn, vn, vn, vn, vn, vb true] <| Rk <| Ct <| Sq <| Ro <| Rc 1 [vb false] <| Rk <| Runs.ret <| kB_ret <| kS_ret ?_
     obtain rfl := sj h
     exact ⟨nofun, rfl, (by kernel_rfl)⟩
    | false =>
     replace h := ite_f hb_7 h
     refine Rc 2 [vp [2] 0 2, vi r2.B] ?_
     obtain ⟨r_1, hr_1, h⟩ := bind_s h
     have hc_1 := isa_Immediate_L r2.B r_1 hr_1
     refine Rt (some 71) (.callf 65) [] none [.i r2.B] (.i r_1) [] (cc hc_1) <| Rc 2 [vb (r_1 == 0), vb (r_1 == 0)] ?_
     cases hb_8 : ((r_1 == 0) : Bool) with
     | true =>
      replace h := ite_t hb_8 h
      refine Rc 5 [vp [2] 0 2, vi r2.B, vb (r2.B == 15), vb (r2.B == 15), vb (r2.B == 15)] <| Rk ?_
      cases hb_9 : ((r2.B == 15) : Bool) with
      | true =>
       replace h := ite_t hb_9 h
       refine Ct <| Sq <| Ro <| Rc 1 [vb false] <| Rk <| Runs.ret <| kB_ret <| kS_ret ?_
       obtain rfl := sj h
       exact ⟨nofun, rfl, (by kernel_rfl)⟩
      | false =>
       replace h := ite_f hb_9 h
       refine Cf <| Runs.skip <| kB_nrm <| kS_nrm <| Ro <| Rc 2 [vi (IntKind.wrap .i64 (t13 + 1)), vi (IntKind.wrap .i64 (t13 + 1))] <| Rd ?_
       obtain rfl := sj h
       exact ⟨rfl, (), Cz⟩
     | false =>
      replace h := ite_f hb_8 h
      refine Rc 5 [vn, vn, vn, vb false, vb false] <| Rk <| Cf <| Runs.skip <| kB_nrm <| kS_nrm <| Ro <| Rc 2 [vi (IntKind.wrap .i64 (t13 + 1)), vi (IntKind.wrap .i64 (t13 + 1))] <| Rd ?_
      obtain rfl := sj h
      exact ⟨rfl, (), Cz⟩
   | false =>
    replace h := ite_f hb_6 h
    refine Rc 7 [vn, vn, vn, vb false, vb false, vp [2] 0 2, vi r2.B] ?_
    obtain ⟨r_2, hr_2, h⟩ := bind_s h
    have hc_2 := isa_Immediate_L r2.B r_2 hr_2
    refine Rt (some 71) (.callf 65) [] none [.i r2.B] (.i r_2) [] (cc hc_2) <| Rc 2 [vb (r_2 == 0), vb (r_2 == 0)] ?_
    cases hb_10 : ((r_2 == 0) : Bool) with
    | true =>
     replace h := ite_t hb_10 h
     refine Rc 5 [vp [2] 0 2, vi r2.B, vb (r2.B == 15), vb (r2.B == 15), vb (r2.B == 15)] <| Rk ?_
     cases hb_11 : ((r2.B == 15) : Bool) with
     | true =>
      replace h := ite_t hb_11 h
      refine Ct <| Sq <| Ro <| Rc 1 [vb false] <| Rk <| Runs.ret <| kB_ret <| kS_ret ?_
      obtain rfl := sj h
      exact ⟨nofun, rfl, (by kernel_rfl)⟩
     | false =>
      replace h := ite_f hb_11 h
      refine Cf <| Runs.skip <| kB_nrm <| kS_nrm <| Ro <| Rc 2 [vi (IntKind.wrap .i64 (t13 + 1)), vi (IntKind.wrap .i64 (t13 + 1))] <| Rd ?_
      obtain rfl := sj h
      exact ⟨rfl, (), Cz⟩
    | false =>
     replace h := ite_f hb_10 h
     refine Rc 5 [vn, vn, vn, vb false, vb false] <| Rk <| Cf <| Runs.skip <| kB_nrm <| kS_nrm <| Ro <| Rc 2 [vi (IntKind.wrap .i64 (t13 + 1)), vi (IntKind.wrap .i64 (t13 + 1))] <| Rd ?_
     obtain rfl := sj h
     exact ⟨rfl, (), Cz⟩
  | false =>
   replace h := ite_f hb_5 h
   refine Rc 12 [vn, vn, vn, vb false, vb false, vn, vn, vn, vb false, vb false, vp [2] 0 2, vi r2.B] ?_
   obtain ⟨r_3, hr_3, h⟩ := bind_s h
   have hc_3 := isa_Immediate_L r2.B r_3 hr_3
   refine Rt (some 71) (.callf 65) [] none [.i r2.B] (.i r_3) [] (cc hc_3) <| Rc 2 [vb (r_3 == 0), vb (r_3 == 0)] ?_
   cases hb_12 : ((r_3 == 0) : Bool) with
   | true =>
    replace h := ite_t hb_12 h
    refine Rc 5 [vp [2] 0 2, vi r2.B, vb (r2.B == 15), vb (r2.B == 15), vb (r2.B == 15)] <| Rk ?_
    cases hb_13 : ((r2.B == 15) : Bool) with
    | true =>
     replace h := ite_t hb_13 h
     refine Ct <| Sq <| Ro <| Rc 1 [vb false] <| Rk <| Runs.ret <| kB_ret <| kS_ret ?_
     obtain rfl := sj h
     exact ⟨nofun, rfl, (by kernel_rfl)⟩
    | false =>
     replace h := ite_f hb_13 h
     refine Cf <| Runs.skip <| kB_nrm <| kS_nrm <| Ro <| Rc 2 [vi (IntKind.wrap .i64 (t13 + 1)), vi (IntKind.wrap .i64 (t13 + 1))] <| Rd ?_
     obtain rfl := sj h
     exact ⟨rfl, (), Cz⟩
   | false =>
    replace h := ite_f hb_12 h
    refine Rc 5 [vn, vn, vn, vb false, vb false] <| Rk <| Cf <| Runs.skip <| kB_nrm <| kS_nrm <| Ro <| Rc 2 [vi (IntKind.wrap .i64 (t13 + 1)), vi (IntKind.wrap .i64 (t13 + 1))] <| Rd ?_
    obtain rfl := sj h
    exact ⟨rfl, (), Cz⟩
 | false =>
  replace h := ite_f hb_4 h
  refine Cf <| Runs.skip <| kB_nrm <| kS_nrm <| Ro <| Rc 2 [vi (IntKind.wrap .i64 (t13 + 1)), vi (IntKind.wrap .i64 (t13 + 1))] <| Rd ?_
  obtain rfl := sj h
  exact ⟨rfl, (), Cz⟩
theorem pick_sized_l6_ok (r_ : Row) (ops_ : (A2 Operand)) (r2 : Row) (ops3 : (A2 Operand)) (t12 : (A2 Int)) (t13 : Int) (r : (Lp Int (Bool ⊕ Unit))) (h : pick_sized_l6 r2 ops3 t12 t13 = some r) : Runs L F29l6 (pick_sized_h6 r2 ops3 t12 t13) (LQ [] [2, 3, 12, 13] [[2], [3]] (fun (x : Int) (g : Unit) => pick_sized_h6 r2 ops3 t12 x) (pick_sized_P6 r_ ops_ r2 ops3 t12) r) := by
 unfold pick_sized_l6 at h
 refine Sq <| Ro <| Rc 1 [vb (decide (t13 < 2))] <| Rk <| Sq ?_
 cases hb_1 : ((decide (t13 < 2)) : Bool) with
 | true =>
  replace h := ite_t hb_1 h
  refine Ct <| Runs.skip <| kS_nrm <| Sq <| Runs.block <| Sq <| Ro <| Rc 1 [vi t13] ?_
  obtain ⟨z_1, hz_1, h⟩ := bind_s h
  refine Rt (some 16) (.indexA 2 1 none) [] none [.d (.agg [.int .i64 t12.a0, .int .i64 t12.a1]), .i t13] (.i z_1) [] (cut_ixA (e := (D.int .i64)) (l := t12.l) hz_1 rfl) <| Rc 2 [vi t13, vi z_1] <| Rk <| Sq <| Ro <| Rc 3 [vi z_1, vb (z_1 == 1), vb (z_1 == 1)] ?_
  cases hb_2 : ((z_1 == 1) : Bool) with
  | true =>
   replace h := ite_t hb_2 h
   refine Rc 19 [vn, vn, vb true, vb true, vn, vn, vn, vn, vn, vn, vn, vn, vn, vn, vn, vn, vb true, vb true, vi t13] ?_
   obtain ⟨z_2, hz_2, h⟩ := bind_s h
   refine Rt (some 39) (.iaddrA 2 12) [] none [.ptr [3] 0 0, .i t13] (.ptr [3] 0 (0 + (t13).toNat * 12 + 0)) [] (cut_iaA (l := ops3.l) hz_2 rfl) <| Rc 1 [⟨.ptr [3] 0 (0 + (t13).toNat * 12 + 0), []⟩] <| Rt (some 41) (.load none) [] none [.ptr [3] 0 (0 + (t13).toNat * 12 + 0)] (.i z_2.Kind) [] (cut_ldB1 (f := fun a => (Operand.d a).cells) (z := 12) (l := ops3.l) (y := z_2) (x := .int .i64 z_2.Kind) hz_2 (fun _ => rfl) (by kernel_rfl) (by kernel_rfl) (by kernel_rfl)) <| Rc 3 [vb (z_2.Kind == 5), vb (z_2.Kind == 5), vb (z_2.Kind == 5)] ?_
   cases hb_3 : ((z_2.Kind == 5) : Bool) with
   | true =>
    replace h := ite_t hb_3 h
    refine Rc 1 [vi t13] ?_
    obtain ⟨z_3, hz_3, h⟩ := bind_s h
    refine Rt (some 46) (.iaddrA 2 12) [] none [.ptr [3] 0 0, .i t13] (.ptr [3] 0 (0 + (t13).toNat * 12 + 0)) [] (cut_iaA (l := ops3.l) hz_3 rfl) <| Rc 1 [⟨.ptr [3] 0 (0 + (t13).toNat * 12 + 9), []⟩] <| Rt (some 48) (.load none) [] none [.ptr [3] 0 (0 + (t13).toNat * 12 + 9)] (.i z_3.Type_) [] (cut_ldB1 (f := fun a => (Operand.d a).cells) (z := 12) (l := ops3.l) (y := z_3) (x := .int .i64 z_3.Type_) hz_3 (fun _ => rfl) (by kernel_rfl) (by kernel_rfl) (by kernel_rfl)) <| Rc 2 [vb (z_3.Type_ == 0), vb (z_3.Type_ == 0)] <| Rk <| Runs.canon (pick_sized_h19 r2 ops3 t13 t12 t13 (z_3.Type_ == 0)) Cz ?_
    exact pick_sized_j19_ok r_ ops_ r2 ops3 t13 t12 t13 (z_3.Type_ == 0) r h
   | false =>
    replace h := ite_f hb_3 h
    refine Rc 6 [vn, vn, vn, vn, vn, vb false] <| Rk <| Runs.canon (pick_sized_h19 r2 ops3 t13 t12 t13 false) Cz ?_
    exact pick_sized_j19_ok r_ ops_ r2 ops3 t13 t12 t13 false r h
  | false =>
   replace h := ite_f hb_2 h
   refine Rc 4 [vi z_1, vb (z_1 == 2), vb (z_1 == 2), vb (z_1 == 2)] ?_
   cases hb_14 : ((z_1 == 2) : Bool) with
   | true =>
    replace h := ite_t hb_14 h
    refine Rc 15 [vn, vn, vn, vn, vn, vn, vn, vn, vn, vn, vn, vn, vb true, vb true, vi t13] ?_
    obtain ⟨z_5, hz_5, h⟩ := bind_s h
    refine Rt (some 39) (.iaddrA 2 12) [] none [.ptr [3] 0 0, .i t13] (.ptr [3] 0 (0 + (t13).toNat * 12 + 0)) [] (cut_iaA (l := ops3.l) hz_5 rfl) <| Rc 1 [⟨.ptr [3] 0 (0 + (t13).toNat * 12 + 0), []⟩] <| Rt (some 41) (.load none) [] none [.ptr [3] 0 (0 + (t13).toNat * 12 + 0)] (.i z_5.Kind) [] (cut_ldB1 (f := fun a => (Operand.d a).cells) (z := 12) (l := ops3.l) (y := z_5) (x := .int .i64 z_5.Kind) hz_5 (fun _ => rfl) (by kernel_rfl) (by kernel_rfl) (by kernel_rfl)) <| Rc 3 [vb (z_5.Kind == 5), vb (z_5.Kind == 5), vb (z_5.Kind == 5)] ?_
    cases hb_15 : ((z_5.Kind == 5) : Bool) with
    | true =>
     replace h := ite_t hb_15 h
     refine Rc 1 [vi t13] ?_
     obtain ⟨z_6, hz_6, h⟩ := bind_s h
     refine Rt (some 46) (.iaddrA 2 12) [] none [.ptr [3] 0 0, .i t13] (.ptr [3] 0 (0 + (t13).toNat * 12 + 0)) [] (cut_iaA (l := ops3.l) hz_6 rfl) <| Rc 1 [⟨.ptr [3] 0 (0 + (t13).toNat * 12 + 9), []⟩] <| Rt (some 48) (.load none) [] none [.ptr [3] 0 (0 + (t13).toNat * 12 + 9)] (.i z_6.Type_) [] (cut_ldB1 (f := fun a => (Operand.d a).cells) (z := 12) (l := ops3.l) (y := z_6) (x := .int .i64 z_6.Type_) hz_6 (fun _ => rfl) (by kernel_rfl) (by kernel_rfl) (by kernel_rfl)) <| Rc 2 [vb (z_6.Type_ == 0), vb (z_6.Type_ == 0)] <| Rk <| Runs.canon (pick_sized_h19 r2 ops3 t13 t12 t13 (z_6.Type_ == 0)) Cz ?_
     exact pick_sized_j19_ok r_ ops_ r2 ops3 t13 t12 t13 (z_6.Type_ == 0) r h
    | false =>
     replace h := ite_f hb_15 h
     refine Rc 6 [vn, vn, vn, vn, vn, vb false] <| Rk <| Runs.canon (pick_sized_h19 r2 ops3 t13 t12 t13 false) Cz ?_
     exact pick_sized_j19_ok r_ ops_ r2 ops3 t13 t12 t13 false r h
   | false =>
    replace h := ite_f hb_14 h
    refine Rc 3 [vi z_1, vb (z_1 == 19), vb (z_1 == 19)] ?_
    cases hb_16 : ((z_1 == 19) : Bool) with
    | true =>
     replace h := ite_t hb_16 h
     refine Rc 5 [vp [2] 0 0, vi r2.Name, vb (r2.Name != 58), vb (r2.Name != 58), vb (r2.Name != 58)] ?_
     cases hb_17 : ((r2.Name != 58) : Bool) with
     | true =>
      replace h := ite_t hb_17 h
      refine Rc 6 [vp [2] 0 0, vi r2.Name, vb (r2.Name != 59), vb (r2.Name != 59), vb (r2.Name != 59), vb (r2.Name != 59)] ?_
      cases hb_18 : ((r2.Name != 59) : Bool) with
      | true =>
       replace h := ite_t hb_18 h
       refine Rc 1 [vi t13] ?_
       obtain ⟨z_7, hz_7, h⟩ := bind_s h
       refine Rt (some 39) (.iaddrA 2 12) [] none [.ptr [3] 0 0, .i t13] (.ptr [3] 0 (0 + (t13).toNat * 12 + 0)) [] (cut_iaA (l := ops3.l) hz_7 rfl) <| Rc 1 [⟨.ptr [3] 0 (0 + (t13).toNat * 12 + 0), []⟩] <| Rt (some 41) (.load none) [] none [.ptr [3] 0 (0 + (t13).toNat * 12 + 0)] (.i z_7.Kind) [] (cut_ldB1 (f := fun a => (Operand.d a).cells) (z := 12) (l := ops3.l) (y := z_7) (x := .int .i64 z_7.Kind) hz_7 (fun _ => rfl) (by kernel_rfl) (by kernel_rfl) (by kernel_rfl)) <| Rc 3 [vb (z_7.Kind == 5), vb (z_7.Kind == 5), vb (z_7.Kind == 5)] ?_
       cases hb_19 : ((z_7.Kind == 5) : Bool) with
       | true =>
        replace h := ite_t hb_19 h
        refine Rc 1 [vi t13] ?_
        obtain ⟨z_8, hz_8, h⟩ := bind_s h
        refine Rt (some 46) (.iaddrA 2 12) [] none [.ptr [3] 0 0, .i t13] (.ptr [3] 0 (0 + (t13).toNat * 12 + 0)) [] (cut_iaA (l := ops3.l) hz_8 rfl) <| Rc 1 [⟨.ptr [3] 0 (0 + (t13).toNat * 12 + 9), []⟩] <| Rt (some 48) (.load none) [] none [.ptr [3] 0 (0 + (t13).toNat * 12 + 9)] (.i z_8.Type_) [] (cut_ldB1 (f := fun a => (Operand.d a).cells) (z := 12) (l := ops3.l) (y := z_8) (x := .int .i64 z_8.Type_) hz_8 (fun _ => rfl) (by kernel_rfl) (by kernel_rfl) (by kernel_rfl)) <| Rc 2 [vb (z_8.Type_ == 0), vb (z_8.Type_ == 0)] <| Rk <| Runs.canon (pick_sized_h19 r2 ops3 t13 t12 t13 (z_8.Type_ == 0)) Cz ?_
        exact pick_sized_j19_ok r_ ops_ r2 ops3 t13 t12 t13 (z_8.Type_ == 0) r h
       | false =>
        replace h := ite_f hb_19 h
        refine Rc 6 [vn, vn, vn, vn, vn, vb false] <| Rk <| Runs.canon (pick_sized_h19 r2 ops3 t13 t12 t13 false) Cz ?_
        exact pick_sized_j19_ok r_ ops_ r2 ops3 t13 t12 t13 false r h
      | false =>
       replace h := ite_f hb_18 h
       refine Rc 13 [vn, vn, vn, vn, vn, vb false, vb false, vn, vn, vn, vn, vn, vb false] <| Rk <| Runs.canon (pick_sized_h19 r2 ops3 t13 t12 t13 false) Cz ?_
       exact pick_sized_j19_ok r_ ops_ r2 ops3 t13 t12 t13 false r h
     | false =>
      replace h := ite_f hb_17 h
      refine Rc 19 [vn, vn, vn, vb false, vb false, vb false, vn, vn, vn, vn, vn, vb false, vb false, vn, vn, vn, vn, vn, vb false] <| Rk <| Runs.canon (pick_sized_h19 r2 ops3 t13 t12 t13 false) Cz ?_
      exact pick_sized_j19_ok r_ ops_ r2 ops3 t13 t12 t13 false r h
    | false =>
     replace h := ite_f hb_16 h
     refine Rc 24 [vn, vn, vn, vb false, vb false, vn, vn, vn, vb false, vb false, vb false, vn, vn, vn, vn, vn, vb false, vb false, vn, vn, vn, vn, vn, vb false] <| Rk <| Runs.canon (pick_sized_h19 r2 ops3 t13 t12 t13 false) Cz ?_
     exact pick_sized_j19_ok r_ ops_ r2 ops3 t13 t12 t13 false r h
 | false =>
  replace h := ite_f hb_1 h
  refine Cf <| Runs.exit <| kS_exit ?_
  obtain rfl := sj h
  exact ⟨nofun, rfl, (), Cz⟩
theorem pick_sized_ok (r_ : Row) (ops_ : (A2 Operand)) (r : Bool) (h : pick_sized r_ ops_ = some r) : Runs L F29.body ⟨tmOf [.d (Row.d r_), .d (.agg [.int .i64 ops_.a0.Kind, .int .i64 ops_.a0.N, .int .i64 ops_.a0.RM, .int .i64 ops_.a0.V.N, .int .i64 ops_.a0.V.From, .int .i64 ops_.a0.V.Which, .int .i64 ops_.a0.V.Type_, .int .i64 ops_.a0.V.Wants, .bool ops_.a0.V.Known, .int .i64 ops_.a0.Type_, .int .i64 ops_.a0.Over, .bool ops_.a0.Short, .int .i64 ops_.a1.Kind, .int .i64 ops_.a1.N, .int .i64 ops_.a1.RM, .int .i64 ops_.a1.V.N, .int .i64 ops_.a1.V.From, .int .i64 ops_.a1.V.Which, .int .i64 ops_.a1.V.Type_, .int .i64 ops_.a1.V.Wants, .bool ops_.a1.V.Known, .int .i64 ops_.a1.Type_, .int .i64 ops_.a1.Over, .bool ops_.a1.Short])] 0, updW (fun _ => none) []⟩ (pick_sized_Q r_ ops_ r) := by
 unfold pick_sized at h
 refine Sq <| Ro <| Rc 3 [⟨.ptr [2] 0 0, [([2], some (.cells [.i r_.Name, .i r_.A, .i r_.B, .b r_.Mod] 0))]⟩, ⟨.ptr [3] 0 0, [([3], some (.cells [.i ops_.a0.Kind, .i ops_.a0.N, .i ops_.a0.RM, .i ops_.a0.V.N, .i ops_.a0.V.From, .i ops_.a0.V.Which, .i ops_.a0.V.Type_, .i ops_.a0.V.Wants, .b ops_.a0.V.Known, .i ops_.a0.Type_, .i ops_.a0.Over, .b ops_.a0.Short, .i ops_.a1.Kind, .i ops_.a1.N, .i ops_.a1.RM, .i ops_.a1.V.N, .i ops_.a1.V.From, .i ops_.a1.V.Which, .i ops_.a1.V.Type_, .i ops_.a1.V.Wants, .b ops_.a1.V.Known, .i ops_.a1.Type_, .i ops_.a1.Over, .b ops_.a1.Short] 0))]⟩, vb false] <| Rk <| Sq <| Sq <| Ro <| Rc 6 [vp [2] 0 1, vi r_.A, vp [2] 0 2, vi r_.B, ⟨.d (.agg [.int .i64 r_.A, .int .i64 r_.B]), []⟩, vi 0] <| Rk <| Runs.block ?_
 obtain ⟨e_1, he_1, h⟩ := bind_s h
 refine Runs.loop (fun x : Int => pick_sized_l6 r_ ops_ ({ a0 := r_.A, a1 := r_.B } : (A2 Int)) x) (fun (x : Int) (g : Unit) => pick_sized_h6 r_ ops_ ({ a0 := r_.A, a1 := r_.B } : (A2 Int)) x) (pick_sized_P6 r_ ops_ r_ ops_ ({ a0 := r_.A, a1 := r_.B } : (A2 Int))) (fun x g r hr => pick_sized_l6_ok r_ ops_ r_ ops_ ({ a0 := r_.A, a1 := r_.B } : (A2 Int)) x  r hr) () he_1 Cz ?_
 rintro ⟨o, s⟩ hp
 cases e_1 with
 | inl e_2 =>
  obtain ⟨ho, hf⟩ := hp
  have ho' : o = .ret := ho
  subst ho'
  refine kB_ret <| kS_ret ?_
  obtain rfl := sj h
  exact ⟨Out.ret_ne, hf⟩
 | inr e_3 =>
  obtain ⟨ho, g_1, hk_1⟩ := hp
  have ho' : o = .exit 0 := ho
  subst ho'
  refine kB_hit <| kS_nrm <| Runs.canon _ hk_1 <| Sq <| Ro <| Rc 1 [vb true] <| Rk <| Runs.ret ?_
  cases h
  exact Fq
theorem pick_sized_L (r_ : Row) (ops_ : (A2 Operand)) (r : Bool) (h : pick_sized r_ ops_ = some r) : L 29 [.d (Row.d r_), .d (.agg [.int .i64 ops_.a0.Kind, .int .i64 ops_.a0.N, .int .i64 ops_.a0.RM, .int .i64 ops_.a0.V.N, .int .i64 ops_.a0.V.From, .int .i64 ops_.a0.V.Which, .int .i64 ops_.a0.V.Type_, .int .i64 ops_.a0.V.Wants, .bool ops_.a0.V.Known, .int .i64 ops_.a0.Type_, .int .i64 ops_.a0.Over, .bool ops_.a0.Short, .int .i64 ops_.a1.Kind, .int .i64 ops_.a1.N, .int .i64 ops_.a1.RM, .int .i64 ops_.a1.V.N, .int .i64 ops_.a1.V.From, .int .i64 ops_.a1.V.Which, .int .i64 ops_.a1.V.Type_, .int .i64 ops_.a1.V.Wants, .bool ops_.a1.V.Known, .int .i64 ops_.a1.Type_, .int .i64 ops_.a1.Over, .bool ops_.a1.Short])] = some (.b r, [.d (Row.d r_), .d (.agg [.int .i64 ops_.a0.Kind, .int .i64 ops_.a0.N, .int .i64 ops_.a0.RM, .int .i64 ops_.a0.V.N, .int .i64 ops_.a0.V.From, .int .i64 ops_.a0.V.Which, .int .i64 ops_.a0.V.Type_, .int .i64 ops_.a0.V.Wants, .bool ops_.a0.V.Known, .int .i64 ops_.a0.Type_, .int .i64 ops_.a0.Over, .bool ops_.a0.Short, .int .i64 ops_.a1.Kind, .int .i64 ops_.a1.N, .int .i64 ops_.a1.RM, .int .i64 ops_.a1.V.N, .int .i64 ops_.a1.V.From, .int .i64 ops_.a1.V.Which, .int .i64 ops_.a1.V.Type_, .int .i64 ops_.a1.V.Wants, .bool ops_.a1.V.Known, .int .i64 ops_.a1.Type_, .int .i64 ops_.a1.Over, .bool ops_.a1.Short])]) := by
 obtain ⟨p, ⟨hne, hf⟩, hr⟩ := pick_sized_ok r_ ops_ r h
 obtain ⟨k, hk⟩ := run_of (F := F29) (args := [.d (Row.d r_), .d (.agg [.int .i64 ops_.a0.Kind, .int .i64 ops_.a0.N, .int .i64 ops_.a0.RM, .int .i64 ops_.a0.V.N, .int .i64 ops_.a0.V.From, .int .i64 ops_.a0.V.Which, .int .i64 ops_.a0.V.Type_, .int .i64 ops_.a0.V.Wants, .bool ops_.a0.V.Known, .int .i64 ops_.a0.Type_, .int .i64 ops_.a0.Over, .bool ops_.a0.Short, .int .i64 ops_.a1.Kind, .int .i64 ops_.a1.N, .int .i64 ops_.a1.RM, .int .i64 ops_.a1.V.N, .int .i64 ops_.a1.V.From, .int .i64 ops_.a1.V.Which, .int .i64 ops_.a1.V.Type_, .int .i64 ops_.a1.V.Wants, .bool ops_.a1.V.Known, .int .i64 ops_.a1.Type_, .int .i64 ops_.a1.Over, .bool ops_.a1.Short])]) (ap := [.d (Row.d r_), .d (.agg [.int .i64 ops_.a0.Kind, .int .i64 ops_.a0.N, .int .i64 ops_.a0.RM, .int .i64 ops_.a0.V.N, .int .i64 ops_.a0.V.From, .int .i64 ops_.a0.V.Which, .int .i64 ops_.a0.V.Type_, .int .i64 ops_.a0.V.Wants, .bool ops_.a0.V.Known, .int .i64 ops_.a0.Type_, .int .i64 ops_.a0.Over, .bool ops_.a0.Short, .int .i64 ops_.a1.Kind, .int .i64 ops_.a1.N, .int .i64 ops_.a1.RM, .int .i64 ops_.a1.V.N, .int .i64 ops_.a1.V.From, .int .i64 ops_.a1.V.Which, .int .i64 ops_.a1.V.Type_, .int .i64 ops_.a1.V.Wants, .bool ops_.a1.V.Known, .int .i64 ops_.a1.Type_, .int .i64 ops_.a1.Over, .bool ops_.a1.Short])]) (bx0 := updW (fun _ => none) []) rfl rfl (by kernel_rfl) ⟨p, ⟨hne, hf⟩, hr⟩
 exact lim_run (k := k) rfl hk
def isa_Memory_Q (op_ : Int) (r : Bool) (p : Out × St) : Prop := (∀ i, p.1 ≠ .exit i) ∧ finF F75 [.i op_] p.2 = some (.b r, [.i op_])
theorem isa_Memory_ok (op_ : Int) (r : Bool) (h : isa_Memory op_ = some r) : Runs L F75.body ⟨tmOf [.i op_] 0, updW (fun _ => none) []⟩ (isa_Memory_Q op_ r) := by
 unfold isa_Memory at h
 refine Sq <| Ro <| Rc 1 [vb false] <| Rk <| Sq <| Ro <| Rc 3 [vi op_, vb (op_ == 1), vb (op_ == 1)] ?_
 cases hb_1 : ((op_ == 1) : Bool) with
 | true =>
  replace h := ite_t hb_1 h
  refine Rc 12 [vn, vn, vb true, vb true, vn, vn, vb true, vb true, vn, vn, vb true, vb true] <| Rk <| Runs.ret ?_
  cases h
  exact Fq
 | false =>
  replace h := ite_f hb_1 h
  refine Rc 4 [vi op_, vb (op_ == 2), vb (op_ == 2), vb (op_ == 2)] ?_
  cases hb_2 : ((op_ == 2) : Bool) with
  | true =>
   replace h := ite_t hb_2 h
   refine Rc 8 [vn, vn, vb true, vb true, vn, vn, vb true, vb true] <| Rk <| Runs.ret ?_
   cases h
   exact Fq
  | false =>
   replace h := ite_f hb_2 h
   refine Rc 4 [vi op_, vb (op_ == 19), vb (op_ == 19), vb (op_ == 19)] ?_
   cases hb_3 : ((op_ == 19) : Bool) with
   | true =>
    replace h := ite_t hb_3 h
    refine Rc 4 [vn, vn, vb true, vb true] <| Rk <| Runs.ret ?_
    cases h
    exact Fq
   | false =>
    replace h := ite_f hb_3 h
    refine Rc 4 [vi op_, vb (op_ == 20), vb (op_ == 20), vb (op_ == 20)] <| Rk <| Runs.ret ?_
    cases h
    exact Fq
theorem isa_Memory_L (op_ : Int) (r : Bool) (h : isa_Memory op_ = some r) : L 75 [.i op_] = some (.b r, [.i op_]) := by
 obtain ⟨p, ⟨hne, hf⟩, hr⟩ := isa_Memory_ok op_ r h
 obtain ⟨k, hk⟩ := run_of (F := F75) (args := [.i op_]) (ap := [.i op_]) (bx0 := updW (fun _ => none) []) rfl rfl (by kernel_rfl) ⟨p, ⟨hne, hf⟩, hr⟩
 exact lim_run (k := k) rfl hk
def inst_Disps_Q (mod_ : Int) (rm_ : Int) (r : Int) (p : Out × St) : Prop := (∀ i, p.1 ≠ .exit i) ∧ finF F36 [.i mod_, .i rm_] p.2 = some (.i r, [.i mod_, .i rm_])
theorem inst_Disps_ok (mod_ : Int) (rm_ : Int) (r : Int) (h : inst_Disps mod_ rm_ = some r) : Runs L F36.body ⟨tmOf [.i mod_, .i rm_] 0, updW (fun _ => none) []⟩ (inst_Disps_Q mod_ rm_ r) := by
 unfold inst_Disps at h
 refine Sq <| Ro <| Rc 1 [vi 0] <| Rk <| Sq <| Runs.block <| Sq <| Ro <| Rc 3 [vi mod_, vb (mod_ == 1), vb (mod_ == 1)] <| Rk ?_
 cases hb_1 : ((mod_ == 1) : Bool) with
 | true =>
  replace h := ite_t hb_1 h
  refine Ct <| Sq <| Ro <| Rc 1 [vi 1] <| Rk <| Runs.ret <| kB_ret <| kS_ret ?_
  cases h
  exact Fq
 | false =>
  replace h := ite_f hb_1 h
  refine Cf <| Sq <| Sq <| Ro <| Rc 3 [vi mod_, vb (mod_ == 2), vb (mod_ == 2)] <| Rk ?_
  cases hb_2 : ((mod_ == 2) : Bool) with
  | true =>
   replace h := ite_t hb_2 h
   refine Ct <| Runs.skip <| kS_nrm <| Ct <| Sq <| Ro <| Rc 1 [vi 2] <| Rk <| Runs.ret <| kB_ret <| kS_ret ?_
   cases h
   exact Fq
  | false =>
   replace h := ite_f hb_2 h
   refine Cf <| Ro <| Rc 3 [vi mod_, vb (mod_ == 0), vb (mod_ == 0)] ?_
   cases hb_3 : ((mod_ == 0) : Bool) with
   | true =>
    replace h := ite_t hb_3 h
    refine Rc 4 [vi rm_, vb (rm_ == 6), vb (rm_ == 6), vb (rm_ == 6)] <| Rk ?_
    cases hb_4 : ((rm_ == 6) : Bool) with
    | true =>
     replace h := ite_t hb_4 h
     refine Ct <| Sq <| Ro <| Rc 1 [vi 2] <| Rk <| Runs.ret <| kB_ret <| kS_ret ?_
     cases h
     exact Fq
    | false =>
     replace h := ite_f hb_4 h
     refine Cf <| Runs.skip <| kB_nrm <| kS_nrm <| Sq <| Ro <| Rc 1 [vi 0] <| Rk <| Runs.ret ?_
     cases h
     exact Fq
   | false =>
    replace h := ite_f hb_3 h
    refine Rc 4 [vn, vn, vb false, vb false] <| Rk <| Cf <| Runs.skip <| kB_nrm <| kS_nrm <| Sq <| Ro <| Rc 1 [vi 0] <| Rk <| Runs.ret ?_
    cases h
    exact Fq
theorem inst_Disps_L (mod_ : Int) (rm_ : Int) (r : Int) (h : inst_Disps mod_ rm_ = some r) : L 36 [.i mod_, .i rm_] = some (.i r, [.i mod_, .i rm_]) := by
 obtain ⟨p, ⟨hne, hf⟩, hr⟩ := inst_Disps_ok mod_ rm_ r h
 obtain ⟨k, hk⟩ := run_of (F := F36) (args := [.i mod_, .i rm_]) (ap := [.i mod_, .i rm_]) (bx0 := updW (fun _ => none) []) rfl rfl (by kernel_rfl) ⟨p, ⟨hne, hf⟩, hr⟩
 exact lim_run (k := k) rfl hk
def pick_second_h6 (c3 : Choice) (o5 : Operand) (b_6 : Choice) (op1 : Int) (t73 : Bool) : St := ⟨tab [(1, .i op1), (3, .ptr [3] 0 0), (5, .ptr [5] 0 0), (6, .ptr [6] 0 0), (73, .b t73)], tabB [([3], some (.cells [.b c3.I.Lock, .i c3.I.Rep, .i c3.I.Seg, .y c3.I.Op, .i c3.I.Mod, .i c3.I.Reg, .i c3.I.RM, .w c3.I.Disp, .w c3.I.Imm, .w c3.I.Sel, .i c3.Disp.N, .i c3.Disp.From, .i c3.Disp.Which, .i c3.Disp.Type_, .i c3.Disp.Wants, .b c3.Disp.Known, .i c3.Imm.N, .i c3.Imm.From, .i c3.Imm.Which, .i c3.Imm.Type_, .i c3.Imm.Wants, .b c3.Imm.Known, .b c3.HasD, .b c3.HasI, .b c3.Jumps] 0)), ([5], some (.cells [.i o5.Kind, .i o5.N, .i o5.RM, .i o5.V.N, .i o5.V.From, .i o5.V.Which, .i o5.V.Type_, .i o5.V.Wants, .b o5.V.Known, .i o5.Type_, .i o5.Over, .b o5.Short] 0)), ([6], some (.cells [.b b_6.I.Lock, .i b_6.I.Rep, .i b_6.I.Seg, .y b_6.I.Op, .i b_6.I.Mod, .i b_6.I.Reg, .i b_6.I.RM, .w b_6.I.Disp, .w b_6.I.Imm, .w b_6.I.Sel, .i b_6.Disp.N, .i b_6.Disp.From, .i b_6.Disp.Which, .i b_6.Disp.Type_, .i b_6.Disp.Wants, .b b_6.Disp.Known, .i b_6.Imm.N, .i b_6.Imm.From, .i b_6.Imm.Which, .i b_6.Imm.Type_, .i b_6.Imm.Wants, .b b_6.Imm.Known, .b b_6.HasD, .b b_6.HasI, .b b_6.Jumps] 0))]⟩
def pick_second_h20 (c3 : Choice) (o5 : Operand) (b_6 : Choice) (known7 : Bool) : St := ⟨tab [(3, .ptr [3] 0 0), (5, .ptr [5] 0 0), (6, .ptr [6] 0 0), (7, .b known7)], tabB [([3], some (.cells [.b c3.I.Lock, .i c3.I.Rep, .i c3.I.Seg, .y c3.I.Op, .i c3.I.Mod, .i c3.I.Reg, .i c3.I.RM, .w c3.I.Disp, .w c3.I.Imm, .w c3.I.Sel, .i c3.Disp.N, .i c3.Disp.From, .i c3.Disp.Which, .i c3.Disp.Type_, .i c3.Disp.Wants, .b c3.Disp.Known, .i c3.Imm.N, .i c3.Imm.From, .i c3.Imm.Which, .i c3.Imm.Type_, .i c3.Imm.Wants, .b c3.Imm.Known, .b c3.HasD, .b c3.HasI, .b c3.Jumps] 0)), ([5], some (.cells [.i o5.Kind, .i o5.N, .i o5.RM, .i o5.V.N, .i o5.V.From, .i o5.V.Which, .i o5.V.Type_, .i o5.V.Wants, .b o5.V.Known, .i o5.Type_, .i o5.Over, .b o5.Short] 0)), ([6], some (.cells [.b b_6.I.Lock, .i b_6.I.Rep, .i b_6.I.Seg, .y b_6.I.Op, .i b_6.I.Mod, .i b_6.I.Reg, .i b_6.I.RM, .w b_6.I.Disp, .w b_6.I.Imm, .w b_6.I.Sel, .i b_6.Disp.N, .i b_6.Disp.From, .i b_6.Disp.Which, .i b_6.Disp.Type_, .i b_6.Disp.Wants, .b b_6.Disp.Known, .i b_6.Imm.N, .i b_6.Imm.From, .i b_6.Imm.Which, .i b_6.Imm.Type_, .i b_6.Imm.Wants, .b b_6.Imm.Known, .b b_6.HasD, .b b_6.HasI, .b b_6.Jumps] 0))]⟩
def pick_second_h30 (c3 : Choice) (o5 : Operand) (b_6 : Choice) (known7 : Bool) (t39 : Bool) : St := ⟨tab [(3, .ptr [3] 0 0), (5, .ptr [5] 0 0), (6, .ptr [6] 0 0), (7, .b known7), (39, .b t39)], tabB [([3], some (.cells [.b c3.I.Lock, .i c3.I.Rep, .i c3.I.Seg, .y c3.I.Op, .i c3.I.Mod, .i c3.I.Reg, .i c3.I.RM, .w c3.I.Disp, .w c3.I.Imm, .w c3.I.Sel, .i c3.Disp.N, .i c3.Disp.From, .i c3.Disp.Which, .i c3.Disp.Type_, .i c3.Disp.Wants, .b c3.Disp.Known, .i c3.Imm.N, .i c3.Imm.From, .i c3.Imm.Which, .i c3.Imm.Type_, .i c3.Imm.Wants, .b c3.Imm.Known, .b c3.HasD, .b c3.HasI, .b c3.Jumps] 0)), ([5], some (.cells [.i o5.Kind, .i o5.N, .i o5.RM, .i o5.V.N, .i o5.V.From, .i o5.V.Which, .i o5.V.Type_, .i o5.V.Wants, .b o5.V.Known, .i o5.Type_, .i o5.Over, .b o5.Short] 0)), ([6], some (.cells [.b b_6.I.Lock, .i b_6.I.Rep, .i b_6.I.Seg, .y b_6.I.Op, .i b_6.I.Mod, .i b_6.I.Reg, .i b_6.I.RM, .w b_6.I.Disp, .w b_6.I.Imm, .w b_6.I.Sel, .i b_6.Disp.N, .i b_6.Disp.From, .i b_6.Disp.Which, .i b_6.Disp.Type_, .i b_6.Disp.Wants, .b b_6.Disp.Known, .i b_6.Imm.N, .i b_6.Imm.From, .i b_6.Imm.Which, .i b_6.Imm.Type_, .i b_6.Imm.Wants, .b b_6.Imm.Known, .b b_6.HasD, .b b_6.HasI, .b b_6.Jumps] 0))]⟩
def pick_second_Q (c_ : Choice) (op_ : Int) (o_ : Operand) (r : Choice) (p : Out × St) : Prop := (∀ i, p.1 ≠ .exit i) ∧ finF F67 [.d (Choice.d c_), .i op_, .d (Operand.d o_)] p.2 = some (.d (Choice.d r), [.d (Choice.d c_), .i op_, .d (Operand.d o_)])
theorem pick_second_j30_ok (c_ : Choice) (op_ : Int) (o_ : Operand) (c3 : Choice) (o5 : Operand) (b_6 : Choice) (known7 : Bool) (t39 : Bool) (r : Choice) (h : pick_second_j30 c3 o5 b_6 known7 t39 = some r) : Runs L F67b30 (pick_second_h30 c3 o5 b_6 known7 t39) (kB 1 (kS L F67c37 (kB 0 (kS L F67c38 (pick_second_Q c_ op_ o_ r))))) := by
 unfold pick_second_j30 at h
 cases hb_9 : (t39 : Bool) with
 | true =>
  replace h := ite_t hb_9 h
  refine Ct <| Ro <| Rc 3 [vp [3] 0 0, vp [3] 0 4, ⟨.tup [], [([3], some (.cells [.b c3.I.Lock, .i c3.I.Rep, .i c3.I.Seg, .y c3.I.Op, .i 0, .i c3.I.Reg, .i c3.I.RM, .w c3.I.Disp, .w c3.I.Imm, .w c3.I.Sel, .i c3.Disp.N, .i c3.Disp.From, .i c3.Disp.Which, .i c3.Disp.Type_, .i c3.Disp.Wants, .b c3.Disp.Known, .i c3.Imm.N, .i c3.Imm.From, .i c3.Imm.Which, .i c3.Imm.Type_, .i c3.Imm.Wants, .b c3.Imm.Known, .b c3.HasD, .b c3.HasI, .b c3.Jumps] 0))]⟩] <| Rd <| kB_nrm <| kS_nrm <| Ro <| Rc 6 [vp [3] 0 0, vp [3] 0 4, vi 0, vp [3] 0 0, vp [3] 0 6, vi c3.I.RM] ?_
  obtain ⟨r_4, hr_4, h⟩ := bind_s h
  have hc_4 := inst_Disps_L 0 c3.I.RM r_4 hr_4
  refine Rt (some 70) (.callf 36) [] none [.i 0, .i c3.I.RM] (.i r_4) [] (cc hc_4) <| Rc 3 [vb (r_4 == 2), vp [3] 0 22, ⟨.tup [], [([3], some (.cells [.b c3.I.Lock, .i c3.I.Rep, .i c3.I.Seg, .y c3.I.Op, .i 0, .i c3.I.Reg, .i c3.I.RM, .w c3.I.Disp, .w c3.I.Imm, .w c3.I.Sel, .i c3.Disp.N, .i c3.Disp.From, .i c3.Disp.Which, .i c3.Disp.Type_, .i c3.Disp.Wants, .b c3.Disp.Known, .i c3.Imm.N, .i c3.Imm.From, .i c3.Imm.Which, .i c3.Imm.Type_, .i c3.Imm.Wants, .b c3.Imm.Known, .b (r_4 == 2), .b c3.HasI, .b c3.Jumps] 0))]⟩] <| Rd <| kB_nrm <| kS_nrm <| Sq <| Ro <| Rc 2 [⟨.d (.agg [.bool c3.I.Lock, .int .i64 c3.I.Rep, .int .i64 c3.I.Seg, .int .u8 c3.I.Op, .int .i64 0, .int .i64 c3.I.Reg, .int .i64 c3.I.RM, .int .u16 c3.I.Disp, .int .u16 c3.I.Imm, .int .u16 c3.I.Sel, .int .i64 c3.Disp.N, .int .i64 c3.Disp.From, .int .i64 c3.Disp.Which, .int .i64 c3.Disp.Type_, .int .i64 c3.Disp.Wants, .bool c3.Disp.Known, .int .i64 c3.Imm.N, .int .i64 c3.Imm.From, .int .i64 c3.Imm.Which, .int .i64 c3.Imm.Type_, .int .i64 c3.Imm.Wants, .bool c3.Imm.Known, .bool (r_4 == 2), .bool c3.HasI, .bool c3.Jumps]), []⟩, ⟨.tup [], [([6], some (.cells [.b c3.I.Lock, .i c3.I.Rep, .i c3.I.Seg, .y c3.I.Op, .i 0, .i c3.I.Reg, .i c3.I.RM, .w c3.I.Disp, .w c3.I.Imm, .w c3.I.Sel, .i c3.Disp.N, .i c3.Disp.From, .i c3.Disp.Which, .i c3.Disp.Type_, .i c3.Disp.Wants, .b c3.Disp.Known, .i c3.Imm.N, .i c3.Imm.From, .i c3.Imm.Which, .i c3.Imm.Type_, .i c3.Imm.Wants, .b c3.Imm.Known, .b (r_4 == 2), .b c3.HasI, .b c3.Jumps] 0))]⟩] ?_
  refine Rk <| Runs.ret ?_
  cases h
  exact Fq
 | false =>
  replace h := ite_f hb_9 h
  refine Cf <| Sq <| Ro <| Rc 2 [vb known7, vb known7] ?_
  cases hb_10 : (known7 : Bool) with
  | true =>
   replace h := ite_t hb_10 h
   refine Rc 3 [vp [5] 0 3, vp [5] 0 3, vi o5.V.N] ?_
   obtain ⟨r_5, hr_5, h⟩ := bind_s h
   have hc_5 := pick_signed_L o5.V.N r_5 hr_5
   refine Rt (some 60) (.callf 61) [] none [.i o5.V.N] (.b r_5) [] (cc hc_5) <| Rc 2 [vb r_5, vb r_5] <| Rk ?_
   cases hb_11 : (r_5 : Bool) with
   | true =>
    replace h := ite_t hb_11 h
    refine Ct <| Ro <| Rc 3 [vp [3] 0 0, vp [3] 0 4, ⟨.tup [], [([3], some (.cells [.b c3.I.Lock, .i c3.I.Rep, .i c3.I.Seg, .y c3.I.Op, .i 1, .i c3.I.Reg, .i c3.I.RM, .w c3.I.Disp, .w c3.I.Imm, .w c3.I.Sel, .i c3.Disp.N, .i c3.Disp.From, .i c3.Disp.Which, .i c3.Disp.Type_, .i c3.Disp.Wants, .b c3.Disp.Known, .i c3.Imm.N, .i c3.Imm.From, .i c3.Imm.Which, .i c3.Imm.Type_, .i c3.Imm.Wants, .b c3.Imm.Known, .b c3.HasD, .b c3.HasI, .b c3.Jumps] 0))]⟩] <| Rd <| kB_nrm <| kS_nrm <| Ro <| Rc 6 [vp [3] 0 0, vp [3] 0 4, vi 1, vp [3] 0 0, vp [3] 0 6, vi c3.I.RM] ?_
    obtain ⟨r_6, hr_6, h⟩ := bind_s h
    have hc_6 := inst_Disps_L 1 c3.I.RM r_6 hr_6
    refine Rt (some 70) (.callf 36) [] none [.i 1, .i c3.I.RM] (.i r_6) [] (cc hc_6) <| Rc 3 [vb (r_6 == 2), vp [3] 0 22, ⟨.tup [], [([3], some (.cells [.b c3.I.Lock, .i c3.I.Rep, .i c3.I.Seg, .y c3.I.Op, .i 1, .i c3.I.Reg, .i c3.I.RM, .w c3.I.Disp, .w c3.I.Imm, .w c3.I.Sel, .i c3.Disp.N, .i c3.Disp.From, .i c3.Disp.Which, .i c3.Disp.Type_, .i c3.Disp.Wants, .b c3.Disp.Known, .i c3.Imm.N, .i c3.Imm.From, .i c3.Imm.Which, .i c3.Imm.Type_, .i c3.Imm.Wants, .b c3.Imm.Known, .b (r_6 == 2), .b c3.HasI, .b c3.Jumps] 0))]⟩] <| Rd <| kB_nrm <| kS_nrm <| Sq <| Ro <| Rc 2 [⟨.d (.agg [.bool c3.I.Lock, .int .i64 c3.I.Rep, .int .i64 c3.I.Seg, .int .u8 c3.I.Op, .int .i64 1, .int .i64 c3.I.Reg, .int .i64 c3.I.RM, .int .u16 c3.I.Disp, .int .u16 c3.I.Imm, .int .u16 c3.I.Sel, .int .i64 c3.Disp.N, .int .i64 c3.Disp.From, .int .i64 c3.Disp.Which, .int .i64 c3.Disp.Type_, .int .i64 c3.Disp.Wants, .bool c3.Disp.Known, .int .i64 c3.Imm.N, .int .i64 c3.Imm.From, .int .i64 c3.Imm.Which, .int .i64 c3.Imm.Type_, .int .i64 c3.Imm.Wants, .bool c3.Imm.Known, .bool (r_6 == 2), .bool c3.HasI, .bool c3.Jumps]), []⟩, ⟨.tup [], [([6], some (.cells [.b c3.I.Lock, .i c3.I.Rep, .i c3.I.Seg, .y c3.I.Op, .i 1, .i c3.I.Reg, .i c3.I.RM, .w c3.I.Disp, .w c3.I.Imm, .w c3.I.Sel, .i c3.Disp.N, .i c3.Disp.From, .i c3.Disp.Which, .i c3.Disp.Type_, .i c3.Disp.Wants, .b c3.Disp.Known, .i c3.Imm.N, .i c3.Imm.From, .i c3.Imm.Which, .i c3.Imm.Type_, .i c3.Imm.Wants, .b c3.Imm.Known, .b (r_6 == 2), .b c3.HasI, .b c3.Jumps] 0))]⟩] ?_
    refine Rk <| Runs.ret ?_
    cases h
    exact Fq
   | false =>
    replace h := ite_f hb_11 h
    refine Cf <| Ro <| Rc 3 [vp [3] 0 0, vp [3] 0 4, ⟨.tup [], [([3], some (.cells [.b c3.I.Lock, .i c3.I.Rep, .i c3.I.Seg, .y c3.I.Op, .i 2, .i c3.I.Reg, .i c3.I.RM, .w c3.I.Disp, .w c3.I.Imm, .w c3.I.Sel, .i c3.Disp.N, .i c3.Disp.From, .i c3.Disp.Which, .i c3.Disp.Type_, .i c3.Disp.Wants, .b c3.Disp.Known, .i c3.Imm.N, .i c3.Imm.From, .i c3.Imm.Which, .i c3.Imm.Type_, .i c3.Imm.Wants, .b c3.Imm.Known, .b c3.HasD, .b c3.HasI, .b c3.Jumps] 0))]⟩] <| Rd <| kB_nrm <| kS_nrm <| Ro <| Rc 6 [vp [3] 0 0, vp [3] 0 4, vi 2, vp [3] 0 0, vp [3] 0 6, vi c3.I.RM] ?_
    obtain ⟨r_7, hr_7, h⟩ := bind_s h
    have hc_7 := inst_Disps_L 2 c3.I.RM r_7 hr_7
    refine Rt (some 70) (.callf 36) [] none [.i 2, .i c3.I.RM] (.i r_7) [] (cc hc_7) <| Rc 3 [vb (r_7 == 2), vp [3] 0 22, ⟨.tup [], [([3], some (.cells [.b c3.I.Lock, .i c3.I.Rep, .i c3.I.Seg, .y c3.I.Op, .i 2, .i c3.I.Reg, .i c3.I.RM, .w c3.I.Disp, .w c3.I.Imm, .w c3.I.Sel, .i c3.Disp.N, .i c3.Disp.From, .i c3.Disp.Which, .i c3.Disp.Type_, .i c3.Disp.Wants, .b c3.Disp.Known, .i c3.Imm.N, .i c3.Imm.From, .i c3.Imm.Which, .i c3.Imm.Type_, .i c3.Imm.Wants, .b c3.Imm.Known, .b (r_7 == 2), .b c3.HasI, .b c3.Jumps] 0))]⟩] <| Rd <| kB_nrm <| kS_nrm <| Sq <| Ro <| Rc 2 [⟨.d (.agg [.bool c3.I.Lock, .int .i64 c3.I.Rep, .int .i64 c3.I.Seg, .int .u8 c3.I.Op, .int .i64 2, .int .i64 c3.I.Reg, .int .i64 c3.I.RM, .int .u16 c3.I.Disp, .int .u16 c3.I.Imm, .int .u16 c3.I.Sel, .int .i64 c3.Disp.N, .int .i64 c3.Disp.From, .int .i64 c3.Disp.Which, .int .i64 c3.Disp.Type_, .int .i64 c3.Disp.Wants, .bool c3.Disp.Known, .int .i64 c3.Imm.N, .int .i64 c3.Imm.From, .int .i64 c3.Imm.Which, .int .i64 c3.Imm.Type_, .int .i64 c3.Imm.Wants, .bool c3.Imm.Known, .bool (r_7 == 2), .bool c3.HasI, .bool c3.Jumps]), []⟩, ⟨.tup [], [([6], some (.cells [.b c3.I.Lock, .i c3.I.Rep, .i c3.I.Seg, .y c3.I.Op, .i 2, .i c3.I.Reg, .i c3.I.RM, .w c3.I.Disp, .w c3.I.Imm, .w c3.I.Sel, .i c3.Disp.N, .i c3.Disp.From, .i c3.Disp.Which, .i c3.Disp.Type_, .i c3.Disp.Wants, .b c3.Disp.Known, .i c3.Imm.N, .i c3.Imm.From, .i c3.Imm.Which, .i c3.Imm.Type_, .i c3.Imm.Wants, .b c3.Imm.Known, .b (r_7 == 2), .b c3.HasI, .b c3.Jumps] 0))]⟩] ?_
    refine Rk <| Runs.ret ?_
    cases h
    exact Fq
  | false =>
   replace h := ite_f hb_10 h
   refine Rc 6 [vn, vn, vn, vn, vb false, vb false] <| Rk <| Cf <| Ro <| Rc 3 [vp [3] 0 0, vp [3] 0 4, ⟨.tup [], [([3], some (.cells [.b c3.I.Lock, .i c3.I.Rep, .i c3.I.Seg, .y c3.I.Op, .i 2, .i c3.I.Reg, .i c3.I.RM, .w c3.I.Disp, .w c3.I.Imm, .w c3.I.Sel, .i c3.Disp.N, .i c3.Disp.From, .i c3.Disp.Which, .i c3.Disp.Type_, .i c3.Disp.Wants, .b c3.Disp.Known, .i c3.Imm.N, .i c3.Imm.From, .i c3.Imm.Which, .i c3.Imm.Type_, .i c3.Imm.Wants, .b c3.Imm.Known, .b c3.HasD, .b c3.HasI, .b c3.Jumps] 0))]⟩] <| Rd <| kB_nrm <| kS_nrm <| Ro <| Rc 6 [vp [3] 0 0, vp [3] 0 4, vi 2, vp [3] 0 0, vp [3] 0 6, vi c3.I.RM] ?_
   obtain ⟨r_8, hr_8, h⟩ := bind_s h
   have hc_8 := inst_Disps_L 2 c3.I.RM r_8 hr_8
   refine Rt (some 70) (.callf 36) [] none [.i 2, .i c3.I.RM] (.i r_8) [] (cc hc_8) <| Rc 3 [vb (r_8 == 2), vp [3] 0 22, ⟨.tup [], [([3], some (.cells [.b c3.I.Lock, .i c3.I.Rep, .i c3.I.Seg, .y c3.I.Op, .i 2, .i c3.I.Reg, .i c3.I.RM, .w c3.I.Disp, .w c3.I.Imm, .w c3.I.Sel, .i c3.Disp.N, .i c3.Disp.From, .i c3.Disp.Which, .i c3.Disp.Type_, .i c3.Disp.Wants, .b c3.Disp.Known, .i c3.Imm.N, .i c3.Imm.From, .i c3.Imm.Which, .i c3.Imm.Type_, .i c3.Imm.Wants, .b c3.Imm.Known, .b (r_8 == 2), .b c3.HasI, .b c3.Jumps] 0))]⟩] <| Rd <| kB_nrm <| kS_nrm <| Sq <| Ro <| Rc 2 [⟨.d (.agg [.bool c3.I.Lock, .int .i64 c3.I.Rep, .int .i64 c3.I.Seg, .int .u8 c3.I.Op, .int .i64 2, .int .i64 c3.I.Reg, .int .i64 c3.I.RM, .int .u16 c3.I.Disp, .int .u16 c3.I.Imm, .int .u16 c3.I.Sel, .int .i64 c3.Disp.N, .int .i64 c3.Disp.From, .int .i64 c3.Disp.Which, .int .i64 c3.Disp.Type_, .int .i64 c3.Disp.Wants, .bool c3.Disp.Known, .int .i64 c3.Imm.N, .int .i64 c3.Imm.From, .int .i64 c3.Imm.Which, .int .i64 c3.Imm.Type_, .int .i64 c3.Imm.Wants, .bool c3.Imm.Known, .bool (r_8 == 2), .bool c3.HasI, .bool c3.Jumps]), []⟩, ⟨.tup [], [([6], some (.cells [.b c3.I.Lock, .i c3.I.Rep, .i c3.I.Seg, .y c3.I.Op, .i 2, .i c3.I.Reg, .i c3.I.RM, .w c3.I.Disp, .w c3.I.Imm, .w c3.I.Sel, .i c3.Disp.N, .i c3.Disp.From, .i c3.Disp.Which, .i c3.Disp.Type_, .i c3.Disp.Wants, .b c3.Disp.Known, .i c3.Imm.N, .i c3.Imm.From, .i c3.Imm.Which, .i c3.Imm.Type_, .i c3.Imm.Wants, .b c3.Imm.Known, .b (r_8 == 2), .b c3.HasI, .b c3.Jumps] 0))]⟩] ?_
   refine Rk <| Runs.ret ?_
   cases h
   exact Fq
theorem pick_second_j20_ok (c_ : Choice) (op_ : Int) (o_ : Operand) (c3 : Choice) (o5 : Operand) (b_6 : Choice) (known7 : Bool) (r : Choice) (h : pick_second_j20 c3 o5 b_6 known7 = some r) : Runs L F67b20 (pick_second_h20 c3 o5 b_6 known7) (kB 0 (kS L F67c38 (pick_second_Q c_ op_ o_ r))) := by
 unfold pick_second_j20 at h
 refine Sq <| Ro <| Rc 12 [vp [5] 0 2, vi o5.RM, vp [5] 0 3, vp [5] 0 3, vi o5.V.N, vw (IntKind.wrap .u16 o5.V.N), vp [3] 0 0, vp [3] 0 6, ⟨.tup [], [([3], some (.cells [.b c3.I.Lock, .i c3.I.Rep, .i c3.I.Seg, .y c3.I.Op, .i c3.I.Mod, .i c3.I.Reg, .i o5.RM, .w c3.I.Disp, .w c3.I.Imm, .w c3.I.Sel, .i c3.Disp.N, .i c3.Disp.From, .i c3.Disp.Which, .i c3.Disp.Type_, .i c3.Disp.Wants, .b c3.Disp.Known, .i c3.Imm.N, .i c3.Imm.From, .i c3.Imm.Which, .i c3.Imm.Type_, .i c3.Imm.Wants, .b c3.Imm.Known, .b c3.HasD, .b c3.HasI, .b c3.Jumps] 0))]⟩, vp [3] 0 0, vp [3] 0 7, ⟨.tup [], [([3], some (.cells [.b c3.I.Lock, .i c3.I.Rep, .i c3.I.Seg, .y c3.I.Op, .i c3.I.Mod, .i c3.I.Reg, .i o5.RM, .w (IntKind.wrap .u16 o5.V.N), .w c3.I.Imm, .w c3.I.Sel, .i c3.Disp.N, .i c3.Disp.From, .i c3.Disp.Which, .i c3.Disp.Type_, .i c3.Disp.Wants, .b c3.Disp.Known, .i c3.Imm.N, .i c3.Imm.From, .i c3.Imm.Which, .i c3.Imm.Type_, .i c3.Imm.Wants, .b c3.Imm.Known, .b c3.HasD, .b c3.HasI, .b c3.Jumps] 0))]⟩] ?_
 refine Rk <| Sq <| Runs.block <| Sq <| Ro <| Rc 4 [vp [5] 0 2, vi o5.RM, vb (o5.RM == 8), vb (o5.RM == 8)] <| Rk ?_
 cases hb_6 : ((o5.RM == 8) : Bool) with
 | true =>
  replace h := ite_t hb_6 h
  refine Ct <| Ro <| Rc 6 [vp [3] 0 0, vp [3] 0 4, ⟨.tup [], [([3], some (.cells [.b c3.I.Lock, .i c3.I.Rep, .i c3.I.Seg, .y c3.I.Op, .i 0, .i c3.I.Reg, .i o5.RM, .w (IntKind.wrap .u16 o5.V.N), .w c3.I.Imm, .w c3.I.Sel, .i c3.Disp.N, .i c3.Disp.From, .i c3.Disp.Which, .i c3.Disp.Type_, .i c3.Disp.Wants, .b c3.Disp.Known, .i c3.Imm.N, .i c3.Imm.From, .i c3.Imm.Which, .i c3.Imm.Type_, .i c3.Imm.Wants, .b c3.Imm.Known, .b c3.HasD, .b c3.HasI, .b c3.Jumps] 0))]⟩, vp [3] 0 0, vp [3] 0 6, ⟨.tup [], [([3], some (.cells [.b c3.I.Lock, .i c3.I.Rep, .i c3.I.Seg, .y c3.I.Op, .i 0, .i c3.I.Reg, .i 6, .w (IntKind.wrap .u16 o5.V.N), .w c3.I.Imm, .w c3.I.Sel, .i c3.Disp.N, .i c3.Disp.From, .i c3.Disp.Which, .i c3.Disp.Type_, .i c3.Disp.Wants, .b c3.Disp.Known, .i c3.Imm.N, .i c3.Imm.From, .i c3.Imm.Which, .i c3.Imm.Type_, .i c3.Imm.Wants, .b c3.Imm.Known, .b c3.HasD, .b c3.HasI, .b c3.Jumps] 0))]⟩] <| Rd <| kB_nrm <| kS_nrm ?_
  refine Ro <| Rc 6 [vp [3] 0 0, vp [3] 0 4, vi 0, vp [3] 0 0, vp [3] 0 6, vi 6] ?_
  obtain ⟨r_3, hr_3, h⟩ := bind_s h
  have hc_3 := inst_Disps_L 0 6 r_3 hr_3
  refine Rt (some 70) (.callf 36) [] none [.i 0, .i 6] (.i r_3) [] (cc hc_3) <| Rc 3 [vb (r_3 == 2), vp [3] 0 22, ⟨.tup [], [([3], some (.cells [.b c3.I.Lock, .i c3.I.Rep, .i c3.I.Seg, .y c3.I.Op, .i 0, .i c3.I.Reg, .i 6, .w (IntKind.wrap .u16 o5.V.N), .w c3.I.Imm, .w c3.I.Sel, .i c3.Disp.N, .i c3.Disp.From, .i c3.Disp.Which, .i c3.Disp.Type_, .i c3.Disp.Wants, .b c3.Disp.Known, .i c3.Imm.N, .i c3.Imm.From, .i c3.Imm.Which, .i c3.Imm.Type_, .i c3.Imm.Wants, .b c3.Imm.Known, .b (r_3 == 2), .b c3.HasI, .b c3.Jumps] 0))]⟩] <| Rd <| kB_nrm <| kS_nrm <| Sq <| Ro <| Rc 2 [⟨.d (.agg [.bool c3.I.Lock, .int .i64 c3.I.Rep, .int .i64 c3.I.Seg, .int .u8 c3.I.Op, .int .i64 0, .int .i64 c3.I.Reg, .int .i64 6, .int .u16 (IntKind.wrap .u16 o5.V.N), .int .u16 c3.I.Imm, .int .u16 c3.I.Sel, .int .i64 c3.Disp.N, .int .i64 c3.Disp.From, .int .i64 c3.Disp.Which, .int .i64 c3.Disp.Type_, .int .i64 c3.Disp.Wants, .bool c3.Disp.Known, .int .i64 c3.Imm.N, .int .i64 c3.Imm.From, .int .i64 c3.Imm.Which, .int .i64 c3.Imm.Type_, .int .i64 c3.Imm.Wants, .bool c3.Imm.Known, .bool (r_3 == 2), .bool c3.HasI, .bool c3.Jumps]), []⟩, ⟨.tup [], [([6], some (.cells [.b c3.I.Lock, .i c3.I.Rep, .i c3.I.Seg, .y c3.I.Op, .i 0, .i c3.I.Reg, .i 6, .w (IntKind.wrap .u16 o5.V.N), .w c3.I.Imm, .w c3.I.Sel, .i c3.Disp.N, .i c3.Disp.From, .i c3.Disp.Which, .i c3.Disp.Type_, .i c3.Disp.Wants, .b c3.Disp.Known, .i c3.Imm.N, .i c3.Imm.From, .i c3.Imm.Which, .i c3.Imm.Type_, .i c3.Imm.Wants, .b c3.Imm.Known, .b (r_3 == 2), .b c3.HasI, .b c3.Jumps] 0))]⟩] ?_
  refine Rk <| Runs.ret ?_
  cases h
  exact Fq
 | false =>
  replace h := ite_f hb_6 h
  refine Cf <| Sq <| Ro <| Rc 2 [vb known7, vb known7] ?_
  cases hb_7 : (known7 : Bool) with
  | true =>
   replace h := ite_t hb_7 h
   refine Rc 6 [vp [5] 0 3, vp [5] 0 3, vi o5.V.N, vb (o5.V.N == 0), vb (o5.V.N == 0), vb (o5.V.N == 0)] ?_
   cases hb_8 : ((o5.V.N == 0) : Bool) with
   | true =>
    replace h := ite_t hb_8 h
    refine Rc 5 [vp [5] 0 2, vi o5.RM, vb (o5.RM != 6), vb (o5.RM != 6), vb (o5.RM != 6)] <| Rk <| Runs.canon (pick_second_h30 ({ I := ({ c3.I with RM := o5.RM, Disp := (IntKind.wrap .u16 o5.V.N) } : Inst), Disp := c3.Disp, Imm := c3.Imm, HasD := c3.HasD, HasI := c3.HasI, Jumps := c3.Jumps } : Choice) o5 b_6 true (o5.RM != 6)) Cz ?_
    exact pick_second_j30_ok c_ op_ o_ ({ I := ({ c3.I with RM := o5.RM, Disp := (IntKind.wrap .u16 o5.V.N) } : Inst), Disp := c3.Disp, Imm := c3.Imm, HasD := c3.HasD, HasI := c3.HasI, Jumps := c3.Jumps } : Choice) o5 b_6 true (o5.RM != 6) r h
   | false =>
    replace h := ite_f hb_8 h
    refine Rc 5 [vn, vn, vn, vb false, vb false] <| Rk <| Runs.canon (pick_second_h30 ({ I := ({ c3.I with RM := o5.RM, Disp := (IntKind.wrap .u16 o5.V.N) } : Inst), Disp := c3.Disp, Imm := c3.Imm, HasD := c3.HasD, HasI := c3.HasI, Jumps := c3.Jumps } : Choice) o5 b_6 true false) Cz ?_
    exact pick_second_j30_ok c_ op_ o_ ({ I := ({ c3.I with RM := o5.RM, Disp := (IntKind.wrap .u16 o5.V.N) } : Inst), Disp := c3.Disp, Imm := c3.Imm, HasD := c3.HasD, HasI := c3.HasI, Jumps := c3.Jumps } : Choice) o5 b_6 true false r h
  | false =>
   replace h := ite_f hb_7 h
   refine Rc 11 [vn, vn, vn, vn, vb false, vb false, vn, vn, vn, vb false, vb false] <| Rk <| Runs.canon (pick_second_h30 ({ I := ({ c3.I with RM := o5.RM, Disp := (IntKind.wrap .u16 o5.V.N) } : Inst), Disp := c3.Disp, Imm := c3.Imm, HasD := c3.HasD, HasI := c3.HasI, Jumps := c3.Jumps } : Choice) o5 b_6 false false) Cz ?_
   exact pick_second_j30_ok c_ op_ o_ ({ I := ({ c3.I with RM := o5.RM, Disp := (IntKind.wrap .u16 o5.V.N) } : Inst), Disp := c3.Disp, Imm := c3.Imm, HasD := c3.HasD, HasI := c3.HasI, Jumps := c3.Jumps } : Choice) o5 b_6 false false r h
theorem pick_second_j6_ok (c_ : Choice) (op_ : Int) (o_ : Operand) (c3 : Choice) (o5 : Operand) (b_6 : Choice) (op1 : Int) (t73 : Bool) (r : Choice) (h : pick_second_j6 c3 o5 b_6 op1 t73 = some r) : Runs L F67b6 (pick_second_h6 c3 o5 b_6 op1 t73) (kB 0 (kS L F67c38 (pick_second_Q c_ op_ o_ r))) := by
 unfold pick_second_j6 at h
 cases hb_2 : (t73 : Bool) with
 | true =>
  replace h := ite_t hb_2 h
  refine Ct <| Ro <| Rc 5 [vp [5] 0 1, vi o5.N, vp [3] 0 0, vp [3] 0 5, ⟨.tup [], [([3], some (.cells [.b c3.I.Lock, .i c3.I.Rep, .i c3.I.Seg, .y c3.I.Op, .i c3.I.Mod, .i o5.N, .i c3.I.RM, .w c3.I.Disp, .w c3.I.Imm, .w c3.I.Sel, .i c3.Disp.N, .i c3.Disp.From, .i c3.Disp.Which, .i c3.Disp.Type_, .i c3.Disp.Wants, .b c3.Disp.Known, .i c3.Imm.N, .i c3.Imm.From, .i c3.Imm.Which, .i c3.Imm.Type_, .i c3.Imm.Wants, .b c3.Imm.Known, .b c3.HasD, .b c3.HasI, .b c3.Jumps] 0))]⟩] <| Rd <| kB_nrm <| kS_nrm <| Sq <| Ro <| Rc 2 [⟨.d (.agg [.bool c3.I.Lock, .int .i64 c3.I.Rep, .int .i64 c3.I.Seg, .int .u8 c3.I.Op, .int .i64 c3.I.Mod, .int .i64 o5.N, .int .i64 c3.I.RM, .int .u16 c3.I.Disp, .int .u16 c3.I.Imm, .int .u16 c3.I.Sel, .int .i64 c3.Disp.N, .int .i64 c3.Disp.From, .int .i64 c3.Disp.Which, .int .i64 c3.Disp.Type_, .int .i64 c3.Disp.Wants, .bool c3.Disp.Known, .int .i64 c3.Imm.N, .int .i64 c3.Imm.From, .int .i64 c3.Imm.Which, .int .i64 c3.Imm.Type_, .int .i64 c3.Imm.Wants, .bool c3.Imm.Known, .bool c3.HasD, .bool c3.HasI, .bool c3.Jumps]), []⟩, ⟨.tup [], [([6], some (.cells [.b c3.I.Lock, .i c3.I.Rep, .i c3.I.Seg, .y c3.I.Op, .i c3.I.Mod, .i o5.N, .i c3.I.RM, .w c3.I.Disp, .w c3.I.Imm, .w c3.I.Sel, .i c3.Disp.N, .i c3.Disp.From, .i c3.Disp.Which, .i c3.Disp.Type_, .i c3.Disp.Wants, .b c3.Disp.Known, .i c3.Imm.N, .i c3.Imm.From, .i c3.Imm.Which, .i c3.Imm.Type_, .i c3.Imm.Wants, .b c3.Imm.Known, .b c3.HasD, .b c3.HasI, .b c3.Jumps] 0))]⟩] ?_
  refine Rk <| Runs.ret ?_
  cases h
  exact Fq
 | false =>
  replace h := ite_f hb_2 h
  refine Cf <| Sq <| Ro <| Rc 1 [vi op1] ?_
  obtain ⟨r_1, hr_1, h⟩ := bind_s h
  have hc_1 := isa_Memory_L op1 r_1 hr_1
  refine Rt (some 90) (.callf 75) [] none [.i op1] (.b r_1) [] (cc hc_1) <| Rc 2 [vb (!r_1), vb (!r_1)] <| Rk ?_
  cases hb_3 : ((!r_1) : Bool) with
  | true =>
   replace h := ite_t hb_3 h
   refine Ct <| Runs.skip <| kB_nrm <| kS_nrm <| Sq <| Ro <| Rc 2 [⟨.d (Choice.d c3), []⟩, ⟨.tup [], [([6], some (.cells [.b c3.I.Lock, .i c3.I.Rep, .i c3.I.Seg, .y c3.I.Op, .i c3.I.Mod, .i c3.I.Reg, .i c3.I.RM, .w c3.I.Disp, .w c3.I.Imm, .w c3.I.Sel, .i c3.Disp.N, .i c3.Disp.From, .i c3.Disp.Which, .i c3.Disp.Type_, .i c3.Disp.Wants, .b c3.Disp.Known, .i c3.Imm.N, .i c3.Imm.From, .i c3.Imm.Which, .i c3.Imm.Type_, .i c3.Imm.Wants, .b c3.Imm.Known, .b c3.HasD, .b c3.HasI, .b c3.Jumps] 0))]⟩] <| Rk <| Runs.ret ?_
   cases h
   exact Fq
  | false =>
   replace h := ite_f hb_3 h
   refine Cf <| Sq <| Ro <| Rc 4 [vp [5] 0 0, vi o5.Kind, vb (o5.Kind != 5), vb (o5.Kind != 5)] <| Rk ?_
   cases hb_4 : ((o5.Kind != 5) : Bool) with
   | true =>
    replace h := ite_t hb_4 h
    refine Ct <| Ro <| Rc 8 [vp [5] 0 1, vi o5.N, vp [3] 0 0, vp [3] 0 4, ⟨.tup [], [([3], some (.cells [.b c3.I.Lock, .i c3.I.Rep, .i c3.I.Seg, .y c3.I.Op, .i 3, .i c3.I.Reg, .i c3.I.RM, .w c3.I.Disp, .w c3.I.Imm, .w c3.I.Sel, .i c3.Disp.N, .i c3.Disp.From, .i c3.Disp.Which, .i c3.Disp.Type_, .i c3.Disp.Wants, .b c3.Disp.Known, .i c3.Imm.N, .i c3.Imm.From, .i c3.Imm.Which, .i c3.Imm.Type_, .i c3.Imm.Wants, .b c3.Imm.Known, .b c3.HasD, .b c3.HasI, .b c3.Jumps] 0))]⟩, vp [3] 0 0, vp [3] 0 6, ⟨.tup [], [([3], some (.cells [.b c3.I.Lock, .i c3.I.Rep, .i c3.I.Seg, .y c3.I.Op, .i 3, .i c3.I.Reg, .i o5.N, .w c3.I.Disp, .w c3.I.Imm, .w c3.I.Sel, .i c3.Disp.N, .i c3.Disp.From, .i c3.Disp.Which, .i c3.Disp.Type_, .i c3.Disp.Wants, .b c3.Disp.Known, .i c3.Imm.N, .i c3.Imm.From, .i c3.Imm.Which, .i c3.Imm.Type_, .i c3.Imm.Wants, .b c3.Imm.Known, .b c3.HasD, .b c3.HasI, .b c3.Jumps] 0))]⟩] <| Rd ?_
    refine kB_nrm <| kS_nrm <| Sq <| Ro <| Rc 2 [⟨.d (.agg [.bool c3.I.Lock, .int .i64 c3.I.Rep, .int .i64 c3.I.Seg, .int .u8 c3.I.Op, .int .i64 3, .int .i64 c3.I.Reg, .int .i64 o5.N, .int .u16 c3.I.Disp, .int .u16 c3.I.Imm, .int .u16 c3.I.Sel, .int .i64 c3.Disp.N, .int .i64 c3.Disp.From, .int .i64 c3.Disp.Which, .int .i64 c3.Disp.Type_, .int .i64 c3.Disp.Wants, .bool c3.Disp.Known, .int .i64 c3.Imm.N, .int .i64 c3.Imm.From, .int .i64 c3.Imm.Which, .int .i64 c3.Imm.Type_, .int .i64 c3.Imm.Wants, .bool c3.Imm.Known, .bool c3.HasD, .bool c3.HasI, .bool c3.Jumps]), []⟩, ⟨.tup [], [([6], some (.cells [.b c3.I.Lock, .i c3.I.Rep, .i c3.I.Seg, .y c3.I.Op, .i 3, .i c3.I.Reg, .i o5.N, .w c3.I.Disp, .w c3.I.Imm, .w c3.I.Sel, .i c3.Disp.N, .i c3.Disp.From, .i c3.Disp.Which, .i c3.Disp.Type_, .i c3.Disp.Wants, .b c3.Disp.Known, .i c3.Imm.N, .i c3.Imm.From, .i c3.Imm.Which, .i c3.Imm.Type_, .i c3.Imm.Wants, .b c3.Imm.Known, .b c3.HasD, .b c3.HasI, .b c3.Jumps] 0))]⟩] <| Rk <| Runs.ret ?_
    cases h
    exact Fq
   | false =>
    replace h := ite_f hb_4 h
    refine Cf <| Sq <| Ro <| Rc 4 [vp [5] 0 3, ⟨.d (api_Value.d o5.V), []⟩, vp [3] 0 10, ⟨.tup [], [([3], some (.cells [.b c3.I.Lock, .i c3.I.Rep, .i c3.I.Seg, .y c3.I.Op, .i c3.I.Mod, .i c3.I.Reg, .i c3.I.RM, .w c3.I.Disp, .w c3.I.Imm, .w c3.I.Sel, .i o5.V.N, .i o5.V.From, .i o5.V.Which, .i o5.V.Type_, .i o5.V.Wants, .b o5.V.Known, .i c3.Imm.N, .i c3.Imm.From, .i c3.Imm.Which, .i c3.Imm.Type_, .i c3.Imm.Wants, .b c3.Imm.Known, .b c3.HasD, .b c3.HasI, .b c3.Jumps] 0))]⟩] <| Rk <| Sq <| Ro <| Rc 2 [vp [5] 0 3, ⟨.d (api_Value.d o5.V), []⟩] ?_
    obtain ⟨r_2, hr_2, h⟩ := bind_s h
    have hc_2 := value_Plain_L o5.V r_2 hr_2
    refine Rt (some 13) (.callf 60) [] none [.d (api_Value.d o5.V)] (.b r_2) [] (cc hc_2) <| Rc 1 [vb r_2] ?_
    cases hb_5 : (r_2 : Bool) with
    | true =>
     replace h := ite_t hb_5 h
     refine Rc 5 [vp [5] 0 3, vp [5] 0 8, vb o5.V.Known, vb o5.V.Known, vb o5.V.Known] <| Rk <| Runs.canon (pick_second_h20 ({ c3 with Disp := o5.V } : Choice) o5 b_6 o5.V.Known) Cz ?_
     exact pick_second_j20_ok c_ op_ o_ ({ c3 with Disp := o5.V } : Choice) o5 b_6 o5.V.Known r h
    | false =>
     replace h := ite_f hb_5 h
     refine Rc 5 [vn, vn, vn, vb false, vb false] <| Rk <| Runs.canon (pick_second_h20 ({ c3 with Disp := o5.V } : Choice) o5 b_6 false) Cz ?_
     exact pick_second_j20_ok c_ op_ o_ ({ c3 with Disp := o5.V } : Choice) o5 b_6 false r h
theorem pick_second_ok (c_ : Choice) (op_ : Int) (o_ : Operand) (r : Choice) (h : pick_second c_ op_ o_ = some r) : Runs L F67.body ⟨tmOf [.d (Choice.d c_), .i op_, .d (Operand.d o_)] 0, updW (fun _ => none) []⟩ (pick_second_Q c_ op_ o_ r) := by
 unfold pick_second at h
 refine Sq <| Ro <| Rc 3 [⟨.ptr [3] 0 0, [([3], some (.cells [.b c_.I.Lock, .i c_.I.Rep, .i c_.I.Seg, .y c_.I.Op, .i c_.I.Mod, .i c_.I.Reg, .i c_.I.RM, .w c_.I.Disp, .w c_.I.Imm, .w c_.I.Sel, .i c_.Disp.N, .i c_.Disp.From, .i c_.Disp.Which, .i c_.Disp.Type_, .i c_.Disp.Wants, .b c_.Disp.Known, .i c_.Imm.N, .i c_.Imm.From, .i c_.Imm.Which, .i c_.Imm.Type_, .i c_.Imm.Wants, .b c_.Imm.Known, .b c_.HasD, .b c_.HasI, .b c_.Jumps] 0))]⟩, ⟨.ptr [5] 0 0, [([5], some (.cells [.i o_.Kind, .i o_.N, .i o_.RM, .i o_.V.N, .i o_.V.From, .i o_.V.Which, .i o_.V.Type_, .i o_.V.Wants, .b o_.V.Known, .i o_.Type_, .i o_.Over, .b o_.Short] 0))]⟩, ⟨.ptr [6] 0 0, [([6], some (.cells [.b false, .i 0, .i 0, .y 0, .i 0, .i 0, .i 0, .w 0, .w 0, .w 0, .i 0, .i 0, .i 0, .i 0, .i 0, .b false, .i 0, .i 0, .i 0, .i 0, .i 0, .b false, .b false, .b false, .b false] 0))]⟩] ?_
 refine Rk <| Sq <| Runs.block <| Sq <| Ro <| Rc 3 [vi op_, vb (op_ == 3), vb (op_ == 3)] ?_
 cases hb_1 : ((op_ == 3) : Bool) with
 | true =>
  replace h := ite_t hb_1 h
  refine Rc 8 [vn, vn, vb true, vb true, vn, vn, vb true, vb true] <| Rk <| Runs.canon (pick_second_h6 c_ o_ ({ I := ({ Lock := false, Rep := 0, Seg := 0, Op := 0, Mod := 0, Reg := 0, RM := 0, Disp := 0, Imm := 0, Sel := 0 } : Inst), Disp := ({ N := 0, From := 0, Which := 0, Type_ := 0, Wants := 0, Known := false } : api_Value), Imm := ({ N := 0, From := 0, Which := 0, Type_ := 0, Wants := 0, Known := false } : api_Value), HasD := false, HasI := false, Jumps := false } : Choice) op_ true) Cz ?_
  exact pick_second_j6_ok c_ op_ o_ c_ o_ ({ I := ({ Lock := false, Rep := 0, Seg := 0, Op := 0, Mod := 0, Reg := 0, RM := 0, Disp := 0, Imm := 0, Sel := 0 } : Inst), Disp := ({ N := 0, From := 0, Which := 0, Type_ := 0, Wants := 0, Known := false } : api_Value), Imm := ({ N := 0, From := 0, Which := 0, Type_ := 0, Wants := 0, Known := false } : api_Value), HasD := false, HasI := false, Jumps := false } : Choice) op_ true r h
 | false =>
  replace h := ite_f hb_1 h
  refine Rc 4 [vi op_, vb (op_ == 4), vb (op_ == 4), vb (op_ == 4)] ?_
  cases hb_12 : ((op_ == 4) : Bool) with
  | true =>
   replace h := ite_t hb_12 h
   refine Rc 4 [vn, vn, vb true, vb true] <| Rk <| Runs.canon (pick_second_h6 c_ o_ ({ I := ({ Lock := false, Rep := 0, Seg := 0, Op := 0, Mod := 0, Reg := 0, RM := 0, Disp := 0, Imm := 0, Sel := 0 } : Inst), Disp := ({ N := 0, From := 0, Which := 0, Type_ := 0, Wants := 0, Known := false } : api_Value), Imm := ({ N := 0, From := 0, Which := 0, Type_ := 0, Wants := 0, Known := false } : api_Value), HasD := false, HasI := false, Jumps := false } : Choice) op_ true) Cz ?_
   exact pick_second_j6_ok c_ op_ o_ c_ o_ ({ I := ({ Lock := false, Rep := 0, Seg := 0, Op := 0, Mod := 0, Reg := 0, RM := 0, Disp := 0, Imm := 0, Sel := 0 } : Inst), Disp := ({ N := 0, From := 0, Which := 0, Type_ := 0, Wants := 0, Known := false } : api_Value), Imm := ({ N := 0, From := 0, Which := 0, Type_ := 0, Wants := 0, Known := false } : api_Value), HasD := false, HasI := false, Jumps := false } : Choice) op_ true r h
  | false =>
   replace h := ite_f hb_12 h
   refine Rc 4 [vi op_, vb (op_ == 5), vb (op_ == 5), vb (op_ == 5)] <| Rk <| Runs.canon (pick_second_h6 c_ o_ ({ I := ({ Lock := false, Rep := 0, Seg := 0, Op := 0, Mod := 0, Reg := 0, RM := 0, Disp := 0, Imm := 0, Sel := 0 } : Inst), Disp := ({ N := 0, From := 0, Which := 0, Type_ := 0, Wants := 0, Known := false } : api_Value), Imm := ({ N := 0, From := 0, Which := 0, Type_ := 0, Wants := 0, Known := false } : api_Value), HasD := false, HasI := false, Jumps := false } : Choice) op_ (op_ == 5)) Cz ?_
   exact pick_second_j6_ok c_ op_ o_ c_ o_ ({ I := ({ Lock := false, Rep := 0, Seg := 0, Op := 0, Mod := 0, Reg := 0, RM := 0, Disp := 0, Imm := 0, Sel := 0 } : Inst), Disp := ({ N := 0, From := 0, Which := 0, Type_ := 0, Wants := 0, Known := false } : api_Value), Imm := ({ N := 0, From := 0, Which := 0, Type_ := 0, Wants := 0, Known := false } : api_Value), HasD := false, HasI := false, Jumps := false } : Choice) op_ (op_ == 5) r h
theorem pick_second_L (c_ : Choice) (op_ : Int) (o_ : Operand) (r : Choice) (h : pick_second c_ op_ o_ = some r) : L 67 [.d (Choice.d c_), .i op_, .d (Operand.d o_)] = some (.d (Choice.d r), [.d (Choice.d c_), .i op_, .d (Operand.d o_)]) := by
 obtain ⟨p, ⟨hne, hf⟩, hr⟩ := pick_second_ok c_ op_ o_ r h
 obtain ⟨k, hk⟩ := run_of (F := F67) (args := [.d (Choice.d c_), .i op_, .d (Operand.d o_)]) (ap := [.d (Choice.d c_), .i op_, .d (Operand.d o_)]) (bx0 := updW (fun _ => none) []) rfl rfl (by kernel_rfl) ⟨p, ⟨hne, hf⟩, hr⟩
 exact lim_run (k := k) rfl hk
def pick_behind_h24 (c3 : Choice) (o5 : Operand) (b_6 : Choice) (t7 : Int) (t25 : Bool) : St := ⟨tab [(3, .ptr [3] 0 0), (5, .ptr [5] 0 0), (6, .ptr [6] 0 0), (7, .i t7), (25, .b t25)], tabB [([3], some (.cells [.b c3.I.Lock, .i c3.I.Rep, .i c3.I.Seg, .y c3.I.Op, .i c3.I.Mod, .i c3.I.Reg, .i c3.I.RM, .w c3.I.Disp, .w c3.I.Imm, .w c3.I.Sel, .i c3.Disp.N, .i c3.Disp.From, .i c3.Disp.Which, .i c3.Disp.Type_, .i c3.Disp.Wants, .b c3.Disp.Known, .i c3.Imm.N, .i c3.Imm.From, .i c3.Imm.Which, .i c3.Imm.Type_, .i c3.Imm.Wants, .b c3.Imm.Known, .b c3.HasD, .b c3.HasI, .b c3.Jumps] 0)), ([5], some (.cells [.i o5.Kind, .i o5.N, .i o5.RM, .i o5.V.N, .i o5.V.From, .i o5.V.Which, .i o5.V.Type_, .i o5.V.Wants, .b o5.V.Known, .i o5.Type_, .i o5.Over, .b o5.Short] 0)), ([6], some (.cells [.b b_6.I.Lock, .i b_6.I.Rep, .i b_6.I.Seg, .y b_6.I.Op, .i b_6.I.Mod, .i b_6.I.Reg, .i b_6.I.RM, .w b_6.I.Disp, .w b_6.I.Imm, .w b_6.I.Sel, .i b_6.Disp.N, .i b_6.Disp.From, .i b_6.Disp.Which, .i b_6.Disp.Type_, .i b_6.Disp.Wants, .b b_6.Disp.Known, .i b_6.Imm.N, .i b_6.Imm.From, .i b_6.Imm.Which, .i b_6.Imm.Type_, .i b_6.Imm.Wants, .b b_6.Imm.Known, .b b_6.HasD, .b b_6.HasI, .b b_6.Jumps] 0))]⟩
def pick_behind_h32 (c3 : Choice) (o5 : Operand) (b_6 : Choice) (t7 : Int) (t39 : Bool) : St := ⟨tab [(3, .ptr [3] 0 0), (5, .ptr [5] 0 0), (6, .ptr [6] 0 0), (7, .i t7), (39, .b t39)], tabB [([3], some (.cells [.b c3.I.Lock, .i c3.I.Rep, .i c3.I.Seg, .y c3.I.Op, .i c3.I.Mod, .i c3.I.Reg, .i c3.I.RM, .w c3.I.Disp, .w c3.I.Imm, .w c3.I.Sel, .i c3.Disp.N, .i c3.Disp.From, .i c3.Disp.Which, .i c3.Disp.Type_, .i c3.Disp.Wants, .b c3.Disp.Known, .i c3.Imm.N, .i c3.Imm.From, .i c3.Imm.Which, .i c3.Imm.Type_, .i c3.Imm.Wants, .b c3.Imm.Known, .b c3.HasD, .b c3.HasI, .b c3.Jumps] 0)), ([5], some (.cells [.i o5.Kind, .i o5.N, .i o5.RM, .i o5.V.N, .i o5.V.From, .i o5.V.Which, .i o5.V.Type_, .i o5.V.Wants, .b o5.V.Known, .i o5.Type_, .i o5.Over, .b o5.Short] 0)), ([6], some (.cells [.b b_6.I.Lock, .i b_6.I.Rep, .i b_6.I.Seg, .y b_6.I.Op, .i b_6.I.Mod, .i b_6.I.Reg, .i b_6.I.RM, .w b_6.I.Disp, .w b_6.I.Imm, .w b_6.I.Sel, .i b_6.Disp.N, .i b_6.Disp.From, .i b_6.Disp.Which, .i b_6.Disp.Type_, .i b_6.Disp.Wants, .b b_6.Disp.Known, .i b_6.Imm.N, .i b_6.Imm.From, .i b_6.Imm.Which, .i b_6.Imm.Type_, .i b_6.Imm.Wants, .b b_6.Imm.Known, .b b_6.HasD, .b b_6.HasI, .b b_6.Jumps] 0))]⟩
def pick_behind_Q (c_ : Choice) (op_ : Int) (o_ : Operand) (r : Choice) (p : Out × St) : Prop := (∀ i, p.1 ≠ .exit i) ∧ finF F66 [.d (Choice.d c_), .i op_, .d (Operand.d o_)] p.2 = some (.d (Choice.d r), [.d (Choice.d c_), .i op_, .d (Operand.d o_)])
theorem pick_behind_j32_ok (c_ : Choice) (op_ : Int) (o_ : Operand) (c3 : Choice) (o5 : Operand) (b_6 : Choice) (t7 : Int) (t39 : Bool) (r : Choice) (h : pick_behind_j32 c3 o5 b_6 t7 t39 = some r) : Runs L F66b32 (pick_behind_h32 c3 o5 b_6 t7 t39) (kB 0 (kS L F66c39 (pick_behind_Q c_ op_ o_ r))) := by
 unfold pick_behind_j32 at h
 cases hb_6 : (t39 : Bool) with
 | true =>
  replace h := ite_t hb_6 h
  refine Ct <| Ro <| Rc 8 [vp [5] 0 3, ⟨.d (api_Value.d o5.V), []⟩, vp [3] 0 16, ⟨.tup [], [([3], some (.cells [.b c3.I.Lock, .i c3.I.Rep, .i c3.I.Seg, .y c3.I.Op, .i c3.I.Mod, .i c3.I.Reg, .i c3.I.RM, .w c3.I.Disp, .w c3.I.Imm, .w c3.I.Sel, .i c3.Disp.N, .i c3.Disp.From, .i c3.Disp.Which, .i c3.Disp.Type_, .i c3.Disp.Wants, .b c3.Disp.Known, .i o5.V.N, .i o5.V.From, .i o5.V.Which, .i o5.V.Type_, .i o5.V.Wants, .b o5.V.Known, .b c3.HasD, .b c3.HasI, .b c3.Jumps] 0))]⟩, vp [3] 0 23, ⟨.tup [], [([3], some (.cells [.b c3.I.Lock, .i c3.I.Rep, .i c3.I.Seg, .y c3.I.Op, .i c3.I.Mod, .i c3.I.Reg, .i c3.I.RM, .w c3.I.Disp, .w c3.I.Imm, .w c3.I.Sel, .i c3.Disp.N, .i c3.Disp.From, .i c3.Disp.Which, .i c3.Disp.Type_, .i c3.Disp.Wants, .b c3.Disp.Known, .i o5.V.N, .i o5.V.From, .i o5.V.Which, .i o5.V.Type_, .i o5.V.Wants, .b o5.V.Known, .b c3.HasD, .b true, .b c3.Jumps] 0))]⟩, vp [3] 0 24, ⟨.tup [], [([3], some (.cells [.b c3.I.Lock, .i c3.I.Rep, .i c3.I.Seg, .y c3.I.Op, .i c3.I.Mod, .i c3.I.Reg, .i c3.I.RM, .w c3.I.Disp, .w c3.I.Imm, .w c3.I.Sel, .i c3.Disp.N, .i c3.Disp.From, .i c3.Disp.Which, .i c3.Disp.Type_, .i c3.Disp.Wants, .b c3.Disp.Known, .i o5.V.N, .i o5.V.From, .i o5.V.Which, .i o5.V.Type_, .i o5.V.Wants, .b o5.V.Known, .b c3.HasD, .b true, .b true] 0))]⟩] ?_
  refine Rd <| kB_nrm <| kS_nrm <| Sq <| Ro <| Rc 2 [⟨.d (.agg [.bool c3.I.Lock, .int .i64 c3.I.Rep, .int .i64 c3.I.Seg, .int .u8 c3.I.Op, .int .i64 c3.I.Mod, .int .i64 c3.I.Reg, .int .i64 c3.I.RM, .int .u16 c3.I.Disp, .int .u16 c3.I.Imm, .int .u16 c3.I.Sel, .int .i64 c3.Disp.N, .int .i64 c3.Disp.From, .int .i64 c3.Disp.Which, .int .i64 c3.Disp.Type_, .int .i64 c3.Disp.Wants, .bool c3.Disp.Known, .int .i64 o5.V.N, .int .i64 o5.V.From, .int .i64 o5.V.Which, .int .i64 o5.V.Type_, .int .i64 o5.V.Wants, .bool o5.V.Known, .bool c3.HasD, .bool true, .bool true]), []⟩, ⟨.tup [], [([6], some (.cells [.b c3.I.Lock, .i c3.I.Rep, .i c3.I.Seg, .y c3.I.Op, .i c3.I.Mod, .i c3.I.Reg, .i c3.I.RM, .w c3.I.Disp, .w c3.I.Imm, .w c3.I.Sel, .i c3.Disp.N, .i c3.Disp.From, .i c3.Disp.Which, .i c3.Disp.Type_, .i c3.Disp.Wants, .b c3.Disp.Known, .i o5.V.N, .i o5.V.From, .i o5.V.Which, .i o5.V.Type_, .i o5.V.Wants, .b o5.V.Known, .b c3.HasD, .b true, .b true] 0))]⟩] <| Rk <| Runs.ret ?_
  cases h
  exact Fq
 | false =>
  replace h := ite_f hb_6 h
  refine Cf <| Sq <| Ro <| Rc 2 [vb (t7 == 11), vb (t7 == 11)] <| Rk ?_
  cases hb_7 : ((t7 == 11) : Bool) with
  | true =>
   replace h := ite_t hb_7 h
   refine Ct <| Ro <| Rc 6 [vp [5] 0 3, ⟨.d (api_Value.d o5.V), []⟩, vp [3] 0 16, ⟨.tup [], [([3], some (.cells [.b c3.I.Lock, .i c3.I.Rep, .i c3.I.Seg, .y c3.I.Op, .i c3.I.Mod, .i c3.I.Reg, .i c3.I.RM, .w c3.I.Disp, .w c3.I.Imm, .w c3.I.Sel, .i c3.Disp.N, .i c3.Disp.From, .i c3.Disp.Which, .i c3.Disp.Type_, .i c3.Disp.Wants, .b c3.Disp.Known, .i o5.V.N, .i o5.V.From, .i o5.V.Which, .i o5.V.Type_, .i o5.V.Wants, .b o5.V.Known, .b c3.HasD, .b c3.HasI, .b c3.Jumps] 0))]⟩, vp [3] 0 23, ⟨.tup [], [([3], some (.cells [.b c3.I.Lock, .i c3.I.Rep, .i c3.I.Seg, .y c3.I.Op, .i c3.I.Mod, .i c3.I.Reg, .i c3.I.RM, .w c3.I.Disp, .w c3.I.Imm, .w c3.I.Sel, .i c3.Disp.N, .i c3.Disp.From, .i c3.Disp.Which, .i c3.Disp.Type_, .i c3.Disp.Wants, .b c3.Disp.Known, .i o5.V.N, .i o5.V.From, .i o5.V.Which, .i o5.V.Type_, .i o5.V.Wants, .b o5.V.Known, .b c3.HasD, .b true, .b c3.Jumps] 0))]⟩] <| Rd <| kB_nrm <| kS_nrm <| Sq <| Ro <| Rc 2 [⟨.d (.agg [.bool c3.I.Lock, .int .i64 c3.I.Rep, .int .i64 c3.I.Seg, .int .u8 c3.I.Op, .int .i64 c3.I.Mod, .int .i64 c3.I.Reg, .int .i64 c3.I.RM, .int .u16 c3.I.Disp, .int .u16 c3.I.Imm, .int .u16 c3.I.Sel, .int .i64 c3.Disp.N, .int .i64 c3.Disp.From, .int .i64 c3.Disp.Which, .int .i64 c3.Disp.Type_, .int .i64 c3.Disp.Wants, .bool c3.Disp.Known, .int .i64 o5.V.N, .int .i64 o5.V.From, .int .i64 o5.V.Which, .int .i64 o5.V.Type_, .int .i64 o5.V.Wants, .bool o5.V.Known, .bool c3.HasD, .bool true, .bool c3.Jumps]), []⟩, ⟨.tup [], [([6], some (.cells [.b c3.I.Lock, .i c3.I.Rep, .i c3.I.Seg, .y c3.I.Op, .i c3.I.Mod, .i c3.I.Reg, .i c3.I.RM, .w c3.I.Disp, .w c3.I.Imm, .w c3.I.Sel, .i c3.Disp.N, .i c3.Disp.From, .i c3.Disp.Which, .i c3.Disp.Type_, .i c3.Disp.Wants, .b c3.Disp.Known, .i o5.V.N, .i o5.V.From, .i o5.V.Which, .i o5.V.Type_, .i o5.V.Wants, .b o5.V.Known, .b c3.HasD, .b true, .b c3.Jumps] 0))]⟩] ?_
   refine Rk <| Runs.ret ?_
   cases h
   exact Fq
  | false =>
   replace h := ite_f hb_7 h
   refine Cf <| Runs.skip <| kB_nrm <| kS_nrm <| Sq <| Ro <| Rc 2 [⟨.d (Choice.d c3), []⟩, ⟨.tup [], [([6], some (.cells [.b c3.I.Lock, .i c3.I.Rep, .i c3.I.Seg, .y c3.I.Op, .i c3.I.Mod, .i c3.I.Reg, .i c3.I.RM, .w c3.I.Disp, .w c3.I.Imm, .w c3.I.Sel, .i c3.Disp.N, .i c3.Disp.From, .i c3.Disp.Which, .i c3.Disp.Type_, .i c3.Disp.Wants, .b c3.Disp.Known, .i c3.Imm.N, .i c3.Imm.From, .i c3.Imm.Which, .i c3.Imm.Type_, .i c3.Imm.Wants, .b c3.Imm.Known, .b c3.HasD, .b c3.HasI, .b c3.Jumps] 0))]⟩] <| Rk <| Runs.ret ?_
   cases h
   exact Fq
theorem pick_behind_j24_ok (c_ : Choice) (op_ : Int) (o_ : Operand) (c3 : Choice) (o5 : Operand) (b_6 : Choice) (t7 : Int) (t25 : Bool) (r : Choice) (h : pick_behind_j24 c3 o5 b_6 t7 t25 = some r) : Runs L F66b24 (pick_behind_h24 c3 o5 b_6 t7 t25) (kB 0 (kS L F66c39 (pick_behind_Q c_ op_ o_ r))) := by
 unfold pick_behind_j24 at h
 cases hb_4 : (t25 : Bool) with
 | true =>
  replace h := ite_t hb_4 h
  refine Ct <| Ro <| Rc 13 [vp [5] 0 3, vp [5] 0 3, vi o5.V.N, vw (IntKind.wrap .u16 o5.V.N), vp [5] 0 3, ⟨.d (api_Value.d o5.V), []⟩, vp [3] 0 0, vp [3] 0 8, ⟨.tup [], [([3], some (.cells [.b c3.I.Lock, .i c3.I.Rep, .i c3.I.Seg, .y c3.I.Op, .i c3.I.Mod, .i c3.I.Reg, .i c3.I.RM, .w c3.I.Disp, .w (IntKind.wrap .u16 o5.V.N), .w c3.I.Sel, .i c3.Disp.N, .i c3.Disp.From, .i c3.Disp.Which, .i c3.Disp.Type_, .i c3.Disp.Wants, .b c3.Disp.Known, .i c3.Imm.N, .i c3.Imm.From, .i c3.Imm.Which, .i c3.Imm.Type_, .i c3.Imm.Wants, .b c3.Imm.Known, .b c3.HasD, .b c3.HasI, .b c3.Jumps] 0))]⟩, vp [3] 0 16, ⟨.tup [], [([3], some (.cells [.b c3.I.Lock, .i c3.I.Rep, .i c3.I.Seg, .y c3.I.Op, .i c3.I.Mod, .i c3.I.Reg, .i c3.I.RM, .w c3.I.Disp, .w (IntKind.wrap .u16 o5.V.N), .w c3.I.Sel, .i c3.Disp.N, .i c3.Disp.From, .i c3.Disp.Which, .i c3.Disp.Type_, .i c3.Disp.Wants, .b c3.Disp.Known, .i o5.V.N, .i o5.V.From, .i o5.V.Which, .i o5.V.Type_, .i o5.V.Wants, .b o5.V.Known, .b c3.HasD, .b c3.HasI, .b c3.Jumps] 0))]⟩, vp [3] 0 23, ⟨.tup [], [([3], some (.cells [.b c3.I.Lock, .i c3.I.Rep, .i c3.I.Seg, .y c3.I.Op, .i c3.I.Mod, .i c3.I.Reg, .i c3.I.RM, .w c3.I.Disp, .w (IntKind.wrap .u16 o5.V.N), .w c3.I.Sel, .i c3.Disp.N, .i c3.Disp.From, .i c3.Disp.Which, .i c3.Disp.Type_, .i c3.Disp.Wants, .b c3.Disp.Known, .i o5.V.N, .i o5.V.From, .i o5.V.Which, .i o5.V.Type_, .i o5.V.Wants, .b o5.V.Known, .b c3.HasD, .b true, .b c3.Jumps] 0))]⟩] ?_
  refine Rd <| kB_nrm <| kS_nrm <| Sq <| Ro <| Rc 2 [⟨.d (.agg [.bool c3.I.Lock, .int .i64 c3.I.Rep, .int .i64 c3.I.Seg, .int .u8 c3.I.Op, .int .i64 c3.I.Mod, .int .i64 c3.I.Reg, .int .i64 c3.I.RM, .int .u16 c3.I.Disp, .int .u16 (IntKind.wrap .u16 o5.V.N), .int .u16 c3.I.Sel, .int .i64 c3.Disp.N, .int .i64 c3.Disp.From, .int .i64 c3.Disp.Which, .int .i64 c3.Disp.Type_, .int .i64 c3.Disp.Wants, .bool c3.Disp.Known, .int .i64 o5.V.N, .int .i64 o5.V.From, .int .i64 o5.V.Which, .int .i64 o5.V.Type_, .int .i64 o5.V.Wants, .bool o5.V.Known, .bool c3.HasD, .bool true, .bool c3.Jumps]), []⟩, ⟨.tup [], [([6], some (.cells [.b c3.I.Lock, .i c3.I.Rep, .i c3.I.Seg, .y c3.I.Op, .i c3.I.Mod, .i c3.I.Reg, .i c3.I.RM, .w c3.I.Disp, .w (IntKind.wrap .u16 o5.V.N), .w c3.I.Sel, .i c3.Disp.N, .i c3.Disp.From, .i c3.Disp.Which, .i c3.Disp.Type_, .i c3.Disp.Wants, .b c3.Disp.Known, .i o5.V.N, .i o5.V.From, .i o5.V.Which, .i o5.V.Type_, .i o5.V.Wants, .b o5.V.Known, .b c3.HasD, .b true, .b c3.Jumps] 0))]⟩] <| Rk <| Runs.ret ?_
  cases h
  exact Fq
 | false =>
  replace h := ite_f hb_4 h
  refine Cf <| Sq <| Sq <| Ro <| Rc 2 [vb (t7 == 9), vb (t7 == 9)] <| Rk ?_
  cases hb_5 : ((t7 == 9) : Bool) with
  | true =>
   replace h := ite_t hb_5 h
   refine Ct <| Runs.skip <| kS_nrm <| Runs.canon (pick_behind_h32 c3 o5 b_6 t7 true) Cz ?_
   exact pick_behind_j32_ok c_ op_ o_ c3 o5 b_6 t7 true r h
  | false =>
   replace h := ite_f hb_5 h
   refine Cf <| Ro <| Rc 2 [vb (t7 == 10), vb (t7 == 10)] <| Rk <| Runs.canon (pick_behind_h32 c3 o5 b_6 t7 (t7 == 10)) Cz ?_
   exact pick_behind_j32_ok c_ op_ o_ c3 o5 b_6 t7 (t7 == 10) r h
theorem pick_behind_ok (c_ : Choice) (op_ : Int) (o_ : Operand) (r : Choice) (h : pick_behind c_ op_ o_ = some r) : Runs L F66.body ⟨tmOf [.d (Choice.d c_), .i op_, .d (Operand.d o_)] 0, updW (fun _ => none) []⟩ (pick_behind_Q c_ op_ o_ r) := by
 unfold pick_behind at h
 refine Sq <| Ro <| Rc 3 [⟨.ptr [3] 0 0, [([3], some (.cells [.b c_.I.Lock, .i c_.I.Rep, .i c_.I.Seg, .y c_.I.Op, .i c_.I.Mod, .i c_.I.Reg, .i c_.I.RM, .w c_.I.Disp, .w c_.I.Imm, .w c_.I.Sel, .i c_.Disp.N, .i c_.Disp.From, .i c_.Disp.Which, .i c_.Disp.Type_, .i c_.Disp.Wants, .b c_.Disp.Known, .i c_.Imm.N, .i c_.Imm.From, .i c_.Imm.Which, .i c_.Imm.Type_, .i c_.Imm.Wants, .b c_.Imm.Known, .b c_.HasD, .b c_.HasI, .b c_.Jumps] 0))]⟩, ⟨.ptr [5] 0 0, [([5], some (.cells [.i o_.Kind, .i o_.N, .i o_.RM, .i o_.V.N, .i o_.V.From, .i o_.V.Which, .i o_.V.Type_, .i o_.V.Wants, .b o_.V.Known, .i o_.Type_, .i o_.Over, .b o_.Short] 0))]⟩, ⟨.ptr [6] 0 0, [([6], some (.cells [.b false, .i 0, .i 0, .y 0, .i 0, .i 0, .i 0, .w 0, .w 0, .w 0, .i 0, .i 0, .i 0, .i 0, .i 0, .b false, .i 0, .i 0, .i 0, .i 0, .i 0, .b false, .b false, .b false, .b false] 0))]⟩] ?_
 refine Rk <| Sq <| Sq <| Ro <| Rc 1 [vi op_] <| Rk <| Runs.block <| Sq <| Ro <| Rc 2 [vb (op_ == 6), vb (op_ == 6)] <| Rk ?_
 cases hb_1 : ((op_ == 6) : Bool) with
 | true =>
  replace h := ite_t hb_1 h
  refine Ct <| Ro <| Rc 8 [vp [5] 0 3, vp [5] 0 3, vi o_.V.N, vw (IntKind.wrap .u16 o_.V.N), vw (bitsOp .and .u16 (IntKind.wrap .u16 o_.V.N) 255), vp [3] 0 0, vp [3] 0 8, ⟨.tup [], [([3], some (.cells [.b c_.I.Lock, .i c_.I.Rep, .i c_.I.Seg, .y c_.I.Op, .i c_.I.Mod, .i c_.I.Reg, .i c_.I.RM, .w c_.I.Disp, .w (bitsOp .and .u16 (IntKind.wrap .u16 o_.V.N) 255), .w c_.I.Sel, .i c_.Disp.N, .i c_.Disp.From, .i c_.Disp.Which, .i c_.Disp.Type_, .i c_.Disp.Wants, .b c_.Disp.Known, .i c_.Imm.N, .i c_.Imm.From, .i c_.Imm.Which, .i c_.Imm.Type_, .i c_.Imm.Wants, .b c_.Imm.Known, .b c_.HasD, .b c_.HasI, .b c_.Jumps] 0))]⟩] <| Rd <| kB_nrm <| kS_nrm <| Sq <| Ro <| Rc 2 [⟨.d (.agg [.bool c_.I.Lock, .int .i64 c_.I.Rep, .int .i64 c_.I.Seg, .int .u8 c_.I.Op, .int .i64 c_.I.Mod, .int .i64 c_.I.Reg, .int .i64 c_.I.RM, .int .u16 c_.I.Disp, .int .u16 (bitsOp .and .u16 (IntKind.wrap .u16 o_.V.N) 255), .int .u16 c_.I.Sel, .int .i64 c_.Disp.N, .int .i64 c_.Disp.From, .int .i64 c_.Disp.Which, .int .i64 c_.Disp.Type_, .int .i64 c_.Disp.Wants, .bool c_.Disp.Known, .int .i64 c_.Imm.N, .int .i64 c_.Imm.From, .int .i64 c_.Imm.Which, .int .i64 c_.Imm.Type_, .int .i64 c_.Imm.Wants, .bool c_.Imm.Known, .bool c_.HasD, .bool c_.HasI, .bool c_.Jumps]), []⟩, ⟨.tup [], [([6], some (.cells [.b c_.I.Lock, .i c_.I.Rep, .i c_.I.Seg, .y c_.I.Op, .i c_.I.Mod, .i c_.I.Reg, .i c_.I.RM, .w c_.I.Disp, .w (bitsOp .and .u16 (IntKind.wrap .u16 o_.V.N) 255), .w c_.I.Sel, .i c_.Disp.N, .i c_.Disp.From, .i c_.Disp.Which, .i c_.Disp.Type_, .i c_.Disp.Wants, .b c_.Disp.Known, .i c_.Imm.N, .i c_.Imm.From, .i c_.Imm.Which, .i c_.Imm.Type_, .i c_.Imm.Wants, .b c_.Imm.Known, .b c_.HasD, .b c_.HasI, .b c_.Jumps] 0))]⟩] ?_
  refine Rk <| Runs.ret ?_
  cases h
  exact Fq
 | false =>
  replace h := ite_f hb_1 h
  refine Cf <| Sq <| Ro <| Rc 2 [vb (op_ == 8), vb (op_ == 8)] <| Rk ?_
  cases hb_2 : ((op_ == 8) : Bool) with
  | true =>
   replace h := ite_t hb_2 h
   refine Ct <| Ro <| Rc 7 [vp [5] 0 3, vp [5] 0 3, vi o_.V.N, vw (IntKind.wrap .u16 o_.V.N), vp [3] 0 0, vp [3] 0 8, ⟨.tup [], [([3], some (.cells [.b c_.I.Lock, .i c_.I.Rep, .i c_.I.Seg, .y c_.I.Op, .i c_.I.Mod, .i c_.I.Reg, .i c_.I.RM, .w c_.I.Disp, .w (IntKind.wrap .u16 o_.V.N), .w c_.I.Sel, .i c_.Disp.N, .i c_.Disp.From, .i c_.Disp.Which, .i c_.Disp.Type_, .i c_.Disp.Wants, .b c_.Disp.Known, .i c_.Imm.N, .i c_.Imm.From, .i c_.Imm.Which, .i c_.Imm.Type_, .i c_.Imm.Wants, .b c_.Imm.Known, .b c_.HasD, .b c_.HasI, .b c_.Jumps] 0))]⟩] <| Rd <| kB_nrm <| kS_nrm <| Sq <| Ro <| Rc 2 [⟨.d (.agg [.bool c_.I.Lock, .int .i64 c_.I.Rep, .int .i64 c_.I.Seg, .int .u8 c_.I.Op, .int .i64 c_.I.Mod, .int .i64 c_.I.Reg, .int .i64 c_.I.RM, .int .u16 c_.I.Disp, .int .u16 (IntKind.wrap .u16 o_.V.N), .int .u16 c_.I.Sel, .int .i64 c_.Disp.N, .int .i64 c_.Disp.From, .int .i64 c_.Disp.Which, .int .i64 c_.Disp.Type_, .int .i64 c_.Disp.Wants, .bool c_.Disp.Known, .int .i64 c_.Imm.N, .int .i64 c_.Imm.From, .int .i64 c_.Imm.Which, .int .i64 c_.Imm.Type_, .int .i64 c_.Imm.Wants, .bool c_.Imm.Known, .bool c_.HasD, .bool c_.HasI, .bool c_.Jumps]), []⟩, ⟨.tup [], [([6], some (.cells [.b c_.I.Lock, .i c_.I.Rep, .i c_.I.Seg, .y c_.I.Op, .i c_.I.Mod, .i c_.I.Reg, .i c_.I.RM, .w c_.I.Disp, .w (IntKind.wrap .u16 o_.V.N), .w c_.I.Sel, .i c_.Disp.N, .i c_.Disp.From, .i c_.Disp.Which, .i c_.Disp.Type_, .i c_.Disp.Wants, .b c_.Disp.Known, .i c_.Imm.N, .i c_.Imm.From, .i c_.Imm.Which, .i c_.Imm.Type_, .i c_.Imm.Wants, .b c_.Imm.Known, .b c_.HasD, .b c_.HasI, .b c_.Jumps] 0))]⟩] ?_
   refine Rk <| Runs.ret ?_
   cases h
   exact Fq
  | false =>
   replace h := ite_f hb_2 h
   refine Cf <| Sq <| Sq <| Ro <| Rc 2 [vb (op_ == 7), vb (op_ == 7)] <| Rk ?_
   cases hb_3 : ((op_ == 7) : Bool) with
   | true =>
    replace h := ite_t hb_3 h
    refine Ct <| Runs.skip <| kS_nrm <| Runs.canon (pick_behind_h24 c_ o_ ({ I := ({ Lock := false, Rep := 0, Seg := 0, Op := 0, Mod := 0, Reg := 0, RM := 0, Disp := 0, Imm := 0, Sel := 0 } : Inst), Disp := ({ N := 0, From := 0, Which := 0, Type_ := 0, Wants := 0, Known := false } : api_Value), Imm := ({ N := 0, From := 0, Which := 0, Type_ := 0, Wants := 0, Known := false } : api_Value), HasD := false, HasI := false, Jumps := false } : Choice) op_ true) Cz ?_
    exact pick_behind_j24_ok c_ op_ o_ c_ o_ ({ I := ({ Lock := false, Rep := 0, Seg := 0, Op := 0, Mod := 0, Reg := 0, RM := 0, Disp := 0, Imm := 0, Sel := 0 } : Inst), Disp := ({ N := 0, From := 0, Which := 0, Type_ := 0, Wants := 0, Known := false } : api_Value), Imm := ({ N := 0, From := 0, Which := 0, Type_ := 0, Wants := 0, Known := false } : api_Value), HasD := false, HasI := false, Jumps := false } : Choice) op_ true r h
   | false =>
    replace h := ite_f hb_3 h
    refine Cf <| Sq <| Ro <| Rc 2 [vb (op_ == 12), vb (op_ == 12)] <| Rk ?_
    cases hb_8 : ((op_ == 12) : Bool) with
    | true =>
     replace h := ite_t hb_8 h
     refine Ct <| Runs.skip <| kS_nrm <| Runs.canon (pick_behind_h24 c_ o_ ({ I := ({ Lock := false, Rep := 0, Seg := 0, Op := 0, Mod := 0, Reg := 0, RM := 0, Disp := 0, Imm := 0, Sel := 0 } : Inst), Disp := ({ N := 0, From := 0, Which := 0, Type_ := 0, Wants := 0, Known := false } : api_Value), Imm := ({ N := 0, From := 0, Which := 0, Type_ := 0, Wants := 0, Known := false } : api_Value), HasD := false, HasI := false, Jumps := false } : Choice) op_ true) Cz ?_
     exact pick_behind_j24_ok c_ op_ o_ c_ o_ ({ I := ({ Lock := false, Rep := 0, Seg := 0, Op := 0, Mod := 0, Reg := 0, RM := 0, Disp := 0, Imm := 0, Sel := 0 } : Inst), Disp := ({ N := 0, From := 0, Which := 0, Type_ := 0, Wants := 0, Known := false } : api_Value), Imm := ({ N := 0, From := 0, Which := 0, Type_ := 0, Wants := 0, Known := false } : api_Value), HasD := false, HasI := false, Jumps := false } : Choice) op_ true r h
    | false =>
     replace h := ite_f hb_8 h
     refine Cf <| Ro <| Rc 2 [vb (op_ == 13), vb (op_ == 13)] <| Rk <| Runs.canon (pick_behind_h24 c_ o_ ({ I := ({ Lock := false, Rep := 0, Seg := 0, Op := 0, Mod := 0, Reg := 0, RM := 0, Disp := 0, Imm := 0, Sel := 0 } : Inst), Disp := ({ N := 0, From := 0, Which := 0, Type_ := 0, Wants := 0, Known := false } : api_Value), Imm := ({ N := 0, From := 0, Which := 0, Type_ := 0, Wants := 0, Known := false } : api_Value), HasD := false, HasI := false, Jumps := false } : Choice) op_ (op_ == 13)) Cz ?_
     exact pick_behind_j24_ok c_ op_ o_ c_ o_ ({ I := ({ Lock := false, Rep := 0, Seg := 0, Op := 0, Mod := 0, Reg := 0, RM := 0, Disp := 0, Imm := 0, Sel := 0 } : Inst), Disp := ({ N := 0, From := 0, Which := 0, Type_ := 0, Wants := 0, Known := false } : api_Value), Imm := ({ N := 0, From := 0, Which := 0, Type_ := 0, Wants := 0, Known := false } : api_Value), HasD := false, HasI := false, Jumps := false } : Choice) op_ (op_ == 13) r h
theorem pick_behind_L (c_ : Choice) (op_ : Int) (o_ : Operand) (r : Choice) (h : pick_behind c_ op_ o_ = some r) : L 66 [.d (Choice.d c_), .i op_, .d (Operand.d o_)] = some (.d (Choice.d r), [.d (Choice.d c_), .i op_, .d (Operand.d o_)]) := by
 obtain ⟨p, ⟨hne, hf⟩, hr⟩ := pick_behind_ok c_ op_ o_ r h
 obtain ⟨k, hk⟩ := run_of (F := F66) (args := [.d (Choice.d c_), .i op_, .d (Operand.d o_)]) (ap := [.d (Choice.d c_), .i op_, .d (Operand.d o_)]) (bx0 := updW (fun _ => none) []) rfl rfl (by kernel_rfl) ⟨p, ⟨hne, hf⟩, hr⟩
 exact lim_run (k := k) rfl hk
def pick_build_h10 (r6 : Row) (ops7 : (A2 Operand)) (b_8 : Choice) (c9 : Choice) : St := ⟨tab [(6, .ptr [6] 0 0), (7, .ptr [7] 0 0), (8, .ptr [8] 0 0), (9, .ptr [9] 0 0)], tabB [([6], some (.cells [.i r6.Name, .i r6.A, .i r6.B, .b r6.Mod] 0)), ([7], some (.cells [.i ops7.a0.Kind, .i ops7.a0.N, .i ops7.a0.RM, .i ops7.a0.V.N, .i ops7.a0.V.From, .i ops7.a0.V.Which, .i ops7.a0.V.Type_, .i ops7.a0.V.Wants, .b ops7.a0.V.Known, .i ops7.a0.Type_, .i ops7.a0.Over, .b ops7.a0.Short, .i ops7.a1.Kind, .i ops7.a1.N, .i ops7.a1.RM, .i ops7.a1.V.N, .i ops7.a1.V.From, .i ops7.a1.V.Which, .i ops7.a1.V.Type_, .i ops7.a1.V.Wants, .b ops7.a1.V.Known, .i ops7.a1.Type_, .i ops7.a1.Over, .b ops7.a1.Short] 0)), ([8], some (.cells [.b b_8.I.Lock, .i b_8.I.Rep, .i b_8.I.Seg, .y b_8.I.Op, .i b_8.I.Mod, .i b_8.I.Reg, .i b_8.I.RM, .w b_8.I.Disp, .w b_8.I.Imm, .w b_8.I.Sel, .i b_8.Disp.N, .i b_8.Disp.From, .i b_8.Disp.Which, .i b_8.Disp.Type_, .i b_8.Disp.Wants, .b b_8.Disp.Known, .i b_8.Imm.N, .i b_8.Imm.From, .i b_8.Imm.Which, .i b_8.Imm.Type_, .i b_8.Imm.Wants, .b b_8.Imm.Known, .b b_8.HasD, .b b_8.HasI, .b b_8.Jumps] 0)), ([9], some (.cells [.b c9.I.Lock, .i c9.I.Rep, .i c9.I.Seg, .y c9.I.Op, .i c9.I.Mod, .i c9.I.Reg, .i c9.I.RM, .w c9.I.Disp, .w c9.I.Imm, .w c9.I.Sel, .i c9.Disp.N, .i c9.Disp.From, .i c9.Disp.Which, .i c9.Disp.Type_, .i c9.Disp.Wants, .b c9.Disp.Known, .i c9.Imm.N, .i c9.Imm.From, .i c9.Imm.Which, .i c9.Imm.Type_, .i c9.Imm.Wants, .b c9.Imm.Known, .b c9.HasD, .b c9.HasI, .b c9.Jumps] 0))]⟩
def pick_build_h14 (ops7 : (A2 Operand)) (b_8 : Choice) (c9 : Choice) (t28 : (A2 Int)) (t29 : Int) : St := ⟨tab [(7, .ptr [7] 0 0), (8, .ptr [8] 0 0), (9, .ptr [9] 0 0), (28, .d (.agg [.int .i64 t28.a0, .int .i64 t28.a1])), (29, .i t29)], tabB [([7], some (.cells [.i ops7.a0.Kind, .i ops7.a0.N, .i ops7.a0.RM, .i ops7.a0.V.N, .i ops7.a0.V.From, .i ops7.a0.V.Which, .i ops7.a0.V.Type_, .i ops7.a0.V.Wants, .b ops7.a0.V.Known, .i ops7.a0.Type_, .i ops7.a0.Over, .b ops7.a0.Short, .i ops7.a1.Kind, .i ops7.a1.N, .i ops7.a1.RM, .i ops7.a1.V.N, .i ops7.a1.V.From, .i ops7.a1.V.Which, .i ops7.a1.V.Type_, .i ops7.a1.V.Wants, .b ops7.a1.V.Known, .i ops7.a1.Type_, .i ops7.a1.Over, .b ops7.a1.Short] 0)), ([8], some (.cells [.b b_8.I.Lock, .i b_8.I.Rep, .i b_8.I.Seg, .y b_8.I.Op, .i b_8.I.Mod, .i b_8.I.Reg, .i b_8.I.RM, .w b_8.I.Disp, .w b_8.I.Imm, .w b_8.I.Sel, .i b_8.Disp.N, .i b_8.Disp.From, .i b_8.Disp.Which, .i b_8.Disp.Type_, .i b_8.Disp.Wants, .b b_8.Disp.Known, .i b_8.Imm.N, .i b_8.Imm.From, .i b_8.Imm.Which, .i b_8.Imm.Type_, .i b_8.Imm.Wants, .b b_8.Imm.Known, .b b_8.HasD, .b b_8.HasI, .b b_8.Jumps] 0)), ([9], some (.cells [.b c9.I.Lock, .i c9.I.Rep, .i c9.I.Seg, .y c9.I.Op, .i c9.I.Mod, .i c9.I.Reg, .i c9.I.RM, .w c9.I.Disp, .w c9.I.Imm, .w c9.I.Sel, .i c9.Disp.N, .i c9.Disp.From, .i c9.Disp.Which, .i c9.Disp.Type_, .i c9.Disp.Wants, .b c9.Disp.Known, .i c9.Imm.N, .i c9.Imm.From, .i c9.Imm.Which, .i c9.Imm.Type_, .i c9.Imm.Wants, .b c9.Imm.Known, .b c9.HasD, .b c9.HasI, .b c9.Jumps] 0))]⟩
def pick_build_h27 (b_8 : Choice) (c9 : Choice) : St := ⟨tab [(8, .ptr [8] 0 0), (9, .ptr [9] 0 0)], tabB [([8], some (.cells [.b b_8.I.Lock, .i b_8.I.Rep, .i b_8.I.Seg, .y b_8.I.Op, .i b_8.I.Mod, .i b_8.I.Reg, .i b_8.I.RM, .w b_8.I.Disp, .w b_8.I.Imm, .w b_8.I.Sel, .i b_8.Disp.N, .i b_8.Disp.From, .i b_8.Disp.Which, .i b_8.Disp.Type_, .i b_8.Disp.Wants, .b b_8.Disp.Known, .i b_8.Imm.N, .i b_8.Imm.From, .i b_8.Imm.Which, .i b_8.Imm.Type_, .i b_8.Imm.Wants, .b b_8.Imm.Known, .b b_8.HasD, .b b_8.HasI, .b b_8.Jumps] 0)), ([9], some (.cells [.b c9.I.Lock, .i c9.I.Rep, .i c9.I.Seg, .y c9.I.Op, .i c9.I.Mod, .i c9.I.Reg, .i c9.I.RM, .w c9.I.Disp, .w c9.I.Imm, .w c9.I.Sel, .i c9.Disp.N, .i c9.Disp.From, .i c9.Disp.Which, .i c9.Disp.Type_, .i c9.Disp.Wants, .b c9.Disp.Known, .i c9.Imm.N, .i c9.Imm.From, .i c9.Imm.Which, .i c9.Imm.Type_, .i c9.Imm.Wants, .b c9.Imm.Known, .b c9.HasD, .b c9.HasI, .b c9.Jumps] 0))]⟩
def pick_build_Q (first_ : Int) (reg_ : Int) (r_ : Row) (ops_ : (A2 Operand)) (r : Choice) (p : Out × St) : Prop := (∀ i, p.1 ≠ .exit i) ∧ finF F30 [.y first_, .i reg_, .d (Row.d r_), .d (.agg [.int .i64 ops_.a0.Kind, .int .i64 ops_.a0.N, .int .i64 ops_.a0.RM, .int .i64 ops_.a0.V.N, .int .i64 ops_.a0.V.From, .int .i64 ops_.a0.V.Which, .int .i64 ops_.a0.V.Type_, .int .i64 ops_.a0.V.Wants, .bool ops_.a0.V.Known, .int .i64 ops_.a0.Type_, .int .i64 ops_.a0.Over, .bool ops_.a0.Short, .int .i64 ops_.a1.Kind, .int .i64 ops_.a1.N, .int .i64 ops_.a1.RM, .int .i64 ops_.a1.V.N, .int .i64 ops_.a1.V.From, .int .i64 ops_.a1.V.Which, .int .i64 ops_.a1.V.Type_, .int .i64 ops_.a1.V.Wants, .bool ops_.a1.V.Known, .int .i64 ops_.a1.Type_, .int .i64 ops_.a1.Over, .bool ops_.a1.Short])] p.2 = some (.d (Choice.d r), [.y first_, .i reg_, .d (Row.d r_), .d (.agg [.int .i64 ops_.a0.Kind, .int .i64 ops_.a0.N, .int .i64 ops_.a0.RM, .int .i64 ops_.a0.V.N, .int .i64 ops_.a0.V.From, .int .i64 ops_.a0.V.Which, .int .i64 ops_.a0.V.Type_, .int .i64 ops_.a0.V.Wants, .bool ops_.a0.V.Known, .int .i64 ops_.a0.Type_, .int .i64 ops_.a0.Over, .bool ops_.a0.Short, .int .i64 ops_.a1.Kind, .int .i64 ops_.a1.N, .int .i64 ops_.a1.RM, .int .i64 ops_.a1.V.N, .int .i64 ops_.a1.V.From, .int .i64 ops_.a1.V.Which, .int .i64 ops_.a1.V.Type_, .int .i64 ops_.a1.V.Wants, .bool ops_.a1.V.Known, .int .i64 ops_.a1.Type_, .int .i64 ops_.a1.Over, .bool ops_.a1.Short])])
def pick_build_P14 (first_ : Int) (reg_ : Int) (r_ : Row) (ops_ : (A2 Operand)) (ops7 : (A2 Operand)) (b_8 : Choice) (t28 : (A2 Int)) (e : Choice) (p : Out × St) : Prop := p.1 = .exit 0 ∧ ∃ g : Unit, Canon [] [8, 9] [[8], [9]] p.2 (pick_build_h27 b_8 e)
theorem pick_build_l14_ok (first_ : Int) (reg_ : Int) (r_ : Row) (ops_ : (A2 Operand)) (ops7 : (A2 Operand)) (b_8 : Choice) (c9 : Choice) (t28 : (A2 Int)) (t29 : Int) (r : (Lp (Choice × Int) Choice)) (h : pick_build_l14 ops7 b_8 c9 t28 t29 = some r) : Runs L F30l14 (pick_build_h14 ops7 b_8 c9 t28 t29) (LQ [] [7, 8, 9, 28, 29] [[7], [8], [9]] (fun (x : (Choice × Int)) (g : Unit) => pick_build_h14 ops7 b_8 x.1 t28 x.2) (pick_build_P14 first_ reg_ r_ ops_ ops7 b_8 t28) r) := by
 unfold pick_build_l14 at h
 refine Sq <| Ro <| Rc 1 [vb (decide (t29 < 2))] <| Rk <| Sq ?_
 cases hb_3 : ((decide (t29 < 2)) : Bool) with
 | true =>
  replace h := ite_t hb_3 h
  refine Ct <| Runs.skip <| kS_nrm <| Sq <| Runs.block <| Sq <| Ro <| Rc 1 [vi t29] ?_
  obtain ⟨z_1, hz_1, h⟩ := bind_s h
  refine Rt (some 32) (.indexA 2 1 none) [] none [.d (.agg [.int .i64 t28.a0, .int .i64 t28.a1]), .i t29] (.i z_1) [] (cut_ixA (e := (D.int .i64)) (l := t28.l) hz_1 rfl) <| Rc 2 [vi t29, vi z_1] <| Rk <| Ro <| Rc 3 [⟨.d (Choice.d c9), []⟩, vi z_1, vi t29] ?_
  obtain ⟨z_2, hz_2, h⟩ := bind_s h
  refine Rt (some 36) (.iaddrA 2 12) [] none [.ptr [7] 0 0, .i t29] (.ptr [7] 0 (0 + (t29).toNat * 12 + 0)) [] (cut_iaA (l := ops7.l) hz_2 rfl) <| Rt (some 37) (.load (some 12)) [] none [.ptr [7] 0 (0 + (t29).toNat * 12 + 0)] (.d (Operand.d z_2)) [] (cut_ldBn (f := fun a => (Operand.d a).cells) (z := 12) (l := ops7.l) (y := z_2) (xs := (Operand.d z_2).cells) hz_2 (fun _ => rfl) (by kernel_rfl) (by kernel_rfl) (by kernel_rfl)) ?_
  obtain ⟨r_2, hr_2, h⟩ := bind_s h
  have hc_2 := pick_second_L c9 z_1 z_2 r_2 hr_2
  refine Rt (some 38) (.callf 67) [] (some []) [.d (Choice.d c9), .i z_1, .d (Operand.d z_2)] (.d (Choice.d r_2)) [] (cc hc_2) <| Rc 2 [vi z_1, vi t29] ?_
  obtain ⟨z_3, hz_3, h⟩ := bind_s h
  refine Rt (some 41) (.iaddrA 2 12) [] none [.ptr [7] 0 0, .i t29] (.ptr [7] 0 (0 + (t29).toNat * 12 + 0)) [] (cut_iaA (l := ops7.l) hz_3 rfl) <| Rt (some 42) (.load (some 12)) [[38]] none [.ptr [7] 0 (0 + (t29).toNat * 12 + 0)] (.d (Operand.d z_3)) [] (cut_ldBn (f := fun a => (Operand.d a).cells) (z := 12) (l := ops7.l) (y := z_3) (xs := (Operand.d z_3).cells) hz_3 (fun _ => rfl) (by kernel_rfl) (by kernel_rfl) (by kernel_rfl)) ?_
  obtain ⟨r_3, hr_3, h⟩ := bind_s h
  have hc_3 := pick_behind_L r_2 z_1 z_3 r_3 hr_3
  refine Rt (some 43) (.callf 66) [] none [.d (Choice.d r_2), .i z_1, .d (Operand.d z_3)] (.d (Choice.d r_3)) [] (cc hc_3) <| Rc 1 [⟨.tup [], [([9], some (.cells [.b r_3.I.Lock, .i r_3.I.Rep, .i r_3.I.Seg, .y r_3.I.Op, .i r_3.I.Mod, .i r_3.I.Reg, .i r_3.I.RM, .w r_3.I.Disp, .w r_3.I.Imm, .w r_3.I.Sel, .i r_3.Disp.N, .i r_3.Disp.From, .i r_3.Disp.Which, .i r_3.Disp.Type_, .i r_3.Disp.Wants, .b r_3.Disp.Known, .i r_3.Imm.N, .i r_3.Imm.From, .i r_3.Imm.Which, .i r_3.Imm.Type_, .i r_3.Imm.Wants, .b r_3.Imm.Known, .b r_3.HasD, .b r_3.HasI, .b r_3.Jumps] 0))]⟩] <| Rd <| kB_nrm <| kS_nrm <| Ro <| Rc 2 [vi (IntKind.wrap .i64 (t29 + 1)), vi (IntKind.wrap .i64 (t29 + 1))] <| Rd ?_
  obtain rfl := sj h
  exact ⟨rfl, (), Cz⟩
 | false =>
  replace h := ite_f hb_3 h
  refine Cf <| Runs.exit <| kS_exit ?_
  obtain rfl := sj h
  exact ⟨nofun, rfl, (), Cz⟩
end Go.Es.Pkj
