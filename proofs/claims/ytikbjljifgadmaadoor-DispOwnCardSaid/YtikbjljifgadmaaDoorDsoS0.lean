/- The interpreter answers as plain Lean does: part 1. No condition. -/
import Derived.Test.YtikbjljifgadmaaDoorDsoF
import Derived.Test.YtikbjljifgadmaaDoorDsoP
import Derived.KernelRfl
set_option linter.unusedVariables false
set_option linter.unusedSimpArgs false
set_option maxRecDepth 100000
set_option maxHeartbeats 4000000
namespace Go.Es.Dso
theorem strings_Fields_L0 : L 19 [.d (.str [65, 68, 68, 32, 79, 82, 32, 65, 68, 67, 32, 83, 66, 66, 32, 65, 78, 68, 32, 83, 85, 66, 32, 88, 79, 82, 32, 67, 77, 80, 32, 80, 85, 83, 72, 32, 80, 79, 80, 32, 68, 65, 65, 32, 68, 65, 83, 32, 65, 65, 65, 32, 65, 65, 83, 32, 73, 78, 67, 32, 68, 69, 67, 32, 74, 79, 32, 74, 78, 79, 32, 74, 66, 32, 74, 78, 66, 32, 74, 90, 32, 74, 78, 90, 32, 74, 66, 69, 32, 74, 65, 32, 74, 83, 32, 74, 78, 83, 32, 74, 80, 32, 74, 78, 80, 32, 74, 76, 32, 74, 71, 69, 32, 74, 76, 69, 32, 74, 71, 32, 84, 69, 83, 84, 32, 88, 67, 72, 71, 32, 77, 79, 86, 32, 76, 69, 65, 32, 67, 66, 87, 32, 67, 87, 68, 32, 67, 65, 76, 76, 32, 67, 65, 76, 76, 70, 32, 87, 65, 73, 84, 32, 80, 85, 83, 72, 70, 32, 80, 79, 80, 70, 32, 83, 65, 72, 70, 32, 76, 65, 72, 70, 32, 77, 79, 86, 83, 66, 32, 77, 79, 86, 83, 87, 32, 67, 77, 80, 83, 66, 32, 67, 77, 80, 83, 87, 32, 83, 84, 79, 83, 66, 32, 83, 84, 79, 83, 87, 32, 76, 79, 68, 83, 66, 32, 76, 79, 68, 83, 87, 32, 83, 67, 65, 83, 66, 32, 83, 67, 65, 83, 87, 32, 82, 69, 84, 32, 82, 69, 84, 70, 32, 76, 69, 83, 32, 76, 68, 83, 32, 73, 78, 84, 32, 73, 78, 84, 79, 32, 73, 82, 69, 84, 32, 82, 79, 76, 32, 82, 79, 82, 32, 82, 67, 76, 32, 82, 67, 82, 32, 83, 72, 76, 32, 83, 72, 82, 32, 83, 65, 82, 32, 65, 65, 77, 32, 65, 65, 68, 32, 88, 76, 65, 84, 32, 69, 83, 67, 32, 76, 79, 79, 80, 78, 90, 32, 76, 79, 79, 80, 90, 32, 76, 79, 79, 80, 32, 74, 67, 88, 90, 32, 73, 78, 32, 79, 85, 84, 32, 74, 77, 80, 32, 74, 77, 80, 70, 32, 72, 76, 84, 32, 67, 77, 67, 32, 78, 79, 84, 32, 78, 69, 71, 32, 77, 85, 76, 32, 73, 77, 85, 76, 32, 68, 73, 86, 32, 73, 68, 73, 86, 32, 67, 76, 67, 32, 83, 84, 67, 32, 67, 76, 73, 32, 83, 84, 73, 32, 67, 76, 68, 32, 83, 84, 68])] = some (.arr false 1 (List.map D.str [[65, 68, 68], [79, 82], [65, 68, 67], [83, 66, 66], [65, 78, 68], [83, 85, 66], [88, 79, 82], [67, 77, 80], [80, 85, 83, 72], [80, 79, 80], [68, 65, 65], [68, 65, 83], [65, 65, 65], [65, 65, 83], [73, 78, 67], [68, 69, 67], [74, 79], [74, 78, 79], [74, 66], [74, 78, 66], [74, 90], [74, 78, 90], [74, 66, 69], [74, 65], [74, 83], [74, 78, 83], [74, 80], [74, 78, 80], [74, 76], [74, 71, 69], [74, 76, 69], [74, 71], [84, 69, 83, 84], [88, 67, 72, 71], [77, 79, 86], [76, 69, 65], [67, 66, 87], [67, 87, 68], [67, 65, 76, 76], [67, 65, 76, 76, 70], [87, 65, 73, 84], [80, 85, 83, 72, 70], [80, 79, 80, 70], [83, 65, 72, 70], [76, 65, 72, 70], [77, 79, 86, 83, 66], [77, 79, 86, 83, 87], [67, 77, 80, 83, 66], [67, 77, 80, 83, 87], [83, 84, 79, 83, 66], [83, 84, 79, 83, 87], [76, 79, 68, 83, 66], [76, 79, 68, 83, 87], [83, 67, 65, 83, 66], [83, 67, 65, 83, 87], [82, 69, 84], [82, 69, 84, 70], [76, 69, 83], [76, 68, 83], [73, 78, 84], [73, 78, 84, 79], [73, 82, 69, 84], [82, 79, 76], [82, 79, 82], [82, 67, 76], [82, 67, 82], [83, 72, 76], [83, 72, 82], [83, 65, 82], [65, 65, 77], [65, 65, 68], [88, 76, 65, 84], [69, 83, 67], [76, 79, 79, 80, 78, 90], [76, 79, 79, 80, 90], [76, 79, 79, 80], [74, 67, 88, 90], [73, 78], [79, 85, 84], [74, 77, 80], [74, 77, 80, 70], [72, 76, 84], [67, 77, 67], [78, 79, 84], [78, 69, 71], [77, 85, 76], [73, 77, 85, 76], [68, 73, 86], [73, 68, 73, 86], [67, 76, 67], [83, 84, 67], [67, 76, 73], [83, 84, 73], [67, 76, 68], [83, 84, 68]]), [.d (.str [65, 68, 68, 32, 79, 82, 32, 65, 68, 67, 32, 83, 66, 66, 32, 65, 78, 68, 32, 83, 85, 66, 32, 88, 79, 82, 32, 67, 77, 80, 32, 80, 85, 83, 72, 32, 80, 79, 80, 32, 68, 65, 65, 32, 68, 65, 83, 32, 65, 65, 65, 32, 65, 65, 83, 32, 73, 78, 67, 32, 68, 69, 67, 32, 74, 79, 32, 74, 78, 79, 32, 74, 66, 32, 74, 78, 66, 32, 74, 90, 32, 74, 78, 90, 32, 74, 66, 69, 32, 74, 65, 32, 74, 83, 32, 74, 78, 83, 32, 74, 80, 32, 74, 78, 80, 32, 74, 76, 32, 74, 71, 69, 32, 74, 76, 69, 32, 74, 71, 32, 84, 69, 83, 84, 32, 88, 67, 72, 71, 32, 77, 79, 86, 32, 76, 69, 65, 32, 67, 66, 87, 32, 67, 87, 68, 32, 67, 65, 76, 76, 32, 67, 65, 76, 76, 70, 32, 87, 65, 73, 84, 32, 80, 85, 83, 72, 70, 32, 80, 79, 80, 70, 32, 83, 65, 72, 70, 32, 76, 65, 72, 70, 32, 77, 79, 86, 83, 66, 32, 77, 79, 86, 83, 87, 32, 67, 77, 80, 83, 66, 32, 67, 77, 80, 83, 87, 32, 83, 84, 79, 83, 66, 32, 83, 84, 79, 83, 87, 32, 76, 79, 68, 83, 66, 32, 76, 79, 68, 83, 87, 32, 83, 67, 65, 83, 66, 32, 83, 67, 65, 83, 87, 32, 82, 69, 84, 32, 82, 69, 84, 70, 32, 76, 69, 83, 32, 76, 68, 83, 32, 73, 78, 84, 32, 73, 78, 84, 79, 32, 73, 82, 69, 84, 32, 82, 79, 76, 32, 82, 79, 82, 32, 82, 67, 76, 32, 82, 67, 82, 32, 83, 72, 76, 32, 83, 72, 82, 32, 83, 65, 82, 32, 65, 65, 77, 32, 65, 65, 68, 32, 88, 76, 65, 84, 32, 69, 83, 67, 32, 76, 79, 79, 80, 78, 90, 32, 76, 79, 79, 80, 90, 32, 76, 79, 79, 80, 32, 74, 67, 88, 90, 32, 73, 78, 32, 79, 85, 84, 32, 74, 77, 80, 32, 74, 77, 80, 70, 32, 72, 76, 84, 32, 67, 77, 67, 32, 78, 79, 84, 32, 78, 69, 71, 32, 77, 85, 76, 32, 73, 77, 85, 76, 32, 68, 73, 86, 32, 73, 68, 73, 86, 32, 67, 76, 67, 32, 83, 84, 67, 32, 67, 76, 73, 32, 83, 84, 73, 32, 67, 76, 68, 32, 83, 84, 68])]) := (lim_iff (F := tab1)).2 ⟨600, by kernel_rfl⟩
theorem strings_Fields_L1 : L 19 [.d (.str [65, 88, 32, 67, 88, 32, 68, 88, 32, 66, 88, 32, 83, 80, 32, 66, 80, 32, 83, 73, 32, 68, 73])] = some (.arr false 1 (List.map D.str [[65, 88], [67, 88], [68, 88], [66, 88], [83, 80], [66, 80], [83, 73], [68, 73]]), [.d (.str [65, 88, 32, 67, 88, 32, 68, 88, 32, 66, 88, 32, 83, 80, 32, 66, 80, 32, 83, 73, 32, 68, 73])]) := (lim_iff (F := tab1)).2 ⟨600, by kernel_rfl⟩
theorem strings_Fields_L2 : L 19 [.d (.str [65, 76, 32, 67, 76, 32, 68, 76, 32, 66, 76, 32, 65, 72, 32, 67, 72, 32, 68, 72, 32, 66, 72])] = some (.arr false 1 (List.map D.str [[65, 76], [67, 76], [68, 76], [66, 76], [65, 72], [67, 72], [68, 72], [66, 72]]), [.d (.str [65, 76, 32, 67, 76, 32, 68, 76, 32, 66, 76, 32, 65, 72, 32, 67, 72, 32, 68, 72, 32, 66, 72])]) := (lim_iff (F := tab1)).2 ⟨600, by kernel_rfl⟩
theorem strings_Fields_L3 : L 19 [.d (.str [69, 83, 32, 67, 83, 32, 83, 83, 32, 68, 83])] = some (.arr false 1 (List.map D.str [[69, 83], [67, 83], [83, 83], [68, 83]]), [.d (.str [69, 83, 32, 67, 83, 32, 83, 83, 32, 68, 83])]) := (lim_iff (F := tab1)).2 ⟨600, by kernel_rfl⟩
theorem strings_Fields_L4 : L 19 [.d (.str [66, 88, 43, 83, 73, 32, 66, 88, 43, 68, 73, 32, 66, 80, 43, 83, 73, 32, 66, 80, 43, 68, 73, 32, 83, 73, 32, 68, 73, 32, 66, 80, 32, 66, 88])] = some (.arr false 1 (List.map D.str [[66, 88, 43, 83, 73], [66, 88, 43, 68, 73], [66, 80, 43, 83, 73], [66, 80, 43, 68, 73], [83, 73], [68, 73], [66, 80], [66, 88]]), [.d (.str [66, 88, 43, 83, 73, 32, 66, 88, 43, 68, 73, 32, 66, 80, 43, 83, 73, 32, 66, 80, 43, 68, 73, 32, 83, 73, 32, 68, 73, 32, 66, 80, 32, 66, 88])]) := (lim_iff (F := tab1)).2 ⟨600, by kernel_rfl⟩
theorem strings_Fields_L (a0_ : (List UInt8)) (r : (List (List UInt8))) (h : strings_Fields a0_ = some r) : L 19 [.d (.str a0_)] = some (.arr false 1 (List.map D.str r), [.d (.str a0_)]) := by
  unfold strings_Fields at h
  by_cases c0 : a0_ = [65, 68, 68, 32, 79, 82, 32, 65, 68, 67, 32, 83, 66, 66, 32, 65, 78, 68, 32, 83, 85, 66, 32, 88, 79, 82, 32, 67, 77, 80, 32, 80, 85, 83, 72, 32, 80, 79, 80, 32, 68, 65, 65, 32, 68, 65, 83, 32, 65, 65, 65, 32, 65, 65, 83, 32, 73, 78, 67, 32, 68, 69, 67, 32, 74, 79, 32, 74, 78, 79, 32, 74, 66, 32, 74, 78, 66, 32, 74, 90, 32, 74, 78, 90, 32, 74, 66, 69, 32, 74, 65, 32, 74, 83, 32, 74, 78, 83, 32, 74, 80, 32, 74, 78, 80, 32, 74, 76, 32, 74, 71, 69, 32, 74, 76, 69, 32, 74, 71, 32, 84, 69, 83, 84, 32, 88, 67, 72, 71, 32, 77, 79, 86, 32, 76, 69, 65, 32, 67, 66, 87, 32, 67, 87, 68, 32, 67, 65, 76, 76, 32, 67, 65, 76, 76, 70, 32, 87, 65, 73, 84, 32, 80, 85, 83, 72, 70, 32, 80, 79, 80, 70, 32, 83, 65, 72, 70, 32, 76, 65, 72, 70, 32, 77, 79, 86, 83, 66, 32, 77, 79, 86, 83, 87, 32, 67, 77, 80, 83, 66, 32, 67, 77, 80, 83, 87, 32, 83, 84, 79, 83, 66, 32, 83, 84, 79, 83, 87, 32, 76, 79, 68, 83, 66, 32, 76, 79, 68, 83, 87, 32, 83, 67, 65, 83, 66, 32, 83, 67, 65, 83, 87, 32, 82, 69, 84, 32, 82, 69, 84, 70, 32, 76, 69, 83, 32, 76, 68, 83, 32, 73, 78, 84, 32, 73, 78, 84, 79, 32, 73, 82, 69, 84, 32, 82, 79, 76, 32, 82, 79, 82, 32, 82, 67, 76, 32, 82, 67, 82, 32, 83, 72, 76, 32, 83, 72, 82, 32, 83, 65, 82, 32, 65, 65, 77, 32, 65, 65, 68, 32, 88, 76, 65, 84, 32, 69, 83, 67, 32, 76, 79, 79, 80, 78, 90, 32, 76, 79, 79, 80, 90, 32, 76, 79, 79, 80, 32, 74, 67, 88, 90, 32, 73, 78, 32, 79, 85, 84, 32, 74, 77, 80, 32, 74, 77, 80, 70, 32, 72, 76, 84, 32, 67, 77, 67, 32, 78, 79, 84, 32, 78, 69, 71, 32, 77, 85, 76, 32, 73, 77, 85, 76, 32, 68, 73, 86, 32, 73, 68, 73, 86, 32, 67, 76, 67, 32, 83, 84, 67, 32, 67, 76, 73, 32, 83, 84, 73, 32, 67, 76, 68, 32, 83, 84, 68]
  · rw [if_pos c0] at h
    obtain rfl := Option.some.inj h
    subst c0
    exact strings_Fields_L0
  rw [if_neg c0] at h
  by_cases c1 : a0_ = [65, 88, 32, 67, 88, 32, 68, 88, 32, 66, 88, 32, 83, 80, 32, 66, 80, 32, 83, 73, 32, 68, 73]
  · rw [if_pos c1] at h
    obtain rfl := Option.some.inj h
    subst c1
    exact strings_Fields_L1
  rw [if_neg c1] at h
  by_cases c2 : a0_ = [65, 76, 32, 67, 76, 32, 68, 76, 32, 66, 76, 32, 65, 72, 32, 67, 72, 32, 68, 72, 32, 66, 72]
  · rw [if_pos c2] at h
    obtain rfl := Option.some.inj h
    subst c2
    exact strings_Fields_L2
  rw [if_neg c2] at h
  by_cases c3 : a0_ = [69, 83, 32, 67, 83, 32, 83, 83, 32, 68, 83]
  · rw [if_pos c3] at h
    obtain rfl := Option.some.inj h
    subst c3
    exact strings_Fields_L3
  rw [if_neg c3] at h
  by_cases c4 : a0_ = [66, 88, 43, 83, 73, 32, 66, 88, 43, 68, 73, 32, 66, 80, 43, 83, 73, 32, 66, 80, 43, 68, 73, 32, 83, 73, 32, 68, 73, 32, 66, 80, 32, 66, 88]
  · rw [if_pos c4] at h
    obtain rfl := Option.some.inj h
    subst c4
    exact strings_Fields_L4
  rw [if_neg c4] at h
  cases h
def hansomref05_prefix_Q (b_ : Int) (r : Bool) (p : Out × St) : Prop := (∀ i, p.1 ≠ .exit i) ∧ finF F36 [.y b_] p.2 = some (.b r, [.y b_])
theorem hansomref05_prefix_ok (b_ : Int) (r : Bool) (h : hansomref05_prefix b_ = some r) : Runs L F36.body ⟨tmOf [.y b_] 0, updW (fun _ => none) []⟩ (hansomref05_prefix_Q b_ r) := by
 unfold hansomref05_prefix at h
 refine Sq <| Ro <| Rc 1 [vb false] <| Rk <| Sq <| Ro <| Rc 3 [vy b_, vb (b_ == 38), vb (b_ == 38)] ?_
 cases hb_1 : ((b_ == 38) : Bool) with
 | true =>
  replace h := ite_t hb_1 h
  refine Rc 24 [vn, vn, vb true, vb true, vn, vn, vb true, vb true, vn, vn, vb true, vb true, vn, vn, vb true, vb true, vn, vn, vb true, vb true, vn, vn, vb true, vb true] <| Rk <| Runs.ret ?_
  cases h
  exact Fq
 | false =>
  replace h := ite_f hb_1 h
  refine Rc 4 [vy b_, vb (b_ == 46), vb (b_ == 46), vb (b_ == 46)] ?_
  cases hb_2 : ((b_ == 46) : Bool) with
  | true =>
   replace h := ite_t hb_2 h
   refine Rc 20 [vn, vn, vb true, vb true, vn, vn, vb true, vb true, vn, vn, vb true, vb true, vn, vn, vb true, vb true, vn, vn, vb true, vb true] <| Rk <| Runs.ret ?_
   cases h
   exact Fq
  | false =>
   replace h := ite_f hb_2 h
   refine Rc 4 [vy b_, vb (b_ == 54), vb (b_ == 54), vb (b_ == 54)] ?_
   cases hb_3 : ((b_ == 54) : Bool) with
   | true =>
    replace h := ite_t hb_3 h
    refine Rc 16 [vn, vn, vb true, vb true, vn, vn, vb true, vb true, vn, vn, vb true, vb true, vn, vn, vb true, vb true] <| Rk <| Runs.ret ?_
    cases h
    exact Fq
   | false =>
    replace h := ite_f hb_3 h
    refine Rc 4 [vy b_, vb (b_ == 62), vb (b_ == 62), vb (b_ == 62)] ?_
    cases hb_4 : ((b_ == 62) : Bool) with
    | true =>
     replace h := ite_t hb_4 h
     refine Rc 12 [vn, vn, vb true, vb true, vn, vn, vb true, vb true, vn, vn, vb true, vb true] <| Rk <| Runs.ret ?_
     cases h
     exact Fq
    | false =>
     replace h := ite_f hb_4 h
     refine Rc 4 [vy b_, vb (b_ == 240), vb (b_ == 240), vb (b_ == 240)] ?_
     cases hb_5 : ((b_ == 240) : Bool) with
     | true =>
      replace h := ite_t hb_5 h
      refine Rc 8 [vn, vn, vb true, vb true, vn, vn, vb true, vb true] <| Rk <| Runs.ret ?_
      cases h
      exact Fq
     | false =>
      replace h := ite_f hb_5 h
      refine Rc 4 [vy b_, vb (b_ == 242), vb (b_ == 242), vb (b_ == 242)] ?_
      cases hb_6 : ((b_ == 242) : Bool) with
      | true =>
       replace h := ite_t hb_6 h
       refine Rc 4 [vn, vn, vb true, vb true] <| Rk <| Runs.ret ?_
       cases h
       exact Fq
      | false =>
       replace h := ite_f hb_6 h
       refine Rc 4 [vy b_, vb (b_ == 243), vb (b_ == 243), vb (b_ == 243)] <| Rk <| Runs.ret ?_
       cases h
       exact Fq
theorem hansomref05_prefix_L (b_ : Int) (r : Bool) (h : hansomref05_prefix b_ = some r) : L 36 [.y b_] = some (.b r, [.y b_]) := by
 obtain ⟨p, ⟨hne, hf⟩, hr⟩ := hansomref05_prefix_ok b_ r h
 obtain ⟨k, hk⟩ := run_of (F := F36) (args := [.y b_]) (ap := [.y b_]) (bx0 := updW (fun _ => none) []) rfl rfl (by kernel_rfl) ⟨p, ⟨hne, hf⟩, hr⟩
 exact lim_run (k := k) rfl hk
def hansomref04_word_h8 (s0 : (List UInt8)) (n1 : Int) (at5 : Int) (k6 : Int) : St := ⟨tab [(0, .d (.str s0)), (1, .i n1), (5, .i at5), (6, .i k6)], tabB []⟩
def hansomref04_word_h19 (s0 : (List UInt8)) (n1 : Int) (at5 : Int) (k6 : Int) : St := ⟨tab [(0, .d (.str s0)), (1, .i n1), (5, .i at5), (6, .i k6)], tabB []⟩
def hansomref04_word_h28 (s0 : (List UInt8)) (n1 : Int) (at5 : Int) (k6 : Int) : St := ⟨tab [(0, .d (.str s0)), (1, .i n1), (5, .i at5), (6, .i k6)], tabB []⟩
def hansomref04_word_h30 (s0 : (List UInt8)) (at5 : Int) : St := ⟨tab [(0, .d (.str s0)), (5, .i at5)], tabB []⟩
def hansomref04_word_h34 (s0 : (List UInt8)) (at5 : Int) (end7 : Int) : St := ⟨tab [(0, .d (.str s0)), (5, .i at5), (7, .i end7)], tabB []⟩
def hansomref04_word_h43 (s0 : (List UInt8)) (at5 : Int) (end7 : Int) : St := ⟨tab [(0, .d (.str s0)), (5, .i at5), (7, .i end7)], tabB []⟩
def hansomref04_word_Q (s_ : (List UInt8)) (n_ : Int) (r : (List UInt8)) (p : Out × St) : Prop := (∀ i, p.1 ≠ .exit i) ∧ finF F21 [.d (.str s_), .i n_] p.2 = some (.d (.str r), [.d (.str s_), .i n_])
def hansomref04_word_P19 (s_ : (List UInt8)) (n_ : Int) (s0 : (List UInt8)) (n1 : Int) (k6 : Int) (e : Int) (p : Out × St) : Prop := p.1 = .exit 2 ∧ ∃ g : Unit, Canon [] [0, 1, 5, 6] [] p.2 (hansomref04_word_h28 s0 n1 e k6)
def hansomref04_word_P8 (s_ : (List UInt8)) (n_ : Int) (s0 : (List UInt8)) (n1 : Int) (e : Int) (p : Out × St) : Prop := p.1 = .exit 0 ∧ ∃ g : Unit, Canon [] [0, 5] [] p.2 (hansomref04_word_h30 s0 e)
def hansomref04_word_P34 (s_ : (List UInt8)) (n_ : Int) (s0 : (List UInt8)) (at5 : Int) (e : Int) (p : Out × St) : Prop := p.1 = .exit 4 ∧ ∃ g : Unit, Canon [] [0, 5, 7] [] p.2 (hansomref04_word_h43 s0 at5 e)
theorem hansomref04_word_l19_ok (s_ : (List UInt8)) (n_ : Int) (s0 : (List UInt8)) (n1 : Int) (at5 : Int) (k6 : Int) (r : (Lp Int Int)) (h : hansomref04_word_l19 s0 n1 at5 k6 = some r) : Runs L F21l19 (hansomref04_word_h19 s0 n1 at5 k6) (LQ [] [0, 1, 5, 6] [] (fun (x : Int) (g : Unit) => hansomref04_word_h19 s0 n1 x k6) (hansomref04_word_P19 s_ n_ s0 n1 k6) r) := by
 unfold hansomref04_word_l19 at h
 refine Sq <| Sq <| Ro <| Rc 2 [vi at5, ⟨.d (.str s0), []⟩] <| Rt (some 21) .lenS [] none [.d (.str s0)] (.i (s0.length : Int)) [] (cut_lenS _) <| Rc 2 [vb (decide (at5 < (s0.length : Int))), vb (decide (at5 < (s0.length : Int)))] ?_
 cases hb_3 : ((decide (at5 < (s0.length : Int))) : Bool) with
 | true =>
  replace h := ite_t hb_3 h
  refine Rc 2 [⟨.d (.str s0), []⟩, vi at5] ?_
  obtain ⟨z_1, hz_1, h⟩ := bind_s h
  refine Rt (some 26) .indexS [] none [.d (.str s0), .i at5] (.y (z_1.toNat : Int)) [] (cut_ixS hz_1) <| Rc 2 [vb ((z_1.toNat : Int) != 32), vb ((z_1.toNat : Int) != 32)] <| Rk ?_
  cases hb_4 : (((z_1.toNat : Int) != 32) : Bool) with
  | true =>
   replace h := ite_t hb_4 h
   refine Ct <| Runs.skip <| kS_nrm <| Runs.block <| Ro <| Rc 3 [vi at5, vi (IntKind.wrap .i64 (at5 + 1)), vi (IntKind.wrap .i64 (at5 + 1))] <| Rd <| kB_nrm ?_
   obtain rfl := sj h
   exact ⟨rfl, (), Cz⟩
  | false =>
   replace h := ite_f hb_4 h
   refine Cf <| Runs.exit <| kS_exit ?_
   obtain rfl := sj h
   exact ⟨nofun, rfl, (), Cz⟩
 | false =>
  replace h := ite_f hb_3 h
  refine Rc 5 [vn, vn, vn, vn, vb false] <| Rk <| Cf <| Runs.exit <| kS_exit ?_
  obtain rfl := sj h
  exact ⟨nofun, rfl, (), Cz⟩
theorem hansomref04_word_l8_ok (s_ : (List UInt8)) (n_ : Int) (s0 : (List UInt8)) (n1 : Int) (at5 : Int) (k6 : Int) (r : (Lp (Int × Int) Int)) (h : hansomref04_word_l8 s0 n1 at5 k6 = some r) : Runs L F21l8 (hansomref04_word_h8 s0 n1 at5 k6) (LQ [] [0, 1, 5, 6] [] (fun (x : (Int × Int)) (g : Unit) => hansomref04_word_h8 s0 n1 x.1 x.2) (hansomref04_word_P8 s_ n_ s0 n1) r) := by
 unfold hansomref04_word_l8 at h
 refine Sq <| Sq <| Ro <| Rc 4 [vi k6, vi n1, vb (decide (k6 < n1)), vb (decide (k6 < n1))] ?_
 cases hb_1 : ((decide (k6 < n1)) : Bool) with
 | true =>
  replace h := ite_t hb_1 h
  refine Rc 2 [vi at5, ⟨.d (.str s0), []⟩] <| Rt (some 14) .lenS [] none [.d (.str s0)] (.i (s0.length : Int)) [] (cut_lenS _) <| Rc 2 [vb (decide (at5 < (s0.length : Int))), vb (decide (at5 < (s0.length : Int)))] <| Rk ?_
  cases hb_2 : ((decide (at5 < (s0.length : Int))) : Bool) with
  | true =>
   replace h := ite_t hb_2 h
   refine Ct <| Runs.skip <| kS_nrm <| Sq <| Runs.block <| Sq <| Runs.block ?_
   obtain ⟨e_1, he_1, h⟩ := bind_s h
   refine Runs.loop (fun x : Int => hansomref04_word_l19 s0 n1 x k6) (fun (x : Int) (g : Unit) => hansomref04_word_h19 s0 n1 x k6) (hansomref04_word_P19 s_ n_ s0 n1 k6) (fun x g r hr => hansomref04_word_l19_ok s_ n_ s0 n1 x k6  r hr) () he_1 Cz ?_
   rintro ⟨o, s⟩ hp
   obtain ⟨ho, g_1, hk_1⟩ := hp
   have ho' : o = .exit 2 := ho
   subst ho'
   refine kB_hit <| kS_nrm <| Runs.canon _ hk_1 <| Ro <| Rc 3 [vi e_1, vi (IntKind.wrap .i64 (e_1 + 1)), vi (IntKind.wrap .i64 (e_1 + 1))] <| Rd <| kB_nrm <| kS_nrm <| Ro <| Rc 3 [vi k6, vi (IntKind.wrap .i64 (k6 + 1)), vi (IntKind.wrap .i64 (k6 + 1))] <| Rd ?_
   obtain rfl := sj h
   exact ⟨rfl, (), Cz⟩
  | false =>
   replace h := ite_f hb_2 h
   refine Cf <| Runs.exit <| kS_exit ?_
   obtain rfl := sj h
   exact ⟨nofun, rfl, (), Cz⟩
 | false =>
  replace h := ite_f hb_1 h
  refine Rc 5 [vn, vn, vn, vn, vb false] <| Rk <| Cf <| Runs.exit <| kS_exit ?_
  obtain rfl := sj h
  exact ⟨nofun, rfl, (), Cz⟩
theorem hansomref04_word_l34_ok (s_ : (List UInt8)) (n_ : Int) (s0 : (List UInt8)) (at5 : Int) (end7 : Int) (r : (Lp Int Int)) (h : hansomref04_word_l34 s0 at5 end7 = some r) : Runs L F21l34 (hansomref04_word_h34 s0 at5 end7) (LQ [] [0, 5, 7] [] (fun (x : Int) (g : Unit) => hansomref04_word_h34 s0 at5 x) (hansomref04_word_P34 s_ n_ s0 at5) r) := by
 unfold hansomref04_word_l34 at h
 refine Sq <| Sq <| Ro <| Rc 2 [vi end7, ⟨.d (.str s0), []⟩] <| Rt (some 36) .lenS [] none [.d (.str s0)] (.i (s0.length : Int)) [] (cut_lenS _) <| Rc 2 [vb (decide (end7 < (s0.length : Int))), vb (decide (end7 < (s0.length : Int)))] ?_
 cases hb_1 : ((decide (end7 < (s0.length : Int))) : Bool) with
 | true =>
  replace h := ite_t hb_1 h
  refine Rc 2 [⟨.d (.str s0), []⟩, vi end7] ?_
  obtain ⟨z_1, hz_1, h⟩ := bind_s h
  refine Rt (some 41) .indexS [] none [.d (.str s0), .i end7] (.y (z_1.toNat : Int)) [] (cut_ixS hz_1) <| Rc 2 [vb ((z_1.toNat : Int) != 32), vb ((z_1.toNat : Int) != 32)] <| Rk ?_
  cases hb_2 : (((z_1.toNat : Int) != 32) : Bool) with
  | true =>
   replace h := ite_t hb_2 h
   refine Ct <| Runs.skip <| kS_nrm <| Runs.block <| Ro <| Rc 3 [vi end7, vi (IntKind.wrap .i64 (end7 + 1)), vi (IntKind.wrap .i64 (end7 + 1))] <| Rd <| kB_nrm ?_
   obtain rfl := sj h
   exact ⟨rfl, (), Cz⟩
  | false =>
   replace h := ite_f hb_2 h
   refine Cf <| Runs.exit <| kS_exit ?_
   obtain rfl := sj h
   exact ⟨nofun, rfl, (), Cz⟩
 | false =>
  replace h := ite_f hb_1 h
  refine Rc 5 [vn, vn, vn, vn, vb false] <| Rk <| Cf <| Runs.exit <| kS_exit ?_
  obtain rfl := sj h
  exact ⟨nofun, rfl, (), Cz⟩
theorem hansomref04_word_ok (s_ : (List UInt8)) (n_ : Int) (r : (List UInt8)) (h : hansomref04_word s_ n_ = some r) : Runs L F21.body ⟨tmOf [.d (.str s_), .i n_] 0, updW (fun _ => none) []⟩ (hansomref04_word_Q s_ n_ r) := by
 unfold hansomref04_word at h
 refine Sq <| Ro <| Rc 1 [⟨.d (.str ([] : List UInt8)), []⟩] <| Rk <| Sq <| Ro <| Rc 1 [vi 0] <| Rk <| Sq <| Sq <| Ro <| Rc 1 [vi 0] <| Rk <| Runs.block ?_
 obtain ⟨e_1, he_1, h⟩ := bind_s h
 refine Runs.loop (fun x : (Int × Int) => hansomref04_word_l8 s_ n_ x.1 x.2) (fun (x : (Int × Int)) (g : Unit) => hansomref04_word_h8 s_ n_ x.1 x.2) (hansomref04_word_P8 s_ n_ s_ n_) (fun x g r hr => hansomref04_word_l8_ok s_ n_ s_ n_ x.1 x.2  r hr) () he_1 Cz ?_
 rintro ⟨o, s⟩ hp
 obtain ⟨ho, g_1, hk_1⟩ := hp
 have ho' : o = .exit 0 := ho
 subst ho'
 refine kB_hit <| kS_nrm <| Runs.canon _ hk_1 <| Sq <| Ro <| Rc 2 [vi e_1, vi e_1] <| Rk <| Sq <| Runs.block ?_
 obtain ⟨e_2, he_2, h⟩ := bind_s h
 refine Runs.loop (fun x : Int => hansomref04_word_l34 s_ e_1 x) (fun (x : Int) (g : Unit) => hansomref04_word_h34 s_ e_1 x) (hansomref04_word_P34 s_ n_ s_ e_1) (fun x g r hr => hansomref04_word_l34_ok s_ n_ s_ e_1 x  r hr) () he_2 Cz ?_
 rintro ⟨o, s⟩ hp
 obtain ⟨ho, g_2, hk_2⟩ := hp
 have ho' : o = .exit 4 := ho
 subst ho'
 refine kB_hit <| kS_nrm <| Runs.canon _ hk_2 <| Sq <| Sq <| Ro <| Rc 2 [vi e_1, ⟨.d (.str s_), []⟩] <| Rt (some 48) .lenS [] none [.d (.str s_)] (.i (s_.length : Int)) [] (cut_lenS _) <| Rc 1 [vb (decide (e_1 ≥ (s_.length : Int)))] <| Rk ?_
 cases hb_1 : ((decide (e_1 ≥ (s_.length : Int))) : Bool) with
 | true =>
  replace h := ite_t hb_1 h
  refine Ct <| Sq <| Ro <| Rc 1 [⟨.d (.str ([] : List UInt8)), []⟩] <| Rk <| Runs.ret <| kS_ret ?_
  cases h
  exact Fq
 | false =>
  replace h := ite_f hb_1 h
  refine Cf <| Runs.skip <| kS_nrm <| Sq <| Ro <| Rc 3 [⟨.d (.str s_), []⟩, vi e_1, vi e_2] ?_
  obtain ⟨z_1, hz_1, h⟩ := bind_s h
  refine Rt (some 53) (.substr true true) [] none [.d (.str s_), .i e_1, .i e_2] (.d (.str z_1)) [] (cut_strTT hz_1) <| Rc 1 [⟨.d (.str z_1), []⟩] <| Rk <| Runs.ret ?_
  cases h
  exact Fq
theorem hansomref04_word_L (s_ : (List UInt8)) (n_ : Int) (r : (List UInt8)) (h : hansomref04_word s_ n_ = some r) : L 21 [.d (.str s_), .i n_] = some (.d (.str r), [.d (.str s_), .i n_]) := by
 obtain ⟨p, ⟨hne, hf⟩, hr⟩ := hansomref04_word_ok s_ n_ r h
 obtain ⟨k, hk⟩ := run_of (F := F21) (args := [.d (.str s_), .i n_]) (ap := [.d (.str s_), .i n_]) (bx0 := updW (fun _ => none) []) rfl rfl (by kernel_rfl) ⟨p, ⟨hne, hf⟩, hr⟩
 exact lim_run (k := k) rfl hk
def hansomref04_part_h8 (s0 : (List UInt8)) (mark1 : Int) (n2 : Int) (from7 : Int) (i8 : Int) : St := ⟨tab [(0, .d (.str s0)), (1, .y mark1), (2, .i n2), (7, .i from7), (8, .i i8)], tabB []⟩
def hansomref04_part_h35  : St := ⟨tab [], tabB []⟩
def hansomref04_part_Q (s_ : (List UInt8)) (mark_ : Int) (n_ : Int) (r : (List UInt8)) (p : Out × St) : Prop := (∀ i, p.1 ≠ .exit i) ∧ finF F51 [.d (.str s_), .y mark_, .i n_] p.2 = some (.d (.str r), [.d (.str s_), .y mark_, .i n_])
def hansomref04_part_P8 (s_ : (List UInt8)) (mark_ : Int) (n_ : Int) (s0 : (List UInt8)) (mark1 : Int) (e : ((List UInt8) ⊕ Unit)) (p : Out × St) : Prop := match e with
 | .inl x => p.1 = .ret ∧ finF F51 [.d (.str s_), .y mark_, .i n_] p.2 = some (.d (.str x), [.d (.str s_), .y mark_, .i n_])
 | .inr x => p.1 = .exit 0 ∧ ∃ g : Unit, Canon [] [] [] p.2 (hansomref04_part_h35)
theorem hansomref04_part_l8_ok (s_ : (List UInt8)) (mark_ : Int) (n_ : Int) (s0 : (List UInt8)) (mark1 : Int) (n2 : Int) (from7 : Int) (i8 : Int) (r : (Lp (Int × Int × Int) ((List UInt8) ⊕ Unit))) (h : hansomref04_part_l8 s0 mark1 n2 from7 i8 = some r) : Runs L F51l8 (hansomref04_part_h8 s0 mark1 n2 from7 i8) (LQ [] [0, 1, 2, 7, 8] [] (fun (x : (Int × Int × Int)) (g : Unit) => hansomref04_part_h8 s0 mark1 x.1 x.2.1 x.2.2) (hansomref04_part_P8 s_ mark_ n_ s0 mark1) r) := by
 unfold hansomref04_part_l8 at h
 refine Sq <| Sq <| Ro <| Rc 2 [vi i8, ⟨.d (.str s0), []⟩] <| Rt (some 11) .lenS [] none [.d (.str s0)] (.i (s0.length : Int)) [] (cut_lenS _) <| Rc 1 [vb (decide (i8 ≤ (s0.length : Int)))] <| Rk ?_
 cases hb_1 : ((decide (i8 ≤ (s0.length : Int))) : Bool) with
 | true =>
  replace h := ite_t hb_1 h
  refine Ct <| Runs.skip <| kS_nrm <| Sq <| Runs.block <| Sq <| Sq <| Ro <| Rc 2 [vi i8, ⟨.d (.str s0), []⟩] <| Rt (some 17) .lenS [] none [.d (.str s0)] (.i (s0.length : Int)) [] (cut_lenS _) <| Rc 2 [vb (decide (i8 < (s0.length : Int))), vb (decide (i8 < (s0.length : Int)))] ?_
  cases hb_2 : ((decide (i8 < (s0.length : Int))) : Bool) with
  | true =>
   replace h := ite_t hb_2 h
   refine Rc 2 [⟨.d (.str s0), []⟩, vi i8] ?_
   obtain ⟨z_1, hz_1, h⟩ := bind_s h
   refine Rt (some 22) .indexS [] none [.d (.str s0), .i i8] (.y (z_1.toNat : Int)) [] (cut_ixS hz_1) <| Rc 3 [vy mark1, vb ((z_1.toNat : Int) != mark1), vb ((z_1.toNat : Int) != mark1)] <| Rk ?_
   cases hb_3 : (((z_1.toNat : Int) != mark1) : Bool) with
   | true =>
    replace h := ite_t hb_3 h
    refine Ct <| Runs.exit <| kS_exit <| kB_hit <| kS_nrm <| Ro <| Rc 3 [vi i8, vi (IntKind.wrap .i64 (i8 + 1)), vi (IntKind.wrap .i64 (i8 + 1))] <| Rd ?_
    obtain rfl := sj h
    exact ⟨rfl, (), Cz⟩
   | false =>
    replace h := ite_f hb_3 h
    refine Cf <| Runs.skip <| kS_nrm <| Sq <| Sq <| Ro <| Rc 2 [vi n2, vb (n2 == 0)] <| Rk ?_
    cases hb_4 : ((n2 == 0) : Bool) with
    | true =>
     replace h := ite_t hb_4 h
     refine Ct <| Sq <| Ro <| Rc 3 [⟨.d (.str s0), []⟩, vi from7, vi i8] ?_
     obtain ⟨z_2, hz_2, h⟩ := bind_s h
     refine Rt (some 31) (.substr true true) [] none [.d (.str s0), .i from7, .i i8] (.d (.str z_2)) [] (cut_strTT hz_2) <| Rc 1 [⟨.d (.str z_2), []⟩] <| Rk <| Runs.ret <| kS_ret <| kB_ret <| kS_ret ?_
     obtain rfl := sj h
     exact ⟨nofun, rfl, (by kernel_rfl)⟩
    | false =>
     replace h := ite_f hb_4 h
     refine Cf <| Runs.skip <| kS_nrm <| Sq <| Ro <| Rc 3 [vi n2, vi (IntKind.wrap .i64 (n2 - 1)), vi (IntKind.wrap .i64 (n2 - 1))] <| Rk <| Ro <| Rc 3 [vi i8, vi (IntKind.wrap .i64 (i8 + 1)), vi (IntKind.wrap .i64 (i8 + 1))] <| Rd <| kB_nrm <| kS_nrm <| Ro <| Rc 3 [vi i8, vi (IntKind.wrap .i64 (i8 + 1)), vi (IntKind.wrap .i64 (i8 + 1))] <| Rd ?_
     obtain rfl := sj h
     exact ⟨rfl, (), Cz⟩
  | false =>
   replace h := ite_f hb_2 h
   refine Rc 6 [vn, vn, vn, vn, vn, vb false] <| Rk <| Cf <| Runs.skip <| kS_nrm <| Sq <| Sq <| Ro <| Rc 2 [vi n2, vb (n2 == 0)] <| Rk ?_
   cases hb_5 : ((n2 == 0) : Bool) with
   | true =>
    replace h := ite_t hb_5 h
    refine Ct <| Sq <| Ro <| Rc 3 [⟨.d (.str s0), []⟩, vi from7, vi i8] ?_
    obtain ⟨z_3, hz_3, h⟩ := bind_s h
    refine Rt (some 31) (.substr true true) [] none [.d (.str s0), .i from7, .i i8] (.d (.str z_3)) [] (cut_strTT hz_3) <| Rc 1 [⟨.d (.str z_3), []⟩] <| Rk <| Runs.ret <| kS_ret <| kB_ret <| kS_ret ?_
    obtain rfl := sj h
    exact ⟨nofun, rfl, (by kernel_rfl)⟩
   | false =>
    replace h := ite_f hb_5 h
    refine Cf <| Runs.skip <| kS_nrm <| Sq <| Ro <| Rc 3 [vi n2, vi (IntKind.wrap .i64 (n2 - 1)), vi (IntKind.wrap .i64 (n2 - 1))] <| Rk <| Ro <| Rc 3 [vi i8, vi (IntKind.wrap .i64 (i8 + 1)), vi (IntKind.wrap .i64 (i8 + 1))] <| Rd <| kB_nrm <| kS_nrm <| Ro <| Rc 3 [vi i8, vi (IntKind.wrap .i64 (i8 + 1)), vi (IntKind.wrap .i64 (i8 + 1))] <| Rd ?_
    obtain rfl := sj h
    exact ⟨rfl, (), Cz⟩
 | false =>
  replace h := ite_f hb_1 h
  refine Cf <| Runs.exit <| kS_exit ?_
  obtain rfl := sj h
  exact ⟨nofun, rfl, (), Cz⟩
theorem hansomref04_part_ok (s_ : (List UInt8)) (mark_ : Int) (n_ : Int) (r : (List UInt8)) (h : hansomref04_part s_ mark_ n_ = some r) : Runs L F51.body ⟨tmOf [.d (.str s_), .y mark_, .i n_] 0, updW (fun _ => none) []⟩ (hansomref04_part_Q s_ mark_ n_ r) := by
 unfold hansomref04_part at h
 refine Sq <| Ro <| Rc 1 [⟨.d (.str ([] : List UInt8)), []⟩] <| Rk <| Sq <| Ro <| Rc 1 [vi 0] <| Rk <| Sq <| Sq <| Ro <| Rc 1 [vi 0] <| Rk <| Runs.block ?_
 obtain ⟨e_1, he_1, h⟩ := bind_s h
 refine Runs.loop (fun x : (Int × Int × Int) => hansomref04_part_l8 s_ mark_ x.1 x.2.1 x.2.2) (fun (x : (Int × Int × Int)) (g : Unit) => hansomref04_part_h8 s_ mark_ x.1 x.2.1 x.2.2) (hansomref04_part_P8 s_ mark_ n_ s_ mark_) (fun x g r hr => hansomref04_part_l8_ok s_ mark_ n_ s_ mark_ x.1 x.2.1 x.2.2  r hr) () he_1 Cz ?_
 rintro ⟨o, s⟩ hp
 cases e_1 with
 | inl e_2 =>
  obtain ⟨ho, hf⟩ := hp
  have ho' : o = .ret := ho
  subst ho'
  refine kB_ret <| kS_ret ?_
  obtain rfl := sj h
  exact ⟨Out.ret_ne, hf⟩
 | inr e_3 =>
  obtain ⟨ho, g_1, hk_1⟩ := hp
  have ho' : o = .exit 0 := ho
  subst ho'
  refine kB_hit <| kS_nrm <| Runs.canon _ hk_1 <| Sq <| Ro <| Rc 1 [⟨.d (.str ([] : List UInt8)), []⟩] <| Rk <| Runs.ret ?_
  cases h
  exact Fq
theorem hansomref04_part_L (s_ : (List UInt8)) (mark_ : Int) (n_ : Int) (r : (List UInt8)) (h : hansomref04_part s_ mark_ n_ = some r) : L 51 [.d (.str s_), .y mark_, .i n_] = some (.d (.str r), [.d (.str s_), .y mark_, .i n_]) := by
 obtain ⟨p, ⟨hne, hf⟩, hr⟩ := hansomref04_part_ok s_ mark_ n_ r h
 obtain ⟨k, hk⟩ := run_of (F := F51) (args := [.d (.str s_), .y mark_, .i n_]) (ap := [.d (.str s_), .y mark_, .i n_]) (bx0 := updW (fun _ => none) []) rfl rfl (by kernel_rfl) ⟨p, ⟨hne, hf⟩, hr⟩
 exact lim_run (k := k) rfl hk
def hansomref04_Entry_Q (op_ : Int) (reg_ : Int) (r : (List UInt8)) (p : Out × St) : Prop := (∀ i, p.1 ≠ .exit i) ∧ finF F50 [.y op_, .i reg_] p.2 = some (.d (.str r), [.y op_, .i reg_])
theorem hansomref04_Entry_ok (op_ : Int) (reg_ : Int) (r : (List UInt8)) (h : hansomref04_Entry op_ reg_ = some r) : Runs L F50.body ⟨tmOf [.y op_, .i reg_] 0, updW (fun _ => none) []⟩ (hansomref04_Entry_Q op_ reg_ r) := by
 unfold hansomref04_Entry at h
 refine Sq <| Ro <| Rc 1 [⟨.d (.str ([] : List UInt8)), []⟩] <| Rk <| Sq <| Ro <| Rc 2 [vy op_, vi (IntKind.wrap .i64 op_)] ?_
 obtain ⟨r_1, hr_1, h⟩ := bind_s h
 have hc_1 := hansomref04_word_L ([65, 68, 68, 58, 69, 98, 58, 71, 98, 32, 65, 68, 68, 58, 69, 118, 58, 71, 118, 32, 65, 68, 68, 58, 71, 98, 58, 69, 98, 32, 65, 68, 68, 58, 71, 118, 58, 69, 118, 32, 65, 68, 68, 58, 65, 76, 58, 73, 98, 32, 65, 68, 68, 58, 65, 88, 58, 73, 118, 32, 80, 85, 83, 72, 58, 90, 115, 32, 80, 79, 80, 58, 90, 115, 32, 79, 82, 58, 69, 98, 58, 71, 98, 32, 79, 82, 58, 69, 118, 58, 71, 118, 32, 79, 82, 58, 71, 98, 58, 69, 98, 32, 79, 82, 58, 71, 118, 58, 69, 118, 32, 79, 82, 58, 65, 76, 58, 73, 98, 32, 79, 82, 58, 65, 88, 58, 73, 118, 32, 80, 85, 83, 72, 58, 90, 115, 32, 45, 32, 65, 68, 67, 58, 69, 98, 58, 71, 98, 32, 65, 68, 67, 58, 69, 118, 58, 71, 118, 32, 65, 68, 67, 58, 71, 98, 58, 69, 98, 32, 65, 68, 67, 58, 71, 118, 58, 69, 118, 32, 65, 68, 67, 58, 65, 76, 58, 73, 98, 32, 65, 68, 67, 58, 65, 88, 58, 73, 118, 32, 80, 85, 83, 72, 58, 90, 115, 32, 80, 79, 80, 58, 90, 115, 32, 83, 66, 66, 58, 69, 98, 58, 71, 98, 32, 83, 66, 66, 58, 69, 118, 58, 71, 118, 32, 83, 66, 66, 58, 71, 98, 58, 69, 98, 32, 83, 66, 66, 58, 71, 118, 58, 69, 118, 32, 83, 66, 66, 58, 65, 76, 58, 73, 98, 32, 83, 66, 66, 58, 65, 88, 58, 73, 118, 32, 80, 85, 83, 72, 58, 90, 115, 32, 80, 79, 80, 58, 90, 115, 32, 65, 78, 68, 58, 69, 98, 58, 71, 98, 32, 65, 78, 68, 58, 69, 118, 58, 71, 118, 32, 65, 78, 68, 58, 71, 98, 58, 69, 98, 32, 65, 78, 68, 58, 71, 118, 58, 69, 118, 32, 65, 78, 68, 58, 65, 76, 58, 73, 98, 32, 65, 78, 68, 58, 65, 88, 58, 73, 118, 32, 45, 32, 68, 65, 65, 32, 83, 85, 66, 58, 69, 98, 58, 71, 98, 32, 83, 85, 66, 58, 69, 118, 58, 71, 118, 32, 83, 85, 66, 58, 71, 98, 58, 69, 98, 32, 83, 85, 66, 58, 71, 118, 58, 69, 118, 32, 83, 85, 66, 58, 65, 76, 58, 73, 98, 32, 83, 85, 66, 58, 65, 88, 58, 73, 118, 32, 45, 32, 68, 65, 83, 32, 88, 79, 82, 58, 69, 98, 58, 71, 98, 32, 88, 79, 82, 58, 69, 118, 58, 71, 118, 32, 88, 79, 82, 58, 71, 98, 58, 69, 98, 32, 88, 79, 82, 58, 71, 118, 58, 69, 118, 32, 88, 79, 82, 58, 65, 76, 58, 73, 98, 32, 88, 79, 82, 58, 65, 88, 58, 73, 118, 32, 45, 32, 65, 65, 65, 32, 67, 77, 80, 58, 69, 98, 58, 71, 98, 32, 67, 77, 80, 58, 69, 118, 58, 71, 118, 32, 67, 77, 80, 58, 71, 98, 58, 69, 98, 32, 67, 77, 80, 58, 71, 118, 58, 69, 118, 32, 67, 77, 80, 58, 65, 76, 58, 73, 98, 32, 67, 77, 80, 58, 65, 88, 58, 73, 118, 32, 45, 32, 65, 65, 83, 32, 73, 78, 67, 58, 90, 118, 32, 73, 78, 67, 58, 90, 118, 32, 73, 78, 67, 58, 90, 118, 32, 73, 78, 67, 58, 90, 118, 32, 73, 78, 67, 58, 90, 118, 32, 73, 78, 67, 58, 90, 118, 32, 73, 78, 67, 58, 90, 118, 32, 73, 78, 67, 58, 90, 118, 32, 68, 69, 67, 58, 90, 118, 32, 68, 69, 67, 58, 90, 118, 32, 68, 69, 67, 58, 90, 118, 32, 68, 69, 67, 58, 90, 118, 32, 68, 69, 67, 58, 90, 118, 32, 68, 69, 67, 58, 90, 118, 32, 68, 69, 67, 58, 90, 118, 32, 68, 69, 67, 58, 90, 118, 32, 80, 85, 83, 72, 58, 90, 118, 32, 80, 85, 83, 72, 58, 90, 118, 32, 80, 85, 83, 72, 58, 90, 118, 32, 80, 85, 83, 72, 58, 90, 118, 32, 80, 85, 83, 72, 58, 90, 118, 32, 80, 85, 83, 72, 58, 90, 118, 32, 80, 85, 83, 72, 58, 90, 118, 32, 80, 85, 83, 72, 58, 90, 118, 32, 80, 79, 80, 58, 90, 118, 32, 80, 79, 80, 58, 90, 118, 32, 80, 79, 80, 58, 90, 118, 32, 80, 79, 80, 58, 90, 118, 32, 80, 79, 80, 58, 90, 118, 32, 80, 79, 80, 58, 90, 118, 32, 80, 79, 80, 58, 90, 118, 32, 80, 79, 80, 58, 90, 118, 32, 45, 32, 45, 32, 45, 32, 45, 32, 45, 32, 45, 32, 45, 32, 45, 32, 45, 32, 45, 32, 45, 32, 45, 32, 45, 32, 45, 32, 45, 32, 45, 32, 74, 79, 58, 74, 98, 32, 74, 78, 79, 58, 74, 98, 32, 74, 66, 58, 74, 98, 32, 74, 78, 66, 58, 74, 98, 32, 74, 90, 58, 74, 98, 32, 74, 78, 90, 58, 74, 98, 32, 74, 66, 69, 58, 74, 98, 32, 74, 65, 58, 74, 98, 32, 74, 83, 58, 74, 98, 32, 74, 78, 83, 58, 74, 98, 32, 74, 80, 58, 74, 98, 32, 74, 78, 80, 58, 74, 98, 32, 74, 76, 58, 74, 98, 32, 74, 71, 69, 58, 74, 98, 32, 74, 76, 69, 58, 74, 98, 32, 74, 71, 58, 74, 98, 32, 47, 65, 68, 68, 58, 69, 98, 58, 73, 98, 47, 79, 82, 58, 69, 98, 58, 73, 98, 47, 65, 68, 67, 58, 69, 98, 58, 73, 98, 47, 83, 66, 66, 58, 69, 98, 58, 73, 98, 47, 65, 78, 68, 58, 69, 98, 58, 73, 98, 47, 83, 85, 66, 58, 69, 98, 58, 73, 98, 47, 88, 79, 82, 58, 69, 98, 58, 73, 98, 47, 67, 77, 80, 58, 69, 98, 58, 73, 98, 32, 47, 65, 68, 68, 58, 69, 118, 58, 73, 118, 47, 79, 82, 58, 69, 118, 58, 73, 118, 47, 65, 68, 67, 58, 69, 118, 58, 73, 118, 47, 83, 66, 66, 58, 69, 118, 58, 73, 118, 47, 65, 78, 68, 58, 69, 118, 58, 73, 118, 47, 83, 85, 66, 58, 69, 118, 58, 73, 118, 47, 88, 79, 82, 58, 69, 118, 58, 73, 118, 47, 67, 77, 80, 58, 69, 118, 58, 73, 118, 32, 45, 32, 47, 65, 68, 68, 58, 69, 118, 58, 73, 115, 47, 45, 47, 65, 68, 67, 58, 69, 118, 58, 73, 115, 47, 83, 66, 66, 58, 69, 118, 58, 73, 115, 47, 45, 47, 83, 85, 66, 58, 69, 118, 58, 73, 115, 47, 45, 47, 67, 77, 80, 58, 69, 118, 58, 73, 115, 32, 84, 69, 83, 84, 58, 69, 98, 58, 71, 98, 32, 84, 69, 83, 84, 58, 69, 118, 58, 71, 118, 32, 88, 67, 72, 71, 58, 69, 98, 58, 71, 98, 32, 88, 67, 72, 71, 58, 69, 118, 58, 71, 118, 32, 77, 79, 86, 58, 69, 98, 58, 71, 98, 32, 77, 79, 86, 58, 69, 118, 58, 71, 118, 32, 77, 79, 86, 58, 71, 98, 58, 69, 98, 32, 77, 79, 86, 58, 71, 118, 58, 69, 118, 32, 47, 77, 79, 86, 58, 69, 118, 58, 83, 119, 47, 77, 79, 86, 58, 69, 118, 58, 83, 119, 47, 77, 79, 86, 58, 69, 118, 58, 83, 119, 47, 77, 79, 86, 58, 69, 118, 58, 83, 119, 47, 45, 47, 45, 47, 45, 47, 45, 32, 76, 69, 65, 58, 71, 118, 58, 77, 32, 47, 77, 79, 86, 58, 83, 119, 58, 69, 118, 47, 45, 47, 77, 79, 86, 58, 83, 119, 58, 69, 118, 47, 77, 79, 86, 58, 83, 119, 58, 69, 118, 47, 45, 47, 45, 47, 45, 47, 45, 32, 47, 80, 79, 80, 58, 69, 118, 47, 45, 47, 45, 47, 45, 47, 45, 47, 45, 47, 45, 47, 45, 32, 88, 67, 72, 71, 58, 65, 88, 58, 90, 118, 32, 88, 67, 72, 71, 58, 65, 88, 58, 90, 118, 32, 88, 67, 72, 71, 58, 65, 88, 58, 90, 118, 32, 88, 67, 72, 71, 58, 65, 88, 58, 90, 118, 32, 88, 67, 72, 71, 58, 65, 88, 58, 90, 118, 32, 88, 67, 72, 71, 58, 65, 88, 58, 90, 118, 32, 88, 67, 72, 71, 58, 65, 88, 58, 90, 118, 32, 88, 67, 72, 71, 58, 65, 88, 58, 90, 118, 32, 67, 66, 87, 32, 67, 87, 68, 32, 67, 65, 76, 76, 70, 58, 65, 112, 32, 87, 65, 73, 84, 32, 80, 85, 83, 72, 70, 32, 80, 79, 80, 70, 32, 83, 65, 72, 70, 32, 76, 65, 72, 70, 32, 77, 79, 86, 58, 65, 76, 58, 79, 98, 32, 77, 79, 86, 58, 65, 88, 58, 79, 118, 32, 77, 79, 86, 58, 79, 98, 58, 65, 76, 32, 77, 79, 86, 58, 79, 118, 58, 65, 88, 32, 77, 79, 86, 83, 66, 32, 77, 79, 86, 83, 87, 32, 67, 77, 80, 83, 66, 32, 67, 77, 80, 83, 87, 32, 84, 69, 83, 84, 58, 65, 76, 58, 73, 98, 32, 84, 69, 83, 84, 58, 65, 88, 58, 73, 118, 32, 83, 84, 79, 83, 66, 32, 83, 84, 79, 83, 87, 32, 76, 79, 68, 83, 66, 32, 76, 79, 68, 83, 87, 32, 83, 67, 65, 83, 66, 32, 83, 67, 65, 83, 87, 32, 77, 79, 86, 58, 90, 98, 58, 73, 98, 32, 77, 79, 86, 58, 90, 98, 58, 73, 98, 32, 77, 79, 86, 58, 90, 98, 58, 73, 98, 32, 77, 79, 86, 58, 90, 98, 58, 73, 98, 32, 77, 79, 86, 58, 90, 98, 58, 73, 98, 32, 77, 79, 86, 58, 90, 98, 58, 73, 98, 32, 77, 79, 86, 58, 90, 98, 58, 73, 98, 32, 77, 79, 86, 58, 90, 98, 58, 73, 98, 32, 77, 79, 86, 58, 90, 118, 58, 73, 118, 32, 77, 79, 86, 58, 90, 118, 58, 73, 118, 32, 77, 79, 86, 58, 90, 118, 58, 73, 118, 32, 77, 79, 86, 58, 90, 118, 58, 73, 118, 32, 77, 79, 86, 58, 90, 118, 58, 73, 118, 32, 77, 79, 86, 58, 90, 118, 58, 73, 118, 32, 77, 79, 86, 58, 90, 118, 58, 73, 118, 32, 77, 79, 86, 58, 90, 118, 58, 73, 118, 32, 45, 32, 45, 32, 82, 69, 84, 58, 73, 118, 32, 82, 69, 84, 32, 76, 69, 83, 58, 71, 118, 58, 77, 112, 32, 76, 68, 83, 58, 71, 118, 58, 77, 112, 32, 47, 77, 79, 86, 58, 69, 98, 58, 73, 98, 47, 45, 47, 45, 47, 45, 47, 45, 47, 45, 47, 45, 47, 45, 32, 47, 77, 79, 86, 58, 69, 118, 58, 73, 118, 47, 45, 47, 45, 47, 45, 47, 45, 47, 45, 47, 45, 47, 45, 32, 45, 32, 45, 32, 82, 69, 84, 70, 58, 73, 118, 32, 82, 69, 84, 70, 32, 73, 78, 84, 58, 84, 104, 114, 101, 101, 32, 73, 78, 84, 58, 73, 98, 32, 73, 78, 84, 79, 32, 73, 82, 69, 84, 32, 47, 82, 79, 76, 58, 69, 98, 58, 79, 110, 101, 47, 82, 79, 82, 58, 69, 98, 58, 79, 110, 101, 47, 82, 67, 76, 58, 69, 98, 58, 79, 110, 101, 47, 82, 67, 82, 58, 69, 98, 58, 79, 110, 101, 47, 83, 72, 76, 58, 69, 98, 58, 79, 110, 101, 47, 83, 72, 82, 58, 69, 98, 58, 79, 110, 101, 47, 45, 47, 83, 65, 82, 58, 69, 98, 58, 79, 110, 101, 32, 47, 82, 79, 76, 58, 69, 118, 58, 79, 110, 101, 47, 82, 79, 82, 58, 69, 118, 58, 79, 110, 101, 47, 82, 67, 76, 58, 69, 118, 58, 79, 110, 101, 47, 82, 67, 82, 58, 69, 118, 58, 79, 110, 101, 47, 83, 72, 76, 58, 69, 118, 58, 79, 110, 101, 47, 83, 72, 82, 58, 69, 118, 58, 79, 110, 101, 47, 45, 47, 83, 65, 82, 58, 69, 118, 58, 79, 110, 101, 32, 47, 82, 79, 76, 58, 69, 98, 58, 67, 76, 47, 82, 79, 82, 58, 69, 98, 58, 67, 76, 47, 82, 67, 76, 58, 69, 98, 58, 67, 76, 47, 82, 67, 82, 58, 69, 98, 58, 67, 76, 47, 83, 72, 76, 58, 69, 98, 58, 67, 76, 47, 83, 72, 82, 58, 69, 98, 58, 67, 76, 47, 45, 47, 83, 65, 82, 58, 69, 98, 58, 67, 76, 32, 47, 82, 79, 76, 58, 69, 118, 58, 67, 76, 47, 82, 79, 82, 58, 69, 118, 58, 67, 76, 47, 82, 67, 76, 58, 69, 118, 58, 67, 76, 47, 82, 67, 82, 58, 69, 118, 58, 67, 76, 47, 83, 72, 76, 58, 69, 118, 58, 67, 76, 47, 83, 72, 82, 58, 69, 118, 58, 67, 76, 47, 45, 47, 83, 65, 82, 58, 69, 118, 58, 67, 76, 32, 65, 65, 77, 58, 73, 98, 32, 65, 65, 68, 58, 73, 98, 32, 45, 32, 88, 76, 65, 84, 32, 69, 83, 67, 58, 69, 118, 32, 69, 83, 67, 58, 69, 118, 32, 69, 83, 67, 58, 69, 118, 32, 69, 83, 67, 58, 69, 118, 32, 69, 83, 67, 58, 69, 118, 32, 69, 83, 67, 58, 69, 118, 32, 69, 83, 67, 58, 69, 118, 32, 69, 83, 67, 58, 69, 118, 32, 76, 79, 79, 80, 78, 90, 58, 74, 98, 32, 76, 79, 79, 80, 90, 58, 74, 98, 32, 76, 79, 79, 80, 58, 74, 98, 32, 74, 67, 88, 90, 58, 74, 98, 32, 73, 78, 58, 65, 76, 58, 73, 98, 32, 73, 78, 58, 65, 88, 58, 73, 98, 32, 79, 85, 84, 58, 73, 98, 58, 65, 76, 32, 79, 85, 84, 58, 73, 98, 58, 65, 88, 32, 67, 65, 76, 76, 58, 74, 118, 32, 74, 77, 80, 58, 74, 118, 32, 74, 77, 80, 70, 58, 65, 112, 32, 74, 77, 80, 58, 74, 98, 32, 73, 78, 58, 65, 76, 58, 68, 88, 32, 73, 78, 58, 65, 88, 58, 68, 88, 32, 79, 85, 84, 58, 68, 88, 58, 65, 76, 32, 79, 85, 84, 58, 68, 88, 58, 65, 88, 32, 45, 32, 45, 32, 45, 32, 45, 32, 72, 76, 84, 32, 67, 77, 67, 32, 47, 84, 69, 83, 84, 58, 69, 98, 58, 73, 98, 47, 45, 47, 78, 79, 84, 58, 69, 98, 47, 78, 69, 71, 58, 69, 98, 47, 77, 85, 76, 58, 69, 98, 47, 73, 77, 85, 76, 58, 69, 98, 47, 68, 73, 86, 58, 69, 98, 47, 73, 68, 73, 86, 58, 69, 98, 32, 47, 84, 69, 83, 84, 58, 69, 118, 58, 73, 118, 47, 45, 47, 78, 79, 84, 58, 69, 118, 47, 78, 69, 71, 58, 69, 118, 47, 77, 85, 76, 58, 69, 118, 47, 73, 77, 85, 76, 58, 69, 118, 47, 68, 73, 86, 58, 69, 118, 47, 73, 68, 73, 86, 58, 69, 118, 32, 67, 76, 67, 32, 83, 84, 67, 32, 67, 76, 73, 32, 83, 84, 73, 32, 67, 76, 68, 32, 83, 84, 68, 32, 47, 73, 78, 67, 58, 69, 98, 47, 68, 69, 67, 58, 69, 98, 47, 45, 47, 45, 47, 45, 47, 45, 47, 45, 47, 45, 32, 47, 73, 78, 67, 58, 69, 118, 47, 68, 69, 67, 58, 69, 118, 47, 67, 65, 76, 76, 58, 69, 118, 47, 67, 65, 76, 76, 70, 58, 77, 112, 47, 74, 77, 80, 58, 69, 118, 47, 74, 77, 80, 70, 58, 77, 112, 47, 80, 85, 83, 72, 58, 69, 118, 47, 45, 32] : List UInt8) (IntKind.wrap .i64 op_) r_1 hr_1
 refine Rt (some 8) (.callf 21) [] none [.d (.str ([65, 68, 68, 58, 69, 98, 58, 71, 98, 32, 65, 68, 68, 58, 69, 118, 58, 71, 118, 32, 65, 68, 68, 58, 71, 98, 58, 69, 98, 32, 65, 68, 68, 58, 71, 118, 58, 69, 118, 32, 65, 68, 68, 58, 65, 76, 58, 73, 98, 32, 65, 68, 68, 58, 65, 88, 58, 73, 118, 32, 80, 85, 83, 72, 58, 90, 115, 32, 80, 79, 80, 58, 90, 115, 32, 79, 82, 58, 69, 98, 58, 71, 98, 32, 79, 82, 58, 69, 118, 58, 71, 118, 32, 79, 82, 58, 71, 98, 58, 69, 98, 32, 79, 82, 58, 71, 118, 58, 69, 118, 32, 79, 82, 58, 65, 76, 58, 73, 98, 32, 79, 82, 58, 65, 88, 58, 73, 118, 32, 80, 85, 83, 72, 58, 90, 115, 32, 45, 32, 65, 68, 67, 58, 69, 98, 58, 71, 98, 32, 65, 68, 67, 58, 69, 118, 58, 71, 118, 32, 65, 68, 67, 58, 71, 98, 58, 69, 98, 32, 65, 68, 67, 58, 71, 118, 58, 69, 118, 32, 65, 68, 67, 58, 65, 76, 58, 73, 98, 32, 65, 68, 67, 58, 65, 88, 58, 73, 118, 32, 80, 85, 83, 72, 58, 90, 115, 32, 80, 79, 80, 58, 90, 115, 32, 83, 66, 66, 58, 69, 98, 58, 71, 98, 32, 83, 66, 66, 58, 69, 118, 58, 71, 118, 32, 83, 66, 66, 58, 71, 98, 58, 69, 98, 32, 83, 66, 66, 58, 71, 118, 58, 69, 118, 32, 83, 66, 66, 58, 65, 76, 58, 73, 98, 32, 83, 66, 66, 58, 65, 88, 58, 73, 118, 32, 80, 85, 83, 72, 58, 90, 115, 32, 80, 79, 80, 58, 90, 115, 32, 65, 78, 68, 58, 69, 98, 58, 71, 98, 32, 65, 78, 68, 58, 69, 118, 58, 71, 118, 32, 65, 78, 68, 58, 71, 98, 58, 69, 98, 32, 65, 78, 68, 58, 71, 118, 58, 69, 118, 32, 65, 78, 68, 58, 65, 76, 58, 73, 98, 32, 65, 78, 68, 58, 65, 88, 58, 73, 118, 32, 45, 32, 68, 65, 65, 32, 83, 85, 66, 58, 69, 98, 58, 71, 98, 32, 83, 85, 66, 58, 69, 118, 58, 71, 118, 32, 83, 85, 66, 58, 71, 98, 58, 69, 98, 32, 83, 85, 66, 58, 71, 118, 58, 69, 118, 32, 83, 85, 66, 58, 65, 76, 58, 73, 98, 32, 83, 85, 66, 58, 65, 88, 58, 73, 118, 32, 45, 32, 68, 65, 83, 32, 88, 79, 82, 58, 69, 98, 58, 71, 98, 32, 88, 79, 82, 58, 69, 118, 58, 71, 118, 32, 88, 79, 82, 58, 71, 98, 58, 69, 98, 32, 88, 79, 82, 58, 71, 118, 58, 69, 118, 32, 88, 79, 82, 58, 65, 76, 58, 73, 98, 32, 88, 79, 82, 58, 65, 88, 58, 73, 118, 32, 45, 32, 65, 65, 65, 32, 67, 77, 80, 58, 69, 98, 58, 71, 98, 32, 67, 77, 80, 58, 69, 118, 58, 71, 118, 32, 67, 77, 80, 58, 71, 98, 58, 69, 98, 32, 67, 77, 80, 58, 71, 118, 58, 69, 118, 32, 67, 77, 80, 58, 65, 76, 58, 73, 98, 32, 67, 77, 80, 58, 65, 88, 58, 73, 118, 32, 45, 32, 65, 65, 83, 32, 73, 78, 67, 58, 90, 118, 32, 73, 78, 67, 58, 90, 118, 32, 73, 78, 67, 58, 90, 118, 32, 73, 78, 67, 58, 90, 118, 32, 73, 78, 67, 58, 90, 118, 32, 73, 78, 67, 58, 90, 118, 32, 73, 78, 67, 58, 90, 118, 32, 73, 78, 67, 58, 90, 118, 32, 68, 69, 67, 58, 90, 118, 32, 68, 69, 67, 58, 90, 118, 32, 68, 69, 67, 58, 90, 118, 32, 68, 69, 67, 58, 90, 118, 32, 68, 69, 67, 58, 90, 118, 32, 68, 69, 67, 58, 90, 118, 32, 68, 69, 67, 58, 90, 118, 32, 68, 69, 67, 58, 90, 118, 32, 80, 85, 83, 72, 58, 90, 118, 32, 80, 85, 83, 72, 58, 90, 118, 32, 80, 85, 83, 72, 58, 90, 118, 32, 80, 85, 83, 72, 58, 90, 118, 32, 80, 85, 83, 72, 58, 90, 118, 32, 80, 85, 83, 72, 58, 90, 118, 32, 80, 85, 83, 72, 58, 90, 118, 32, 80, 85, 83, 72, 58, 90, 118, 32, 80, 79, 80, 58, 90, 118, 32, 80, 79, 80, 58, 90, 118, 32, 80, 79, 80, 58, 90, 118, 32, 80, 79, 80, 58, 90, 118, 32, 80, 79, 80, 58, 90, 118, 32, 80, 79, 80, 58, 90, 118, 32, 80, 79, 80, 58, 90, 118, 32, 80, 79, 80, 58, 90, 118, 32, 45, 32, 45, 32, 45, 32, 45, 32, 45, 32, 45, 32, 45, 32, 45, 32, 45, 32, 45, 32, 45, 32, 45, 32, 45, 32, 45, 32, 45, 32, 45, 32, 74, 79, 58, 74, 98, 32, 74, 78, 79, 58, 74, 98, 32, 74, 66, 58, 74, 98, 32, 74, 78, 66, 58, 74, 98, 32, 74, 90, 58, 74, 98, 32, 74, 78, 90, 58, 74, 98, 32, 74, 66, 69, 58, 74, 98, 32, 74, 65, 58, 74, 98, 32, 74, 83, 58, 74, 98, 32, 74, 78, 83, 58, 74, 98, 32, 74, 80, 58, 74, 98, 32, 74, 78, 80, 58, 74, 98, 32, 74, 76, 58, 74, 98, 32, 74, 71, 69, 58, 74, 98, 32, 74, 76, 69, 58, 74, 98, 32, 74, 71, 58, 74, 98, 32, 47, 65, 68, 68, 58, 69, 98, 58, 73, 98, 47, 79, 82, 58, 69, 98, 58, 73, 98, 47, 65, 68, 67, 58, 69, 98, 58, 73, 98, 47, 83, 66, 66, 58, 69, 98, 58, 73, 98, 47, 65, 78, 68, 58, 69, 98, 58, 73, 98, 47, 83, 85, 66, 58, 69, 98, 58, 73, 98, 47, 88, 79, 82, 58, 69, 98, 58, 73, 98, 47, 67, 77, 80, 58, 69, 98, 58, 73, 98, 32, 47, 65, 68, 68, 58, 69, 118, 58, 73, 118, 47, 79, 82, 58, 69, 118, 58, 73, 118, 47, 65, 68, 67, 58, 69, 118, 58, 73, 118, 47, 83, 66, 66, 58, 69, 118, 58, 73, 118, 47, 65, 78, 68, 58, 69, 118, 58, 73, 118, 47, 83, 85, 66, 58, 69, 118, 58, 73, 118, 47, 88, 79, 82, 58, 69, 118, 58, 73, 118, 47, 67, 77, 80, 58, 69, 118, 58, 73, 118, 32, 45, 32, 47, 65, 68, 68, 58, 69, 118, 58, 73, 115, 47, 45, 47, 65, 68, 67, 58, 69, 118, 58, 73, 115, 47, 83, 66, 66, 58, 69, 118, 58, 73, 115, 47, 45, 47, 83, 85, 66, 58, 69, 118, 58, 73, 115, 47, 45, 47, 67, 77, 80, 58, 69, 118, 58, 73, 115, 32, 84, 69, 83, 84, 58, 69, 98, 58, 71, 98, 32, 84, 69, 83, 84, 58, 69, 118, 58, 71, 118, 32, 88, 67, 72, 71, 58, 69, 98, 58, 71, 98, 32, 88, 67, 72, 71, 58, 69, 118, 58, 71, 118, 32, 77, 79, 86, 58, 69, 98, 58, 71, 98, 32, 77, 79, 86, 58, 69, 118, 58, 71, 118, 32, 77, 79, 86, 58, 71, 98, 58, 69, 98, 32, 77, 79, 86, 58, 71, 118, 58, 69, 118, 32, 47, 77, 79, 86, 58, 69, 118, 58, 83, 119, 47, 77, 79, 86, 58, 69, 118, 58, 83, 119, 47, 77, 79, 86, 58, 69, 118, 58, 83, 119, 47, 77, 79, 86, 58, 69, 118, 58, 83, 119, 47, 45, 47, 45, 47, 45, 47, 45, 32, 76, 69, 65, 58, 71, 118, 58, 77, 32, 47, 77, 79, 86, 58, 83, 119, 58, 69, 118, 47, 45, 47, 77, 79, 86, 58, 83, 119, 58, 69, 118, 47, 77, 79, 86, 58, 83, 119, 58, 69, 118, 47, 45, 47, 45, 47, 45, 47, 45, 32, 47, 80, 79, 80, 58, 69, 118, 47, 45, 47, 45, 47, 45, 47, 45, 47, 45, 47, 45, 47, 45, 32, 88, 67, 72, 71, 58, 65, 88, 58, 90, 118, 32, 88, 67, 72, 71, 58, 65, 88, 58, 90, 118, 32, 88, 67, 72, 71, 58, 65, 88, 58, 90, 118, 32, 88, 67, 72, 71, 58, 65, 88, 58, 90, 118, 32, 88, 67, 72, 71, 58, 65, 88, 58, 90, 118, 32, 88, 67, 72, 71, 58, 65, 88, 58, 90, 118, 32, 88, 67, 72, 71, 58, 65, 88, 58, 90, 118, 32, 88, 67, 72, 71, 58, 65, 88, 58, 90, 118, 32, 67, 66, 87, 32, 67, 87, 68, 32, 67, 65, 76, 76, 70, 58, 65, 112, 32, 87, 65, 73, 84, 32, 80, 85, 83, 72, 70, 32, 80, 79, 80, 70, 32, 83, 65, 72, 70, 32, 76, 65, 72, 70, 32, 77, 79, 86, 58, 65, 76, 58, 79, 98, 32, 77, 79, 86, 58, 65, 88, 58, 79, 118, 32, 77, 79, 86, 58, 79, 98, 58, 65, 76, 32, 77, 79, 86, 58, 79, 118, 58, 65, 88, 32, 77, 79, 86, 83, 66, 32, 77, 79, 86, 83, 87, 32, 67, 77, 80, 83, 66, 32, 67, 77, 80, 83, 87, 32, 84, 69, 83, 84, 58, 65, 76, 58, 73, 98, 32, 84, 69, 83, 84, 58, 65, 88, 58, 73, 118, 32, 83, 84, 79, 83, 66, 32, 83, 84, 79, 83, 87, 32, 76, 79, 68, 83, 66, 32, 76, 79, 68, 83, 87, 32, 83, 67, 65, 83, 66, 32, 83, 67, 65, 83, 87, 32, 77, 79, 86, 58, 90, 98, 58, 73, 98, 32, 77, 79, 86, 58, 90, 98, 58, 73, 98, 32, 77, 79, 86, 58, 90, 98, 58, 73, 98, 32, 77, 79, 86, 58, 90, 98, 58, 73, 98, 32, 77, 79, 86, 58, 90, 98, 58, 73, 98, 32, 77, 79, 86, 58, 90, 98, 58, 73, 98, 32, 77, 79, 86, 58, 90, 98, 58, 73, 98, 32, 77, 79, 86, 58, 90, 98, 58, 73, 98, 32, 77, 79, 86, 58, 90, 118, 58, 73, 118, 32, 77, 79, 86, 58, 90, 118, 58, 73, 118, 32, 77, 79, 86, 58, 90, 118, 58, 73, 118, 32, 77, 79, 86, 58, 90, 118, 58, 73, 118, 32, 77, 79, 86, 58, 90, 118, 58, 73, 118, 32, 77, 79, 86, 58, 90, 118, 58, 73, 118, 32, 77, 79, 86, 58, 90, 118, 58, 73, 118, 32, 77, 79, 86, 58, 90, 118, 58, 73, 118, 32, 45, 32, 45, 32, 82, 69, 84, 58, 73, 118, 32, 82, 69, 84, 32, 76, 69, 83, 58, 71, 118, 58, 77, 112, 32, 76, 68, 83, 58, 71, 118, 58, 77, 112, 32, 47, 77, 79, 86, 58, 69, 98, 58, 73, 98, 47, 45, 47, 45, 47, 45, 47, 45, 47, 45, 47, 45, 47, 45, 32, 47, 77, 79, 86, 58, 69, 118, 58, 73, 118, 47, 45, 47, 45, 47, 45, 47, 45, 47, 45, 47, 45, 47, 45, 32, 45, 32, 45, 32, 82, 69, 84, 70, 58, 73, 118, 32, 82, 69, 84, 70, 32, 73, 78, 84, 58, 84, 104, 114, 101, 101, 32, 73, 78, 84, 58, 73, 98, 32, 73, 78, 84, 79, 32, 73, 82, 69, 84, 32, 47, 82, 79, 76, 58, 69, 98, 58, 79, 110, 101, 47, 82, 79, 82, 58, 69, 98, 58, 79, 110, 101, 47, 82, 67, 76, 58, 69, 98, 58, 79, 110, 101, 47, 82, 67, 82, 58, 69, 98, 58, 79, 110, 101, 47, 83, 72, 76, 58, 69, 98, 58, 79, 110, 101, 47, 83, 72, 82, 58, 69, 98, 58, 79, 110, 101, 47, 45, 47, 83, 65, 82, 58, 69, 98, 58, 79, 110, 101, 32, 47, 82, 79, 76, 58, 69, 118, 58, 79, 110, 101, 47, 82, 79, 82, 58, 69, 118, 58, 79, 110, 101, 47, 82, 67, 76, 58, 69, 118, 58, 79, 110, 101, 47, 82, 67, 82, 58, 69, 118, 58, 79, 110, 101, 47, 83, 72, 76, 58, 69, 118, 58, 79, 110, 101, 47, 83, 72, 82, 58, 69, 118, 58, 79, 110, 101, 47, 45, 47, 83, 65, 82, 58, 69, 118, 58, 79, 110, 101, 32, 47, 82, 79, 76, 58, 69, 98, 58, 67, 76, 47, 82, 79, 82, 58, 69, 98, 58, 67, 76, 47, 82, 67, 76, 58, 69, 98, 58, 67, 76, 47, 82, 67, 82, 58, 69, 98, 58, 67, 76, 47, 83, 72, 76, 58, 69, 98, 58, 67, 76, 47, 83, 72, 82, 58, 69, 98, 58, 67, 76, 47, 45, 47, 83, 65, 82, 58, 69, 98, 58, 67, 76, 32, 47, 82, 79, 76, 58, 69, 118, 58, 67, 76, 47, 82, 79, 82, 58, 69, 118, 58, 67, 76, 47, 82, 67, 76, 58, 69, 118, 58, 67, 76, 47, 82, 67, 82, 58, 69, 118, 58, 67, 76, 47, 83, 72, 76, 58, 69, 118, 58, 67, 76, 47, 83, 72, 82, 58, 69, 118, 58, 67, 76, 47, 45, 47, 83, 65, 82, 58, 69, 118, 58, 67, 76, 32, 65, 65, 77, 58, 73, 98, 32, 65, 65, 68, 58, 73, 98, 32, 45, 32, 88, 76, 65, 84, 32, 69, 83, 67, 58, 69, 118, 32, 69, 83, 67, 58, 69, 118, 32, 69, 83, 67, 58, 69, 118, 32, 69, 83, 67, 58, 69, 118, 32, 69, 83, 67, 58, 69, 118, 32, 69, 83, 67, 58, 69, 118, 32, 69, 83, 67, 58, 69, 118, 32, 69, 83, 67, 58, 69, 118, 32, 76, 79, 79, 80, 78, 90, 58, 74, 98, 32, 76, 79, 79, 80, 90, 58, 74, 98, 32, 76, 79, 79, 80, 58, 74, 98, 32, 74, 67, 88, 90, 58, 74, 98, 32, 73, 78, 58, 65, 76, 58, 73, 98, 32, 73, 78, 58, 65, 88, 58, 73, 98, 32, 79, 85, 84, 58, 73, 98, 58, 65, 76, 32, 79, 85, 84, 58, 73, 98, 58, 65, 88, 32, 67, 65, 76, 76, 58, 74, 118, 32, 74, 77, 80, 58, 74, 118, 32, 74, 77, 80, 70, 58, 65, 112, 32, 74, 77, 80, 58, 74, 98, 32, 73, 78, 58, 65, 76, 58, 68, 88, 32, 73, 78, 58, 65, 88, 58, 68, 88, 32, 79, 85, 84, 58, 68, 88, 58, 65, 76, 32, 79, 85, 84, 58, 68, 88, 58, 65, 88, 32, 45, 32, 45, 32, 45, 32, 45, 32, 72, 76, 84, 32, 67, 77, 67, 32, 47, 84, 69, 83, 84, 58, 69, 98, 58, 73, 98, 47, 45, 47, 78, 79, 84, 58, 69, 98, 47, 78, 69, 71, 58, 69, 98, 47, 77, 85, 76, 58, 69, 98, 47, 73, 77, 85, 76, 58, 69, 98, 47, 68, 73, 86, 58, 69, 98, 47, 73, 68, 73, 86, 58, 69, 98, 32, 47, 84, 69, 83, 84, 58, 69, 118, 58, 73, 118, 47, 45, 47, 78, 79, 84, 58, 69, 118, 47, 78, 69, 71, 58, 69, 118, 47, 77, 85, 76, 58, 69, 118, 47, 73, 77, 85, 76, 58, 69, 118, 47, 68, 73, 86, 58, 69, 118, 47, 73, 68, 73, 86, 58, 69, 118, 32, 67, 76, 67, 32, 83, 84, 67, 32, 67, 76, 73, 32, 83, 84, 73, 32, 67, 76, 68, 32, 83, 84, 68, 32, 47, 73, 78, 67, 58, 69, 98, 47, 68, 69, 67, 58, 69, 98, 47, 45, 47, 45, 47, 45, 47, 45, 47, 45, 47, 45, 32, 47, 73, 78, 67, 58, 69, 118, 47, 68, 69, 67, 58, 69, 118, 47, 67, 65, 76, 76, 58, 69, 118, 47, 67, 65, 76, 76, 70, 58, 77, 112, 47, 74, 77, 80, 58, 69, 118, 47, 74, 77, 80, 70, 58, 77, 112, 47, 80, 85, 83, 72, 58, 69, 118, 47, 45, 32] : List UInt8)), .i (IntKind.wrap .i64 op_)] (.d (.str r_1)) [] (cc hc_1) ?_
 refine Rc 1 [⟨.d (.str r_1), []⟩] <| Rk <| Sq <| Sq <| Ro <| Rc 1 [⟨.d (.str r_1), []⟩] <| Rt (some 10) .lenS [] none [.d (.str r_1)] (.i (r_1.length : Int)) [] (cut_lenS _) <| Rc 2 [vb (decide ((r_1.length : Int) > 0)), vb (decide ((r_1.length : Int) > 0))] ?_
 cases hb_1 : ((decide ((r_1.length : Int) > 0)) : Bool) with
 | true =>
  replace h := ite_t hb_1 h
  refine Rc 1 [⟨.d (.str r_1), []⟩] ?_
  obtain ⟨z_1, hz_1, h⟩ := bind_s h
  refine Rt (some 14) .indexS [] none [.d (.str r_1), .i 0] (.y (z_1.toNat : Int)) [] (cut_ixS hz_1) <| Rc 2 [vb ((z_1.toNat : Int) == 47), vb ((z_1.toNat : Int) == 47)] <| Rk ?_
  cases hb_2 : (((z_1.toNat : Int) == 47) : Bool) with
  | true =>
   replace h := ite_t hb_2 h
   refine Ct <| Sq <| Ro <| Rc 4 [⟨.d (.str r_1), []⟩, vi reg_, vi (bitsOp .and .i64 reg_ 7), vi (IntKind.wrap .i64 ((bitsOp .and .i64 reg_ 7) + 1))] ?_
   obtain ⟨r_2, hr_2, h⟩ := bind_s h
   have hc_2 := hansomref04_part_L r_1 47 (IntKind.wrap .i64 ((bitsOp .and .i64 reg_ 7) + 1)) r_2 hr_2
   refine Rt (some 21) (.callf 51) [] none [.d (.str r_1), .y 47, .i (IntKind.wrap .i64 ((bitsOp .and .i64 reg_ 7) + 1))] (.d (.str r_2)) [] (cc hc_2) <| Rc 1 [⟨.d (.str r_2), []⟩] <| Rk <| Runs.ret <| kS_ret ?_
   cases h
   exact Fq
  | false =>
   replace h := ite_f hb_2 h
   refine Cf <| Runs.skip <| kS_nrm <| Sq <| Ro <| Rc 2 [⟨.d (.str r_1), []⟩, ⟨.d (.str r_1), []⟩] <| Rk <| Runs.ret ?_
   cases h
   exact Fq
 | false =>
  replace h := ite_f hb_1 h
  refine Rc 4 [vn, vn, vn, vb false] <| Rk <| Cf <| Runs.skip <| kS_nrm <| Sq <| Ro <| Rc 2 [⟨.d (.str r_1), []⟩, ⟨.d (.str r_1), []⟩] <| Rk <| Runs.ret ?_
  cases h
  exact Fq
theorem hansomref04_Entry_L (op_ : Int) (reg_ : Int) (r : (List UInt8)) (h : hansomref04_Entry op_ reg_ = some r) : L 50 [.y op_, .i reg_] = some (.d (.str r), [.y op_, .i reg_]) := by
 obtain ⟨p, ⟨hne, hf⟩, hr⟩ := hansomref04_Entry_ok op_ reg_ r h
 obtain ⟨k, hk⟩ := run_of (F := F50) (args := [.y op_, .i reg_]) (ap := [.y op_, .i reg_]) (bx0 := updW (fun _ => none) []) rfl rfl (by kernel_rfl) ⟨p, ⟨hne, hf⟩, hr⟩
 exact lim_run (k := k) rfl hk
def hansomref04_find_h8 (s0 : (List UInt8)) (w1 : (List UInt8)) (n5 : Int) (from6 : Int) (i7 : Int) : St := ⟨tab [(0, .d (.str s0)), (1, .d (.str w1)), (5, .i n5), (6, .i from6), (7, .i i7)], tabB []⟩
def hansomref04_find_h35  : St := ⟨tab [], tabB []⟩
def hansomref04_find_Q (s_ : (List UInt8)) (w_ : (List UInt8)) (r : Int) (p : Out × St) : Prop := (∀ i, p.1 ≠ .exit i) ∧ finF F23 [.d (.str s_), .d (.str w_)] p.2 = some (.i r, [.d (.str s_), .d (.str w_)])
def hansomref04_find_P8 (s_ : (List UInt8)) (w_ : (List UInt8)) (s0 : (List UInt8)) (w1 : (List UInt8)) (e : (Int ⊕ Unit)) (p : Out × St) : Prop := match e with
 | .inl x => p.1 = .ret ∧ finF F23 [.d (.str s_), .d (.str w_)] p.2 = some (.i x, [.d (.str s_), .d (.str w_)])
 | .inr x => p.1 = .exit 0 ∧ ∃ g : Unit, Canon [] [] [] p.2 (hansomref04_find_h35)
theorem hansomref04_find_l8_ok (s_ : (List UInt8)) (w_ : (List UInt8)) (s0 : (List UInt8)) (w1 : (List UInt8)) (n5 : Int) (from6 : Int) (i7 : Int) (r : (Lp (Int × Int × Int) (Int ⊕ Unit))) (h : hansomref04_find_l8 s0 w1 n5 from6 i7 = some r) : Runs L F23l8 (hansomref04_find_h8 s0 w1 n5 from6 i7) (LQ [] [0, 1, 5, 6, 7] [] (fun (x : (Int × Int × Int)) (g : Unit) => hansomref04_find_h8 s0 w1 x.1 x.2.1 x.2.2) (hansomref04_find_P8 s_ w_ s0 w1) r) := by
 unfold hansomref04_find_l8 at h
 refine Sq <| Sq <| Ro <| Rc 2 [vi i7, ⟨.d (.str s0), []⟩] <| Rt (some 10) .lenS [] none [.d (.str s0)] (.i (s0.length : Int)) [] (cut_lenS _) <| Rc 1 [vb (decide (i7 < (s0.length : Int)))] <| Rk ?_
 cases hb_1 : ((decide (i7 < (s0.length : Int))) : Bool) with
 | true =>
  replace h := ite_t hb_1 h
  refine Ct <| Runs.skip <| kS_nrm <| Sq <| Runs.block <| Sq <| Sq <| Ro <| Rc 2 [⟨.d (.str s0), []⟩, vi i7] ?_
  obtain ⟨z_1, hz_1, h⟩ := bind_s h
  refine Rt (some 16) .indexS [] none [.d (.str s0), .i i7] (.y (z_1.toNat : Int)) [] (cut_ixS hz_1) <| Rc 1 [vb ((z_1.toNat : Int) != 32)] <| Rk ?_
  cases hb_2 : (((z_1.toNat : Int) != 32) : Bool) with
  | true =>
   replace h := ite_t hb_2 h
   refine Ct <| Runs.exit <| kS_exit <| kB_hit <| kS_nrm <| Ro <| Rc 3 [vi i7, vi (IntKind.wrap .i64 (i7 + 1)), vi (IntKind.wrap .i64 (i7 + 1))] <| Rd ?_
   obtain rfl := sj h
   exact ⟨rfl, (), Cz⟩
  | false =>
   replace h := ite_f hb_2 h
   refine Cf <| Runs.skip <| kS_nrm <| Sq <| Sq <| Ro <| Rc 3 [⟨.d (.str s0), []⟩, vi from6, vi i7] ?_
   obtain ⟨z_2, hz_2, h⟩ := bind_s h
   refine Rt (some 21) (.substr true true) [] none [.d (.str s0), .i from6, .i i7] (.d (.str z_2)) [] (cut_strTT hz_2) <| Rc 2 [⟨.d (.str w1), []⟩, vb (z_2 == w1)] <| Rk ?_
   cases hb_3 : ((z_2 == w1) : Bool) with
   | true =>
    replace h := ite_t hb_3 h
    refine Ct <| Sq <| Ro <| Rc 2 [vi n5, vi n5] <| Rk <| Runs.ret <| kS_ret <| kB_ret <| kS_ret ?_
    obtain rfl := sj h
    exact ⟨nofun, rfl, (by kernel_rfl)⟩
   | false =>
    replace h := ite_f hb_3 h
    refine Cf <| Runs.skip <| kS_nrm <| Sq <| Ro <| Rc 3 [vi n5, vi (IntKind.wrap .i64 (n5 + 1)), vi (IntKind.wrap .i64 (n5 + 1))] <| Rk <| Ro <| Rc 3 [vi i7, vi (IntKind.wrap .i64 (i7 + 1)), vi (IntKind.wrap .i64 (i7 + 1))] <| Rd <| kB_nrm <| kS_nrm <| Ro <| Rc 3 [vi i7, vi (IntKind.wrap .i64 (i7 + 1)), vi (IntKind.wrap .i64 (i7 + 1))] <| Rd ?_
    obtain rfl := sj h
    exact ⟨rfl, (), Cz⟩
 | false =>
  replace h := ite_f hb_1 h
  refine Cf <| Runs.exit <| kS_exit ?_
  obtain rfl := sj h
  exact ⟨nofun, rfl, (), Cz⟩
theorem hansomref04_find_ok (s_ : (List UInt8)) (w_ : (List UInt8)) (r : Int) (h : hansomref04_find s_ w_ = some r) : Runs L F23.body ⟨tmOf [.d (.str s_), .d (.str w_)] 0, updW (fun _ => none) []⟩ (hansomref04_find_Q s_ w_ r) := by
 unfold hansomref04_find at h
 refine Sq <| Ro <| Rc 1 [vi 0] <| Rk <| Sq <| Ro <| Rc 2 [vi 1, vi 0] <| Rk <| Sq <| Sq <| Ro <| Rc 1 [vi 0] <| Rk <| Runs.block ?_
 obtain ⟨e_1, he_1, h⟩ := bind_s h
 refine Runs.loop (fun x : (Int × Int × Int) => hansomref04_find_l8 s_ w_ x.1 x.2.1 x.2.2) (fun (x : (Int × Int × Int)) (g : Unit) => hansomref04_find_h8 s_ w_ x.1 x.2.1 x.2.2) (hansomref04_find_P8 s_ w_ s_ w_) (fun x g r hr => hansomref04_find_l8_ok s_ w_ s_ w_ x.1 x.2.1 x.2.2  r hr) () he_1 Cz ?_
 rintro ⟨o, s⟩ hp
 cases e_1 with
 | inl e_2 =>
  obtain ⟨ho, hf⟩ := hp
  have ho' : o = .ret := ho
  subst ho'
  refine kB_ret <| kS_ret ?_
  obtain rfl := sj h
  exact ⟨Out.ret_ne, hf⟩
 | inr e_3 =>
  obtain ⟨ho, g_1, hk_1⟩ := hp
  have ho' : o = .exit 0 := ho
  subst ho'
  refine kB_hit <| kS_nrm <| Runs.canon _ hk_1 <| Sq <| Ro <| Rc 1 [vi 0] <| Rk <| Runs.ret ?_
  cases h
  exact Fq
theorem hansomref04_find_L (s_ : (List UInt8)) (w_ : (List UInt8)) (r : Int) (h : hansomref04_find s_ w_ = some r) : L 23 [.d (.str s_), .d (.str w_)] = some (.i r, [.d (.str s_), .d (.str w_)]) := by
 obtain ⟨p, ⟨hne, hf⟩, hr⟩ := hansomref04_find_ok s_ w_ r h
 obtain ⟨k, hk⟩ := run_of (F := F23) (args := [.d (.str s_), .d (.str w_)]) (ap := [.d (.str s_), .d (.str w_)]) (bx0 := updW (fun _ => none) []) rfl rfl (by kernel_rfl) ⟨p, ⟨hne, hf⟩, hr⟩
 exact lim_run (k := k) rfl hk
def hansomref04_Find_Q (s_ : (List UInt8)) (r : Int) (p : Out × St) : Prop := (∀ i, p.1 ≠ .exit i) ∧ finF F15 [.d (.str s_)] p.2 = some (.i r, [.d (.str s_)])
theorem hansomref04_Find_ok (s_ : (List UInt8)) (r : Int) (h : hansomref04_Find s_ = some r) : Runs L F15.body ⟨tmOf [.d (.str s_)] 0, updW (fun _ => none) []⟩ (hansomref04_Find_Q s_ r) := by
 unfold hansomref04_Find at h
 refine Sq <| Ro <| Rc 1 [vi 0] <| Rk <| Sq <| Ro <| Rc 1 [⟨.d (.str s_), []⟩] ?_
 obtain ⟨r_1, hr_1, h⟩ := bind_s h
 have hc_1 := hansomref04_find_L ([65, 68, 68, 32, 79, 82, 32, 65, 68, 67, 32, 83, 66, 66, 32, 65, 78, 68, 32, 83, 85, 66, 32, 88, 79, 82, 32, 67, 77, 80, 32, 80, 85, 83, 72, 32, 80, 79, 80, 32, 68, 65, 65, 32, 68, 65, 83, 32, 65, 65, 65, 32, 65, 65, 83, 32, 73, 78, 67, 32, 68, 69, 67, 32, 74, 79, 32, 74, 78, 79, 32, 74, 66, 32, 74, 78, 66, 32, 74, 90, 32, 74, 78, 90, 32, 74, 66, 69, 32, 74, 65, 32, 74, 83, 32, 74, 78, 83, 32, 74, 80, 32, 74, 78, 80, 32, 74, 76, 32, 74, 71, 69, 32, 74, 76, 69, 32, 74, 71, 32, 84, 69, 83, 84, 32, 88, 67, 72, 71, 32, 77, 79, 86, 32, 76, 69, 65, 32, 67, 66, 87, 32, 67, 87, 68, 32, 67, 65, 76, 76, 32, 67, 65, 76, 76, 70, 32, 87, 65, 73, 84, 32, 80, 85, 83, 72, 70, 32, 80, 79, 80, 70, 32, 83, 65, 72, 70, 32, 76, 65, 72, 70, 32, 77, 79, 86, 83, 66, 32, 77, 79, 86, 83, 87, 32, 67, 77, 80, 83, 66, 32, 67, 77, 80, 83, 87, 32, 83, 84, 79, 83, 66, 32, 83, 84, 79, 83, 87, 32, 76, 79, 68, 83, 66, 32, 76, 79, 68, 83, 87, 32, 83, 67, 65, 83, 66, 32, 83, 67, 65, 83, 87, 32, 82, 69, 84, 32, 82, 69, 84, 70, 32, 76, 69, 83, 32, 76, 68, 83, 32, 73, 78, 84, 32, 73, 78, 84, 79, 32, 73, 82, 69, 84, 32, 82, 79, 76, 32, 82, 79, 82, 32, 82, 67, 76, 32, 82, 67, 82, 32, 83, 72, 76, 32, 83, 72, 82, 32, 83, 65, 82, 32, 65, 65, 77, 32, 65, 65, 68, 32, 88, 76, 65, 84, 32, 69, 83, 67, 32, 76, 79, 79, 80, 78, 90, 32, 76, 79, 79, 80, 90, 32, 76, 79, 79, 80, 32, 74, 67, 88, 90, 32, 73, 78, 32, 79, 85, 84, 32, 74, 77, 80, 32, 74, 77, 80, 70, 32, 72, 76, 84, 32, 67, 77, 67, 32, 78, 79, 84, 32, 78, 69, 71, 32, 77, 85, 76, 32, 73, 77, 85, 76, 32, 68, 73, 86, 32, 73, 68, 73, 86, 32, 67, 76, 67, 32, 83, 84, 67, 32, 67, 76, 73, 32, 83, 84, 73, 32, 67, 76, 68, 32, 83, 84, 68, 32] : List UInt8) s_ r_1 hr_1
 refine Rt (some 4) (.callf 23) [] none [.d (.str ([65, 68, 68, 32, 79, 82, 32, 65, 68, 67, 32, 83, 66, 66, 32, 65, 78, 68, 32, 83, 85, 66, 32, 88, 79, 82, 32, 67, 77, 80, 32, 80, 85, 83, 72, 32, 80, 79, 80, 32, 68, 65, 65, 32, 68, 65, 83, 32, 65, 65, 65, 32, 65, 65, 83, 32, 73, 78, 67, 32, 68, 69, 67, 32, 74, 79, 32, 74, 78, 79, 32, 74, 66, 32, 74, 78, 66, 32, 74, 90, 32, 74, 78, 90, 32, 74, 66, 69, 32, 74, 65, 32, 74, 83, 32, 74, 78, 83, 32, 74, 80, 32, 74, 78, 80, 32, 74, 76, 32, 74, 71, 69, 32, 74, 76, 69, 32, 74, 71, 32, 84, 69, 83, 84, 32, 88, 67, 72, 71, 32, 77, 79, 86, 32, 76, 69, 65, 32, 67, 66, 87, 32, 67, 87, 68, 32, 67, 65, 76, 76, 32, 67, 65, 76, 76, 70, 32, 87, 65, 73, 84, 32, 80, 85, 83, 72, 70, 32, 80, 79, 80, 70, 32, 83, 65, 72, 70, 32, 76, 65, 72, 70, 32, 77, 79, 86, 83, 66, 32, 77, 79, 86, 83, 87, 32, 67, 77, 80, 83, 66, 32, 67, 77, 80, 83, 87, 32, 83, 84, 79, 83, 66, 32, 83, 84, 79, 83, 87, 32, 76, 79, 68, 83, 66, 32, 76, 79, 68, 83, 87, 32, 83, 67, 65, 83, 66, 32, 83, 67, 65, 83, 87, 32, 82, 69, 84, 32, 82, 69, 84, 70, 32, 76, 69, 83, 32, 76, 68, 83, 32, 73, 78, 84, 32, 73, 78, 84, 79, 32, 73, 82, 69, 84, 32, 82, 79, 76, 32, 82, 79, 82, 32, 82, 67, 76, 32, 82, 67, 82, 32, 83, 72, 76, 32, 83, 72, 82, 32, 83, 65, 82, 32, 65, 65, 77, 32, 65, 65, 68, 32, 88, 76, 65, 84, 32, 69, 83, 67, 32, 76, 79, 79, 80, 78, 90, 32, 76, 79, 79, 80, 90, 32, 76, 79, 79, 80, 32, 74, 67, 88, 90, 32, 73, 78, 32, 79, 85, 84, 32, 74, 77, 80, 32, 74, 77, 80, 70, 32, 72, 76, 84, 32, 67, 77, 67, 32, 78, 79, 84, 32, 78, 69, 71, 32, 77, 85, 76, 32, 73, 77, 85, 76, 32, 68, 73, 86, 32, 73, 68, 73, 86, 32, 67, 76, 67, 32, 83, 84, 67, 32, 67, 76, 73, 32, 83, 84, 73, 32, 67, 76, 68, 32, 83, 84, 68, 32] : List UInt8)), .d (.str s_)] (.i r_1) [] (cc hc_1) ?_
 refine Rc 1 [vi r_1] <| Rk <| Runs.ret ?_
 cases h
 exact Fq
theorem hansomref04_Find_L (s_ : (List UInt8)) (r : Int) (h : hansomref04_Find s_ = some r) : L 15 [.d (.str s_)] = some (.i r, [.d (.str s_)]) := by
 obtain ⟨p, ⟨hne, hf⟩, hr⟩ := hansomref04_Find_ok s_ r h
 obtain ⟨k, hk⟩ := run_of (F := F15) (args := [.d (.str s_)]) (ap := [.d (.str s_)]) (bx0 := updW (fun _ => none) []) rfl rfl (by kernel_rfl) ⟨p, ⟨hne, hf⟩, hr⟩
 exact lim_run (k := k) rfl hk
def hansomref04_second_Q (k_ : Int) (r : Bool) (p : Out × St) : Prop := (∀ i, p.1 ≠ .exit i) ∧ finF F52 [.i k_] p.2 = some (.b r, [.i k_])
theorem hansomref04_second_ok (k_ : Int) (r : Bool) (h : hansomref04_second k_ = some r) : Runs L F52.body ⟨tmOf [.i k_] 0, updW (fun _ => none) []⟩ (hansomref04_second_Q k_ r) := by
 unfold hansomref04_second at h
 refine Sq <| Ro <| Rc 1 [vb false] <| Rk <| Sq <| Ro <| Rc 3 [vi k_, vb (decide (k_ ≥ 1)), vb (decide (k_ ≥ 1))] ?_
 cases hb_1 : ((decide (k_ ≥ 1)) : Bool) with
 | true =>
  replace h := ite_t hb_1 h
  refine Rc 4 [vi k_, vb (decide (k_ ≤ 5)), vb (decide (k_ ≤ 5)), vb (decide (k_ ≤ 5))] ?_
  cases hb_2 : ((decide (k_ ≤ 5)) : Bool) with
  | true =>
   replace h := ite_t hb_2 h
   refine Rc 8 [vn, vn, vb true, vb true, vn, vn, vb true, vb true] <| Rk <| Runs.ret ?_
   cases h
   exact Fq
  | false =>
   replace h := ite_f hb_2 h
   refine Rc 4 [vi k_, vb (k_ == 19), vb (k_ == 19), vb (k_ == 19)] ?_
   cases hb_3 : ((k_ == 19) : Bool) with
   | true =>
    replace h := ite_t hb_3 h
    refine Rc 4 [vn, vn, vb true, vb true] <| Rk <| Runs.ret ?_
    cases h
    exact Fq
   | false =>
    replace h := ite_f hb_3 h
    refine Rc 4 [vi k_, vb (k_ == 20), vb (k_ == 20), vb (k_ == 20)] <| Rk <| Runs.ret ?_
    cases h
    exact Fq
 | false =>
  replace h := ite_f hb_1 h
  refine Rc 8 [vn, vn, vb false, vb false, vi k_, vb (k_ == 19), vb (k_ == 19), vb (k_ == 19)] ?_
  cases hb_4 : ((k_ == 19) : Bool) with
  | true =>
   replace h := ite_t hb_4 h
   refine Rc 4 [vn, vn, vb true, vb true] <| Rk <| Runs.ret ?_
   cases h
   exact Fq
  | false =>
   replace h := ite_f hb_4 h
   refine Rc 4 [vi k_, vb (k_ == 20), vb (k_ == 20), vb (k_ == 20)] <| Rk <| Runs.ret ?_
   cases h
   exact Fq
theorem hansomref04_second_L (k_ : Int) (r : Bool) (h : hansomref04_second k_ = some r) : L 52 [.i k_] = some (.b r, [.i k_]) := by
 obtain ⟨p, ⟨hne, hf⟩, hr⟩ := hansomref04_second_ok k_ r h
 obtain ⟨k, hk⟩ := run_of (F := F52) (args := [.i k_]) (ap := [.i k_]) (bx0 := updW (fun _ => none) []) rfl rfl (by kernel_rfl) ⟨p, ⟨hne, hf⟩, hr⟩
 exact lim_run (k := k) rfl hk
def hansomref04_Row_Q (op_ : Int) (reg_ : Int) (r : (Row × Bool)) (p : Out × St) : Prop := (∀ i, p.1 ≠ .exit i) ∧ finF F37 [.y op_, .i reg_] p.2 = some (.tup [.d (Row.d r.1), .b r.2], [.y op_, .i reg_])
theorem hansomref04_Row_ok (op_ : Int) (reg_ : Int) (r : (Row × Bool)) (h : hansomref04_Row op_ reg_ = some r) : Runs L F37.body ⟨tmOf [.y op_, .i reg_] 0, updW (fun _ => none) []⟩ (hansomref04_Row_Q op_ reg_ r) := by
 unfold hansomref04_Row at h
 refine Sq <| Ro <| Rc 2 [⟨.ptr [4] 0 0, [([4], some (.cells [.i 0, .i 0, .i 0, .b false] 0))]⟩, vb false] <| Rk <| Sq <| Ro <| Rc 2 [vy op_, vi reg_] ?_
 obtain ⟨r_1, hr_1, h⟩ := bind_s h
 have hc_1 := hansomref04_Entry_L op_ reg_ r_1 hr_1
 refine Rt (some 10) (.callf 50) [] none [.y op_, .i reg_] (.d (.str r_1)) [] (cc hc_1) <| Rc 1 [⟨.d (.str r_1), []⟩] <| Rk <| Sq <| Sq <| Ro <| Rc 3 [⟨.d (.str r_1), []⟩, vb (r_1 == ([45] : List UInt8)), vb (r_1 == ([45] : List UInt8))] ?_
 cases hb_1 : ((r_1 == ([45] : List UInt8)) : Bool) with
 | true =>
  replace h := ite_t hb_1 h
  refine Rc 3 [vn, vn, vb true] <| Rk <| Ct <| Sq <| Ro <| Rc 3 [⟨.d (.agg [.int .i64 0, .int .i64 0, .int .i64 0, .bool false]), []⟩, ⟨.tup [], [([4], some (.cells [.i 0, .i 0, .i 0, .b false] 0))]⟩, vb false] <| Rk <| Runs.ret <| kS_ret ?_
  cases h
  exact Fq
 | false =>
  replace h := ite_f hb_1 h
  refine Rc 3 [⟨.d (.str r_1), []⟩, vb (r_1 == ([] : List UInt8)), vb (r_1 == ([] : List UInt8))] <| Rk ?_
  cases hb_2 : ((r_1 == ([] : List UInt8)) : Bool) with
  | true =>
   replace h := ite_t hb_2 h
   refine Ct <| Sq <| Ro <| Rc 3 [⟨.d (.agg [.int .i64 0, .int .i64 0, .int .i64 0, .bool false]), []⟩, ⟨.tup [], [([4], some (.cells [.i 0, .i 0, .i 0, .b false] 0))]⟩, vb false] <| Rk <| Runs.ret <| kS_ret ?_
   cases h
   exact Fq
  | false =>
   replace h := ite_f hb_2 h
   refine Cf <| Runs.skip <| kS_nrm <| Sq <| Ro <| Rc 1 [⟨.d (.str r_1), []⟩] ?_
   obtain ⟨r_2, hr_2, h⟩ := bind_s h
   have hc_2 := hansomref04_part_L r_1 58 0 r_2 hr_2
   refine Rt (some 19) (.callf 51) [] none [.d (.str r_1), .y 58, .i 0] (.d (.str r_2)) [] (cc hc_2) ?_
   obtain ⟨r_3, hr_3, h⟩ := bind_s h
   have hc_3 := hansomref04_Find_L r_2 r_3 hr_3
   refine Rt (some 20) (.callf 15) [] none [.d (.str r_2)] (.i r_3) [] (cc hc_3) <| Rc 1 [⟨.d (.str r_1), []⟩] ?_
   obtain ⟨r_4, hr_4, h⟩ := bind_s h
   have hc_4 := hansomref04_part_L r_1 58 1 r_4 hr_4
   refine Rt (some 22) (.callf 51) [] none [.d (.str r_1), .y 58, .i 1] (.d (.str r_4)) [] (cc hc_4) ?_
   obtain ⟨r_5, hr_5, h⟩ := bind_s h
   have hc_5 := hansomref04_find_L ([69, 98, 32, 69, 118, 32, 71, 98, 32, 71, 118, 32, 83, 119, 32, 73, 98, 32, 73, 118, 32, 73, 115, 32, 74, 98, 32, 74, 118, 32, 65, 112, 32, 79, 98, 32, 79, 118, 32, 65, 76, 32, 67, 76, 32, 65, 88, 32, 68, 88, 32, 79, 110, 101, 32, 77, 112, 32, 77, 32, 90, 98, 32, 90, 118, 32, 90, 115, 32, 84, 104, 114, 101, 101, 32] : List UInt8) r_4 r_5 hr_5
   refine Rt (some 23) (.callf 23) [] none [.d (.str ([69, 98, 32, 69, 118, 32, 71, 98, 32, 71, 118, 32, 83, 119, 32, 73, 98, 32, 73, 118, 32, 73, 115, 32, 74, 98, 32, 74, 118, 32, 65, 112, 32, 79, 98, 32, 79, 118, 32, 65, 76, 32, 67, 76, 32, 65, 88, 32, 68, 88, 32, 79, 110, 101, 32, 77, 112, 32, 77, 32, 90, 98, 32, 90, 118, 32, 90, 115, 32, 84, 104, 114, 101, 101, 32] : List UInt8)), .d (.str r_4)] (.i r_5) [] (cc hc_5) <| Rc 1 [⟨.d (.str r_1), []⟩] ?_
   obtain ⟨r_6, hr_6, h⟩ := bind_s h
   have hc_6 := hansomref04_part_L r_1 58 2 r_6 hr_6
   refine Rt (some 25) (.callf 51) [] none [.d (.str r_1), .y 58, .i 2] (.d (.str r_6)) [] (cc hc_6) ?_
   obtain ⟨r_7, hr_7, h⟩ := bind_s h
   have hc_7 := hansomref04_find_L ([69, 98, 32, 69, 118, 32, 71, 98, 32, 71, 118, 32, 83, 119, 32, 73, 98, 32, 73, 118, 32, 73, 115, 32, 74, 98, 32, 74, 118, 32, 65, 112, 32, 79, 98, 32, 79, 118, 32, 65, 76, 32, 67, 76, 32, 65, 88, 32, 68, 88, 32, 79, 110, 101, 32, 77, 112, 32, 77, 32, 90, 98, 32, 90, 118, 32, 90, 115, 32, 84, 104, 114, 101, 101, 32] : List UInt8) r_6 r_7 hr_7
   refine Rt (some 26) (.callf 23) [] none [.d (.str ([69, 98, 32, 69, 118, 32, 71, 98, 32, 71, 118, 32, 83, 119, 32, 73, 98, 32, 73, 118, 32, 73, 115, 32, 74, 98, 32, 74, 118, 32, 65, 112, 32, 79, 98, 32, 79, 118, 32, 65, 76, 32, 67, 76, 32, 65, 88, 32, 68, 88, 32, 79, 110, 101, 32, 77, 112, 32, 77, 32, 90, 98, 32, 90, 118, 32, 90, 115, 32, 84, 104, 114, 101, 101, 32] : List UInt8)), .d (.str r_6)] (.i r_7) [] (cc hc_7) <| Rc 3 [⟨.d (.agg [.int .i64 r_3, .int .i64 r_5, .int .i64 r_7, .bool false]), []⟩, ⟨.ptr [7] 0 0, [([7], some (.cells [.i 0, .i 0, .i 0, .b false] 0))]⟩, ⟨.tup [], [([7], some (.cells [.i r_3, .i r_5, .i r_7, .b false] 0))]⟩] <| Rk <| Sq <| Ro <| Rc 2 [vp [7] 0 1, vi r_5] ?_
   obtain ⟨r_8, hr_8, h⟩ := bind_s h
   have hc_8 := hansomref04_second_L r_5 r_8 hr_8
   refine Rt (some 30) (.callf 52) [] none [.i r_5] (.b r_8) [] (cc hc_8) <| Rc 1 [vb r_8] ?_
   cases hb_3 : (r_8 : Bool) with
   | true =>
    replace h := ite_t hb_3 h
    refine Rc 6 [vn, vn, vn, vb true, vp [7] 0 3, ⟨.tup [], [([7], some (.cells [.i r_3, .i r_5, .i r_7, .b true] 0))]⟩] <| Rk <| Sq <| Ro <| Rc 3 [⟨.d (.agg [.int .i64 r_3, .int .i64 r_5, .int .i64 r_7, .bool true]), []⟩, ⟨.tup [], [([4], some (.cells [.i r_3, .i r_5, .i r_7, .b true] 0))]⟩, vb true] <| Rk <| Runs.ret ?_
    cases h
    exact Fq
   | false =>
    replace h := ite_f hb_3 h
    refine Rc 2 [vp [7] 0 2, vi r_7] ?_
    obtain ⟨r_9, hr_9, h⟩ := bind_s h
    have hc_9 := hansomref04_second_L r_7 r_9 hr_9
    refine Rt (some 34) (.callf 52) [] none [.i r_7] (.b r_9) [] (cc hc_9) <| Rc 3 [vb r_9, vp [7] 0 3, ⟨.tup [], [([7], some (.cells [.i r_3, .i r_5, .i r_7, .b r_9] 0))]⟩] <| Rk <| Sq <| Ro <| Rc 3 [⟨.d (.agg [.int .i64 r_3, .int .i64 r_5, .int .i64 r_7, .bool r_9]), []⟩, ⟨.tup [], [([4], some (.cells [.i r_3, .i r_5, .i r_7, .b r_9] 0))]⟩, vb true] <| Rk <| Runs.ret ?_
    cases h
    exact Fq
theorem hansomref04_Row_L (op_ : Int) (reg_ : Int) (r : (Row × Bool)) (h : hansomref04_Row op_ reg_ = some r) : L 37 [.y op_, .i reg_] = some (.tup [.d (Row.d r.1), .b r.2], [.y op_, .i reg_]) := by
 obtain ⟨p, ⟨hne, hf⟩, hr⟩ := hansomref04_Row_ok op_ reg_ r h
 obtain ⟨k, hk⟩ := run_of (F := F37) (args := [.y op_, .i reg_]) (ap := [.y op_, .i reg_]) (bx0 := updW (fun _ => none) []) rfl rfl (by kernel_rfl) ⟨p, ⟨hne, hf⟩, hr⟩
 exact lim_run (k := k) rfl hk
def hansomref05_Row_Q (i_ : Inst) (r : (Row × Bool)) (p : Out × St) : Prop := (∀ i, p.1 ≠ .exit i) ∧ finF F24 [.d (Inst.d i_)] p.2 = some (.tup [.d (Row.d r.1), .b r.2], [.d (Inst.d i_)])
theorem hansomref05_Row_ok (i_ : Inst) (r : (Row × Bool)) (h : hansomref05_Row i_ = some r) : Runs L F24.body ⟨tmOf [.d (Inst.d i_)] 0, updW (fun _ => none) []⟩ (hansomref05_Row_Q i_ r) := by
 unfold hansomref05_Row at h
 refine Sq <| Ro <| Rc 3 [⟨.ptr [1] 0 0, [([1], some (.cells [.b i_.Lock, .i i_.Rep, .i i_.Seg, .y i_.Op, .i i_.Mod, .i i_.Reg, .i i_.RM, .w i_.Disp, .w i_.Imm, .w i_.Sel] 0))]⟩, ⟨.ptr [2] 0 0, [([2], some (.cells [.i 0, .i 0, .i 0, .b false] 0))]⟩, vb false] <| Rk <| Sq <| Sq <| Ro <| Rc 2 [vp [1] 0 3, vy i_.Op] ?_
 obtain ⟨r_1, hr_1, h⟩ := bind_s h
 have hc_1 := hansomref05_prefix_L i_.Op r_1 hr_1
 refine Rt (some 6) (.callf 36) [] none [.y i_.Op] (.b r_1) [] (cc hc_1) <| Rk ?_
 cases hb_1 : (r_1 : Bool) with
 | true =>
  replace h := ite_t hb_1 h
  refine Ct <| Sq <| Ro <| Rc 3 [⟨.d (.agg [.int .i64 0, .int .i64 0, .int .i64 0, .bool false]), []⟩, ⟨.tup [], [([2], some (.cells [.i 0, .i 0, .i 0, .b false] 0))]⟩, vb false] <| Rk <| Runs.ret <| kS_ret ?_
  cases h
  exact Fq
 | false =>
  replace h := ite_f hb_1 h
  refine Cf <| Runs.skip <| kS_nrm <| Sq <| Ro <| Rc 4 [vp [1] 0 3, vy i_.Op, vp [1] 0 5, vi i_.Reg] ?_
  obtain ⟨r_2, hr_2, h⟩ := bind_s h
  have hc_2 := hansomref04_Row_L i_.Op i_.Reg r_2 hr_2
  refine Rt (some 12) (.callf 37) [] none [.y i_.Op, .i i_.Reg] (.tup [.d (Row.d r_2.1), .b r_2.2]) [] (cc hc_2) <| Rc 4 [⟨.d (Row.d r_2.1), []⟩, vb r_2.2, ⟨.tup [], [([2], some (.cells [.i r_2.1.Name, .i r_2.1.A, .i r_2.1.B, .b r_2.1.Mod] 0))]⟩, vb r_2.2] <| Rk <| Runs.ret ?_
  cases h
  exact Fq
theorem hansomref05_Row_L (i_ : Inst) (r : (Row × Bool)) (h : hansomref05_Row i_ = some r) : L 24 [.d (Inst.d i_)] = some (.tup [.d (Row.d r.1), .b r.2], [.d (Inst.d i_)]) := by
 obtain ⟨p, ⟨hne, hf⟩, hr⟩ := hansomref05_Row_ok i_ r h
 obtain ⟨k, hk⟩ := run_of (F := F24) (args := [.d (Inst.d i_)]) (ap := [.d (Inst.d i_)]) (bx0 := updW (fun _ => none) []) rfl rfl (by kernel_rfl) ⟨p, ⟨hne, hf⟩, hr⟩
 exact lim_run (k := k) rfl hk
def hansomref04_Bytes_h16 (t3 : Int) (t4 : Bool) : St := ⟨tab [(3, .i t3), (4, .b t4)], tabB []⟩
def hansomref04_Bytes_Q (k_ : Int) (r : Int) (p : Out × St) : Prop := (∀ i, p.1 ≠ .exit i) ∧ finF F27 [.i k_] p.2 = some (.i r, [.i k_])
theorem hansomref04_Bytes_j16_ok (k_ : Int) (t3 : Int) (t4 : Bool) (r : Int) (h : hansomref04_Bytes_j16 t3 t4 = some r) : Runs L F27b16 (hansomref04_Bytes_h16 t3 t4) (kB 0 (kS L F27c45 (hansomref04_Bytes_Q k_ r))) := by
 unfold hansomref04_Bytes_j16 at h
 cases hb_2 : (t4 : Bool) with
 | true =>
  replace h := ite_t hb_2 h
  refine Ct <| Sq <| Ro <| Rc 1 [vi 1] <| Rk <| Runs.ret <| kB_ret <| kS_ret ?_
  cases h
  exact Fq
 | false =>
  replace h := ite_f hb_2 h
  refine Cf <| Sq <| Sq <| Ro <| Rc 2 [vb (t3 == 7), vb (t3 == 7)] <| Rk ?_
  cases hb_3 : ((t3 == 7) : Bool) with
  | true =>
   replace h := ite_t hb_3 h
   refine Ct <| Runs.skip <| kS_nrm <| Ct <| Sq <| Ro <| Rc 1 [vi 2] <| Rk <| Runs.ret <| kB_ret <| kS_ret ?_
   cases h
   exact Fq
  | false =>
   replace h := ite_f hb_3 h
   refine Cf <| Sq <| Ro <| Rc 2 [vb (t3 == 10), vb (t3 == 10)] <| Rk ?_
   cases hb_4 : ((t3 == 10) : Bool) with
   | true =>
    replace h := ite_t hb_4 h
    refine Ct <| Runs.skip <| kS_nrm <| Ct <| Sq <| Ro <| Rc 1 [vi 2] <| Rk <| Runs.ret <| kB_ret <| kS_ret ?_
    cases h
    exact Fq
   | false =>
    replace h := ite_f hb_4 h
    refine Cf <| Sq <| Ro <| Rc 2 [vb (t3 == 12), vb (t3 == 12)] <| Rk ?_
    cases hb_5 : ((t3 == 12) : Bool) with
    | true =>
     replace h := ite_t hb_5 h
     refine Ct <| Runs.skip <| kS_nrm <| Ct <| Sq <| Ro <| Rc 1 [vi 2] <| Rk <| Runs.ret <| kB_ret <| kS_ret ?_
     cases h
     exact Fq
    | false =>
     replace h := ite_f hb_5 h
     refine Cf <| Ro <| Rc 2 [vb (t3 == 13), vb (t3 == 13)] <| Rk ?_
     cases hb_6 : ((t3 == 13) : Bool) with
     | true =>
      replace h := ite_t hb_6 h
      refine Ct <| Sq <| Ro <| Rc 1 [vi 2] <| Rk <| Runs.ret <| kB_ret <| kS_ret ?_
      cases h
      exact Fq
     | false =>
      replace h := ite_f hb_6 h
      refine Cf <| Sq <| Ro <| Rc 2 [vb (t3 == 11), vb (t3 == 11)] <| Rk ?_
      cases hb_7 : ((t3 == 11) : Bool) with
      | true =>
       replace h := ite_t hb_7 h
       refine Ct <| Sq <| Ro <| Rc 1 [vi 4] <| Rk <| Runs.ret <| kB_ret <| kS_ret ?_
       cases h
       exact Fq
      | false =>
       replace h := ite_f hb_7 h
       refine Cf <| Runs.skip <| kB_nrm <| kS_nrm <| Sq <| Ro <| Rc 1 [vi 0] <| Rk <| Runs.ret ?_
       cases h
       exact Fq
theorem hansomref04_Bytes_ok (k_ : Int) (r : Int) (h : hansomref04_Bytes k_ = some r) : Runs L F27.body ⟨tmOf [.i k_] 0, updW (fun _ => none) []⟩ (hansomref04_Bytes_Q k_ r) := by
 unfold hansomref04_Bytes at h
 refine Sq <| Ro <| Rc 1 [vi 0] <| Rk <| Sq <| Sq <| Ro <| Rc 1 [vi k_] <| Rk <| Runs.block <| Sq <| Sq <| Ro <| Rc 2 [vb (k_ == 6), vb (k_ == 6)] <| Rk ?_
 cases hb_1 : ((k_ == 6) : Bool) with
 | true =>
  replace h := ite_t hb_1 h
  refine Ct <| Runs.skip <| kS_nrm <| Runs.canon (hansomref04_Bytes_h16 k_ true) Cz ?_
  exact hansomref04_Bytes_j16_ok k_ k_ true r h
 | false =>
  replace h := ite_f hb_1 h
  refine Cf <| Sq <| Ro <| Rc 2 [vb (k_ == 8), vb (k_ == 8)] <| Rk ?_
  cases hb_8 : ((k_ == 8) : Bool) with
  | true =>
   replace h := ite_t hb_8 h
   refine Ct <| Runs.skip <| kS_nrm <| Runs.canon (hansomref04_Bytes_h16 k_ true) Cz ?_
   exact hansomref04_Bytes_j16_ok k_ k_ true r h
  | false =>
   replace h := ite_f hb_8 h
   refine Cf <| Ro <| Rc 2 [vb (k_ == 9), vb (k_ == 9)] <| Rk <| Runs.canon (hansomref04_Bytes_h16 k_ (k_ == 9)) Cz ?_
   exact hansomref04_Bytes_j16_ok k_ k_ (k_ == 9) r h
theorem hansomref04_Bytes_L (k_ : Int) (r : Int) (h : hansomref04_Bytes k_ = some r) : L 27 [.i k_] = some (.i r, [.i k_]) := by
 obtain ⟨p, ⟨hne, hf⟩, hr⟩ := hansomref04_Bytes_ok k_ r h
 obtain ⟨k, hk⟩ := run_of (F := F27) (args := [.i k_]) (ap := [.i k_]) (bx0 := updW (fun _ => none) []) rfl rfl (by kernel_rfl) ⟨p, ⟨hne, hf⟩, hr⟩
 exact lim_run (k := k) rfl hk
def hansomref04_Name_Q (n_ : Int) (r : (List UInt8)) (p : Out × St) : Prop := (∀ i, p.1 ≠ .exit i) ∧ finF F8 [.i n_] p.2 = some (.d (.str r), [.i n_])
theorem hansomref04_Name_ok (n_ : Int) (r : (List UInt8)) (h : hansomref04_Name n_ = some r) : Runs L F8.body ⟨tmOf [.i n_] 0, updW (fun _ => none) []⟩ (hansomref04_Name_Q n_ r) := by
 unfold hansomref04_Name at h
 refine Sq <| Ro <| Rc 1 [⟨.d (.str ([] : List UInt8)), []⟩] <| Rk <| Sq <| Sq <| Ro <| Rc 3 [vi n_, vb (decide (n_ < 1)), vb (decide (n_ < 1))] ?_
 cases hb_1 : ((decide (n_ < 1)) : Bool) with
 | true =>
  replace h := ite_t hb_1 h
  refine Rc 3 [vn, vn, vb true] <| Rk <| Ct <| Sq <| Ro <| Rc 1 [⟨.d (.str ([63] : List UInt8)), []⟩] <| Rk <| Runs.ret <| kS_ret ?_
  cases h
  exact Fq
 | false =>
  replace h := ite_f hb_1 h
  refine Rc 3 [vi n_, vb (decide (n_ > 95)), vb (decide (n_ > 95))] <| Rk ?_
  cases hb_2 : ((decide (n_ > 95)) : Bool) with
  | true =>
   replace h := ite_t hb_2 h
   refine Ct <| Sq <| Ro <| Rc 1 [⟨.d (.str ([63] : List UInt8)), []⟩] <| Rk <| Runs.ret <| kS_ret ?_
   cases h
   exact Fq
  | false =>
   replace h := ite_f hb_2 h
   refine Cf <| Runs.skip <| kS_nrm <| Sq <| Ro <| Rc 2 [vi n_, vi (IntKind.wrap .i64 (n_ - 1))] ?_
   obtain ⟨r_1, hr_1, h⟩ := bind_s h
   have hc_1 := hansomref04_word_L ([65, 68, 68, 32, 79, 82, 32, 65, 68, 67, 32, 83, 66, 66, 32, 65, 78, 68, 32, 83, 85, 66, 32, 88, 79, 82, 32, 67, 77, 80, 32, 80, 85, 83, 72, 32, 80, 79, 80, 32, 68, 65, 65, 32, 68, 65, 83, 32, 65, 65, 65, 32, 65, 65, 83, 32, 73, 78, 67, 32, 68, 69, 67, 32, 74, 79, 32, 74, 78, 79, 32, 74, 66, 32, 74, 78, 66, 32, 74, 90, 32, 74, 78, 90, 32, 74, 66, 69, 32, 74, 65, 32, 74, 83, 32, 74, 78, 83, 32, 74, 80, 32, 74, 78, 80, 32, 74, 76, 32, 74, 71, 69, 32, 74, 76, 69, 32, 74, 71, 32, 84, 69, 83, 84, 32, 88, 67, 72, 71, 32, 77, 79, 86, 32, 76, 69, 65, 32, 67, 66, 87, 32, 67, 87, 68, 32, 67, 65, 76, 76, 32, 67, 65, 76, 76, 70, 32, 87, 65, 73, 84, 32, 80, 85, 83, 72, 70, 32, 80, 79, 80, 70, 32, 83, 65, 72, 70, 32, 76, 65, 72, 70, 32, 77, 79, 86, 83, 66, 32, 77, 79, 86, 83, 87, 32, 67, 77, 80, 83, 66, 32, 67, 77, 80, 83, 87, 32, 83, 84, 79, 83, 66, 32, 83, 84, 79, 83, 87, 32, 76, 79, 68, 83, 66, 32, 76, 79, 68, 83, 87, 32, 83, 67, 65, 83, 66, 32, 83, 67, 65, 83, 87, 32, 82, 69, 84, 32, 82, 69, 84, 70, 32, 76, 69, 83, 32, 76, 68, 83, 32, 73, 78, 84, 32, 73, 78, 84, 79, 32, 73, 82, 69, 84, 32, 82, 79, 76, 32, 82, 79, 82, 32, 82, 67, 76, 32, 82, 67, 82, 32, 83, 72, 76, 32, 83, 72, 82, 32, 83, 65, 82, 32, 65, 65, 77, 32, 65, 65, 68, 32, 88, 76, 65, 84, 32, 69, 83, 67, 32, 76, 79, 79, 80, 78, 90, 32, 76, 79, 79, 80, 90, 32, 76, 79, 79, 80, 32, 74, 67, 88, 90, 32, 73, 78, 32, 79, 85, 84, 32, 74, 77, 80, 32, 74, 77, 80, 70, 32, 72, 76, 84, 32, 67, 77, 67, 32, 78, 79, 84, 32, 78, 69, 71, 32, 77, 85, 76, 32, 73, 77, 85, 76, 32, 68, 73, 86, 32, 73, 68, 73, 86, 32, 67, 76, 67, 32, 83, 84, 67, 32, 67, 76, 73, 32, 83, 84, 73, 32, 67, 76, 68, 32, 83, 84, 68, 32] : List UInt8) (IntKind.wrap .i64 (n_ - 1)) r_1 hr_1
   refine Rt (some 11) (.callf 21) [] none [.d (.str ([65, 68, 68, 32, 79, 82, 32, 65, 68, 67, 32, 83, 66, 66, 32, 65, 78, 68, 32, 83, 85, 66, 32, 88, 79, 82, 32, 67, 77, 80, 32, 80, 85, 83, 72, 32, 80, 79, 80, 32, 68, 65, 65, 32, 68, 65, 83, 32, 65, 65, 65, 32, 65, 65, 83, 32, 73, 78, 67, 32, 68, 69, 67, 32, 74, 79, 32, 74, 78, 79, 32, 74, 66, 32, 74, 78, 66, 32, 74, 90, 32, 74, 78, 90, 32, 74, 66, 69, 32, 74, 65, 32, 74, 83, 32, 74, 78, 83, 32, 74, 80, 32, 74, 78, 80, 32, 74, 76, 32, 74, 71, 69, 32, 74, 76, 69, 32, 74, 71, 32, 84, 69, 83, 84, 32, 88, 67, 72, 71, 32, 77, 79, 86, 32, 76, 69, 65, 32, 67, 66, 87, 32, 67, 87, 68, 32, 67, 65, 76, 76, 32, 67, 65, 76, 76, 70, 32, 87, 65, 73, 84, 32, 80, 85, 83, 72, 70, 32, 80, 79, 80, 70, 32, 83, 65, 72, 70, 32, 76, 65, 72, 70, 32, 77, 79, 86, 83, 66, 32, 77, 79, 86, 83, 87, 32, 67, 77, 80, 83, 66, 32, 67, 77, 80, 83, 87, 32, 83, 84, 79, 83, 66, 32, 83, 84, 79, 83, 87, 32, 76, 79, 68, 83, 66, 32, 76, 79, 68, 83, 87, 32, 83, 67, 65, 83, 66, 32, 83, 67, 65, 83, 87, 32, 82, 69, 84, 32, 82, 69, 84, 70, 32, 76, 69, 83, 32, 76, 68, 83, 32, 73, 78, 84, 32, 73, 78, 84, 79, 32, 73, 82, 69, 84, 32, 82, 79, 76, 32, 82, 79, 82, 32, 82, 67, 76, 32, 82, 67, 82, 32, 83, 72, 76, 32, 83, 72, 82, 32, 83, 65, 82, 32, 65, 65, 77, 32, 65, 65, 68, 32, 88, 76, 65, 84, 32, 69, 83, 67, 32, 76, 79, 79, 80, 78, 90, 32, 76, 79, 79, 80, 90, 32, 76, 79, 79, 80, 32, 74, 67, 88, 90, 32, 73, 78, 32, 79, 85, 84, 32, 74, 77, 80, 32, 74, 77, 80, 70, 32, 72, 76, 84, 32, 67, 77, 67, 32, 78, 79, 84, 32, 78, 69, 71, 32, 77, 85, 76, 32, 73, 77, 85, 76, 32, 68, 73, 86, 32, 73, 68, 73, 86, 32, 67, 76, 67, 32, 83, 84, 67, 32, 67, 76, 73, 32, 83, 84, 73, 32, 67, 76, 68, 32, 83, 84, 68, 32] : List UInt8)), .i (IntKind.wrap .i64 (n_ - 1))] (.d (.str r_1)) [] (cc hc_1) ?_
   refine Rc 1 [⟨.d (.str r_1), []⟩] <| Rk <| Runs.ret ?_
   cases h
   exact Fq
theorem hansomref04_Name_L (n_ : Int) (r : (List UInt8)) (h : hansomref04_Name n_ = some r) : L 8 [.i n_] = some (.d (.str r), [.i n_]) := by
 obtain ⟨p, ⟨hne, hf⟩, hr⟩ := hansomref04_Name_ok n_ r h
 obtain ⟨k, hk⟩ := run_of (F := F8) (args := [.i n_]) (ap := [.i n_]) (bx0 := updW (fun _ => none) []) rfl rfl (by kernel_rfl) ⟨p, ⟨hne, hf⟩, hr⟩
 exact lim_run (k := k) rfl hk
def hansomref04_Repeats_h28 (t4 : (List UInt8)) (t5 : Bool) : St := ⟨tab [(4, .d (.str t4)), (5, .b t5)], tabB []⟩
def hansomref04_Repeats_Q (n_ : Int) (r : Int) (p : Out × St) : Prop := (∀ i, p.1 ≠ .exit i) ∧ finF F28 [.i n_] p.2 = some (.i r, [.i n_])
theorem hansomref04_Repeats_j28_ok (n_ : Int) (t4 : (List UInt8)) (t5 : Bool) (r : Int) (h : hansomref04_Repeats_j28 t4 t5 = some r) : Runs L F28b28 (hansomref04_Repeats_h28 t4 t5) (kB 0 (kS L F28c51 (hansomref04_Repeats_Q n_ r))) := by
 unfold hansomref04_Repeats_j28 at h
 cases hb_2 : (t5 : Bool) with
 | true =>
  replace h := ite_t hb_2 h
  refine Ct <| Sq <| Ro <| Rc 1 [vi 1] <| Rk <| Runs.ret <| kB_ret <| kS_ret ?_
  cases h
  exact Fq
 | false =>
  replace h := ite_f hb_2 h
  refine Cf <| Sq <| Sq <| Ro <| Rc 2 [vb (t4 == ([67, 77, 80, 83, 66] : List UInt8)), vb (t4 == ([67, 77, 80, 83, 66] : List UInt8))] <| Rk ?_
  cases hb_3 : ((t4 == ([67, 77, 80, 83, 66] : List UInt8)) : Bool) with
  | true =>
   replace h := ite_t hb_3 h
   refine Ct <| Runs.skip <| kS_nrm <| Ct <| Sq <| Ro <| Rc 1 [vi 2] <| Rk <| Runs.ret <| kB_ret <| kS_ret ?_
   cases h
   exact Fq
  | false =>
   replace h := ite_f hb_3 h
   refine Cf <| Sq <| Ro <| Rc 2 [vb (t4 == ([67, 77, 80, 83, 87] : List UInt8)), vb (t4 == ([67, 77, 80, 83, 87] : List UInt8))] <| Rk ?_
   cases hb_4 : ((t4 == ([67, 77, 80, 83, 87] : List UInt8)) : Bool) with
   | true =>
    replace h := ite_t hb_4 h
    refine Ct <| Runs.skip <| kS_nrm <| Ct <| Sq <| Ro <| Rc 1 [vi 2] <| Rk <| Runs.ret <| kB_ret <| kS_ret ?_
    cases h
    exact Fq
   | false =>
    replace h := ite_f hb_4 h
    refine Cf <| Sq <| Ro <| Rc 2 [vb (t4 == ([83, 67, 65, 83, 66] : List UInt8)), vb (t4 == ([83, 67, 65, 83, 66] : List UInt8))] <| Rk ?_
    cases hb_5 : ((t4 == ([83, 67, 65, 83, 66] : List UInt8)) : Bool) with
    | true =>
     replace h := ite_t hb_5 h
     refine Ct <| Runs.skip <| kS_nrm <| Ct <| Sq <| Ro <| Rc 1 [vi 2] <| Rk <| Runs.ret <| kB_ret <| kS_ret ?_
     cases h
     exact Fq
    | false =>
     replace h := ite_f hb_5 h
     refine Cf <| Ro <| Rc 2 [vb (t4 == ([83, 67, 65, 83, 87] : List UInt8)), vb (t4 == ([83, 67, 65, 83, 87] : List UInt8))] <| Rk ?_
     cases hb_6 : ((t4 == ([83, 67, 65, 83, 87] : List UInt8)) : Bool) with
     | true =>
      replace h := ite_t hb_6 h
      refine Ct <| Sq <| Ro <| Rc 1 [vi 2] <| Rk <| Runs.ret <| kB_ret <| kS_ret ?_
      cases h
      exact Fq
     | false =>
      replace h := ite_f hb_6 h
      refine Cf <| Runs.skip <| kB_nrm <| kS_nrm <| Sq <| Ro <| Rc 1 [vi 0] <| Rk <| Runs.ret ?_
      cases h
      exact Fq
theorem hansomref04_Repeats_ok (n_ : Int) (r : Int) (h : hansomref04_Repeats n_ = some r) : Runs L F28.body ⟨tmOf [.i n_] 0, updW (fun _ => none) []⟩ (hansomref04_Repeats_Q n_ r) := by
 unfold hansomref04_Repeats at h
 refine Sq <| Ro <| Rc 1 [vi 0] <| Rk <| Sq <| Sq <| Ro <| Rc 1 [vi n_] ?_
 obtain ⟨r_1, hr_1, h⟩ := bind_s h
 have hc_1 := hansomref04_Name_L n_ r_1 hr_1
 refine Rt (some 4) (.callf 8) [] none [.i n_] (.d (.str r_1)) [] (cc hc_1) <| Rk <| Runs.block <| Sq <| Sq <| Ro <| Rc 2 [vb (r_1 == ([77, 79, 86, 83, 66] : List UInt8)), vb (r_1 == ([77, 79, 86, 83, 66] : List UInt8))] <| Rk ?_
 cases hb_1 : ((r_1 == ([77, 79, 86, 83, 66] : List UInt8)) : Bool) with
 | true =>
  replace h := ite_t hb_1 h
  refine Ct <| Runs.skip <| kS_nrm <| Runs.canon (hansomref04_Repeats_h28 r_1 true) Cz ?_
  exact hansomref04_Repeats_j28_ok n_ r_1 true r h
 | false =>
  replace h := ite_f hb_1 h
  refine Cf <| Sq <| Ro <| Rc 2 [vb (r_1 == ([77, 79, 86, 83, 87] : List UInt8)), vb (r_1 == ([77, 79, 86, 83, 87] : List UInt8))] <| Rk ?_
  cases hb_7 : ((r_1 == ([77, 79, 86, 83, 87] : List UInt8)) : Bool) with
  | true =>
   replace h := ite_t hb_7 h
   refine Ct <| Runs.skip <| kS_nrm <| Runs.canon (hansomref04_Repeats_h28 r_1 true) Cz ?_
   exact hansomref04_Repeats_j28_ok n_ r_1 true r h
  | false =>
   replace h := ite_f hb_7 h
   refine Cf <| Sq <| Ro <| Rc 2 [vb (r_1 == ([83, 84, 79, 83, 66] : List UInt8)), vb (r_1 == ([83, 84, 79, 83, 66] : List UInt8))] <| Rk ?_
   cases hb_8 : ((r_1 == ([83, 84, 79, 83, 66] : List UInt8)) : Bool) with
   | true =>
    replace h := ite_t hb_8 h
    refine Ct <| Runs.skip <| kS_nrm <| Runs.canon (hansomref04_Repeats_h28 r_1 true) Cz ?_
    exact hansomref04_Repeats_j28_ok n_ r_1 true r h
   | false =>
    replace h := ite_f hb_8 h
    refine Cf <| Sq <| Ro <| Rc 2 [vb (r_1 == ([83, 84, 79, 83, 87] : List UInt8)), vb (r_1 == ([83, 84, 79, 83, 87] : List UInt8))] <| Rk ?_
    cases hb_9 : ((r_1 == ([83, 84, 79, 83, 87] : List UInt8)) : Bool) with
    | true =>
     replace h := ite_t hb_9 h
     refine Ct <| Runs.skip <| kS_nrm <| Runs.canon (hansomref04_Repeats_h28 r_1 true) Cz ?_
     exact hansomref04_Repeats_j28_ok n_ r_1 true r h
    | false =>
     replace h := ite_f hb_9 h
     refine Cf <| Sq <| Ro <| Rc 2 [vb (r_1 == ([76, 79, 68, 83, 66] : List UInt8)), vb (r_1 == ([76, 79, 68, 83, 66] : List UInt8))] <| Rk ?_
     cases hb_10 : ((r_1 == ([76, 79, 68, 83, 66] : List UInt8)) : Bool) with
     | true =>
      replace h := ite_t hb_10 h
      refine Ct <| Runs.skip <| kS_nrm <| Runs.canon (hansomref04_Repeats_h28 r_1 true) Cz ?_
      exact hansomref04_Repeats_j28_ok n_ r_1 true r h
     | false =>
      replace h := ite_f hb_10 h
      refine Cf <| Ro <| Rc 2 [vb (r_1 == ([76, 79, 68, 83, 87] : List UInt8)), vb (r_1 == ([76, 79, 68, 83, 87] : List UInt8))] <| Rk <| Runs.canon (hansomref04_Repeats_h28 r_1 (r_1 == ([76, 79, 68, 83, 87] : List UInt8))) Cz ?_
      exact hansomref04_Repeats_j28_ok n_ r_1 (r_1 == ([76, 79, 68, 83, 87] : List UInt8)) r h
theorem hansomref04_Repeats_L (n_ : Int) (r : Int) (h : hansomref04_Repeats n_ = some r) : L 28 [.i n_] = some (.i r, [.i n_]) := by
 obtain ⟨p, ⟨hne, hf⟩, hr⟩ := hansomref04_Repeats_ok n_ r h
 obtain ⟨k, hk⟩ := run_of (F := F28) (args := [.i n_]) (ap := [.i n_]) (bx0 := updW (fun _ => none) []) rfl rfl (by kernel_rfl) ⟨p, ⟨hne, hf⟩, hr⟩
 exact lim_run (k := k) rfl hk
def hansomref01_Fits_Q (w_ : Int) (r : Bool) (p : Out × St) : Prop := (∀ i, p.1 ≠ .exit i) ∧ finF F38 [.w w_] p.2 = some (.b r, [.w w_])
theorem hansomref01_Fits_ok (w_ : Int) (r : Bool) (h : hansomref01_Fits w_ = some r) : Runs L F38.body ⟨tmOf [.w w_] 0, updW (fun _ => none) []⟩ (hansomref01_Fits_Q w_ r) := by
 unfold hansomref01_Fits at h
 refine Sq <| Ro <| Rc 1 [vb false] <| Rk <| Sq <| Ro <| Rc 3 [vw w_, vb (decide (w_ < 128)), vb (decide (w_ < 128))] ?_
 cases hb_1 : ((decide (w_ < 128)) : Bool) with
 | true =>
  replace h := ite_t hb_1 h
  refine Rc 4 [vn, vn, vb true, vb true] <| Rk <| Runs.ret ?_
  cases h
  exact Fq
 | false =>
  replace h := ite_f hb_1 h
  refine Rc 4 [vw w_, vb (decide (w_ ≥ 65408)), vb (decide (w_ ≥ 65408)), vb (decide (w_ ≥ 65408))] <| Rk <| Runs.ret ?_
  cases h
  exact Fq
theorem hansomref01_Fits_L (w_ : Int) (r : Bool) (h : hansomref01_Fits w_ = some r) : L 38 [.w w_] = some (.b r, [.w w_]) := by
 obtain ⟨p, ⟨hne, hf⟩, hr⟩ := hansomref01_Fits_ok w_ r h
 obtain ⟨k, hk⟩ := run_of (F := F38) (args := [.w w_]) (ap := [.w w_]) (bx0 := updW (fun _ => none) []) rfl rfl (by kernel_rfl) ⟨p, ⟨hne, hf⟩, hr⟩
 exact lim_run (k := k) rfl hk
def hansomref05_Disps_Q (mod_ : Int) (rm_ : Int) (r : Int) (p : Out × St) : Prop := (∀ i, p.1 ≠ .exit i) ∧ finF F25 [.i mod_, .i rm_] p.2 = some (.i r, [.i mod_, .i rm_])
theorem hansomref05_Disps_ok (mod_ : Int) (rm_ : Int) (r : Int) (h : hansomref05_Disps mod_ rm_ = some r) : Runs L F25.body ⟨tmOf [.i mod_, .i rm_] 0, updW (fun _ => none) []⟩ (hansomref05_Disps_Q mod_ rm_ r) := by
 unfold hansomref05_Disps at h
 refine Sq <| Ro <| Rc 1 [vi 0] <| Rk <| Sq <| Sq <| Ro <| Rc 2 [vi mod_, vb (mod_ == 1)] <| Rk ?_
 cases hb_1 : ((mod_ == 1) : Bool) with
 | true =>
  replace h := ite_t hb_1 h
  refine Ct <| Sq <| Ro <| Rc 1 [vi 1] <| Rk <| Runs.ret <| kS_ret ?_
  cases h
  exact Fq
 | false =>
  replace h := ite_f hb_1 h
  refine Cf <| Runs.skip <| kS_nrm <| Sq <| Sq <| Ro <| Rc 3 [vi mod_, vb (mod_ == 2), vb (mod_ == 2)] ?_
  cases hb_2 : ((mod_ == 2) : Bool) with
  | true =>
   replace h := ite_t hb_2 h
   refine Rc 7 [vn, vn, vn, vn, vn, vn, vb true] <| Rk <| Ct <| Sq <| Ro <| Rc 1 [vi 2] <| Rk <| Runs.ret <| kS_ret ?_
   cases h
   exact Fq
  | false =>
   replace h := ite_f hb_2 h
   refine Rc 3 [vi mod_, vb (mod_ == 0), vb (mod_ == 0)] ?_
   cases hb_3 : ((mod_ == 0) : Bool) with
   | true =>
    replace h := ite_t hb_3 h
    refine Rc 4 [vi rm_, vb (rm_ == 6), vb (rm_ == 6), vb (rm_ == 6)] <| Rk ?_
    cases hb_4 : ((rm_ == 6) : Bool) with
    | true =>
     replace h := ite_t hb_4 h
     refine Ct <| Sq <| Ro <| Rc 1 [vi 2] <| Rk <| Runs.ret <| kS_ret ?_
     cases h
     exact Fq
    | false =>
     replace h := ite_f hb_4 h
     refine Cf <| Runs.skip <| kS_nrm <| Sq <| Ro <| Rc 1 [vi 0] <| Rk <| Runs.ret ?_
     cases h
     exact Fq
   | false =>
    replace h := ite_f hb_3 h
    refine Rc 4 [vn, vn, vb false, vb false] <| Rk <| Cf <| Runs.skip <| kS_nrm <| Sq <| Ro <| Rc 1 [vi 0] <| Rk <| Runs.ret ?_
    cases h
    exact Fq
theorem hansomref05_Disps_L (mod_ : Int) (rm_ : Int) (r : Int) (h : hansomref05_Disps mod_ rm_ = some r) : L 25 [.i mod_, .i rm_] = some (.i r, [.i mod_, .i rm_]) := by
 obtain ⟨p, ⟨hne, hf⟩, hr⟩ := hansomref05_Disps_ok mod_ rm_ r h
 obtain ⟨k, hk⟩ := run_of (F := F25) (args := [.i mod_, .i rm_]) (ap := [.i mod_, .i rm_]) (bx0 := updW (fun _ => none) []) rfl rfl (by kernel_rfl) ⟨p, ⟨hne, hf⟩, hr⟩
 exact lim_run (k := k) rfl hk
def hansomref05_May_h22 (i1 : Inst) (r3 : Row) : St := ⟨tab [(1, .ptr [1] 0 0), (3, .ptr [3] 0 0)], tabB [([1], some (.cells [.b i1.Lock, .i i1.Rep, .i i1.Seg, .y i1.Op, .i i1.Mod, .i i1.Reg, .i i1.RM, .w i1.Disp, .w i1.Imm, .w i1.Sel] 0)), ([3], some (.cells [.i r3.Name, .i r3.A, .i r3.B, .b r3.Mod] 0))]⟩
def hansomref05_May_h58 (i1 : Inst) (r3 : Row) : St := ⟨tab [(1, .ptr [1] 0 0), (3, .ptr [3] 0 0)], tabB [([1], some (.cells [.b i1.Lock, .i i1.Rep, .i i1.Seg, .y i1.Op, .i i1.Mod, .i i1.Reg, .i i1.RM, .w i1.Disp, .w i1.Imm, .w i1.Sel] 0)), ([3], some (.cells [.i r3.Name, .i r3.A, .i r3.B, .b r3.Mod] 0))]⟩
def hansomref05_May_h66 (i1 : Inst) (r3 : Row) (k7 : Int) : St := ⟨tab [(1, .ptr [1] 0 0), (3, .ptr [3] 0 0), (7, .i k7)], tabB [([1], some (.cells [.b i1.Lock, .i i1.Rep, .i i1.Seg, .y i1.Op, .i i1.Mod, .i i1.Reg, .i i1.RM, .w i1.Disp, .w i1.Imm, .w i1.Sel] 0)), ([3], some (.cells [.i r3.Name, .i r3.A, .i r3.B, .b r3.Mod] 0))]⟩
def hansomref05_May_h82 (i1 : Inst) (t155 : Int) (t181 : Bool) : St := ⟨tab [(1, .ptr [1] 0 0), (155, .i t155), (181, .b t181)], tabB [([1], some (.cells [.b i1.Lock, .i i1.Rep, .i i1.Seg, .y i1.Op, .i i1.Mod, .i i1.Reg, .i i1.RM, .w i1.Disp, .w i1.Imm, .w i1.Sel] 0))]⟩
def hansomref05_May_h49 (i1 : Inst) (r3 : Row) : St := ⟨tab [(1, .ptr [1] 0 0), (3, .ptr [3] 0 0)], tabB [([1], some (.cells [.b i1.Lock, .i i1.Rep, .i i1.Seg, .y i1.Op, .i i1.Mod, .i i1.Reg, .i i1.RM, .w i1.Disp, .w i1.Imm, .w i1.Sel] 0)), ([3], some (.cells [.i r3.Name, .i r3.A, .i r3.B, .b r3.Mod] 0))]⟩
def hansomref05_May_Q (i_ : Inst) (r : Bool) (p : Out × St) : Prop := (∀ i, p.1 ≠ .exit i) ∧ finF F29 [.d (Inst.d i_)] p.2 = some (.b r, [.d (Inst.d i_)])
theorem hansomref05_May_j82_ok (i_ : Inst) (i1 : Inst) (t155 : Int) (t181 : Bool) (r : Bool) (h : hansomref05_May_j82 i1 t155 t181 = some r) : Runs L F29b82 (hansomref05_May_h82 i1 t155 t181) (kB 0 (kS L F29c111 (hansomref05_May_Q i_ r))) := by
 unfold hansomref05_May_j82 at h
 cases hb_22 : (t181 : Bool) with
 | true =>
  replace h := ite_t hb_22 h
  refine Ct <| Sq <| Ro <| Rc 2 [vp [1] 0 8, vw i1.Imm] ?_
  obtain ⟨r_4, hr_4, h⟩ := bind_s h
  have hc_4 := hansomref01_Fits_L i1.Imm r_4 hr_4
  refine Rt (some 186) (.callf 38) [] none [.w i1.Imm] (.b r_4) [] (cc hc_4) <| Rc 1 [vb r_4] ?_
  cases hb_23 : (r_4 : Bool) with
  | true =>
   replace h := ite_t hb_23 h
   refine Rc 5 [vp [1] 0 9, vw i1.Sel, vb (i1.Sel == 0), vb (i1.Sel == 0), vb (i1.Sel == 0)] <| Rk <| Runs.ret <| kB_ret <| kS_ret ?_
   cases h
   exact Fq
  | false =>
   replace h := ite_f hb_23 h
   refine Rc 5 [vn, vn, vn, vb false, vb false] <| Rk <| Runs.ret <| kB_ret <| kS_ret ?_
   cases h
   exact Fq
 | false =>
  replace h := ite_f hb_22 h
  refine Cf <| Sq <| Sq <| Ro <| Rc 2 [vb (t155 == 7), vb (t155 == 7)] <| Rk ?_
  cases hb_24 : ((t155 == 7) : Bool) with
  | true =>
   replace h := ite_t hb_24 h
   refine Ct <| Runs.skip <| kS_nrm <| Ct <| Sq <| Ro <| Rc 4 [vp [1] 0 9, vw i1.Sel, vb (i1.Sel == 0), vb (i1.Sel == 0)] <| Rk <| Runs.ret <| kB_ret <| kS_ret ?_
   cases h
   exact Fq
  | false =>
   replace h := ite_f hb_24 h
   refine Cf <| Sq <| Ro <| Rc 2 [vb (t155 == 10), vb (t155 == 10)] <| Rk ?_
   cases hb_25 : ((t155 == 10) : Bool) with
   | true =>
    replace h := ite_t hb_25 h
    refine Ct <| Runs.skip <| kS_nrm <| Ct <| Sq <| Ro <| Rc 4 [vp [1] 0 9, vw i1.Sel, vb (i1.Sel == 0), vb (i1.Sel == 0)] <| Rk <| Runs.ret <| kB_ret <| kS_ret ?_
    cases h
    exact Fq
   | false =>
    replace h := ite_f hb_25 h
    refine Cf <| Sq <| Ro <| Rc 2 [vb (t155 == 12), vb (t155 == 12)] <| Rk ?_
    cases hb_26 : ((t155 == 12) : Bool) with
    | true =>
     replace h := ite_t hb_26 h
     refine Ct <| Runs.skip <| kS_nrm <| Ct <| Sq <| Ro <| Rc 4 [vp [1] 0 9, vw i1.Sel, vb (i1.Sel == 0), vb (i1.Sel == 0)] <| Rk <| Runs.ret <| kB_ret <| kS_ret ?_
     cases h
     exact Fq
    | false =>
     replace h := ite_f hb_26 h
     refine Cf <| Ro <| Rc 2 [vb (t155 == 13), vb (t155 == 13)] <| Rk ?_
     cases hb_27 : ((t155 == 13) : Bool) with
     | true =>
      replace h := ite_t hb_27 h
      refine Ct <| Sq <| Ro <| Rc 4 [vp [1] 0 9, vw i1.Sel, vb (i1.Sel == 0), vb (i1.Sel == 0)] <| Rk <| Runs.ret <| kB_ret <| kS_ret ?_
      cases h
      exact Fq
     | false =>
      replace h := ite_f hb_27 h
      refine Cf <| Sq <| Ro <| Rc 2 [vb (t155 == 11), vb (t155 == 11)] <| Rk ?_
      cases hb_28 : ((t155 == 11) : Bool) with
      | true =>
       replace h := ite_t hb_28 h
       refine Ct <| Sq <| Ro <| Rc 1 [vb true] <| Rk <| Runs.ret <| kB_ret <| kS_ret ?_
       cases h
       exact Fq
      | false =>
       replace h := ite_f hb_28 h
       refine Cf <| Runs.skip <| kB_nrm <| kS_nrm <| Sq <| Ro <| Rc 4 [vp [1] 0 8, vw i1.Imm, vb (i1.Imm == 0), vb (i1.Imm == 0)] ?_
       cases hb_29 : ((i1.Imm == 0) : Bool) with
       | true =>
        replace h := ite_t hb_29 h
        refine Rc 5 [vp [1] 0 9, vw i1.Sel, vb (i1.Sel == 0), vb (i1.Sel == 0), vb (i1.Sel == 0)] <| Rk <| Runs.ret ?_
        cases h
        exact Fq
       | false =>
        replace h := ite_f hb_29 h
        refine Rc 5 [vn, vn, vn, vb false, vb false] <| Rk <| Runs.ret ?_
        cases h
        exact Fq
theorem hansomref05_May_j66_ok (i_ : Inst) (i1 : Inst) (r3 : Row) (k7 : Int) (r : Bool) (h : hansomref05_May_j66 i1 r3 k7 = some r) : Runs L F29b66 (hansomref05_May_h66 i1 r3 k7) (hansomref05_May_Q i_ r) := by
 unfold hansomref05_May_j66 at h
 refine Sq <| Sq <| Ro <| Rc 1 [vi k7] <| Rk <| Runs.block <| Sq <| Ro <| Rc 2 [vb (k7 == 6), vb (k7 == 6)] <| Rk ?_
 cases hb_16 : ((k7 == 6) : Bool) with
 | true =>
  replace h := ite_t hb_16 h
  refine Ct <| Sq <| Ro <| Rc 4 [vp [1] 0 8, vw i1.Imm, vb (decide (i1.Imm < 256)), vb (decide (i1.Imm < 256))] ?_
  cases hb_17 : ((decide (i1.Imm < 256)) : Bool) with
  | true =>
   replace h := ite_t hb_17 h
   refine Rc 5 [vp [1] 0 9, vw i1.Sel, vb (i1.Sel == 0), vb (i1.Sel == 0), vb (i1.Sel == 0)] ?_
   cases hb_18 : ((i1.Sel == 0) : Bool) with
   | true =>
    replace h := ite_t hb_18 h
    refine Rc 4 [vp [3] 0 0, vi r3.Name, vb (r3.Name != 70), vb (r3.Name != 70)] ?_
    cases hb_19 : ((r3.Name != 70) : Bool) with
    | true =>
     replace h := ite_t hb_19 h
     refine Rc 5 [vp [3] 0 0, vi r3.Name, vb (r3.Name != 71), vb (r3.Name != 71), vb (r3.Name != 71)] ?_
     cases hb_20 : ((r3.Name != 71) : Bool) with
     | true =>
      replace h := ite_t hb_20 h
      refine Rc 6 [vn, vn, vn, vb true, vb true, vb true] <| Rk <| Runs.ret <| kB_ret <| kS_ret ?_
      cases h
      exact Fq
     | false =>
      replace h := ite_f hb_20 h
      refine Rc 6 [vp [1] 0 8, vw i1.Imm, vb (i1.Imm == 10), vb (i1.Imm == 10), vb (i1.Imm == 10), vb (i1.Imm == 10)] <| Rk <| Runs.ret <| kB_ret <| kS_ret ?_
      cases h
      exact Fq
    | false =>
     replace h := ite_f hb_19 h
     refine Rc 11 [vn, vn, vn, vb false, vb false, vp [1] 0 8, vw i1.Imm, vb (i1.Imm == 10), vb (i1.Imm == 10), vb (i1.Imm == 10), vb (i1.Imm == 10)] <| Rk <| Runs.ret <| kB_ret <| kS_ret ?_
     cases h
     exact Fq
   | false =>
    replace h := ite_f hb_18 h
    refine Rc 15 [vn, vn, vn, vn, vn, vn, vn, vn, vn, vn, vn, vn, vn, vb false, vb false] <| Rk <| Runs.ret <| kB_ret <| kS_ret ?_
    cases h
    exact Fq
  | false =>
   replace h := ite_f hb_17 h
   refine Rc 20 [vn, vn, vn, vb false, vb false, vn, vn, vn, vn, vn, vn, vn, vn, vn, vn, vn, vn, vn, vb false, vb false] <| Rk <| Runs.ret <| kB_ret <| kS_ret ?_
   cases h
   exact Fq
 | false =>
  replace h := ite_f hb_16 h
  refine Cf <| Sq <| Sq <| Ro <| Rc 2 [vb (k7 == 8), vb (k7 == 8)] <| Rk ?_
  cases hb_21 : ((k7 == 8) : Bool) with
  | true =>
   replace h := ite_t hb_21 h
   refine Ct <| Runs.skip <| kS_nrm <| Runs.canon (hansomref05_May_h82 i1 k7 true) Cz ?_
   exact hansomref05_May_j82_ok i_ i1 k7 true r h
  | false =>
   replace h := ite_f hb_21 h
   refine Cf <| Ro <| Rc 2 [vb (k7 == 9), vb (k7 == 9)] <| Rk <| Runs.canon (hansomref05_May_h82 i1 k7 (k7 == 9)) Cz ?_
   exact hansomref05_May_j82_ok i_ i1 k7 (k7 == 9) r h
theorem hansomref05_May_j58_ok (i_ : Inst) (i1 : Inst) (r3 : Row) (r : Bool) (h : hansomref05_May_j58 i1 r3 = some r) : Runs L F29b58 (hansomref05_May_h58 i1 r3) (hansomref05_May_Q i_ r) := by
 unfold hansomref05_May_j58 at h
 refine Sq <| Ro <| Rc 3 [vp [3] 0 1, vi r3.A, vi r3.A] <| Rk <| Sq <| Sq <| Ro <| Rc 1 [vi r3.A] ?_
 obtain ⟨r_3, hr_3, h⟩ := bind_s h
 have hc_3 := hansomref04_Bytes_L r3.A r_3 hr_3
 refine Rt (some 151) (.callf 27) [] none [.i r3.A] (.i r_3) [] (cc hc_3) <| Rc 1 [vb (r_3 == 0)] <| Rk ?_
 cases hb_15 : ((r_3 == 0) : Bool) with
 | true =>
  replace h := ite_t hb_15 h
  refine Ct <| Ro <| Rc 3 [vp [3] 0 2, vi r3.B, vi r3.B] <| Rk <| Runs.canon (hansomref05_May_h66 i1 r3 r3.B) Cz ?_
  exact hansomref05_May_j66_ok i_ i1 r3 r3.B r h
 | false =>
  replace h := ite_f hb_15 h
  refine Cf <| Runs.skip <| kS_nrm <| Runs.canon (hansomref05_May_h66 i1 r3 r3.A) Cz ?_
  exact hansomref05_May_j66_ok i_ i1 r3 r3.A r h
theorem hansomref05_May_j49_ok (i_ : Inst) (i1 : Inst) (r3 : Row) (r : Bool) (h : hansomref05_May_j49 i1 r3 = some r) : Runs L F29b49 (hansomref05_May_h49 i1 r3) (kS L F29c58 (hansomref05_May_Q i_ r)) := by
 unfold hansomref05_May_j49 at h
 refine Sq <| Ro <| Rc 4 [vp [1] 0 4, vi i1.Mod, vp [1] 0 6, vi i1.RM] ?_
 obtain ⟨r_5, hr_5, h⟩ := bind_s h
 have hc_5 := hansomref05_Disps_L i1.Mod i1.RM r_5 hr_5
 refine Rt (some 130) (.callf 25) [] none [.i i1.Mod, .i i1.RM] (.i r_5) [] (cc hc_5) <| Rc 1 [vi r_5] <| Rk <| Sq <| Ro <| Rc 3 [vi r_5, vb (r_5 == 0), vb (r_5 == 0)] ?_
 cases hb_41 : ((r_5 == 0) : Bool) with
 | true =>
  replace h := ite_t hb_41 h
  refine Rc 5 [vp [1] 0 7, vw i1.Disp, vb (i1.Disp != 0), vb (i1.Disp != 0), vb (i1.Disp != 0)] ?_
  cases hb_42 : ((i1.Disp != 0) : Bool) with
  | true =>
   replace h := ite_t hb_42 h
   refine Rc 9 [vn, vn, vn, vn, vn, vn, vn, vn, vb true] <| Rk <| Ct <| Sq <| Ro <| Rc 1 [vb false] <| Rk <| Runs.ret <| kS_ret ?_
   cases h
   exact Fq
  | false =>
   replace h := ite_f hb_42 h
   refine Rc 3 [vi r_5, vb (r_5 == 1), vb (r_5 == 1)] ?_
   cases hb_43 : ((r_5 == 1) : Bool) with
   | true =>
    replace h := ite_t hb_43 h
    refine Rc 2 [vp [1] 0 7, vw i1.Disp] ?_
    obtain ⟨r_6, hr_6, h⟩ := bind_s h
    have hc_6 := hansomref01_Fits_L i1.Disp r_6 hr_6
    refine Rt (some 144) (.callf 38) [] none [.w i1.Disp] (.b r_6) [] (cc hc_6) <| Rc 3 [vb (!r_6), vb (!r_6), vb (!r_6)] <| Rk ?_
    cases hb_44 : ((!r_6) : Bool) with
    | true =>
     replace h := ite_t hb_44 h
     refine Ct <| Sq <| Ro <| Rc 1 [vb false] <| Rk <| Runs.ret <| kS_ret ?_
     cases h
     exact Fq
    | false =>
     replace h := ite_f hb_44 h
     refine Cf <| Runs.skip <| kS_nrm <| Runs.canon (hansomref05_May_h58 i1 r3) Cz ?_
     exact hansomref05_May_j58_ok i_ i1 r3 r h
   | false =>
    replace h := ite_f hb_43 h
    refine Rc 6 [vn, vn, vn, vn, vb false, vb false] <| Rk <| Cf <| Runs.skip <| kS_nrm <| Runs.canon (hansomref05_May_h58 i1 r3) Cz ?_
    exact hansomref05_May_j58_ok i_ i1 r3 r h
 | false =>
  replace h := ite_f hb_41 h
  refine Rc 8 [vn, vn, vn, vb false, vb false, vi r_5, vb (r_5 == 1), vb (r_5 == 1)] ?_
  cases hb_45 : ((r_5 == 1) : Bool) with
  | true =>
   replace h := ite_t hb_45 h
   refine Rc 2 [vp [1] 0 7, vw i1.Disp] ?_
   obtain ⟨r_7, hr_7, h⟩ := bind_s h
   have hc_7 := hansomref01_Fits_L i1.Disp r_7 hr_7
   refine Rt (some 144) (.callf 38) [] none [.w i1.Disp] (.b r_7) [] (cc hc_7) <| Rc 3 [vb (!r_7), vb (!r_7), vb (!r_7)] <| Rk ?_
   cases hb_46 : ((!r_7) : Bool) with
   | true =>
    replace h := ite_t hb_46 h
    refine Ct <| Sq <| Ro <| Rc 1 [vb false] <| Rk <| Runs.ret <| kS_ret ?_
    cases h
    exact Fq
   | false =>
    replace h := ite_f hb_46 h
    refine Cf <| Runs.skip <| kS_nrm <| Runs.canon (hansomref05_May_h58 i1 r3) Cz ?_
    exact hansomref05_May_j58_ok i_ i1 r3 r h
  | false =>
   replace h := ite_f hb_45 h
   refine Rc 6 [vn, vn, vn, vn, vb false, vb false] <| Rk <| Cf <| Runs.skip <| kS_nrm <| Runs.canon (hansomref05_May_h58 i1 r3) Cz ?_
   exact hansomref05_May_j58_ok i_ i1 r3 r h
theorem hansomref05_May_j22_ok (i_ : Inst) (i1 : Inst) (r3 : Row) (r : Bool) (h : hansomref05_May_j22 i1 r3 = some r) : Runs L F29b22 (hansomref05_May_h22 i1 r3) (hansomref05_May_Q i_ r) := by
 unfold hansomref05_May_j22 at h
 refine Sq <| Sq <| Ro <| Rc 3 [vp [3] 0 3, vb r3.Mod, vb (!r3.Mod)] <| Rk ?_
 cases hb_10 : ((!r3.Mod) : Bool) with
 | true =>
  replace h := ite_t hb_10 h
  refine Ct <| Sq <| Ro <| Rc 4 [vp [1] 0 4, vi i1.Mod, vb (i1.Mod != 0), vb (i1.Mod != 0)] ?_
  cases hb_11 : ((i1.Mod != 0) : Bool) with
  | true =>
   replace h := ite_t hb_11 h
   refine Rc 14 [vn, vn, vn, vb true, vb true, vn, vn, vn, vb true, vb true, vn, vn, vn, vb true] <| Rk <| Ct <| Sq <| Ro <| Rc 1 [vb false] <| Rk <| Runs.ret <| kS_ret ?_
   cases h
   exact Fq
  | false =>
   replace h := ite_f hb_11 h
   refine Rc 5 [vp [1] 0 5, vi i1.Reg, vb (i1.Reg != 0), vb (i1.Reg != 0), vb (i1.Reg != 0)] ?_
   cases hb_12 : ((i1.Reg != 0) : Bool) with
   | true =>
    replace h := ite_t hb_12 h
    refine Rc 9 [vn, vn, vn, vb true, vb true, vn, vn, vn, vb true] <| Rk <| Ct <| Sq <| Ro <| Rc 1 [vb false] <| Rk <| Runs.ret <| kS_ret ?_
    cases h
    exact Fq
   | false =>
    replace h := ite_f hb_12 h
    refine Rc 5 [vp [1] 0 6, vi i1.RM, vb (i1.RM != 0), vb (i1.RM != 0), vb (i1.RM != 0)] ?_
    cases hb_13 : ((i1.RM != 0) : Bool) with
    | true =>
     replace h := ite_t hb_13 h
     refine Rc 4 [vn, vn, vn, vb true] <| Rk <| Ct <| Sq <| Ro <| Rc 1 [vb false] <| Rk <| Runs.ret <| kS_ret ?_
     cases h
     exact Fq
    | false =>
     replace h := ite_f hb_13 h
     refine Rc 4 [vp [1] 0 7, vw i1.Disp, vb (i1.Disp != 0), vb (i1.Disp != 0)] <| Rk ?_
     cases hb_14 : ((i1.Disp != 0) : Bool) with
     | true =>
      replace h := ite_t hb_14 h
      refine Ct <| Sq <| Ro <| Rc 1 [vb false] <| Rk <| Runs.ret <| kS_ret ?_
      cases h
      exact Fq
     | false =>
      replace h := ite_f hb_14 h
      refine Cf <| Runs.skip <| kS_nrm <| Runs.canon (hansomref05_May_h58 i1 r3) Cz ?_
      exact hansomref05_May_j58_ok i_ i1 r3 r h
 | false =>
  replace h := ite_f hb_10 h
  refine Cf <| Sq <| Sq <| Ro <| Rc 4 [vp [1] 0 4, vi i1.Mod, vb (decide (i1.Mod < 0)), vb (decide (i1.Mod < 0))] ?_
  cases hb_30 : ((decide (i1.Mod < 0)) : Bool) with
  | true =>
   replace h := ite_t hb_30 h
   refine Rc 24 [vn, vn, vn, vb true, vb true, vn, vn, vn, vb true, vb true, vn, vn, vn, vb true, vb true, vn, vn, vn, vb true, vb true, vn, vn, vn, vb true] <| Rk <| Ct <| Sq <| Ro <| Rc 1 [vb false] <| Rk <| Runs.ret <| kS_ret <| kS_ret ?_
   cases h
   exact Fq
  | false =>
   replace h := ite_f hb_30 h
   refine Rc 5 [vp [1] 0 4, vi i1.Mod, vb (decide (i1.Mod > 3)), vb (decide (i1.Mod > 3)), vb (decide (i1.Mod > 3))] ?_
   cases hb_31 : ((decide (i1.Mod > 3)) : Bool) with
   | true =>
    replace h := ite_t hb_31 h
    refine Rc 19 [vn, vn, vn, vb true, vb true, vn, vn, vn, vb true, vb true, vn, vn, vn, vb true, vb true, vn, vn, vn, vb true] <| Rk <| Ct <| Sq <| Ro <| Rc 1 [vb false] <| Rk <| Runs.ret <| kS_ret <| kS_ret ?_
    cases h
    exact Fq
   | false =>
    replace h := ite_f hb_31 h
    refine Rc 5 [vp [1] 0 5, vi i1.Reg, vb (decide (i1.Reg < 0)), vb (decide (i1.Reg < 0)), vb (decide (i1.Reg < 0))] ?_
    cases hb_32 : ((decide (i1.Reg < 0)) : Bool) with
    | true =>
     replace h := ite_t hb_32 h
     refine Rc 14 [vn, vn, vn, vb true, vb true, vn, vn, vn, vb true, vb true, vn, vn, vn, vb true] <| Rk <| Ct <| Sq <| Ro <| Rc 1 [vb false] <| Rk <| Runs.ret <| kS_ret <| kS_ret ?_
     cases h
     exact Fq
    | false =>
     replace h := ite_f hb_32 h
     refine Rc 5 [vp [1] 0 5, vi i1.Reg, vb (decide (i1.Reg > 7)), vb (decide (i1.Reg > 7)), vb (decide (i1.Reg > 7))] ?_
     cases hb_33 : ((decide (i1.Reg > 7)) : Bool) with
     | true =>
      replace h := ite_t hb_33 h
      refine Rc 9 [vn, vn, vn, vb true, vb true, vn, vn, vn, vb true] <| Rk <| Ct <| Sq <| Ro <| Rc 1 [vb false] <| Rk <| Runs.ret <| kS_ret <| kS_ret ?_
      cases h
      exact Fq
     | false =>
      replace h := ite_f hb_33 h
      refine Rc 5 [vp [1] 0 6, vi i1.RM, vb (decide (i1.RM < 0)), vb (decide (i1.RM < 0)), vb (decide (i1.RM < 0))] ?_
      cases hb_34 : ((decide (i1.RM < 0)) : Bool) with
      | true =>
       replace h := ite_t hb_34 h
       refine Rc 4 [vn, vn, vn, vb true] <| Rk <| Ct <| Sq <| Ro <| Rc 1 [vb false] <| Rk <| Runs.ret <| kS_ret <| kS_ret ?_
       cases h
       exact Fq
      | false =>
       replace h := ite_f hb_34 h
       refine Rc 4 [vp [1] 0 6, vi i1.RM, vb (decide (i1.RM > 7)), vb (decide (i1.RM > 7))] <| Rk ?_
       cases hb_35 : ((decide (i1.RM > 7)) : Bool) with
       | true =>
        replace h := ite_t hb_35 h
        refine Ct <| Sq <| Ro <| Rc 1 [vb false] <| Rk <| Runs.ret <| kS_ret <| kS_ret ?_
        cases h
        exact Fq
       | false =>
        replace h := ite_f hb_35 h
        refine Cf <| Runs.skip <| kS_nrm <| Sq <| Sq <| Ro <| Rc 4 [vp [1] 0 4, vi i1.Mod, vb (i1.Mod == 3), vb (i1.Mod == 3)] ?_
        cases hb_36 : ((i1.Mod == 3) : Bool) with
        | true =>
         replace h := ite_t hb_36 h
         refine Rc 4 [vp [3] 0 1, vi r3.A, vb (r3.A == 19), vb (r3.A == 19)] ?_
         cases hb_37 : ((r3.A == 19) : Bool) with
         | true =>
          replace h := ite_t hb_37 h
          refine Rc 15 [vn, vn, vn, vb true, vb true, vn, vn, vn, vb true, vb true, vn, vn, vn, vb true, vb true] <| Rk <| Ct <| Sq <| Ro <| Rc 1 [vb false] <| Rk <| Runs.ret <| kS_ret <| kS_ret ?_
          cases h
          exact Fq
         | false =>
          replace h := ite_f hb_37 h
          refine Rc 5 [vp [3] 0 1, vi r3.A, vb (r3.A == 20), vb (r3.A == 20), vb (r3.A == 20)] ?_
          cases hb_38 : ((r3.A == 20) : Bool) with
          | true =>
           replace h := ite_t hb_38 h
           refine Rc 10 [vn, vn, vn, vb true, vb true, vn, vn, vn, vb true, vb true] <| Rk <| Ct <| Sq <| Ro <| Rc 1 [vb false] <| Rk <| Runs.ret <| kS_ret <| kS_ret ?_
           cases h
           exact Fq
          | false =>
           replace h := ite_f hb_38 h
           refine Rc 5 [vp [3] 0 2, vi r3.B, vb (r3.B == 19), vb (r3.B == 19), vb (r3.B == 19)] ?_
           cases hb_39 : ((r3.B == 19) : Bool) with
           | true =>
            replace h := ite_t hb_39 h
            refine Rc 5 [vn, vn, vn, vb true, vb true] <| Rk <| Ct <| Sq <| Ro <| Rc 1 [vb false] <| Rk <| Runs.ret <| kS_ret <| kS_ret ?_
            cases h
            exact Fq
           | false =>
            replace h := ite_f hb_39 h
            refine Rc 5 [vp [3] 0 2, vi r3.B, vb (r3.B == 20), vb (r3.B == 20), vb (r3.B == 20)] <| Rk ?_
            cases hb_40 : ((r3.B == 20) : Bool) with
            | true =>
             replace h := ite_t hb_40 h
             refine Ct <| Sq <| Ro <| Rc 1 [vb false] <| Rk <| Runs.ret <| kS_ret <| kS_ret ?_
             cases h
             exact Fq
            | false =>
             replace h := ite_f hb_40 h
             refine Cf <| Runs.skip <| kS_nrm <| Runs.canon (hansomref05_May_h49 i1 r3) Cz ?_
             exact hansomref05_May_j49_ok i_ i1 r3 r h
        | false =>
         replace h := ite_f hb_36 h
         refine Rc 19 [vn, vn, vn, vn, vn, vn, vn, vn, vn, vn, vn, vn, vn, vn, vn, vn, vn, vn, vb false] <| Rk <| Cf <| Runs.skip <| kS_nrm <| Runs.canon (hansomref05_May_h49 i1 r3) Cz ?_
         exact hansomref05_May_j49_ok i_ i1 r3 r h
theorem hansomref05_May_ok (i_ : Inst) (r : Bool) (h : hansomref05_May i_ = some r) : Runs L F29.body ⟨tmOf [.d (Inst.d i_)] 0, updW (fun _ => none) []⟩ (hansomref05_May_Q i_ r) := by
 unfold hansomref05_May at h
 refine Sq <| Ro <| Rc 2 [⟨.ptr [1] 0 0, [([1], some (.cells [.b i_.Lock, .i i_.Rep, .i i_.Seg, .y i_.Op, .i i_.Mod, .i i_.Reg, .i i_.RM, .w i_.Disp, .w i_.Imm, .w i_.Sel] 0))]⟩, vb false] <| Rk <| Sq <| Ro <| Rc 1 [⟨.d (Inst.d i_), []⟩] ?_
 obtain ⟨r_1, hr_1, h⟩ := bind_s h
 have hc_1 := hansomref05_Row_L i_ r_1 hr_1
 refine Rt (some 10) (.callf 24) [] none [.d (Inst.d i_)] (.tup [.d (Row.d r_1.1), .b r_1.2]) [] (cc hc_1) <| Rc 6 [⟨.tup [.d (Row.d r_1.1), .b r_1.2], []⟩, ⟨.d (Row.d r_1.1), []⟩, vb r_1.2, ⟨.ptr [3] 0 0, [([3], some (.cells [.i 0, .i 0, .i 0, .b false] 0))]⟩, ⟨.tup [], [([3], some (.cells [.i r_1.1.Name, .i r_1.1.A, .i r_1.1.B, .b r_1.1.Mod] 0))]⟩, vb r_1.2] <| Rk <| Sq <| Sq <| Ro <| Rc 3 [vb r_1.2, vb (!r_1.2), vb (!r_1.2)] ?_
 cases hb_1 : ((!r_1.2) : Bool) with
 | true =>
  replace h := ite_t hb_1 h
  refine Rc 9 [vn, vn, vn, vb true, vb true, vn, vn, vn, vb true] <| Rk <| Ct <| Sq <| Ro <| Rc 1 [vb false] <| Rk <| Runs.ret <| kS_ret ?_
  cases h
  exact Fq
 | false =>
  replace h := ite_f hb_1 h
  refine Rc 5 [vp [1] 0 2, vi i_.Seg, vb (decide (i_.Seg < 0)), vb (decide (i_.Seg < 0)), vb (decide (i_.Seg < 0))] ?_
  cases hb_2 : ((decide (i_.Seg < 0)) : Bool) with
  | true =>
   replace h := ite_t hb_2 h
   refine Rc 4 [vn, vn, vn, vb true] <| Rk <| Ct <| Sq <| Ro <| Rc 1 [vb false] <| Rk <| Runs.ret <| kS_ret ?_
   cases h
   exact Fq
  | false =>
   replace h := ite_f hb_2 h
   refine Rc 4 [vp [1] 0 2, vi i_.Seg, vb (decide (i_.Seg > 4)), vb (decide (i_.Seg > 4))] <| Rk ?_
   cases hb_3 : ((decide (i_.Seg > 4)) : Bool) with
   | true =>
    replace h := ite_t hb_3 h
    refine Ct <| Sq <| Ro <| Rc 1 [vb false] <| Rk <| Runs.ret <| kS_ret ?_
    cases h
    exact Fq
   | false =>
    replace h := ite_f hb_3 h
    refine Cf <| Runs.skip <| kS_nrm <| Sq <| Ro <| Rc 2 [vp [3] 0 0, vi r_1.1.Name] ?_
    obtain ⟨r_2, hr_2, h⟩ := bind_s h
    have hc_2 := hansomref04_Repeats_L r_1.1.Name r_2 hr_2
    refine Rt (some 27) (.callf 28) [] none [.i r_1.1.Name] (.i r_2) [] (cc hc_2) <| Rc 1 [vi r_2] <| Rk <| Sq <| Sq <| Ro <| Rc 4 [vp [1] 0 1, vi i_.Rep, vb (decide (i_.Rep < 0)), vb (decide (i_.Rep < 0))] ?_
    cases hb_4 : ((decide (i_.Rep < 0)) : Bool) with
    | true =>
     replace h := ite_t hb_4 h
     refine Rc 22 [vn, vn, vn, vb true, vb true, vn, vn, vn, vn, vn, vn, vn, vb true, vb true, vn, vn, vn, vn, vn, vn, vn, vb true] <| Rk <| Ct <| Sq <| Ro <| Rc 1 [vb false] <| Rk <| Runs.ret <| kS_ret ?_
     cases h
     exact Fq
    | false =>
     replace h := ite_f hb_4 h
     refine Rc 5 [vp [1] 0 1, vi i_.Rep, vb (decide (i_.Rep > 2)), vb (decide (i_.Rep > 2)), vb (decide (i_.Rep > 2))] ?_
     cases hb_5 : ((decide (i_.Rep > 2)) : Bool) with
     | true =>
      replace h := ite_t hb_5 h
      refine Rc 17 [vn, vn, vn, vn, vn, vn, vn, vb true, vb true, vn, vn, vn, vn, vn, vn, vn, vb true] <| Rk <| Ct <| Sq <| Ro <| Rc 1 [vb false] <| Rk <| Runs.ret <| kS_ret ?_
      cases h
      exact Fq
     | false =>
      replace h := ite_f hb_5 h
      refine Rc 4 [vp [1] 0 1, vi i_.Rep, vb (i_.Rep == 1), vb (i_.Rep == 1)] ?_
      cases hb_6 : ((i_.Rep == 1) : Bool) with
      | true =>
       replace h := ite_t hb_6 h
       refine Rc 5 [vi r_2, vb (decide (r_2 < 2)), vb (decide (r_2 < 2)), vb (decide (r_2 < 2)), vb (decide (r_2 < 2))] ?_
       cases hb_7 : ((decide (r_2 < 2)) : Bool) with
       | true =>
        replace h := ite_t hb_7 h
        refine Rc 8 [vn, vn, vn, vn, vn, vn, vn, vb true] <| Rk <| Ct <| Sq <| Ro <| Rc 1 [vb false] <| Rk <| Runs.ret <| kS_ret ?_
        cases h
        exact Fq
       | false =>
        replace h := ite_f hb_7 h
        refine Rc 4 [vp [1] 0 1, vi i_.Rep, vb (i_.Rep == 2), vb (i_.Rep == 2)] ?_
        cases hb_8 : ((i_.Rep == 2) : Bool) with
        | true =>
         replace h := ite_t hb_8 h
         refine Rc 4 [vi r_2, vb (decide (r_2 < 1)), vb (decide (r_2 < 1)), vb (decide (r_2 < 1))] <| Rk ?_
         cases hb_9 : ((decide (r_2 < 1)) : Bool) with
         | true =>
          replace h := ite_t hb_9 h
          refine Ct <| Sq <| Ro <| Rc 1 [vb false] <| Rk <| Runs.ret <| kS_ret ?_
          cases h
          exact Fq
         | false =>
          replace h := ite_f hb_9 h
          refine Cf <| Runs.skip <| kS_nrm <| Runs.canon (hansomref05_May_h22 i_ r_1.1) Cz ?_
          exact hansomref05_May_j22_ok i_ i_ r_1.1 r h
        | false =>
         replace h := ite_f hb_8 h
         refine Rc 4 [vn, vn, vb false, vb false] <| Rk <| Cf <| Runs.skip <| kS_nrm <| Runs.canon (hansomref05_May_h22 i_ r_1.1) Cz ?_
         exact hansomref05_May_j22_ok i_ i_ r_1.1 r h
      | false =>
       replace h := ite_f hb_6 h
       refine Rc 9 [vn, vn, vb false, vb false, vb false, vp [1] 0 1, vi i_.Rep, vb (i_.Rep == 2), vb (i_.Rep == 2)] ?_
       cases hb_47 : ((i_.Rep == 2) : Bool) with
       | true =>
        replace h := ite_t hb_47 h
        refine Rc 4 [vi r_2, vb (decide (r_2 < 1)), vb (decide (r_2 < 1)), vb (decide (r_2 < 1))] <| Rk ?_
        cases hb_48 : ((decide (r_2 < 1)) : Bool) with
        | true =>
         replace h := ite_t hb_48 h
         refine Ct <| Sq <| Ro <| Rc 1 [vb false] <| Rk <| Runs.ret <| kS_ret ?_
         cases h
         exact Fq
        | false =>
         replace h := ite_f hb_48 h
         refine Cf <| Runs.skip <| kS_nrm <| Runs.canon (hansomref05_May_h22 i_ r_1.1) Cz ?_
         exact hansomref05_May_j22_ok i_ i_ r_1.1 r h
       | false =>
        replace h := ite_f hb_47 h
        refine Rc 4 [vn, vn, vb false, vb false] <| Rk <| Cf <| Runs.skip <| kS_nrm <| Runs.canon (hansomref05_May_h22 i_ r_1.1) Cz ?_
        exact hansomref05_May_j22_ok i_ i_ r_1.1 r h
theorem hansomref05_May_L (i_ : Inst) (r : Bool) (h : hansomref05_May i_ = some r) : L 29 [.d (Inst.d i_)] = some (.b r, [.d (Inst.d i_)]) := by
 obtain ⟨p, ⟨hne, hf⟩, hr⟩ := hansomref05_May_ok i_ r h
 obtain ⟨k, hk⟩ := run_of (F := F29) (args := [.d (Inst.d i_)]) (ap := [.d (Inst.d i_)]) (bx0 := updW (fun _ => none) []) rfl rfl (by kernel_rfl) ⟨p, ⟨hne, hf⟩, hr⟩
 exact lim_run (k := k) rfl hk
def hansomref01_Sign_Q (b_ : Int) (r : Int) (p : Out × St) : Prop := (∀ i, p.1 ≠ .exit i) ∧ finF F26 [.y b_] p.2 = some (.w r, [.y b_])
theorem hansomref01_Sign_ok (b_ : Int) (r : Int) (h : hansomref01_Sign b_ = some r) : Runs L F26.body ⟨tmOf [.y b_] 0, updW (fun _ => none) []⟩ (hansomref01_Sign_Q b_ r) := by
 unfold hansomref01_Sign at h
 refine Sq <| Ro <| Rc 1 [vw 0] <| Rk <| Sq <| Sq <| Ro <| Rc 2 [vy b_, vb (decide (b_ < 128))] <| Rk ?_
 cases hb_1 : ((decide (b_ < 128)) : Bool) with
 | true =>
  replace h := ite_t hb_1 h
  refine Ct <| Sq <| Ro <| Rc 3 [vy b_, vw (IntKind.wrap .u16 b_), vw (IntKind.wrap .u16 b_)] <| Rk <| Runs.ret <| kS_ret ?_
  cases h
  exact Fq
 | false =>
  replace h := ite_f hb_1 h
  refine Cf <| Runs.skip <| kS_nrm <| Sq <| Ro <| Rc 4 [vy b_, vw (IntKind.wrap .u16 b_), vw (IntKind.wrap .u16 (65280 + (IntKind.wrap .u16 b_))), vw (IntKind.wrap .u16 (65280 + (IntKind.wrap .u16 b_)))] <| Rk <| Runs.ret ?_
  cases h
  exact Fq
theorem hansomref01_Sign_L (b_ : Int) (r : Int) (h : hansomref01_Sign b_ = some r) : L 26 [.y b_] = some (.w r, [.y b_]) := by
 obtain ⟨p, ⟨hne, hf⟩, hr⟩ := hansomref01_Sign_ok b_ r h
 obtain ⟨k, hk⟩ := run_of (F := F26) (args := [.y b_]) (ap := [.y b_]) (bx0 := updW (fun _ => none) []) rfl rfl (by kernel_rfl) ⟨p, ⟨hne, hf⟩, hr⟩
 exact lim_run (k := k) rfl hk
def hansomref05_Near_h35 (x1 : Inst) (i2 : Inst) (r3 : Row) : St := ⟨tab [(1, .ptr [1] 0 0), (2, .ptr [2] 0 0), (3, .ptr [3] 0 0)], tabB [([1], some (.cells [.b x1.Lock, .i x1.Rep, .i x1.Seg, .y x1.Op, .i x1.Mod, .i x1.Reg, .i x1.RM, .w x1.Disp, .w x1.Imm, .w x1.Sel] 0)), ([2], some (.cells [.b i2.Lock, .i i2.Rep, .i i2.Seg, .y i2.Op, .i i2.Mod, .i i2.Reg, .i i2.RM, .w i2.Disp, .w i2.Imm, .w i2.Sel] 0)), ([3], some (.cells [.i r3.Name, .i r3.A, .i r3.B, .b r3.Mod] 0))]⟩
def hansomref05_Near_h43 (x1 : Inst) (i2 : Inst) (r3 : Row) (k5 : Int) : St := ⟨tab [(1, .ptr [1] 0 0), (2, .ptr [2] 0 0), (3, .ptr [3] 0 0), (5, .i k5)], tabB [([1], some (.cells [.b x1.Lock, .i x1.Rep, .i x1.Seg, .y x1.Op, .i x1.Mod, .i x1.Reg, .i x1.RM, .w x1.Disp, .w x1.Imm, .w x1.Sel] 0)), ([2], some (.cells [.b i2.Lock, .i i2.Rep, .i i2.Seg, .y i2.Op, .i i2.Mod, .i i2.Reg, .i i2.RM, .w i2.Disp, .w i2.Imm, .w i2.Sel] 0)), ([3], some (.cells [.i r3.Name, .i r3.A, .i r3.B, .b r3.Mod] 0))]⟩
def hansomref05_Near_h86 (x1 : Inst) (i2 : Inst) (r3 : Row) : St := ⟨tab [(1, .ptr [1] 0 0), (2, .ptr [2] 0 0), (3, .ptr [3] 0 0)], tabB [([1], some (.cells [.b x1.Lock, .i x1.Rep, .i x1.Seg, .y x1.Op, .i x1.Mod, .i x1.Reg, .i x1.RM, .w x1.Disp, .w x1.Imm, .w x1.Sel] 0)), ([2], some (.cells [.b i2.Lock, .i i2.Rep, .i i2.Seg, .y i2.Op, .i i2.Mod, .i i2.Reg, .i i2.RM, .w i2.Disp, .w i2.Imm, .w i2.Sel] 0)), ([3], some (.cells [.i r3.Name, .i r3.A, .i r3.B, .b r3.Mod] 0))]⟩
def hansomref05_Near_h100 (x1 : Inst) (i2 : Inst) : St := ⟨tab [(1, .ptr [1] 0 0), (2, .ptr [2] 0 0)], tabB [([1], some (.cells [.b x1.Lock, .i x1.Rep, .i x1.Seg, .y x1.Op, .i x1.Mod, .i x1.Reg, .i x1.RM, .w x1.Disp, .w x1.Imm, .w x1.Sel] 0)), ([2], some (.cells [.b i2.Lock, .i i2.Rep, .i i2.Seg, .y i2.Op, .i i2.Mod, .i i2.Reg, .i i2.RM, .w i2.Disp, .w i2.Imm, .w i2.Sel] 0))]⟩
def hansomref05_Near_h63 (x1 : Inst) (i2 : Inst) (r3 : Row) (t61 : Int) (t77 : Bool) : St := ⟨tab [(1, .ptr [1] 0 0), (2, .ptr [2] 0 0), (3, .ptr [3] 0 0), (61, .i t61), (77, .b t77)], tabB [([1], some (.cells [.b x1.Lock, .i x1.Rep, .i x1.Seg, .y x1.Op, .i x1.Mod, .i x1.Reg, .i x1.RM, .w x1.Disp, .w x1.Imm, .w x1.Sel] 0)), ([2], some (.cells [.b i2.Lock, .i i2.Rep, .i i2.Seg, .y i2.Op, .i i2.Mod, .i i2.Reg, .i i2.RM, .w i2.Disp, .w i2.Imm, .w i2.Sel] 0)), ([3], some (.cells [.i r3.Name, .i r3.A, .i r3.B, .b r3.Mod] 0))]⟩
def hansomref05_Near_h79 (x1 : Inst) (i2 : Inst) (r3 : Row) (t61 : Int) (t86 : Bool) : St := ⟨tab [(1, .ptr [1] 0 0), (2, .ptr [2] 0 0), (3, .ptr [3] 0 0), (61, .i t61), (86, .b t86)], tabB [([1], some (.cells [.b x1.Lock, .i x1.Rep, .i x1.Seg, .y x1.Op, .i x1.Mod, .i x1.Reg, .i x1.RM, .w x1.Disp, .w x1.Imm, .w x1.Sel] 0)), ([2], some (.cells [.b i2.Lock, .i i2.Rep, .i i2.Seg, .y i2.Op, .i i2.Mod, .i i2.Reg, .i i2.RM, .w i2.Disp, .w i2.Imm, .w i2.Sel] 0)), ([3], some (.cells [.i r3.Name, .i r3.A, .i r3.B, .b r3.Mod] 0))]⟩
def hansomref05_Near_Q (x_ : Inst) (r : Inst) (p : Out × St) : Prop := (∀ i, p.1 ≠ .exit i) ∧ finF F16 [.d (Inst.d x_)] p.2 = some (.d (Inst.d r), [.d (Inst.d x_)])
theorem hansomref05_Near_j100_ok (x_ : Inst) (x1 : Inst) (i2 : Inst) (r : Inst) (h : hansomref05_Near_j100 x1 i2 = some r) : Runs L F16b100 (hansomref05_Near_h100 x1 i2) (hansomref05_Near_Q x_ r) := by
 unfold hansomref05_Near_j100 at h
 refine Sq <| Sq <| Ro <| Rc 4 [vp [1] 0 2, vi x1.Seg, vi (bitsOp .and .i64 x1.Seg 7), vb (decide ((bitsOp .and .i64 x1.Seg 7) ≤ 4))] <| Rk ?_
 cases hb_10 : ((decide ((bitsOp .and .i64 x1.Seg 7) ≤ 4)) : Bool) with
 | true =>
  replace h := ite_t hb_10 h
  refine Ct <| Ro <| Rc 5 [vp [1] 0 2, vi x1.Seg, vi (bitsOp .and .i64 x1.Seg 7), vp [2] 0 2, ⟨.tup [], [([2], some (.cells [.b i2.Lock, .i i2.Rep, .i (bitsOp .and .i64 x1.Seg 7), .y i2.Op, .i i2.Mod, .i i2.Reg, .i i2.RM, .w i2.Disp, .w i2.Imm, .w i2.Sel] 0))]⟩] <| Rk <| Sq <| Sq <| Ro <| Rc 1 [⟨.d (.agg [.bool i2.Lock, .int .i64 i2.Rep, .int .i64 (bitsOp .and .i64 x1.Seg 7), .int .u8 i2.Op, .int .i64 i2.Mod, .int .i64 i2.Reg, .int .i64 i2.RM, .int .u16 i2.Disp, .int .u16 i2.Imm, .int .u16 i2.Sel]), []⟩] ?_
  obtain ⟨r_4, hr_4, h⟩ := bind_s h
  have hc_4 := hansomref05_May_L ({ i2 with Seg := (bitsOp .and .i64 x1.Seg 7) } : Inst) r_4 hr_4
  refine Rt (some 132) (.callf 29) [] none [.d (.agg [.bool i2.Lock, .int .i64 i2.Rep, .int .i64 (bitsOp .and .i64 x1.Seg 7), .int .u8 i2.Op, .int .i64 i2.Mod, .int .i64 i2.Reg, .int .i64 i2.RM, .int .u16 i2.Disp, .int .u16 i2.Imm, .int .u16 i2.Sel])] (.b r_4) [] (cc hc_4) <| Rc 1 [vb (!r_4)] <| Rk ?_
  cases hb_11 : ((!r_4) : Bool) with
  | true =>
   replace h := ite_t hb_11 h
   refine Ct <| Sq <| Ro <| Rc 2 [⟨.d (.agg [.bool false, .int .i64 0, .int .i64 0, .int .u8 144, .int .i64 0, .int .i64 0, .int .i64 0, .int .u16 0, .int .u16 0, .int .u16 0]), []⟩, ⟨.tup [], [([2], some (.cells [.b false, .i 0, .i 0, .y 144, .i 0, .i 0, .i 0, .w 0, .w 0, .w 0] 0))]⟩] <| Rk <| Runs.ret <| kS_ret ?_
   cases h
   exact Fq
  | false =>
   replace h := ite_f hb_11 h
   refine Cf <| Runs.skip <| kS_nrm <| Sq <| Ro <| Rc 2 [⟨.d (.agg [.bool i2.Lock, .int .i64 i2.Rep, .int .i64 (bitsOp .and .i64 x1.Seg 7), .int .u8 i2.Op, .int .i64 i2.Mod, .int .i64 i2.Reg, .int .i64 i2.RM, .int .u16 i2.Disp, .int .u16 i2.Imm, .int .u16 i2.Sel]), []⟩, ⟨.tup [], [([2], some (.cells [.b i2.Lock, .i i2.Rep, .i (bitsOp .and .i64 x1.Seg 7), .y i2.Op, .i i2.Mod, .i i2.Reg, .i i2.RM, .w i2.Disp, .w i2.Imm, .w i2.Sel] 0))]⟩] <| Rk <| Runs.ret ?_
   cases h
   exact Fq
 | false =>
  replace h := ite_f hb_10 h
  refine Cf <| Runs.skip <| kS_nrm <| Sq <| Sq <| Ro <| Rc 1 [⟨.d (Inst.d i2), []⟩] ?_
  obtain ⟨r_5, hr_5, h⟩ := bind_s h
  have hc_5 := hansomref05_May_L i2 r_5 hr_5
  refine Rt (some 132) (.callf 29) [] none [.d (Inst.d i2)] (.b r_5) [] (cc hc_5) <| Rc 1 [vb (!r_5)] <| Rk ?_
  cases hb_12 : ((!r_5) : Bool) with
  | true =>
   replace h := ite_t hb_12 h
   refine Ct <| Sq <| Ro <| Rc 2 [⟨.d (.agg [.bool false, .int .i64 0, .int .i64 0, .int .u8 144, .int .i64 0, .int .i64 0, .int .i64 0, .int .u16 0, .int .u16 0, .int .u16 0]), []⟩, ⟨.tup [], [([2], some (.cells [.b false, .i 0, .i 0, .y 144, .i 0, .i 0, .i 0, .w 0, .w 0, .w 0] 0))]⟩] <| Rk <| Runs.ret <| kS_ret ?_
   cases h
   exact Fq
  | false =>
   replace h := ite_f hb_12 h
   refine Cf <| Runs.skip <| kS_nrm <| Sq <| Ro <| Rc 2 [⟨.d (Inst.d i2), []⟩, ⟨.tup [], [([2], some (.cells [.b i2.Lock, .i i2.Rep, .i i2.Seg, .y i2.Op, .i i2.Mod, .i i2.Reg, .i i2.RM, .w i2.Disp, .w i2.Imm, .w i2.Sel] 0))]⟩] <| Rk <| Runs.ret ?_
   cases h
   exact Fq
theorem hansomref05_Near_j86_ok (x_ : Inst) (x1 : Inst) (i2 : Inst) (r3 : Row) (r : Inst) (h : hansomref05_Near_j86 x1 i2 r3 = some r) : Runs L F16b86 (hansomref05_Near_h86 x1 i2 r3) (hansomref05_Near_Q x_ r) := by
 unfold hansomref05_Near_j86 at h
 refine Sq <| Sq <| Ro <| Rc 2 [vp [3] 0 0, vi r3.Name] ?_
 obtain ⟨r_3, hr_3, h⟩ := bind_s h
 have hc_3 := hansomref04_Repeats_L r3.Name r_3 hr_3
 refine Rt (some 104) (.callf 28) [] none [.i r3.Name] (.i r_3) [] (cc hc_3) <| Rc 1 [vi r_3] <| Rk <| Sq <| Ro <| Rc 3 [vi r_3, vb (decide (r_3 > 0)), vb (decide (r_3 > 0))] ?_
 cases hb_6 : ((decide (r_3 > 0)) : Bool) with
 | true =>
  replace h := ite_t hb_6 h
  refine Rc 5 [vp [1] 0 1, vi x1.Rep, vi (bitsOp .and .i64 x1.Rep 3), vb (decide ((bitsOp .and .i64 x1.Rep 3) > 0)), vb (decide ((bitsOp .and .i64 x1.Rep 3) > 0))] <| Rk ?_
  cases hb_7 : ((decide ((bitsOp .and .i64 x1.Rep 3) > 0)) : Bool) with
  | true =>
   replace h := ite_t hb_7 h
   refine Ct <| Sq <| Ro <| Rc 2 [vp [2] 0 1, ⟨.tup [], [([2], some (.cells [.b i2.Lock, .i 2, .i i2.Seg, .y i2.Op, .i i2.Mod, .i i2.Reg, .i i2.RM, .w i2.Disp, .w i2.Imm, .w i2.Sel] 0))]⟩] <| Rk <| Sq <| Ro <| Rc 3 [vi r_3, vb (r_3 == 2), vb (r_3 == 2)] ?_
   cases hb_8 : ((r_3 == 2) : Bool) with
   | true =>
    replace h := ite_t hb_8 h
    refine Rc 5 [vp [1] 0 1, vi x1.Rep, vi (bitsOp .and .i64 x1.Rep 1), vb ((bitsOp .and .i64 x1.Rep 1) == 1), vb ((bitsOp .and .i64 x1.Rep 1) == 1)] <| Rk ?_
    cases hb_9 : (((bitsOp .and .i64 x1.Rep 1) == 1) : Bool) with
    | true =>
     replace h := ite_t hb_9 h
     refine Ct <| Ro <| Rc 2 [vp [2] 0 1, ⟨.tup [], [([2], some (.cells [.b i2.Lock, .i 1, .i i2.Seg, .y i2.Op, .i i2.Mod, .i i2.Reg, .i i2.RM, .w i2.Disp, .w i2.Imm, .w i2.Sel] 0))]⟩] <| Rk <| Runs.canon (hansomref05_Near_h100 x1 ({ i2 with Rep := 1 } : Inst)) Cz ?_
     exact hansomref05_Near_j100_ok x_ x1 ({ i2 with Rep := 1 } : Inst) r h
    | false =>
     replace h := ite_f hb_9 h
     refine Cf <| Runs.skip <| kS_nrm <| Runs.canon (hansomref05_Near_h100 x1 ({ i2 with Rep := 2 } : Inst)) Cz ?_
     exact hansomref05_Near_j100_ok x_ x1 ({ i2 with Rep := 2 } : Inst) r h
   | false =>
    replace h := ite_f hb_8 h
    refine Rc 5 [vn, vn, vn, vn, vb false] <| Rk <| Cf <| Runs.skip <| kS_nrm <| Runs.canon (hansomref05_Near_h100 x1 ({ i2 with Rep := 2 } : Inst)) Cz ?_
    exact hansomref05_Near_j100_ok x_ x1 ({ i2 with Rep := 2 } : Inst) r h
  | false =>
   replace h := ite_f hb_7 h
   refine Cf <| Runs.skip <| kS_nrm <| Runs.canon (hansomref05_Near_h100 x1 i2) Cz ?_
   exact hansomref05_Near_j100_ok x_ x1 i2 r h
 | false =>
  replace h := ite_f hb_6 h
  refine Rc 5 [vn, vn, vn, vn, vb false] <| Rk <| Cf <| Runs.skip <| kS_nrm <| Runs.canon (hansomref05_Near_h100 x1 i2) Cz ?_
  exact hansomref05_Near_j100_ok x_ x1 i2 r h
theorem hansomref05_Near_j79_ok (x_ : Inst) (x1 : Inst) (i2 : Inst) (r3 : Row) (t61 : Int) (t86 : Bool) (r : Inst) (h : hansomref05_Near_j79 x1 i2 r3 t61 t86 = some r) : Runs L F16b79 (hansomref05_Near_h79 x1 i2 r3 t61 t86) (kB 1 (kS L F16c86 (hansomref05_Near_Q x_ r))) := by
 unfold hansomref05_Near_j79 at h
 cases hb_17 : (t86 : Bool) with
 | true =>
  replace h := ite_t hb_17 h
  refine Ct <| Ro <| Rc 4 [vp [1] 0 8, vw x1.Imm, vp [2] 0 8, ⟨.tup [], [([2], some (.cells [.b i2.Lock, .i i2.Rep, .i i2.Seg, .y i2.Op, .i i2.Mod, .i i2.Reg, .i i2.RM, .w i2.Disp, .w x1.Imm, .w i2.Sel] 0))]⟩] <| Rd <| kB_nrm <| kS_nrm <| Runs.canon (hansomref05_Near_h86 x1 ({ i2 with Imm := x1.Imm } : Inst) r3) Cz ?_
  exact hansomref05_Near_j86_ok x_ x1 ({ i2 with Imm := x1.Imm } : Inst) r3 r h
 | false =>
  replace h := ite_f hb_17 h
  refine Cf <| Sq <| Ro <| Rc 2 [vb (t61 == 11), vb (t61 == 11)] <| Rk ?_
  cases hb_18 : ((t61 == 11) : Bool) with
  | true =>
   replace h := ite_t hb_18 h
   refine Ct <| Ro <| Rc 8 [vp [1] 0 8, vw x1.Imm, vp [1] 0 9, vw x1.Sel, vp [2] 0 8, ⟨.tup [], [([2], some (.cells [.b i2.Lock, .i i2.Rep, .i i2.Seg, .y i2.Op, .i i2.Mod, .i i2.Reg, .i i2.RM, .w i2.Disp, .w x1.Imm, .w i2.Sel] 0))]⟩, vp [2] 0 9, ⟨.tup [], [([2], some (.cells [.b i2.Lock, .i i2.Rep, .i i2.Seg, .y i2.Op, .i i2.Mod, .i i2.Reg, .i i2.RM, .w i2.Disp, .w x1.Imm, .w x1.Sel] 0))]⟩] <| Rd <| kB_nrm <| kS_nrm <| Runs.canon (hansomref05_Near_h86 x1 ({ i2 with Imm := x1.Imm, Sel := x1.Sel } : Inst) r3) Cz ?_
   exact hansomref05_Near_j86_ok x_ x1 ({ i2 with Imm := x1.Imm, Sel := x1.Sel } : Inst) r3 r h
  | false =>
   replace h := ite_f hb_18 h
   refine Cf <| Runs.skip <| kB_nrm <| kS_nrm <| Runs.canon (hansomref05_Near_h86 x1 i2 r3) Cz ?_
   exact hansomref05_Near_j86_ok x_ x1 i2 r3 r h
theorem hansomref05_Near_j63_ok (x_ : Inst) (x1 : Inst) (i2 : Inst) (r3 : Row) (t61 : Int) (t77 : Bool) (r : Inst) (h : hansomref05_Near_j63 x1 i2 r3 t61 t77 = some r) : Runs L F16b63 (hansomref05_Near_h63 x1 i2 r3 t61 t77) (kB 1 (kS L F16c86 (hansomref05_Near_Q x_ r))) := by
 unfold hansomref05_Near_j63 at h
 cases hb_15 : (t77 : Bool) with
 | true =>
  replace h := ite_t hb_15 h
  refine Ct <| Ro <| Rc 4 [vp [1] 0 8, vw x1.Imm, vw (Int.tmod x1.Imm 256), vy (IntKind.wrap .u8 (Int.tmod x1.Imm 256))] ?_
  obtain ⟨r_6, hr_6, h⟩ := bind_s h
  have hc_6 := hansomref01_Sign_L (IntKind.wrap .u8 (Int.tmod x1.Imm 256)) r_6 hr_6
  refine Rt (some 84) (.callf 26) [] none [.y (IntKind.wrap .u8 (Int.tmod x1.Imm 256))] (.w r_6) [] (cc hc_6) <| Rc 2 [vp [2] 0 8, ⟨.tup [], [([2], some (.cells [.b i2.Lock, .i i2.Rep, .i i2.Seg, .y i2.Op, .i i2.Mod, .i i2.Reg, .i i2.RM, .w i2.Disp, .w r_6, .w i2.Sel] 0))]⟩] <| Rd <| kB_nrm <| kS_nrm <| Runs.canon (hansomref05_Near_h86 x1 ({ i2 with Imm := r_6 } : Inst) r3) Cz ?_
  exact hansomref05_Near_j86_ok x_ x1 ({ i2 with Imm := r_6 } : Inst) r3 r h
 | false =>
  replace h := ite_f hb_15 h
  refine Cf <| Sq <| Sq <| Ro <| Rc 2 [vb (t61 == 7), vb (t61 == 7)] <| Rk ?_
  cases hb_16 : ((t61 == 7) : Bool) with
  | true =>
   replace h := ite_t hb_16 h
   refine Ct <| Runs.skip <| kS_nrm <| Runs.canon (hansomref05_Near_h79 x1 i2 r3 t61 true) Cz ?_
   exact hansomref05_Near_j79_ok x_ x1 i2 r3 t61 true r h
  | false =>
   replace h := ite_f hb_16 h
   refine Cf <| Sq <| Ro <| Rc 2 [vb (t61 == 10), vb (t61 == 10)] <| Rk ?_
   cases hb_19 : ((t61 == 10) : Bool) with
   | true =>
    replace h := ite_t hb_19 h
    refine Ct <| Runs.skip <| kS_nrm <| Runs.canon (hansomref05_Near_h79 x1 i2 r3 t61 true) Cz ?_
    exact hansomref05_Near_j79_ok x_ x1 i2 r3 t61 true r h
   | false =>
    replace h := ite_f hb_19 h
    refine Cf <| Sq <| Ro <| Rc 2 [vb (t61 == 12), vb (t61 == 12)] <| Rk ?_
    cases hb_20 : ((t61 == 12) : Bool) with
    | true =>
     replace h := ite_t hb_20 h
     refine Ct <| Runs.skip <| kS_nrm <| Runs.canon (hansomref05_Near_h79 x1 i2 r3 t61 true) Cz ?_
     exact hansomref05_Near_j79_ok x_ x1 i2 r3 t61 true r h
    | false =>
     replace h := ite_f hb_20 h
     refine Cf <| Ro <| Rc 2 [vb (t61 == 13), vb (t61 == 13)] <| Rk <| Runs.canon (hansomref05_Near_h79 x1 i2 r3 t61 (t61 == 13)) Cz ?_
     exact hansomref05_Near_j79_ok x_ x1 i2 r3 t61 (t61 == 13) r h
theorem hansomref05_Near_j43_ok (x_ : Inst) (x1 : Inst) (i2 : Inst) (r3 : Row) (k5 : Int) (r : Inst) (h : hansomref05_Near_j43 x1 i2 r3 k5 = some r) : Runs L F16b43 (hansomref05_Near_h43 x1 i2 r3 k5) (hansomref05_Near_Q x_ r) := by
 unfold hansomref05_Near_j43 at h
 refine Sq <| Sq <| Ro <| Rc 1 [vi k5] <| Rk <| Runs.block <| Sq <| Ro <| Rc 2 [vb (k5 == 6), vb (k5 == 6)] <| Rk ?_
 cases hb_4 : ((k5 == 6) : Bool) with
 | true =>
  replace h := ite_t hb_4 h
  refine Ct <| Sq <| Ro <| Rc 5 [vp [1] 0 8, vw x1.Imm, vw (Int.tmod x1.Imm 256), vp [2] 0 8, ⟨.tup [], [([2], some (.cells [.b i2.Lock, .i i2.Rep, .i i2.Seg, .y i2.Op, .i i2.Mod, .i i2.Reg, .i i2.RM, .w i2.Disp, .w (Int.tmod x1.Imm 256), .w i2.Sel] 0))]⟩] <| Rk <| Sq <| Ro <| Rc 4 [vp [3] 0 0, vi r3.Name, vb (r3.Name == 70), vb (r3.Name == 70)] ?_
  cases hb_5 : ((r3.Name == 70) : Bool) with
  | true =>
   replace h := ite_t hb_5 h
   refine Rc 4 [vn, vn, vn, vb true] <| Rk <| Ct <| Ro <| Rc 2 [vp [2] 0 8, ⟨.tup [], [([2], some (.cells [.b i2.Lock, .i i2.Rep, .i i2.Seg, .y i2.Op, .i i2.Mod, .i i2.Reg, .i i2.RM, .w i2.Disp, .w 10, .w i2.Sel] 0))]⟩] <| Rd <| kB_nrm <| kS_nrm <| Runs.canon (hansomref05_Near_h86 x1 ({ i2 with Imm := 10 } : Inst) r3) Cz ?_
   exact hansomref05_Near_j86_ok x_ x1 ({ i2 with Imm := 10 } : Inst) r3 r h
  | false =>
   replace h := ite_f hb_5 h
   refine Rc 4 [vp [3] 0 0, vi r3.Name, vb (r3.Name == 71), vb (r3.Name == 71)] <| Rk ?_
   cases hb_13 : ((r3.Name == 71) : Bool) with
   | true =>
    replace h := ite_t hb_13 h
    refine Ct <| Ro <| Rc 2 [vp [2] 0 8, ⟨.tup [], [([2], some (.cells [.b i2.Lock, .i i2.Rep, .i i2.Seg, .y i2.Op, .i i2.Mod, .i i2.Reg, .i i2.RM, .w i2.Disp, .w 10, .w i2.Sel] 0))]⟩] <| Rd <| kB_nrm <| kS_nrm <| Runs.canon (hansomref05_Near_h86 x1 ({ i2 with Imm := 10 } : Inst) r3) Cz ?_
    exact hansomref05_Near_j86_ok x_ x1 ({ i2 with Imm := 10 } : Inst) r3 r h
   | false =>
    replace h := ite_f hb_13 h
    refine Cf <| Runs.skip <| kB_nrm <| kS_nrm <| Runs.canon (hansomref05_Near_h86 x1 ({ i2 with Imm := (Int.tmod x1.Imm 256) } : Inst) r3) Cz ?_
    exact hansomref05_Near_j86_ok x_ x1 ({ i2 with Imm := (Int.tmod x1.Imm 256) } : Inst) r3 r h
 | false =>
  replace h := ite_f hb_4 h
  refine Cf <| Sq <| Sq <| Ro <| Rc 2 [vb (k5 == 8), vb (k5 == 8)] <| Rk ?_
  cases hb_14 : ((k5 == 8) : Bool) with
  | true =>
   replace h := ite_t hb_14 h
   refine Ct <| Runs.skip <| kS_nrm <| Runs.canon (hansomref05_Near_h63 x1 i2 r3 k5 true) Cz ?_
   exact hansomref05_Near_j63_ok x_ x1 i2 r3 k5 true r h
  | false =>
   replace h := ite_f hb_14 h
   refine Cf <| Ro <| Rc 2 [vb (k5 == 9), vb (k5 == 9)] <| Rk <| Runs.canon (hansomref05_Near_h63 x1 i2 r3 k5 (k5 == 9)) Cz ?_
   exact hansomref05_Near_j63_ok x_ x1 i2 r3 k5 (k5 == 9) r h
theorem hansomref05_Near_j35_ok (x_ : Inst) (x1 : Inst) (i2 : Inst) (r3 : Row) (r : Inst) (h : hansomref05_Near_j35 x1 i2 r3 = some r) : Runs L F16b35 (hansomref05_Near_h35 x1 i2 r3) (hansomref05_Near_Q x_ r) := by
 unfold hansomref05_Near_j35 at h
 refine Sq <| Ro <| Rc 3 [vp [3] 0 1, vi r3.A, vi r3.A] <| Rk <| Sq <| Sq <| Ro <| Rc 1 [vi r3.A] ?_
 obtain ⟨r_2, hr_2, h⟩ := bind_s h
 have hc_2 := hansomref04_Bytes_L r3.A r_2 hr_2
 refine Rt (some 57) (.callf 27) [] none [.i r3.A] (.i r_2) [] (cc hc_2) <| Rc 1 [vb (r_2 == 0)] <| Rk ?_
 cases hb_3 : ((r_2 == 0) : Bool) with
 | true =>
  replace h := ite_t hb_3 h
  refine Ct <| Ro <| Rc 3 [vp [3] 0 2, vi r3.B, vi r3.B] <| Rk <| Runs.canon (hansomref05_Near_h43 x1 i2 r3 r3.B) Cz ?_
  exact hansomref05_Near_j43_ok x_ x1 i2 r3 r3.B r h
 | false =>
  replace h := ite_f hb_3 h
  refine Cf <| Runs.skip <| kS_nrm <| Runs.canon (hansomref05_Near_h43 x1 i2 r3 r3.A) Cz ?_
  exact hansomref05_Near_j43_ok x_ x1 i2 r3 r3.A r h
theorem hansomref05_Near_ok (x_ : Inst) (r : Inst) (h : hansomref05_Near x_ = some r) : Runs L F16.body ⟨tmOf [.d (Inst.d x_)] 0, updW (fun _ => none) []⟩ (hansomref05_Near_Q x_ r) := by
 unfold hansomref05_Near at h
 refine Sq <| Ro <| Rc 2 [⟨.ptr [1] 0 0, [([1], some (.cells [.b x_.Lock, .i x_.Rep, .i x_.Seg, .y x_.Op, .i x_.Mod, .i x_.Reg, .i x_.RM, .w x_.Disp, .w x_.Imm, .w x_.Sel] 0))]⟩, ⟨.ptr [2] 0 0, [([2], some (.cells [.b false, .i 0, .i 0, .y 0, .i 0, .i 0, .i 0, .w 0, .w 0, .w 0] 0))]⟩] <| Rk <| Sq <| Ro <| Rc 6 [vp [1] 0 3, vy x_.Op, vp [1] 0 0, vb x_.Lock, ⟨.d (.agg [.bool x_.Lock, .int .i64 0, .int .i64 0, .int .u8 x_.Op, .int .i64 0, .int .i64 0, .int .i64 0, .int .u16 0, .int .u16 0, .int .u16 0]), []⟩, ⟨.tup [], [([2], some (.cells [.b x_.Lock, .i 0, .i 0, .y x_.Op, .i 0, .i 0, .i 0, .w 0, .w 0, .w 0] 0))]⟩] <| Rk <| Sq <| Ro <| Rc 5 [vp [1] 0 5, vi x_.Reg, vi (bitsOp .and .i64 x_.Reg 7), vp [2] 0 5, ⟨.tup [], [([2], some (.cells [.b x_.Lock, .i 0, .i 0, .y x_.Op, .i 0, .i (bitsOp .and .i64 x_.Reg 7), .i 0, .w 0, .w 0, .w 0] 0))]⟩] <| Rk <| Sq <| Ro <| Rc 1 [⟨.d (.agg [.bool x_.Lock, .int .i64 0, .int .i64 0, .int .u8 x_.Op, .int .i64 0, .int .i64 (bitsOp .and .i64 x_.Reg 7), .int .i64 0, .int .u16 0, .int .u16 0, .int .u16 0]), []⟩] ?_
 obtain ⟨r_1, hr_1, h⟩ := bind_s h
 have hc_1 := hansomref05_Row_L ({ x_ with Rep := 0, Seg := 0, Mod := 0, Reg := (bitsOp .and .i64 x_.Reg 7), RM := 0, Disp := 0, Imm := 0, Sel := 0 } : Inst) r_1 hr_1
 refine Rt (some 18) (.callf 24) [] none [.d (.agg [.bool x_.Lock, .int .i64 0, .int .i64 0, .int .u8 x_.Op, .int .i64 0, .int .i64 (bitsOp .and .i64 x_.Reg 7), .int .i64 0, .int .u16 0, .int .u16 0, .int .u16 0])] (.tup [.d (Row.d r_1.1), .b r_1.2]) [] (cc hc_1) <| Rc 6 [⟨.tup [.d (Row.d r_1.1), .b r_1.2], []⟩, ⟨.d (Row.d r_1.1), []⟩, vb r_1.2, ⟨.ptr [3] 0 0, [([3], some (.cells [.i 0, .i 0, .i 0, .b false] 0))]⟩, ⟨.tup [], [([3], some (.cells [.i r_1.1.Name, .i r_1.1.A, .i r_1.1.B, .b r_1.1.Mod] 0))]⟩, vb r_1.2] <| Rk <| Sq <| Sq <| Ro <| Rc 2 [vb r_1.2, vb (!r_1.2)] <| Rk ?_
 cases hb_1 : ((!r_1.2) : Bool) with
 | true =>
  replace h := ite_t hb_1 h
  refine Ct <| Sq <| Ro <| Rc 2 [⟨.d (.agg [.bool false, .int .i64 0, .int .i64 0, .int .u8 144, .int .i64 0, .int .i64 0, .int .i64 0, .int .u16 0, .int .u16 0, .int .u16 0]), []⟩, ⟨.tup [], [([2], some (.cells [.b false, .i 0, .i 0, .y 144, .i 0, .i 0, .i 0, .w 0, .w 0, .w 0] 0))]⟩] <| Rk <| Runs.ret <| kS_ret ?_
  cases h
  exact Fq
 | false =>
  replace h := ite_f hb_1 h
  refine Cf <| Runs.skip <| kS_nrm <| Sq <| Sq <| Ro <| Rc 3 [vp [3] 0 3, vb r_1.1.Mod, vb (!r_1.1.Mod)] <| Rk ?_
  cases hb_2 : ((!r_1.1.Mod) : Bool) with
  | true =>
   replace h := ite_t hb_2 h
   refine Ct <| Ro <| Rc 2 [vp [2] 0 5, ⟨.tup [], [([2], some (.cells [.b x_.Lock, .i 0, .i 0, .y x_.Op, .i 0, .i 0, .i 0, .w 0, .w 0, .w 0] 0))]⟩] <| Rk <| Runs.canon (hansomref05_Near_h35 x_ ({ x_ with Rep := 0, Seg := 0, Mod := 0, Reg := 0, RM := 0, Disp := 0, Imm := 0, Sel := 0 } : Inst) r_1.1) Cz ?_
   exact hansomref05_Near_j35_ok x_ x_ ({ x_ with Rep := 0, Seg := 0, Mod := 0, Reg := 0, RM := 0, Disp := 0, Imm := 0, Sel := 0 } : Inst) r_1.1 r h
  | false =>
   replace h := ite_f hb_2 h
   refine Cf <| Sq <| Ro <| Rc 10 [vp [1] 0 4, vi x_.Mod, vi (bitsOp .and .i64 x_.Mod 3), vp [1] 0 6, vi x_.RM, vi (bitsOp .and .i64 x_.RM 7), vp [2] 0 4, ⟨.tup [], [([2], some (.cells [.b x_.Lock, .i 0, .i 0, .y x_.Op, .i (bitsOp .and .i64 x_.Mod 3), .i (bitsOp .and .i64 x_.Reg 7), .i 0, .w 0, .w 0, .w 0] 0))]⟩, vp [2] 0 6, ⟨.tup [], [([2], some (.cells [.b x_.Lock, .i 0, .i 0, .y x_.Op, .i (bitsOp .and .i64 x_.Mod 3), .i (bitsOp .and .i64 x_.Reg 7), .i (bitsOp .and .i64 x_.RM 7), .w 0, .w 0, .w 0] 0))]⟩] <| Rk <| Sq <| Ro <| Rc 4 [vp [2] 0 4, vi (bitsOp .and .i64 x_.Mod 3), vp [2] 0 6, vi (bitsOp .and .i64 x_.RM 7)] ?_
   obtain ⟨r_7, hr_7, h⟩ := bind_s h
   have hc_7 := hansomref05_Disps_L (bitsOp .and .i64 x_.Mod 3) (bitsOp .and .i64 x_.RM 7) r_7 hr_7
   refine Rt (some 40) (.callf 25) [] none [.i (bitsOp .and .i64 x_.Mod 3), .i (bitsOp .and .i64 x_.RM 7)] (.i r_7) [] (cc hc_7) <| Rk <| Runs.block <| Sq <| Ro <| Rc 2 [vb (r_7 == 1), vb (r_7 == 1)] <| Rk ?_
   cases hb_21 : ((r_7 == 1) : Bool) with
   | true =>
    replace h := ite_t hb_21 h
    refine Ct <| Ro <| Rc 4 [vp [1] 0 7, vw x_.Disp, vw (Int.tmod x_.Disp 256), vy (IntKind.wrap .u8 (Int.tmod x_.Disp 256))] ?_
    obtain ⟨r_8, hr_8, h⟩ := bind_s h
    have hc_8 := hansomref01_Sign_L (IntKind.wrap .u8 (Int.tmod x_.Disp 256)) r_8 hr_8
    refine Rt (some 47) (.callf 26) [] none [.y (IntKind.wrap .u8 (Int.tmod x_.Disp 256))] (.w r_8) [] (cc hc_8) <| Rc 2 [vp [2] 0 7, ⟨.tup [], [([2], some (.cells [.b x_.Lock, .i 0, .i 0, .y x_.Op, .i (bitsOp .and .i64 x_.Mod 3), .i (bitsOp .and .i64 x_.Reg 7), .i (bitsOp .and .i64 x_.RM 7), .w r_8, .w 0, .w 0] 0))]⟩] <| Rd <| kB_nrm <| kS_nrm <| Runs.canon (hansomref05_Near_h35 x_ ({ x_ with Rep := 0, Seg := 0, Mod := (bitsOp .and .i64 x_.Mod 3), Reg := (bitsOp .and .i64 x_.Reg 7), RM := (bitsOp .and .i64 x_.RM 7), Disp := r_8, Imm := 0, Sel := 0 } : Inst) r_1.1) Cz ?_
    exact hansomref05_Near_j35_ok x_ x_ ({ x_ with Rep := 0, Seg := 0, Mod := (bitsOp .and .i64 x_.Mod 3), Reg := (bitsOp .and .i64 x_.Reg 7), RM := (bitsOp .and .i64 x_.RM 7), Disp := r_8, Imm := 0, Sel := 0 } : Inst) r_1.1 r h
   | false =>
    replace h := ite_f hb_21 h
    refine Cf <| Sq <| Ro <| Rc 2 [vb (r_7 == 2), vb (r_7 == 2)] <| Rk ?_
    cases hb_22 : ((r_7 == 2) : Bool) with
    | true =>
     replace h := ite_t hb_22 h
     refine Ct <| Ro <| Rc 4 [vp [1] 0 7, vw x_.Disp, vp [2] 0 7, ⟨.tup [], [([2], some (.cells [.b x_.Lock, .i 0, .i 0, .y x_.Op, .i (bitsOp .and .i64 x_.Mod 3), .i (bitsOp .and .i64 x_.Reg 7), .i (bitsOp .and .i64 x_.RM 7), .w x_.Disp, .w 0, .w 0] 0))]⟩] <| Rd <| kB_nrm <| kS_nrm <| Runs.canon (hansomref05_Near_h35 x_ ({ x_ with Rep := 0, Seg := 0, Mod := (bitsOp .and .i64 x_.Mod 3), Reg := (bitsOp .and .i64 x_.Reg 7), RM := (bitsOp .and .i64 x_.RM 7), Imm := 0, Sel := 0 } : Inst) r_1.1) Cz ?_
     exact hansomref05_Near_j35_ok x_ x_ ({ x_ with Rep := 0, Seg := 0, Mod := (bitsOp .and .i64 x_.Mod 3), Reg := (bitsOp .and .i64 x_.Reg 7), RM := (bitsOp .and .i64 x_.RM 7), Imm := 0, Sel := 0 } : Inst) r_1.1 r h
    | false =>
     replace h := ite_f hb_22 h
     refine Cf <| Runs.skip <| kB_nrm <| kS_nrm <| Runs.canon (hansomref05_Near_h35 x_ ({ x_ with Rep := 0, Seg := 0, Mod := (bitsOp .and .i64 x_.Mod 3), Reg := (bitsOp .and .i64 x_.Reg 7), RM := (bitsOp .and .i64 x_.RM 7), Disp := 0, Imm := 0, Sel := 0 } : Inst) r_1.1) Cz ?_
     exact hansomref05_Near_j35_ok x_ x_ ({ x_ with Rep := 0, Seg := 0, Mod := (bitsOp .and .i64 x_.Mod 3), Reg := (bitsOp .and .i64 x_.Reg 7), RM := (bitsOp .and .i64 x_.RM 7), Disp := 0, Imm := 0, Sel := 0 } : Inst) r_1.1 r h
theorem hansomref05_Near_L (x_ : Inst) (r : Inst) (h : hansomref05_Near x_ = some r) : L 16 [.d (Inst.d x_)] = some (.d (Inst.d r), [.d (Inst.d x_)]) := by
 obtain ⟨p, ⟨hne, hf⟩, hr⟩ := hansomref05_Near_ok x_ r h
 obtain ⟨k, hk⟩ := run_of (F := F16) (args := [.d (Inst.d x_)]) (ap := [.d (Inst.d x_)]) (bx0 := updW (fun _ => none) []) rfl rfl (by kernel_rfl) ⟨p, ⟨hne, hf⟩, hr⟩
 exact lim_run (k := k) rfl hk
def isa_Prefix_Q (b_ : Int) (r : Bool) (p : Out × St) : Prop := (∀ i, p.1 ≠ .exit i) ∧ finF F42 [.y b_] p.2 = some (.b r, [.y b_])
theorem isa_Prefix_ok (b_ : Int) (r : Bool) (h : isa_Prefix b_ = some r) : Runs L F42.body ⟨tmOf [.y b_] 0, updW (fun _ => none) []⟩ (isa_Prefix_Q b_ r) := by
 unfold isa_Prefix at h
 refine Sq <| Ro <| Rc 1 [vb false] <| Rk <| Sq <| Sq <| Ro <| Rc 1 [vy b_] <| Rk <| Runs.block <| Sq <| Sq <| Ro <| Rc 2 [vb (b_ == 38), vb (b_ == 38)] <| Rk ?_
 cases hb_1 : ((b_ == 38) : Bool) with
 | true =>
  replace h := ite_t hb_1 h
  refine Ct <| Runs.skip <| kS_nrm <| Ct <| Sq <| Ro <| Rc 1 [vb true] <| Rk <| Runs.ret <| kB_ret <| kS_ret ?_
  cases h
  exact Fq
 | false =>
  replace h := ite_f hb_1 h
  refine Cf <| Sq <| Ro <| Rc 2 [vb (b_ == 46), vb (b_ == 46)] <| Rk ?_
  cases hb_2 : ((b_ == 46) : Bool) with
  | true =>
   replace h := ite_t hb_2 h
   refine Ct <| Runs.skip <| kS_nrm <| Ct <| Sq <| Ro <| Rc 1 [vb true] <| Rk <| Runs.ret <| kB_ret <| kS_ret ?_
   cases h
   exact Fq
  | false =>
   replace h := ite_f hb_2 h
   refine Cf <| Sq <| Ro <| Rc 2 [vb (b_ == 54), vb (b_ == 54)] <| Rk ?_
   cases hb_3 : ((b_ == 54) : Bool) with
   | true =>
    replace h := ite_t hb_3 h
    refine Ct <| Runs.skip <| kS_nrm <| Ct <| Sq <| Ro <| Rc 1 [vb true] <| Rk <| Runs.ret <| kB_ret <| kS_ret ?_
    cases h
    exact Fq
   | false =>
    replace h := ite_f hb_3 h
    refine Cf <| Sq <| Ro <| Rc 2 [vb (b_ == 62), vb (b_ == 62)] <| Rk ?_
    cases hb_4 : ((b_ == 62) : Bool) with
    | true =>
     replace h := ite_t hb_4 h
     refine Ct <| Runs.skip <| kS_nrm <| Ct <| Sq <| Ro <| Rc 1 [vb true] <| Rk <| Runs.ret <| kB_ret <| kS_ret ?_
     cases h
     exact Fq
    | false =>
     replace h := ite_f hb_4 h
     refine Cf <| Sq <| Ro <| Rc 2 [vb (b_ == 240), vb (b_ == 240)] <| Rk ?_
     cases hb_5 : ((b_ == 240) : Bool) with
     | true =>
      replace h := ite_t hb_5 h
      refine Ct <| Runs.skip <| kS_nrm <| Ct <| Sq <| Ro <| Rc 1 [vb true] <| Rk <| Runs.ret <| kB_ret <| kS_ret ?_
      cases h
      exact Fq
     | false =>
      replace h := ite_f hb_5 h
      refine Cf <| Sq <| Ro <| Rc 2 [vb (b_ == 242), vb (b_ == 242)] <| Rk ?_
      cases hb_6 : ((b_ == 242) : Bool) with
      | true =>
       replace h := ite_t hb_6 h
       refine Ct <| Runs.skip <| kS_nrm <| Ct <| Sq <| Ro <| Rc 1 [vb true] <| Rk <| Runs.ret <| kB_ret <| kS_ret ?_
       cases h
       exact Fq
      | false =>
       replace h := ite_f hb_6 h
       refine Cf <| Ro <| Rc 2 [vb (b_ == 243), vb (b_ == 243)] <| Rk ?_
       cases hb_7 : ((b_ == 243) : Bool) with
       | true =>
        replace h := ite_t hb_7 h
        refine Ct <| Sq <| Ro <| Rc 1 [vb true] <| Rk <| Runs.ret <| kB_ret <| kS_ret ?_
        cases h
        exact Fq
       | false =>
        replace h := ite_f hb_7 h
        refine Cf <| Runs.skip <| kB_nrm <| kS_nrm <| Sq <| Ro <| Rc 1 [vb false] <| Rk <| Runs.ret ?_
        cases h
        exact Fq
theorem isa_Prefix_L (b_ : Int) (r : Bool) (h : isa_Prefix b_ = some r) : L 42 [.y b_] = some (.b r, [.y b_]) := by
 obtain ⟨p, ⟨hne, hf⟩, hr⟩ := isa_Prefix_ok b_ r h
 obtain ⟨k, hk⟩ := run_of (F := F42) (args := [.y b_]) (ap := [.y b_]) (bx0 := updW (fun _ => none) []) rfl rfl (by kernel_rfl) ⟨p, ⟨hne, hf⟩, hr⟩
 exact lim_run (k := k) rfl hk
def isa_mod_Q (name_ : Int) (a_ : Int) (b_ : Int) (r : (Row × Bool)) (p : Out × St) : Prop := (∀ i, p.1 ≠ .exit i) ∧ finF F71 [.i name_, .i a_, .i b_] p.2 = some (.tup [.d (Row.d r.1), .b r.2], [.i name_, .i a_, .i b_])
theorem isa_mod_ok (name_ : Int) (a_ : Int) (b_ : Int) (r : (Row × Bool)) (h : isa_mod name_ a_ b_ = some r) : Runs L F71.body ⟨tmOf [.i name_, .i a_, .i b_] 0, updW (fun _ => none) []⟩ (isa_mod_Q name_ a_ b_ r) := by
 unfold isa_mod at h
 refine Sq <| Ro <| Rc 2 [⟨.ptr [6] 0 0, [([6], some (.cells [.i 0, .i 0, .i 0, .b false] 0))]⟩, vb false] <| Rk <| Sq <| Ro <| Rc 6 [vi name_, vi a_, vi b_, ⟨.d (.agg [.int .i64 name_, .int .i64 a_, .int .i64 b_, .bool true]), []⟩, ⟨.tup [], [([6], some (.cells [.i name_, .i a_, .i b_, .b true] 0))]⟩, vb true] <| Rk <| Runs.ret ?_
 cases h
 exact Fq
theorem isa_mod_L (name_ : Int) (a_ : Int) (b_ : Int) (r : (Row × Bool)) (h : isa_mod name_ a_ b_ = some r) : L 71 [.i name_, .i a_, .i b_] = some (.tup [.d (Row.d r.1), .b r.2], [.i name_, .i a_, .i b_]) := by
 obtain ⟨p, ⟨hne, hf⟩, hr⟩ := isa_mod_ok name_ a_ b_ r h
 obtain ⟨k, hk⟩ := run_of (F := F71) (args := [.i name_, .i a_, .i b_]) (ap := [.i name_, .i a_, .i b_]) (bx0 := updW (fun _ => none) []) rfl rfl (by kernel_rfl) ⟨p, ⟨hne, hf⟩, hr⟩
 exact lim_run (k := k) rfl hk
def isa_row_Q (name_ : Int) (a_ : Int) (b_ : Int) (r : (Row × Bool)) (p : Out × St) : Prop := (∀ i, p.1 ≠ .exit i) ∧ finF F57 [.i name_, .i a_, .i b_] p.2 = some (.tup [.d (Row.d r.1), .b r.2], [.i name_, .i a_, .i b_])
theorem isa_row_ok (name_ : Int) (a_ : Int) (b_ : Int) (r : (Row × Bool)) (h : isa_row name_ a_ b_ = some r) : Runs L F57.body ⟨tmOf [.i name_, .i a_, .i b_] 0, updW (fun _ => none) []⟩ (isa_row_Q name_ a_ b_ r) := by
 unfold isa_row at h
 refine Sq <| Ro <| Rc 2 [⟨.ptr [6] 0 0, [([6], some (.cells [.i 0, .i 0, .i 0, .b false] 0))]⟩, vb false] <| Rk <| Sq <| Ro <| Rc 6 [vi name_, vi a_, vi b_, ⟨.d (.agg [.int .i64 name_, .int .i64 a_, .int .i64 b_, .bool false]), []⟩, ⟨.tup [], [([6], some (.cells [.i name_, .i a_, .i b_, .b false] 0))]⟩, vb true] <| Rk <| Runs.ret ?_
 cases h
 exact Fq
theorem isa_row_L (name_ : Int) (a_ : Int) (b_ : Int) (r : (Row × Bool)) (h : isa_row name_ a_ b_ = some r) : L 57 [.i name_, .i a_, .i b_] = some (.tup [.d (Row.d r.1), .b r.2], [.i name_, .i a_, .i b_]) := by
 obtain ⟨p, ⟨hne, hf⟩, hr⟩ := isa_row_ok name_ a_ b_ r h
 obtain ⟨k, hk⟩ := run_of (F := F57) (args := [.i name_, .i a_, .i b_]) (ap := [.i name_, .i a_, .i b_]) (bx0 := updW (fun _ => none) []) rfl rfl (by kernel_rfl) ⟨p, ⟨hne, hf⟩, hr⟩
 exact lim_run (k := k) rfl hk
def isa_bad_Q  (r : (Row × Bool)) (p : Out × St) : Prop := (∀ i, p.1 ≠ .exit i) ∧ finF F58 [] p.2 = some (.tup [.d (Row.d r.1), .b r.2], [])
theorem isa_bad_ok  (r : (Row × Bool)) (h : isa_bad = some r) : Runs L F58.body ⟨tmOf [] 0, updW (fun _ => none) []⟩ (isa_bad_Q  r) := by
 unfold isa_bad at h
 refine Sq <| Ro <| Rc 2 [⟨.ptr [0] 0 0, [([0], some (.cells [.i 0, .i 0, .i 0, .b false] 0))]⟩, vb false] <| Rk <| Sq <| Ro <| Rc 3 [⟨.d (.agg [.int .i64 0, .int .i64 0, .int .i64 0, .bool false]), []⟩, ⟨.tup [], [([0], some (.cells [.i 0, .i 0, .i 0, .b false] 0))]⟩, vb false] <| Rk <| Runs.ret ?_
 cases h
 exact Fq
theorem isa_bad_L  (r : (Row × Bool)) (h : isa_bad = some r) : L 58 [] = some (.tup [.d (Row.d r.1), .b r.2], []) := by
 obtain ⟨p, ⟨hne, hf⟩, hr⟩ := isa_bad_ok  r h
 obtain ⟨k, hk⟩ := run_of (F := F58) (args := []) (ap := []) (bx0 := updW (fun _ => none) []) rfl rfl (by kernel_rfl) ⟨p, ⟨hne, hf⟩, hr⟩
 exact lim_run (k := k) rfl hk
def isa_sums_h63 (b_2 : Row) (t47 : Int) (t48 : Bool) : St := ⟨tab [(2, .ptr [2] 0 0), (47, .y t47), (48, .b t48)], tabB [([2], some (.cells [.i b_2.Name, .i b_2.A, .i b_2.B, .b b_2.Mod] 0))]⟩
def isa_sums_h77 (b_2 : Row) (t47 : Int) (t56 : Bool) : St := ⟨tab [(2, .ptr [2] 0 0), (47, .y t47), (56, .b t56)], tabB [([2], some (.cells [.i b_2.Name, .i b_2.A, .i b_2.B, .b b_2.Mod] 0))]⟩
def isa_sums_Q (op_ : Int) (r : (Row × Bool)) (p : Out × St) : Prop := (∀ i, p.1 ≠ .exit i) ∧ finF F56 [.y op_] p.2 = some (.tup [.d (Row.d r.1), .b r.2], [.y op_])
theorem isa_sums_j77_ok (op_ : Int) (b_2 : Row) (t47 : Int) (t56 : Bool) (r : (Row × Bool)) (h : isa_sums_j77 b_2 t47 t56 = some r) : Runs L F56b77 (isa_sums_h77 b_2 t47 t56) (kB 1 (kS L F56c106 (isa_sums_Q op_ r))) := by
 unfold isa_sums_j77 at h
 cases hb_10 : (t56 : Bool) with
 | true =>
  replace h := ite_t hb_10 h
  refine Ct <| Sq <| Ro ?_
  obtain ⟨r_8, hr_8, h⟩ := bind_s h
  have hc_8 := isa_row_L 10 23 0 r_8 hr_8
  refine Rt (some 60) (.callf 57) [] none [.i 10, .i 23, .i 0] (.tup [.d (Row.d r_8.1), .b r_8.2]) [] (cc hc_8) <| Rc 4 [⟨.d (Row.d r_8.1), []⟩, vb r_8.2, ⟨.tup [], [([2], some (.cells [.i r_8.1.Name, .i r_8.1.A, .i r_8.1.B, .b r_8.1.Mod] 0))]⟩, vb r_8.2] <| Rk <| Runs.ret <| kB_ret <| kS_ret ?_
  cases h
  exact Fq
 | false =>
  replace h := ite_f hb_10 h
  refine Cf <| Sq <| Ro <| Rc 2 [vb (t47 == 39), vb (t47 == 39)] <| Rk ?_
  cases hb_11 : ((t47 == 39) : Bool) with
  | true =>
   replace h := ite_t hb_11 h
   refine Ct <| Sq <| Ro ?_
   obtain ⟨r_9, hr_9, h⟩ := bind_s h
   have hc_9 := isa_row_L 11 0 0 r_9 hr_9
   refine Rt (some 65) (.callf 57) [] none [.i 11, .i 0, .i 0] (.tup [.d (Row.d r_9.1), .b r_9.2]) [] (cc hc_9) <| Rc 4 [⟨.d (Row.d r_9.1), []⟩, vb r_9.2, ⟨.tup [], [([2], some (.cells [.i r_9.1.Name, .i r_9.1.A, .i r_9.1.B, .b r_9.1.Mod] 0))]⟩, vb r_9.2] <| Rk <| Runs.ret <| kB_ret <| kS_ret ?_
   cases h
   exact Fq
  | false =>
   replace h := ite_f hb_11 h
   refine Cf <| Sq <| Ro <| Rc 2 [vb (t47 == 47), vb (t47 == 47)] <| Rk ?_
   cases hb_12 : ((t47 == 47) : Bool) with
   | true =>
    replace h := ite_t hb_12 h
    refine Ct <| Sq <| Ro ?_
    obtain ⟨r_10, hr_10, h⟩ := bind_s h
    have hc_10 := isa_row_L 12 0 0 r_10 hr_10
    refine Rt (some 70) (.callf 57) [] none [.i 12, .i 0, .i 0] (.tup [.d (Row.d r_10.1), .b r_10.2]) [] (cc hc_10) <| Rc 4 [⟨.d (Row.d r_10.1), []⟩, vb r_10.2, ⟨.tup [], [([2], some (.cells [.i r_10.1.Name, .i r_10.1.A, .i r_10.1.B, .b r_10.1.Mod] 0))]⟩, vb r_10.2] <| Rk <| Runs.ret <| kB_ret <| kS_ret ?_
    cases h
    exact Fq
   | false =>
    replace h := ite_f hb_12 h
    refine Cf <| Sq <| Ro <| Rc 2 [vb (t47 == 55), vb (t47 == 55)] <| Rk ?_
    cases hb_13 : ((t47 == 55) : Bool) with
    | true =>
     replace h := ite_t hb_13 h
     refine Ct <| Sq <| Ro ?_
     obtain ⟨r_11, hr_11, h⟩ := bind_s h
     have hc_11 := isa_row_L 13 0 0 r_11 hr_11
     refine Rt (some 75) (.callf 57) [] none [.i 13, .i 0, .i 0] (.tup [.d (Row.d r_11.1), .b r_11.2]) [] (cc hc_11) <| Rc 4 [⟨.d (Row.d r_11.1), []⟩, vb r_11.2, ⟨.tup [], [([2], some (.cells [.i r_11.1.Name, .i r_11.1.A, .i r_11.1.B, .b r_11.1.Mod] 0))]⟩, vb r_11.2] <| Rk <| Runs.ret <| kB_ret <| kS_ret ?_
     cases h
     exact Fq
    | false =>
     replace h := ite_f hb_13 h
     refine Cf <| Sq <| Ro <| Rc 2 [vb (t47 == 63), vb (t47 == 63)] <| Rk ?_
     cases hb_14 : ((t47 == 63) : Bool) with
     | true =>
      replace h := ite_t hb_14 h
      refine Ct <| Sq <| Ro ?_
      obtain ⟨r_12, hr_12, h⟩ := bind_s h
      have hc_12 := isa_row_L 14 0 0 r_12 hr_12
      refine Rt (some 80) (.callf 57) [] none [.i 14, .i 0, .i 0] (.tup [.d (Row.d r_12.1), .b r_12.2]) [] (cc hc_12) <| Rc 4 [⟨.d (Row.d r_12.1), []⟩, vb r_12.2, ⟨.tup [], [([2], some (.cells [.i r_12.1.Name, .i r_12.1.A, .i r_12.1.B, .b r_12.1.Mod] 0))]⟩, vb r_12.2] <| Rk <| Runs.ret <| kB_ret <| kS_ret ?_
      cases h
      exact Fq
     | false =>
      replace h := ite_f hb_14 h
      refine Cf <| Runs.skip <| kB_nrm <| kS_nrm <| Sq <| Ro ?_
      obtain ⟨r_13, hr_13, h⟩ := bind_s h
      have hc_13 := isa_bad_L r_13 hr_13
      refine Rt (some 83) (.callf 58) [] none [] (.tup [.d (Row.d r_13.1), .b r_13.2]) [] (cc hc_13) <| Rc 4 [⟨.d (Row.d r_13.1), []⟩, vb r_13.2, ⟨.tup [], [([2], some (.cells [.i r_13.1.Name, .i r_13.1.A, .i r_13.1.B, .b r_13.1.Mod] 0))]⟩, vb r_13.2] <| Rk <| Runs.ret ?_
      cases h
      exact Fq
theorem isa_sums_j63_ok (op_ : Int) (b_2 : Row) (t47 : Int) (t48 : Bool) (r : (Row × Bool)) (h : isa_sums_j63 b_2 t47 t48 = some r) : Runs L F56b63 (isa_sums_h63 b_2 t47 t48) (kB 1 (kS L F56c106 (isa_sums_Q op_ r))) := by
 unfold isa_sums_j63 at h
 cases hb_8 : (t48 : Bool) with
 | true =>
  replace h := ite_t hb_8 h
  refine Ct <| Sq <| Ro ?_
  obtain ⟨r_7, hr_7, h⟩ := bind_s h
  have hc_7 := isa_row_L 9 23 0 r_7 hr_7
  refine Rt (some 53) (.callf 57) [] none [.i 9, .i 23, .i 0] (.tup [.d (Row.d r_7.1), .b r_7.2]) [] (cc hc_7) <| Rc 4 [⟨.d (Row.d r_7.1), []⟩, vb r_7.2, ⟨.tup [], [([2], some (.cells [.i r_7.1.Name, .i r_7.1.A, .i r_7.1.B, .b r_7.1.Mod] 0))]⟩, vb r_7.2] <| Rk <| Runs.ret <| kB_ret <| kS_ret ?_
  cases h
  exact Fq
 | false =>
  replace h := ite_f hb_8 h
  refine Cf <| Sq <| Sq <| Ro <| Rc 2 [vb (t47 == 7), vb (t47 == 7)] <| Rk ?_
  cases hb_9 : ((t47 == 7) : Bool) with
  | true =>
   replace h := ite_t hb_9 h
   refine Ct <| Runs.skip <| kS_nrm <| Runs.canon (isa_sums_h77 b_2 t47 true) Cz ?_
   exact isa_sums_j77_ok op_ b_2 t47 true r h
  | false =>
   replace h := ite_f hb_9 h
   refine Cf <| Sq <| Ro <| Rc 2 [vb (t47 == 23), vb (t47 == 23)] <| Rk ?_
   cases hb_15 : ((t47 == 23) : Bool) with
   | true =>
    replace h := ite_t hb_15 h
    refine Ct <| Runs.skip <| kS_nrm <| Runs.canon (isa_sums_h77 b_2 t47 true) Cz ?_
    exact isa_sums_j77_ok op_ b_2 t47 true r h
   | false =>
    replace h := ite_f hb_15 h
    refine Cf <| Ro <| Rc 2 [vb (t47 == 31), vb (t47 == 31)] <| Rk <| Runs.canon (isa_sums_h77 b_2 t47 (t47 == 31)) Cz ?_
    exact isa_sums_j77_ok op_ b_2 t47 (t47 == 31) r h
theorem isa_sums_ok (op_ : Int) (r : (Row × Bool)) (h : isa_sums op_ = some r) : Runs L F56.body ⟨tmOf [.y op_] 0, updW (fun _ => none) []⟩ (isa_sums_Q op_ r) := by
 unfold isa_sums at h
 refine Sq <| Ro <| Rc 2 [⟨.ptr [2] 0 0, [([2], some (.cells [.i 0, .i 0, .i 0, .b false] 0))]⟩, vb false] <| Rk <| Sq <| Ro <| Rc 5 [vy op_, vy (shrI .u8 op_ 3), vi (IntKind.wrap .i64 (shrI .u8 op_ 3)), vi (IntKind.wrap .i64 (1 + (IntKind.wrap .i64 (shrI .u8 op_ 3)))), vi (IntKind.wrap .i64 (1 + (IntKind.wrap .i64 (shrI .u8 op_ 3))))] <| Rk <| Sq <| Sq <| Ro <| Rc 2 [vy op_, vy (bitsOp .and .u8 op_ 7)] <| Rk <| Runs.block <| Sq <| Ro <| Rc 2 [vb ((bitsOp .and .u8 op_ 7) == 0), vb ((bitsOp .and .u8 op_ 7) == 0)] <| Rk ?_
 cases hb_1 : (((bitsOp .and .u8 op_ 7) == 0) : Bool) with
 | true =>
  replace h := ite_t hb_1 h
  refine Ct <| Sq <| Ro <| Rc 1 [vi (IntKind.wrap .i64 (1 + (IntKind.wrap .i64 (shrI .u8 op_ 3))))] ?_
  obtain ⟨r_1, hr_1, h⟩ := bind_s h
  have hc_1 := isa_mod_L (IntKind.wrap .i64 (1 + (IntKind.wrap .i64 (shrI .u8 op_ 3)))) 1 3 r_1 hr_1
  refine Rt (some 14) (.callf 71) [] none [.i (IntKind.wrap .i64 (1 + (IntKind.wrap .i64 (shrI .u8 op_ 3)))), .i 1, .i 3] (.tup [.d (Row.d r_1.1), .b r_1.2]) [] (cc hc_1) <| Rc 4 [⟨.d (Row.d r_1.1), []⟩, vb r_1.2, ⟨.tup [], [([2], some (.cells [.i r_1.1.Name, .i r_1.1.A, .i r_1.1.B, .b r_1.1.Mod] 0))]⟩, vb r_1.2] <| Rk <| Runs.ret <| kB_ret <| kS_ret ?_
  cases h
  exact Fq
 | false =>
  replace h := ite_f hb_1 h
  refine Cf <| Sq <| Ro <| Rc 2 [vb ((bitsOp .and .u8 op_ 7) == 1), vb ((bitsOp .and .u8 op_ 7) == 1)] <| Rk ?_
  cases hb_2 : (((bitsOp .and .u8 op_ 7) == 1) : Bool) with
  | true =>
   replace h := ite_t hb_2 h
   refine Ct <| Sq <| Ro <| Rc 1 [vi (IntKind.wrap .i64 (1 + (IntKind.wrap .i64 (shrI .u8 op_ 3))))] ?_
   obtain ⟨r_2, hr_2, h⟩ := bind_s h
   have hc_2 := isa_mod_L (IntKind.wrap .i64 (1 + (IntKind.wrap .i64 (shrI .u8 op_ 3)))) 2 4 r_2 hr_2
   refine Rt (some 20) (.callf 71) [] none [.i (IntKind.wrap .i64 (1 + (IntKind.wrap .i64 (shrI .u8 op_ 3)))), .i 2, .i 4] (.tup [.d (Row.d r_2.1), .b r_2.2]) [] (cc hc_2) <| Rc 4 [⟨.d (Row.d r_2.1), []⟩, vb r_2.2, ⟨.tup [], [([2], some (.cells [.i r_2.1.Name, .i r_2.1.A, .i r_2.1.B, .b r_2.1.Mod] 0))]⟩, vb r_2.2] <| Rk <| Runs.ret <| kB_ret <| kS_ret ?_
   cases h
   exact Fq
  | false =>
   replace h := ite_f hb_2 h
   refine Cf <| Sq <| Ro <| Rc 2 [vb ((bitsOp .and .u8 op_ 7) == 2), vb ((bitsOp .and .u8 op_ 7) == 2)] <| Rk ?_
   cases hb_3 : (((bitsOp .and .u8 op_ 7) == 2) : Bool) with
   | true =>
    replace h := ite_t hb_3 h
    refine Ct <| Sq <| Ro <| Rc 1 [vi (IntKind.wrap .i64 (1 + (IntKind.wrap .i64 (shrI .u8 op_ 3))))] ?_
    obtain ⟨r_3, hr_3, h⟩ := bind_s h
    have hc_3 := isa_mod_L (IntKind.wrap .i64 (1 + (IntKind.wrap .i64 (shrI .u8 op_ 3)))) 3 1 r_3 hr_3
    refine Rt (some 26) (.callf 71) [] none [.i (IntKind.wrap .i64 (1 + (IntKind.wrap .i64 (shrI .u8 op_ 3)))), .i 3, .i 1] (.tup [.d (Row.d r_3.1), .b r_3.2]) [] (cc hc_3) <| Rc 4 [⟨.d (Row.d r_3.1), []⟩, vb r_3.2, ⟨.tup [], [([2], some (.cells [.i r_3.1.Name, .i r_3.1.A, .i r_3.1.B, .b r_3.1.Mod] 0))]⟩, vb r_3.2] <| Rk <| Runs.ret <| kB_ret <| kS_ret ?_
    cases h
    exact Fq
   | false =>
    replace h := ite_f hb_3 h
    refine Cf <| Sq <| Ro <| Rc 2 [vb ((bitsOp .and .u8 op_ 7) == 3), vb ((bitsOp .and .u8 op_ 7) == 3)] <| Rk ?_
    cases hb_4 : (((bitsOp .and .u8 op_ 7) == 3) : Bool) with
    | true =>
     replace h := ite_t hb_4 h
     refine Ct <| Sq <| Ro <| Rc 1 [vi (IntKind.wrap .i64 (1 + (IntKind.wrap .i64 (shrI .u8 op_ 3))))] ?_
     obtain ⟨r_4, hr_4, h⟩ := bind_s h
     have hc_4 := isa_mod_L (IntKind.wrap .i64 (1 + (IntKind.wrap .i64 (shrI .u8 op_ 3)))) 4 2 r_4 hr_4
     refine Rt (some 32) (.callf 71) [] none [.i (IntKind.wrap .i64 (1 + (IntKind.wrap .i64 (shrI .u8 op_ 3)))), .i 4, .i 2] (.tup [.d (Row.d r_4.1), .b r_4.2]) [] (cc hc_4) <| Rc 4 [⟨.d (Row.d r_4.1), []⟩, vb r_4.2, ⟨.tup [], [([2], some (.cells [.i r_4.1.Name, .i r_4.1.A, .i r_4.1.B, .b r_4.1.Mod] 0))]⟩, vb r_4.2] <| Rk <| Runs.ret <| kB_ret <| kS_ret ?_
     cases h
     exact Fq
    | false =>
     replace h := ite_f hb_4 h
     refine Cf <| Sq <| Ro <| Rc 2 [vb ((bitsOp .and .u8 op_ 7) == 4), vb ((bitsOp .and .u8 op_ 7) == 4)] <| Rk ?_
     cases hb_5 : (((bitsOp .and .u8 op_ 7) == 4) : Bool) with
     | true =>
      replace h := ite_t hb_5 h
      refine Ct <| Sq <| Ro <| Rc 1 [vi (IntKind.wrap .i64 (1 + (IntKind.wrap .i64 (shrI .u8 op_ 3))))] ?_
      obtain ⟨r_5, hr_5, h⟩ := bind_s h
      have hc_5 := isa_row_L (IntKind.wrap .i64 (1 + (IntKind.wrap .i64 (shrI .u8 op_ 3)))) 14 6 r_5 hr_5
      refine Rt (some 38) (.callf 57) [] none [.i (IntKind.wrap .i64 (1 + (IntKind.wrap .i64 (shrI .u8 op_ 3)))), .i 14, .i 6] (.tup [.d (Row.d r_5.1), .b r_5.2]) [] (cc hc_5) <| Rc 4 [⟨.d (Row.d r_5.1), []⟩, vb r_5.2, ⟨.tup [], [([2], some (.cells [.i r_5.1.Name, .i r_5.1.A, .i r_5.1.B, .b r_5.1.Mod] 0))]⟩, vb r_5.2] <| Rk <| Runs.ret <| kB_ret <| kS_ret ?_
      cases h
      exact Fq
     | false =>
      replace h := ite_f hb_5 h
      refine Cf <| Sq <| Ro <| Rc 2 [vb ((bitsOp .and .u8 op_ 7) == 5), vb ((bitsOp .and .u8 op_ 7) == 5)] <| Rk ?_
      cases hb_6 : (((bitsOp .and .u8 op_ 7) == 5) : Bool) with
      | true =>
       replace h := ite_t hb_6 h
       refine Ct <| Sq <| Ro <| Rc 1 [vi (IntKind.wrap .i64 (1 + (IntKind.wrap .i64 (shrI .u8 op_ 3))))] ?_
       obtain ⟨r_6, hr_6, h⟩ := bind_s h
       have hc_6 := isa_row_L (IntKind.wrap .i64 (1 + (IntKind.wrap .i64 (shrI .u8 op_ 3)))) 16 7 r_6 hr_6
       refine Rt (some 44) (.callf 57) [] none [.i (IntKind.wrap .i64 (1 + (IntKind.wrap .i64 (shrI .u8 op_ 3)))), .i 16, .i 7] (.tup [.d (Row.d r_6.1), .b r_6.2]) [] (cc hc_6) <| Rc 4 [⟨.d (Row.d r_6.1), []⟩, vb r_6.2, ⟨.tup [], [([2], some (.cells [.i r_6.1.Name, .i r_6.1.A, .i r_6.1.B, .b r_6.1.Mod] 0))]⟩, vb r_6.2] <| Rk <| Runs.ret <| kB_ret <| kS_ret ?_
       cases h
       exact Fq
      | false =>
       replace h := ite_f hb_6 h
       refine Cf <| Runs.skip <| kB_nrm <| kS_nrm <| Sq <| Sq <| Ro <| Rc 1 [vy op_] <| Rk <| Runs.block <| Sq <| Sq <| Ro <| Rc 2 [vb (op_ == 6), vb (op_ == 6)] <| Rk ?_
       cases hb_7 : ((op_ == 6) : Bool) with
       | true =>
        replace h := ite_t hb_7 h
        refine Ct <| Runs.skip <| kS_nrm <| Runs.canon (isa_sums_h63 ({ Name := 0, A := 0, B := 0, Mod := false } : Row) op_ true) Cz ?_
        exact isa_sums_j63_ok op_ ({ Name := 0, A := 0, B := 0, Mod := false } : Row) op_ true r h
       | false =>
        replace h := ite_f hb_7 h
        refine Cf <| Sq <| Ro <| Rc 2 [vb (op_ == 14), vb (op_ == 14)] <| Rk ?_
        cases hb_16 : ((op_ == 14) : Bool) with
        | true =>
         replace h := ite_t hb_16 h
         refine Ct <| Runs.skip <| kS_nrm <| Runs.canon (isa_sums_h63 ({ Name := 0, A := 0, B := 0, Mod := false } : Row) op_ true) Cz ?_
         exact isa_sums_j63_ok op_ ({ Name := 0, A := 0, B := 0, Mod := false } : Row) op_ true r h
        | false =>
         replace h := ite_f hb_16 h
         refine Cf <| Sq <| Ro <| Rc 2 [vb (op_ == 22), vb (op_ == 22)] <| Rk ?_
         cases hb_17 : ((op_ == 22) : Bool) with
         | true =>
          replace h := ite_t hb_17 h
          refine Ct <| Runs.skip <| kS_nrm <| Runs.canon (isa_sums_h63 ({ Name := 0, A := 0, B := 0, Mod := false } : Row) op_ true) Cz ?_
          exact isa_sums_j63_ok op_ ({ Name := 0, A := 0, B := 0, Mod := false } : Row) op_ true r h
         | false =>
          replace h := ite_f hb_17 h
          refine Cf <| Ro <| Rc 2 [vb (op_ == 30), vb (op_ == 30)] <| Rk <| Runs.canon (isa_sums_h63 ({ Name := 0, A := 0, B := 0, Mod := false } : Row) op_ (op_ == 30)) Cz ?_
          exact isa_sums_j63_ok op_ ({ Name := 0, A := 0, B := 0, Mod := false } : Row) op_ (op_ == 30) r h
theorem isa_sums_L (op_ : Int) (r : (Row × Bool)) (h : isa_sums op_ = some r) : L 56 [.y op_] = some (.tup [.d (Row.d r.1), .b r.2], [.y op_]) := by
 obtain ⟨p, ⟨hne, hf⟩, hr⟩ := isa_sums_ok op_ r h
 obtain ⟨k, hk⟩ := run_of (F := F56) (args := [.y op_]) (ap := [.y op_]) (bx0 := updW (fun _ => none) []) rfl rfl (by kernel_rfl) ⟨p, ⟨hne, hf⟩, hr⟩
 exact lim_run (k := k) rfl hk
def isa_moves_Q (op_ : Int) (reg_ : Int) (r : (Row × Bool)) (p : Out × St) : Prop := (∀ i, p.1 ≠ .exit i) ∧ finF F59 [.y op_, .i reg_] p.2 = some (.tup [.d (Row.d r.1), .b r.2], [.y op_, .i reg_])
theorem isa_moves_ok (op_ : Int) (reg_ : Int) (r : (Row × Bool)) (h : isa_moves op_ reg_ = some r) : Runs L F59.body ⟨tmOf [.y op_, .i reg_] 0, updW (fun _ => none) []⟩ (isa_moves_Q op_ reg_ r) := by
 unfold isa_moves at h
 refine Sq <| Ro <| Rc 2 [⟨.ptr [4] 0 0, [([4], some (.cells [.i 0, .i 0, .i 0, .b false] 0))]⟩, vb false] <| Rk <| Sq <| Sq <| Ro <| Rc 1 [vy op_] <| Rk <| Runs.block <| Sq <| Ro <| Rc 2 [vb (op_ == 128), vb (op_ == 128)] <| Rk ?_
 cases hb_1 : ((op_ == 128) : Bool) with
 | true =>
  replace h := ite_t hb_1 h
  refine Ct <| Sq <| Ro <| Rc 2 [vi reg_, vi (IntKind.wrap .i64 (1 + reg_))] ?_
  obtain ⟨r_1, hr_1, h⟩ := bind_s h
  have hc_1 := isa_mod_L (IntKind.wrap .i64 (1 + reg_)) 1 6 r_1 hr_1
  refine Rt (some 11) (.callf 71) [] none [.i (IntKind.wrap .i64 (1 + reg_)), .i 1, .i 6] (.tup [.d (Row.d r_1.1), .b r_1.2]) [] (cc hc_1) <| Rc 4 [⟨.d (Row.d r_1.1), []⟩, vb r_1.2, ⟨.tup [], [([4], some (.cells [.i r_1.1.Name, .i r_1.1.A, .i r_1.1.B, .b r_1.1.Mod] 0))]⟩, vb r_1.2] <| Rk <| Runs.ret <| kB_ret <| kS_ret ?_
  cases h
  exact Fq
 | false =>
  replace h := ite_f hb_1 h
  refine Cf <| Sq <| Ro <| Rc 2 [vb (op_ == 129), vb (op_ == 129)] <| Rk ?_
  cases hb_2 : ((op_ == 129) : Bool) with
  | true =>
   replace h := ite_t hb_2 h
   refine Ct <| Sq <| Ro <| Rc 2 [vi reg_, vi (IntKind.wrap .i64 (1 + reg_))] ?_
   obtain ⟨r_2, hr_2, h⟩ := bind_s h
   have hc_2 := isa_mod_L (IntKind.wrap .i64 (1 + reg_)) 2 7 r_2 hr_2
   refine Rt (some 18) (.callf 71) [] none [.i (IntKind.wrap .i64 (1 + reg_)), .i 2, .i 7] (.tup [.d (Row.d r_2.1), .b r_2.2]) [] (cc hc_2) <| Rc 4 [⟨.d (Row.d r_2.1), []⟩, vb r_2.2, ⟨.tup [], [([4], some (.cells [.i r_2.1.Name, .i r_2.1.A, .i r_2.1.B, .b r_2.1.Mod] 0))]⟩, vb r_2.2] <| Rk <| Runs.ret <| kB_ret <| kS_ret ?_
   cases h
   exact Fq
  | false =>
   replace h := ite_f hb_2 h
   refine Cf <| Sq <| Ro <| Rc 2 [vb (op_ == 131), vb (op_ == 131)] <| Rk ?_
   cases hb_3 : ((op_ == 131) : Bool) with
   | true =>
    replace h := ite_t hb_3 h
    refine Ct <| Sq <| Sq <| Ro <| Rc 3 [vi reg_, vb (reg_ == 1), vb (reg_ == 1)] ?_
    cases hb_4 : ((reg_ == 1) : Bool) with
    | true =>
     replace h := ite_t hb_4 h
     refine Rc 7 [vn, vn, vb true, vb true, vn, vn, vb true] <| Rk <| Ct <| Sq <| Ro ?_
     obtain ⟨r_3, hr_3, h⟩ := bind_s h
     have hc_3 := isa_bad_L r_3 hr_3
     refine Rt (some 33) (.callf 58) [] none [] (.tup [.d (Row.d r_3.1), .b r_3.2]) [] (cc hc_3) <| Rc 4 [⟨.d (Row.d r_3.1), []⟩, vb r_3.2, ⟨.tup [], [([4], some (.cells [.i r_3.1.Name, .i r_3.1.A, .i r_3.1.B, .b r_3.1.Mod] 0))]⟩, vb r_3.2] <| Rk <| Runs.ret <| kS_ret <| kB_ret <| kS_ret ?_
     cases h
     exact Fq
    | false =>
     replace h := ite_f hb_4 h
     refine Rc 4 [vi reg_, vb (reg_ == 4), vb (reg_ == 4), vb (reg_ == 4)] ?_
     cases hb_5 : ((reg_ == 4) : Bool) with
     | true =>
      replace h := ite_t hb_5 h
      refine Rc 3 [vn, vn, vb true] <| Rk <| Ct <| Sq <| Ro ?_
      obtain ⟨r_4, hr_4, h⟩ := bind_s h
      have hc_4 := isa_bad_L r_4 hr_4
      refine Rt (some 33) (.callf 58) [] none [] (.tup [.d (Row.d r_4.1), .b r_4.2]) [] (cc hc_4) <| Rc 4 [⟨.d (Row.d r_4.1), []⟩, vb r_4.2, ⟨.tup [], [([4], some (.cells [.i r_4.1.Name, .i r_4.1.A, .i r_4.1.B, .b r_4.1.Mod] 0))]⟩, vb r_4.2] <| Rk <| Runs.ret <| kS_ret <| kB_ret <| kS_ret ?_
      cases h
      exact Fq
     | false =>
      replace h := ite_f hb_5 h
      refine Rc 3 [vi reg_, vb (reg_ == 6), vb (reg_ == 6)] <| Rk ?_
      cases hb_6 : ((reg_ == 6) : Bool) with
      | true =>
       replace h := ite_t hb_6 h
       refine Ct <| Sq <| Ro ?_
       obtain ⟨r_5, hr_5, h⟩ := bind_s h
       have hc_5 := isa_bad_L r_5 hr_5
       refine Rt (some 33) (.callf 58) [] none [] (.tup [.d (Row.d r_5.1), .b r_5.2]) [] (cc hc_5) <| Rc 4 [⟨.d (Row.d r_5.1), []⟩, vb r_5.2, ⟨.tup [], [([4], some (.cells [.i r_5.1.Name, .i r_5.1.A, .i r_5.1.B, .b r_5.1.Mod] 0))]⟩, vb r_5.2] <| Rk <| Runs.ret <| kS_ret <| kB_ret <| kS_ret ?_
       cases h
       exact Fq
      | false =>
       replace h := ite_f hb_6 h
       refine Cf <| Runs.skip <| kS_nrm <| Sq <| Ro <| Rc 2 [vi reg_, vi (IntKind.wrap .i64 (1 + reg_))] ?_
       obtain ⟨r_6, hr_6, h⟩ := bind_s h
       have hc_6 := isa_mod_L (IntKind.wrap .i64 (1 + reg_)) 2 8 r_6 hr_6
       refine Rt (some 38) (.callf 71) [] none [.i (IntKind.wrap .i64 (1 + reg_)), .i 2, .i 8] (.tup [.d (Row.d r_6.1), .b r_6.2]) [] (cc hc_6) <| Rc 4 [⟨.d (Row.d r_6.1), []⟩, vb r_6.2, ⟨.tup [], [([4], some (.cells [.i r_6.1.Name, .i r_6.1.A, .i r_6.1.B, .b r_6.1.Mod] 0))]⟩, vb r_6.2] <| Rk <| Runs.ret <| kB_ret <| kS_ret ?_
       cases h
       exact Fq
   | false =>
    replace h := ite_f hb_3 h
    refine Cf <| Sq <| Ro <| Rc 2 [vb (op_ == 132), vb (op_ == 132)] <| Rk ?_
    cases hb_7 : ((op_ == 132) : Bool) with
    | true =>
     replace h := ite_t hb_7 h
     refine Ct <| Sq <| Ro ?_
     obtain ⟨r_7, hr_7, h⟩ := bind_s h
     have hc_7 := isa_mod_L 33 1 3 r_7 hr_7
     refine Rt (some 43) (.callf 71) [] none [.i 33, .i 1, .i 3] (.tup [.d (Row.d r_7.1), .b r_7.2]) [] (cc hc_7) <| Rc 4 [⟨.d (Row.d r_7.1), []⟩, vb r_7.2, ⟨.tup [], [([4], some (.cells [.i r_7.1.Name, .i r_7.1.A, .i r_7.1.B, .b r_7.1.Mod] 0))]⟩, vb r_7.2] <| Rk <| Runs.ret <| kB_ret <| kS_ret ?_
     cases h
     exact Fq
    | false =>
     replace h := ite_f hb_7 h
     refine Cf <| Sq <| Ro <| Rc 2 [vb (op_ == 133), vb (op_ == 133)] <| Rk ?_
     cases hb_8 : ((op_ == 133) : Bool) with
     | true =>
      replace h := ite_t hb_8 h
      refine Ct <| Sq <| Ro ?_
      obtain ⟨r_8, hr_8, h⟩ := bind_s h
      have hc_8 := isa_mod_L 33 2 4 r_8 hr_8
      refine Rt (some 48) (.callf 71) [] none [.i 33, .i 2, .i 4] (.tup [.d (Row.d r_8.1), .b r_8.2]) [] (cc hc_8) <| Rc 4 [⟨.d (Row.d r_8.1), []⟩, vb r_8.2, ⟨.tup [], [([4], some (.cells [.i r_8.1.Name, .i r_8.1.A, .i r_8.1.B, .b r_8.1.Mod] 0))]⟩, vb r_8.2] <| Rk <| Runs.ret <| kB_ret <| kS_ret ?_
      cases h
      exact Fq
     | false =>
      replace h := ite_f hb_8 h
      refine Cf <| Sq <| Ro <| Rc 2 [vb (op_ == 134), vb (op_ == 134)] <| Rk ?_
      cases hb_9 : ((op_ == 134) : Bool) with
      | true =>
       replace h := ite_t hb_9 h
       refine Ct <| Sq <| Ro ?_
       obtain ⟨r_9, hr_9, h⟩ := bind_s h
       have hc_9 := isa_mod_L 34 1 3 r_9 hr_9
       refine Rt (some 53) (.callf 71) [] none [.i 34, .i 1, .i 3] (.tup [.d (Row.d r_9.1), .b r_9.2]) [] (cc hc_9) <| Rc 4 [⟨.d (Row.d r_9.1), []⟩, vb r_9.2, ⟨.tup [], [([4], some (.cells [.i r_9.1.Name, .i r_9.1.A, .i r_9.1.B, .b r_9.1.Mod] 0))]⟩, vb r_9.2] <| Rk <| Runs.ret <| kB_ret <| kS_ret ?_
       cases h
       exact Fq
      | false =>
       replace h := ite_f hb_9 h
       refine Cf <| Sq <| Ro <| Rc 2 [vb (op_ == 135), vb (op_ == 135)] <| Rk ?_
       cases hb_10 : ((op_ == 135) : Bool) with
       | true =>
        replace h := ite_t hb_10 h
        refine Ct <| Sq <| Ro ?_
        obtain ⟨r_10, hr_10, h⟩ := bind_s h
        have hc_10 := isa_mod_L 34 2 4 r_10 hr_10
        refine Rt (some 58) (.callf 71) [] none [.i 34, .i 2, .i 4] (.tup [.d (Row.d r_10.1), .b r_10.2]) [] (cc hc_10) <| Rc 4 [⟨.d (Row.d r_10.1), []⟩, vb r_10.2, ⟨.tup [], [([4], some (.cells [.i r_10.1.Name, .i r_10.1.A, .i r_10.1.B, .b r_10.1.Mod] 0))]⟩, vb r_10.2] <| Rk <| Runs.ret <| kB_ret <| kS_ret ?_
        cases h
        exact Fq
       | false =>
        replace h := ite_f hb_10 h
        refine Cf <| Sq <| Ro <| Rc 2 [vb (op_ == 136), vb (op_ == 136)] <| Rk ?_
        cases hb_11 : ((op_ == 136) : Bool) with
        | true =>
         replace h := ite_t hb_11 h
         refine Ct <| Sq <| Ro ?_
         obtain ⟨r_11, hr_11, h⟩ := bind_s h
         have hc_11 := isa_mod_L 35 1 3 r_11 hr_11
         refine Rt (some 63) (.callf 71) [] none [.i 35, .i 1, .i 3] (.tup [.d (Row.d r_11.1), .b r_11.2]) [] (cc hc_11) <| Rc 4 [⟨.d (Row.d r_11.1), []⟩, vb r_11.2, ⟨.tup [], [([4], some (.cells [.i r_11.1.Name, .i r_11.1.A, .i r_11.1.B, .b r_11.1.Mod] 0))]⟩, vb r_11.2] <| Rk <| Runs.ret <| kB_ret <| kS_ret ?_
         cases h
         exact Fq
        | false =>
         replace h := ite_f hb_11 h
         refine Cf <| Sq <| Ro <| Rc 2 [vb (op_ == 137), vb (op_ == 137)] <| Rk ?_
         cases hb_12 : ((op_ == 137) : Bool) with
         | true =>
          replace h := ite_t hb_12 h
          refine Ct <| Sq <| Ro ?_
          obtain ⟨r_12, hr_12, h⟩ := bind_s h
          have hc_12 := isa_mod_L 35 2 4 r_12 hr_12
          refine Rt (some 68) (.callf 71) [] none [.i 35, .i 2, .i 4] (.tup [.d (Row.d r_12.1), .b r_12.2]) [] (cc hc_12) <| Rc 4 [⟨.d (Row.d r_12.1), []⟩, vb r_12.2, ⟨.tup [], [([4], some (.cells [.i r_12.1.Name, .i r_12.1.A, .i r_12.1.B, .b r_12.1.Mod] 0))]⟩, vb r_12.2] <| Rk <| Runs.ret <| kB_ret <| kS_ret ?_
          cases h
          exact Fq
         | false =>
          replace h := ite_f hb_12 h
          refine Cf <| Sq <| Ro <| Rc 2 [vb (op_ == 138), vb (op_ == 138)] <| Rk ?_
          cases hb_13 : ((op_ == 138) : Bool) with
          | true =>
           replace h := ite_t hb_13 h
           refine Ct <| Sq <| Ro ?_
           obtain ⟨r_13, hr_13, h⟩ := bind_s h
           have hc_13 := isa_mod_L 35 3 1 r_13 hr_13
           refine Rt (some 73) (.callf 71) [] none [.i 35, .i 3, .i 1] (.tup [.d (Row.d r_13.1), .b r_13.2]) [] (cc hc_13) <| Rc 4 [⟨.d (Row.d r_13.1), []⟩, vb r_13.2, ⟨.tup [], [([4], some (.cells [.i r_13.1.Name, .i r_13.1.A, .i r_13.1.B, .b r_13.1.Mod] 0))]⟩, vb r_13.2] <| Rk <| Runs.ret <| kB_ret <| kS_ret ?_
           cases h
           exact Fq
          | false =>
           replace h := ite_f hb_13 h
           refine Cf <| Sq <| Ro <| Rc 2 [vb (op_ == 139), vb (op_ == 139)] <| Rk ?_
           cases hb_14 : ((op_ == 139) : Bool) with
           | true =>
            replace h := ite_t hb_14 h
            refine Ct <| Sq <| Ro ?_
            obtain ⟨r_14, hr_14, h⟩ := bind_s h
            have hc_14 := isa_mod_L 35 4 2 r_14 hr_14
            refine Rt (some 78) (.callf 71) [] none [.i 35, .i 4, .i 2] (.tup [.d (Row.d r_14.1), .b r_14.2]) [] (cc hc_14) <| Rc 4 [⟨.d (Row.d r_14.1), []⟩, vb r_14.2, ⟨.tup [], [([4], some (.cells [.i r_14.1.Name, .i r_14.1.A, .i r_14.1.B, .b r_14.1.Mod] 0))]⟩, vb r_14.2] <| Rk <| Runs.ret <| kB_ret <| kS_ret ?_
            cases h
            exact Fq
           | false =>
            replace h := ite_f hb_14 h
            refine Cf <| Sq <| Ro <| Rc 2 [vb (op_ == 140), vb (op_ == 140)] <| Rk ?_
            cases hb_15 : ((op_ == 140) : Bool) with
            | true =>
             replace h := ite_t hb_15 h
             refine Ct <| Sq <| Ro <| Rc 2 [vi reg_, vb (decide (reg_ < 4))] <| Rk ?_
             cases hb_16 : ((decide (reg_ < 4)) : Bool) with
             | true =>
              replace h := ite_t hb_16 h
              refine Ct <| Sq <| Ro ?_
              obtain ⟨r_15, hr_15, h⟩ := bind_s h
              have hc_15 := isa_mod_L 35 2 5 r_15 hr_15
              refine Rt (some 85) (.callf 71) [] none [.i 35, .i 2, .i 5] (.tup [.d (Row.d r_15.1), .b r_15.2]) [] (cc hc_15) <| Rc 4 [⟨.d (Row.d r_15.1), []⟩, vb r_15.2, ⟨.tup [], [([4], some (.cells [.i r_15.1.Name, .i r_15.1.A, .i r_15.1.B, .b r_15.1.Mod] 0))]⟩, vb r_15.2] <| Rk <| Runs.ret <| kB_ret <| kS_ret ?_
              cases h
              exact Fq
             | false =>
              replace h := ite_f hb_16 h
              refine Cf <| Runs.skip <| kB_nrm <| kS_nrm <| Sq <| Ro ?_
              obtain ⟨r_16, hr_16, h⟩ := bind_s h
              have hc_16 := isa_bad_L r_16 hr_16
              refine Rt (some 111) (.callf 58) [] none [] (.tup [.d (Row.d r_16.1), .b r_16.2]) [] (cc hc_16) <| Rc 4 [⟨.d (Row.d r_16.1), []⟩, vb r_16.2, ⟨.tup [], [([4], some (.cells [.i r_16.1.Name, .i r_16.1.A, .i r_16.1.B, .b r_16.1.Mod] 0))]⟩, vb r_16.2] <| Rk <| Runs.ret ?_
              cases h
              exact Fq
            | false =>
             replace h := ite_f hb_15 h
             refine Cf <| Sq <| Ro <| Rc 2 [vb (op_ == 141), vb (op_ == 141)] <| Rk ?_
             cases hb_17 : ((op_ == 141) : Bool) with
             | true =>
              replace h := ite_t hb_17 h
              refine Ct <| Sq <| Ro ?_
              obtain ⟨r_17, hr_17, h⟩ := bind_s h
              have hc_17 := isa_mod_L 36 4 20 r_17 hr_17
              refine Rt (some 90) (.callf 71) [] none [.i 36, .i 4, .i 20] (.tup [.d (Row.d r_17.1), .b r_17.2]) [] (cc hc_17) <| Rc 4 [⟨.d (Row.d r_17.1), []⟩, vb r_17.2, ⟨.tup [], [([4], some (.cells [.i r_17.1.Name, .i r_17.1.A, .i r_17.1.B, .b r_17.1.Mod] 0))]⟩, vb r_17.2] <| Rk <| Runs.ret <| kB_ret <| kS_ret ?_
              cases h
              exact Fq
             | false =>
              replace h := ite_f hb_17 h
              refine Cf <| Sq <| Ro <| Rc 2 [vb (op_ == 142), vb (op_ == 142)] <| Rk ?_
              cases hb_18 : ((op_ == 142) : Bool) with
              | true =>
               replace h := ite_t hb_18 h
               refine Ct <| Sq <| Ro <| Rc 3 [vi reg_, vb (decide (reg_ < 4)), vb (decide (reg_ < 4))] ?_
               cases hb_19 : ((decide (reg_ < 4)) : Bool) with
               | true =>
                replace h := ite_t hb_19 h
                refine Rc 3 [vi reg_, vb (reg_ != 1), vb (reg_ != 1)] <| Rk ?_
                cases hb_20 : ((reg_ != 1) : Bool) with
                | true =>
                 replace h := ite_t hb_20 h
                 refine Ct <| Sq <| Ro ?_
                 obtain ⟨r_18, hr_18, h⟩ := bind_s h
                 have hc_18 := isa_mod_L 35 5 2 r_18 hr_18
                 refine Rt (some 101) (.callf 71) [] none [.i 35, .i 5, .i 2] (.tup [.d (Row.d r_18.1), .b r_18.2]) [] (cc hc_18) <| Rc 4 [⟨.d (Row.d r_18.1), []⟩, vb r_18.2, ⟨.tup [], [([4], some (.cells [.i r_18.1.Name, .i r_18.1.A, .i r_18.1.B, .b r_18.1.Mod] 0))]⟩, vb r_18.2] <| Rk <| Runs.ret <| kB_ret <| kS_ret ?_
                 cases h
                 exact Fq
                | false =>
                 replace h := ite_f hb_20 h
                 refine Cf <| Runs.skip <| kB_nrm <| kS_nrm <| Sq <| Ro ?_
                 obtain ⟨r_19, hr_19, h⟩ := bind_s h
                 have hc_19 := isa_bad_L r_19 hr_19
                 refine Rt (some 111) (.callf 58) [] none [] (.tup [.d (Row.d r_19.1), .b r_19.2]) [] (cc hc_19) <| Rc 4 [⟨.d (Row.d r_19.1), []⟩, vb r_19.2, ⟨.tup [], [([4], some (.cells [.i r_19.1.Name, .i r_19.1.A, .i r_19.1.B, .b r_19.1.Mod] 0))]⟩, vb r_19.2] <| Rk <| Runs.ret ?_
                 cases h
                 exact Fq
               | false =>
                replace h := ite_f hb_19 h
                refine Rc 3 [vn, vn, vb false] <| Rk <| Cf <| Runs.skip <| kB_nrm <| kS_nrm <| Sq <| Ro ?_
                obtain ⟨r_20, hr_20, h⟩ := bind_s h
                have hc_20 := isa_bad_L r_20 hr_20
                refine Rt (some 111) (.callf 58) [] none [] (.tup [.d (Row.d r_20.1), .b r_20.2]) [] (cc hc_20) <| Rc 4 [⟨.d (Row.d r_20.1), []⟩, vb r_20.2, ⟨.tup [], [([4], some (.cells [.i r_20.1.Name, .i r_20.1.A, .i r_20.1.B, .b r_20.1.Mod] 0))]⟩, vb r_20.2] <| Rk <| Runs.ret ?_
                cases h
                exact Fq
              | false =>
               replace h := ite_f hb_18 h
               refine Cf <| Sq <| Ro <| Rc 2 [vb (op_ == 143), vb (op_ == 143)] <| Rk ?_
               cases hb_21 : ((op_ == 143) : Bool) with
               | true =>
                replace h := ite_t hb_21 h
                refine Ct <| Sq <| Ro <| Rc 2 [vi reg_, vb (reg_ == 0)] <| Rk ?_
                cases hb_22 : ((reg_ == 0) : Bool) with
                | true =>
                 replace h := ite_t hb_22 h
                 refine Ct <| Sq <| Ro ?_
                 obtain ⟨r_21, hr_21, h⟩ := bind_s h
                 have hc_21 := isa_mod_L 10 2 0 r_21 hr_21
                 refine Rt (some 108) (.callf 71) [] none [.i 10, .i 2, .i 0] (.tup [.d (Row.d r_21.1), .b r_21.2]) [] (cc hc_21) <| Rc 4 [⟨.d (Row.d r_21.1), []⟩, vb r_21.2, ⟨.tup [], [([4], some (.cells [.i r_21.1.Name, .i r_21.1.A, .i r_21.1.B, .b r_21.1.Mod] 0))]⟩, vb r_21.2] <| Rk <| Runs.ret <| kB_ret <| kS_ret ?_
                 cases h
                 exact Fq
                | false =>
                 replace h := ite_f hb_22 h
                 refine Cf <| Runs.skip <| kB_nrm <| kS_nrm <| Sq <| Ro ?_
                 obtain ⟨r_22, hr_22, h⟩ := bind_s h
                 have hc_22 := isa_bad_L r_22 hr_22
                 refine Rt (some 111) (.callf 58) [] none [] (.tup [.d (Row.d r_22.1), .b r_22.2]) [] (cc hc_22) <| Rc 4 [⟨.d (Row.d r_22.1), []⟩, vb r_22.2, ⟨.tup [], [([4], some (.cells [.i r_22.1.Name, .i r_22.1.A, .i r_22.1.B, .b r_22.1.Mod] 0))]⟩, vb r_22.2] <| Rk <| Runs.ret ?_
                 cases h
                 exact Fq
               | false =>
                replace h := ite_f hb_21 h
                refine Cf <| Runs.skip <| kB_nrm <| kS_nrm <| Sq <| Ro ?_
                obtain ⟨r_23, hr_23, h⟩ := bind_s h
                have hc_23 := isa_bad_L r_23 hr_23
                refine Rt (some 111) (.callf 58) [] none [] (.tup [.d (Row.d r_23.1), .b r_23.2]) [] (cc hc_23) <| Rc 4 [⟨.d (Row.d r_23.1), []⟩, vb r_23.2, ⟨.tup [], [([4], some (.cells [.i r_23.1.Name, .i r_23.1.A, .i r_23.1.B, .b r_23.1.Mod] 0))]⟩, vb r_23.2] <| Rk <| Runs.ret ?_
                cases h
                exact Fq
theorem isa_moves_L (op_ : Int) (reg_ : Int) (r : (Row × Bool)) (h : isa_moves op_ reg_ = some r) : L 59 [.y op_, .i reg_] = some (.tup [.d (Row.d r.1), .b r.2], [.y op_, .i reg_]) := by
 obtain ⟨p, ⟨hne, hf⟩, hr⟩ := isa_moves_ok op_ reg_ r h
 obtain ⟨k, hk⟩ := run_of (F := F59) (args := [.y op_, .i reg_]) (ap := [.y op_, .i reg_]) (bx0 := updW (fun _ => none) []) rfl rfl (by kernel_rfl) ⟨p, ⟨hne, hf⟩, hr⟩
 exact lim_run (k := k) rfl hk
def isa_words_Q (op_ : Int) (r : (Row × Bool)) (p : Out × St) : Prop := (∀ i, p.1 ≠ .exit i) ∧ finF F60 [.y op_] p.2 = some (.tup [.d (Row.d r.1), .b r.2], [.y op_])
theorem isa_words_ok (op_ : Int) (r : (Row × Bool)) (h : isa_words op_ = some r) : Runs L F60.body ⟨tmOf [.y op_] 0, updW (fun _ => none) []⟩ (isa_words_Q op_ r) := by
 unfold isa_words at h
 refine Sq <| Ro <| Rc 2 [⟨.ptr [2] 0 0, [([2], some (.cells [.i 0, .i 0, .i 0, .b false] 0))]⟩, vb false] <| Rk <| Sq <| Sq <| Ro <| Rc 2 [vy op_, vb (decide (op_ < 152))] <| Rk ?_
 cases hb_1 : ((decide (op_ < 152)) : Bool) with
 | true =>
  replace h := ite_t hb_1 h
  refine Ct <| Sq <| Ro ?_
  obtain ⟨r_1, hr_1, h⟩ := bind_s h
  have hc_1 := isa_row_L 34 16 22 r_1 hr_1
  refine Rt (some 7) (.callf 57) [] none [.i 34, .i 16, .i 22] (.tup [.d (Row.d r_1.1), .b r_1.2]) [] (cc hc_1) <| Rc 4 [⟨.d (Row.d r_1.1), []⟩, vb r_1.2, ⟨.tup [], [([2], some (.cells [.i r_1.1.Name, .i r_1.1.A, .i r_1.1.B, .b r_1.1.Mod] 0))]⟩, vb r_1.2] <| Rk <| Runs.ret <| kS_ret ?_
  cases h
  exact Fq
 | false =>
  replace h := ite_f hb_1 h
  refine Cf <| Runs.skip <| kS_nrm <| Sq <| Sq <| Ro <| Rc 2 [vy op_, vb (op_ == 154)] <| Rk ?_
  cases hb_2 : ((op_ == 154) : Bool) with
  | true =>
   replace h := ite_t hb_2 h
   refine Ct <| Sq <| Ro ?_
   obtain ⟨r_2, hr_2, h⟩ := bind_s h
   have hc_2 := isa_row_L 40 11 0 r_2 hr_2
   refine Rt (some 12) (.callf 57) [] none [.i 40, .i 11, .i 0] (.tup [.d (Row.d r_2.1), .b r_2.2]) [] (cc hc_2) <| Rc 4 [⟨.d (Row.d r_2.1), []⟩, vb r_2.2, ⟨.tup [], [([2], some (.cells [.i r_2.1.Name, .i r_2.1.A, .i r_2.1.B, .b r_2.1.Mod] 0))]⟩, vb r_2.2] <| Rk <| Runs.ret <| kS_ret ?_
   cases h
   exact Fq
  | false =>
   replace h := ite_f hb_2 h
   refine Cf <| Runs.skip <| kS_nrm <| Sq <| Ro <| Rc 3 [⟨.ref [15] 0 0 (List.map (D.int .i64) ([37, 38, 0, 41, 42, 43, 44, 45] : List Int)).length 1, [([15], some (.arr (List.map (D.int .i64) ([37, 38, 0, 41, 42, 43, 44, 45] : List Int)) 0 false))]⟩, vy op_, vy (IntKind.wrap .u8 (op_ - 152))] ?_
   obtain ⟨z_1, hz_1, h⟩ := bind_s h
   refine Rt (some 18) (.iaddrS 1) [] none [.ref [15] 0 0 (List.map (D.int .i64) ([37, 38, 0, 41, 42, 43, 44, 45] : List Int)).length 1, .y (IntKind.wrap .u8 (op_ - 152))] (.eref [15] 0 (0 + ((IntKind.wrap .u8 (op_ - 152))).toNat) 0) [] (cut_atR (e := (D.int .i64)) (l := ([37, 38, 0, 41, 42, 43, 44, 45] : List Int)) hz_1 rfl) <| Rt (some 19) (.load none) [] none [.eref [15] 0 (0 + ((IntKind.wrap .u8 (op_ - 152))).toNat) 0] (.i z_1) [] (cut_loadR (e := (D.int .i64)) (l := ([37, 38, 0, 41, 42, 43, 44, 45] : List Int)) (fz := false) (y := z_1) (by kernel_rfl) hz_1 (by kernel_rfl) (by kernel_rfl)) <| Rc 1 [vi z_1] <| Rk <| Sq <| Ro <| Rc 1 [vi z_1] ?_
   obtain ⟨r_3, hr_3, h⟩ := bind_s h
   have hc_3 := isa_row_L z_1 0 0 r_3 hr_3
   refine Rt (some 21) (.callf 57) [] none [.i z_1, .i 0, .i 0] (.tup [.d (Row.d r_3.1), .b r_3.2]) [] (cc hc_3) <| Rc 4 [⟨.d (Row.d r_3.1), []⟩, vb r_3.2, ⟨.tup [], [([2], some (.cells [.i r_3.1.Name, .i r_3.1.A, .i r_3.1.B, .b r_3.1.Mod] 0))]⟩, vb r_3.2] <| Rk <| Runs.ret ?_
   cases h
   exact Fq
theorem isa_words_L (op_ : Int) (r : (Row × Bool)) (h : isa_words op_ = some r) : L 60 [.y op_] = some (.tup [.d (Row.d r.1), .b r.2], [.y op_]) := by
 obtain ⟨p, ⟨hne, hf⟩, hr⟩ := isa_words_ok op_ r h
 obtain ⟨k, hk⟩ := run_of (F := F60) (args := [.y op_]) (ap := [.y op_]) (bx0 := updW (fun _ => none) []) rfl rfl (by kernel_rfl) ⟨p, ⟨hne, hf⟩, hr⟩
 exact lim_run (k := k) rfl hk
def isa_texts_Q (op_ : Int) (r : (Row × Bool)) (p : Out × St) : Prop := (∀ i, p.1 ≠ .exit i) ∧ finF F61 [.y op_] p.2 = some (.tup [.d (Row.d r.1), .b r.2], [.y op_])
theorem isa_texts_ok (op_ : Int) (r : (Row × Bool)) (h : isa_texts op_ = some r) : Runs L F61.body ⟨tmOf [.y op_] 0, updW (fun _ => none) []⟩ (isa_texts_Q op_ r) := by
 unfold isa_texts at h
 refine Sq <| Ro <| Rc 2 [⟨.ptr [2] 0 0, [([2], some (.cells [.i 0, .i 0, .i 0, .b false] 0))]⟩, vb false] <| Rk <| Sq <| Sq <| Ro <| Rc 1 [vy op_] <| Rk <| Runs.block <| Sq <| Ro <| Rc 2 [vb (op_ == 160), vb (op_ == 160)] <| Rk ?_
 cases hb_1 : ((op_ == 160) : Bool) with
 | true =>
  replace h := ite_t hb_1 h
  refine Ct <| Sq <| Ro ?_
  obtain ⟨r_1, hr_1, h⟩ := bind_s h
  have hc_1 := isa_row_L 35 14 12 r_1 hr_1
  refine Rt (some 7) (.callf 57) [] none [.i 35, .i 14, .i 12] (.tup [.d (Row.d r_1.1), .b r_1.2]) [] (cc hc_1) <| Rc 4 [⟨.d (Row.d r_1.1), []⟩, vb r_1.2, ⟨.tup [], [([2], some (.cells [.i r_1.1.Name, .i r_1.1.A, .i r_1.1.B, .b r_1.1.Mod] 0))]⟩, vb r_1.2] <| Rk <| Runs.ret <| kB_ret <| kS_ret ?_
  cases h
  exact Fq
 | false =>
  replace h := ite_f hb_1 h
  refine Cf <| Sq <| Ro <| Rc 2 [vb (op_ == 161), vb (op_ == 161)] <| Rk ?_
  cases hb_2 : ((op_ == 161) : Bool) with
  | true =>
   replace h := ite_t hb_2 h
   refine Ct <| Sq <| Ro ?_
   obtain ⟨r_2, hr_2, h⟩ := bind_s h
   have hc_2 := isa_row_L 35 16 13 r_2 hr_2
   refine Rt (some 12) (.callf 57) [] none [.i 35, .i 16, .i 13] (.tup [.d (Row.d r_2.1), .b r_2.2]) [] (cc hc_2) <| Rc 4 [⟨.d (Row.d r_2.1), []⟩, vb r_2.2, ⟨.tup [], [([2], some (.cells [.i r_2.1.Name, .i r_2.1.A, .i r_2.1.B, .b r_2.1.Mod] 0))]⟩, vb r_2.2] <| Rk <| Runs.ret <| kB_ret <| kS_ret ?_
   cases h
   exact Fq
  | false =>
   replace h := ite_f hb_2 h
   refine Cf <| Sq <| Ro <| Rc 2 [vb (op_ == 162), vb (op_ == 162)] <| Rk ?_
   cases hb_3 : ((op_ == 162) : Bool) with
   | true =>
    replace h := ite_t hb_3 h
    refine Ct <| Sq <| Ro ?_
    obtain ⟨r_3, hr_3, h⟩ := bind_s h
    have hc_3 := isa_row_L 35 12 14 r_3 hr_3
    refine Rt (some 17) (.callf 57) [] none [.i 35, .i 12, .i 14] (.tup [.d (Row.d r_3.1), .b r_3.2]) [] (cc hc_3) <| Rc 4 [⟨.d (Row.d r_3.1), []⟩, vb r_3.2, ⟨.tup [], [([2], some (.cells [.i r_3.1.Name, .i r_3.1.A, .i r_3.1.B, .b r_3.1.Mod] 0))]⟩, vb r_3.2] <| Rk <| Runs.ret <| kB_ret <| kS_ret ?_
    cases h
    exact Fq
   | false =>
    replace h := ite_f hb_3 h
    refine Cf <| Sq <| Ro <| Rc 2 [vb (op_ == 163), vb (op_ == 163)] <| Rk ?_
    cases hb_4 : ((op_ == 163) : Bool) with
    | true =>
     replace h := ite_t hb_4 h
     refine Ct <| Sq <| Ro ?_
     obtain ⟨r_4, hr_4, h⟩ := bind_s h
     have hc_4 := isa_row_L 35 13 16 r_4 hr_4
     refine Rt (some 22) (.callf 57) [] none [.i 35, .i 13, .i 16] (.tup [.d (Row.d r_4.1), .b r_4.2]) [] (cc hc_4) <| Rc 4 [⟨.d (Row.d r_4.1), []⟩, vb r_4.2, ⟨.tup [], [([2], some (.cells [.i r_4.1.Name, .i r_4.1.A, .i r_4.1.B, .b r_4.1.Mod] 0))]⟩, vb r_4.2] <| Rk <| Runs.ret <| kB_ret <| kS_ret ?_
     cases h
     exact Fq
    | false =>
     replace h := ite_f hb_4 h
     refine Cf <| Sq <| Ro <| Rc 2 [vb (op_ == 168), vb (op_ == 168)] <| Rk ?_
     cases hb_5 : ((op_ == 168) : Bool) with
     | true =>
      replace h := ite_t hb_5 h
      refine Ct <| Sq <| Ro ?_
      obtain ⟨r_5, hr_5, h⟩ := bind_s h
      have hc_5 := isa_row_L 33 14 6 r_5 hr_5
      refine Rt (some 27) (.callf 57) [] none [.i 33, .i 14, .i 6] (.tup [.d (Row.d r_5.1), .b r_5.2]) [] (cc hc_5) <| Rc 4 [⟨.d (Row.d r_5.1), []⟩, vb r_5.2, ⟨.tup [], [([2], some (.cells [.i r_5.1.Name, .i r_5.1.A, .i r_5.1.B, .b r_5.1.Mod] 0))]⟩, vb r_5.2] <| Rk <| Runs.ret <| kB_ret <| kS_ret ?_
      cases h
      exact Fq
     | false =>
      replace h := ite_f hb_5 h
      refine Cf <| Sq <| Ro <| Rc 2 [vb (op_ == 169), vb (op_ == 169)] <| Rk ?_
      cases hb_6 : ((op_ == 169) : Bool) with
      | true =>
       replace h := ite_t hb_6 h
       refine Ct <| Sq <| Ro ?_
       obtain ⟨r_6, hr_6, h⟩ := bind_s h
       have hc_6 := isa_row_L 33 16 7 r_6 hr_6
       refine Rt (some 32) (.callf 57) [] none [.i 33, .i 16, .i 7] (.tup [.d (Row.d r_6.1), .b r_6.2]) [] (cc hc_6) <| Rc 4 [⟨.d (Row.d r_6.1), []⟩, vb r_6.2, ⟨.tup [], [([2], some (.cells [.i r_6.1.Name, .i r_6.1.A, .i r_6.1.B, .b r_6.1.Mod] 0))]⟩, vb r_6.2] <| Rk <| Runs.ret <| kB_ret <| kS_ret ?_
       cases h
       exact Fq
      | false =>
       replace h := ite_f hb_6 h
       refine Cf <| Runs.skip <| kB_nrm <| kS_nrm <| Sq <| Sq <| Ro <| Rc 2 [vy op_, vb (decide (op_ < 168))] <| Rk ?_
       cases hb_7 : ((decide (op_ < 168)) : Bool) with
       | true =>
        replace h := ite_t hb_7 h
        refine Ct <| Sq <| Ro <| Rc 4 [vy op_, vy (IntKind.wrap .u8 (op_ - 164)), vi (IntKind.wrap .i64 (IntKind.wrap .u8 (op_ - 164))), vi (IntKind.wrap .i64 (46 + (IntKind.wrap .i64 (IntKind.wrap .u8 (op_ - 164)))))] ?_
        obtain ⟨r_7, hr_7, h⟩ := bind_s h
        have hc_7 := isa_row_L (IntKind.wrap .i64 (46 + (IntKind.wrap .i64 (IntKind.wrap .u8 (op_ - 164))))) 0 0 r_7 hr_7
        refine Rt (some 41) (.callf 57) [] none [.i (IntKind.wrap .i64 (46 + (IntKind.wrap .i64 (IntKind.wrap .u8 (op_ - 164))))), .i 0, .i 0] (.tup [.d (Row.d r_7.1), .b r_7.2]) [] (cc hc_7) <| Rc 4 [⟨.d (Row.d r_7.1), []⟩, vb r_7.2, ⟨.tup [], [([2], some (.cells [.i r_7.1.Name, .i r_7.1.A, .i r_7.1.B, .b r_7.1.Mod] 0))]⟩, vb r_7.2] <| Rk <| Runs.ret <| kS_ret ?_
        cases h
        exact Fq
       | false =>
        replace h := ite_f hb_7 h
        refine Cf <| Runs.skip <| kS_nrm <| Sq <| Ro <| Rc 4 [vy op_, vy (IntKind.wrap .u8 (op_ - 170)), vi (IntKind.wrap .i64 (IntKind.wrap .u8 (op_ - 170))), vi (IntKind.wrap .i64 (50 + (IntKind.wrap .i64 (IntKind.wrap .u8 (op_ - 170)))))] ?_
        obtain ⟨r_8, hr_8, h⟩ := bind_s h
        have hc_8 := isa_row_L (IntKind.wrap .i64 (50 + (IntKind.wrap .i64 (IntKind.wrap .u8 (op_ - 170))))) 0 0 r_8 hr_8
        refine Rt (some 48) (.callf 57) [] none [.i (IntKind.wrap .i64 (50 + (IntKind.wrap .i64 (IntKind.wrap .u8 (op_ - 170))))), .i 0, .i 0] (.tup [.d (Row.d r_8.1), .b r_8.2]) [] (cc hc_8) <| Rc 4 [⟨.d (Row.d r_8.1), []⟩, vb r_8.2, ⟨.tup [], [([2], some (.cells [.i r_8.1.Name, .i r_8.1.A, .i r_8.1.B, .b r_8.1.Mod] 0))]⟩, vb r_8.2] <| Rk <| Runs.ret ?_
        cases h
        exact Fq
theorem isa_texts_L (op_ : Int) (r : (Row × Bool)) (h : isa_texts op_ = some r) : L 61 [.y op_] = some (.tup [.d (Row.d r.1), .b r.2], [.y op_]) := by
 obtain ⟨p, ⟨hne, hf⟩, hr⟩ := isa_texts_ok op_ r h
 obtain ⟨k, hk⟩ := run_of (F := F61) (args := [.y op_]) (ap := [.y op_]) (bx0 := updW (fun _ => none) []) rfl rfl (by kernel_rfl) ⟨p, ⟨hne, hf⟩, hr⟩
 exact lim_run (k := k) rfl hk
def isa_backs_Q (op_ : Int) (reg_ : Int) (r : (Row × Bool)) (p : Out × St) : Prop := (∀ i, p.1 ≠ .exit i) ∧ finF F62 [.y op_, .i reg_] p.2 = some (.tup [.d (Row.d r.1), .b r.2], [.y op_, .i reg_])
theorem isa_backs_ok (op_ : Int) (reg_ : Int) (r : (Row × Bool)) (h : isa_backs op_ reg_ = some r) : Runs L F62.body ⟨tmOf [.y op_, .i reg_] 0, updW (fun _ => none) []⟩ (isa_backs_Q op_ reg_ r) := by
 unfold isa_backs at h
 refine Sq <| Ro <| Rc 2 [⟨.ptr [4] 0 0, [([4], some (.cells [.i 0, .i 0, .i 0, .b false] 0))]⟩, vb false] <| Rk <| Sq <| Sq <| Ro <| Rc 1 [vy op_] <| Rk <| Runs.block <| Sq <| Ro <| Rc 2 [vb (op_ == 194), vb (op_ == 194)] <| Rk ?_
 cases hb_1 : ((op_ == 194) : Bool) with
 | true =>
  replace h := ite_t hb_1 h
  refine Ct <| Sq <| Ro ?_
  obtain ⟨r_1, hr_1, h⟩ := bind_s h
  have hc_1 := isa_row_L 56 7 0 r_1 hr_1
  refine Rt (some 9) (.callf 57) [] none [.i 56, .i 7, .i 0] (.tup [.d (Row.d r_1.1), .b r_1.2]) [] (cc hc_1) <| Rc 4 [⟨.d (Row.d r_1.1), []⟩, vb r_1.2, ⟨.tup [], [([4], some (.cells [.i r_1.1.Name, .i r_1.1.A, .i r_1.1.B, .b r_1.1.Mod] 0))]⟩, vb r_1.2] <| Rk <| Runs.ret <| kB_ret <| kS_ret ?_
  cases h
  exact Fq
 | false =>
  replace h := ite_f hb_1 h
  refine Cf <| Sq <| Ro <| Rc 2 [vb (op_ == 195), vb (op_ == 195)] <| Rk ?_
  cases hb_2 : ((op_ == 195) : Bool) with
  | true =>
   replace h := ite_t hb_2 h
   refine Ct <| Sq <| Ro ?_
   obtain ⟨r_2, hr_2, h⟩ := bind_s h
   have hc_2 := isa_row_L 56 0 0 r_2 hr_2
   refine Rt (some 14) (.callf 57) [] none [.i 56, .i 0, .i 0] (.tup [.d (Row.d r_2.1), .b r_2.2]) [] (cc hc_2) <| Rc 4 [⟨.d (Row.d r_2.1), []⟩, vb r_2.2, ⟨.tup [], [([4], some (.cells [.i r_2.1.Name, .i r_2.1.A, .i r_2.1.B, .b r_2.1.Mod] 0))]⟩, vb r_2.2] <| Rk <| Runs.ret <| kB_ret <| kS_ret ?_
   cases h
   exact Fq
  | false =>
   replace h := ite_f hb_2 h
   refine Cf <| Sq <| Ro <| Rc 2 [vb (op_ == 196), vb (op_ == 196)] <| Rk ?_
   cases hb_3 : ((op_ == 196) : Bool) with
   | true =>
    replace h := ite_t hb_3 h
    refine Ct <| Sq <| Ro ?_
    obtain ⟨r_3, hr_3, h⟩ := bind_s h
    have hc_3 := isa_mod_L 58 4 19 r_3 hr_3
    refine Rt (some 19) (.callf 71) [] none [.i 58, .i 4, .i 19] (.tup [.d (Row.d r_3.1), .b r_3.2]) [] (cc hc_3) <| Rc 4 [⟨.d (Row.d r_3.1), []⟩, vb r_3.2, ⟨.tup [], [([4], some (.cells [.i r_3.1.Name, .i r_3.1.A, .i r_3.1.B, .b r_3.1.Mod] 0))]⟩, vb r_3.2] <| Rk <| Runs.ret <| kB_ret <| kS_ret ?_
    cases h
    exact Fq
   | false =>
    replace h := ite_f hb_3 h
    refine Cf <| Sq <| Ro <| Rc 2 [vb (op_ == 197), vb (op_ == 197)] <| Rk ?_
    cases hb_4 : ((op_ == 197) : Bool) with
    | true =>
     replace h := ite_t hb_4 h
     refine Ct <| Sq <| Ro ?_
     obtain ⟨r_4, hr_4, h⟩ := bind_s h
     have hc_4 := isa_mod_L 59 4 19 r_4 hr_4
     refine Rt (some 24) (.callf 71) [] none [.i 59, .i 4, .i 19] (.tup [.d (Row.d r_4.1), .b r_4.2]) [] (cc hc_4) <| Rc 4 [⟨.d (Row.d r_4.1), []⟩, vb r_4.2, ⟨.tup [], [([4], some (.cells [.i r_4.1.Name, .i r_4.1.A, .i r_4.1.B, .b r_4.1.Mod] 0))]⟩, vb r_4.2] <| Rk <| Runs.ret <| kB_ret <| kS_ret ?_
     cases h
     exact Fq
    | false =>
     replace h := ite_f hb_4 h
     refine Cf <| Sq <| Ro <| Rc 2 [vb (op_ == 198), vb (op_ == 198)] <| Rk ?_
     cases hb_5 : ((op_ == 198) : Bool) with
     | true =>
      replace h := ite_t hb_5 h
      refine Ct <| Sq <| Ro <| Rc 2 [vi reg_, vb (reg_ == 0)] <| Rk ?_
      cases hb_6 : ((reg_ == 0) : Bool) with
      | true =>
       replace h := ite_t hb_6 h
       refine Ct <| Sq <| Ro ?_
       obtain ⟨r_5, hr_5, h⟩ := bind_s h
       have hc_5 := isa_mod_L 35 1 6 r_5 hr_5
       refine Rt (some 31) (.callf 71) [] none [.i 35, .i 1, .i 6] (.tup [.d (Row.d r_5.1), .b r_5.2]) [] (cc hc_5) <| Rc 4 [⟨.d (Row.d r_5.1), []⟩, vb r_5.2, ⟨.tup [], [([4], some (.cells [.i r_5.1.Name, .i r_5.1.A, .i r_5.1.B, .b r_5.1.Mod] 0))]⟩, vb r_5.2] <| Rk <| Runs.ret <| kB_ret <| kS_ret ?_
       cases h
       exact Fq
      | false =>
       replace h := ite_f hb_6 h
       refine Cf <| Runs.skip <| kB_nrm <| kS_nrm <| Sq <| Ro ?_
       obtain ⟨r_6, hr_6, h⟩ := bind_s h
       have hc_6 := isa_bad_L r_6 hr_6
       refine Rt (some 71) (.callf 58) [] none [] (.tup [.d (Row.d r_6.1), .b r_6.2]) [] (cc hc_6) <| Rc 4 [⟨.d (Row.d r_6.1), []⟩, vb r_6.2, ⟨.tup [], [([4], some (.cells [.i r_6.1.Name, .i r_6.1.A, .i r_6.1.B, .b r_6.1.Mod] 0))]⟩, vb r_6.2] <| Rk <| Runs.ret ?_
       cases h
       exact Fq
     | false =>
      replace h := ite_f hb_5 h
      refine Cf <| Sq <| Ro <| Rc 2 [vb (op_ == 199), vb (op_ == 199)] <| Rk ?_
      cases hb_7 : ((op_ == 199) : Bool) with
      | true =>
       replace h := ite_t hb_7 h
       refine Ct <| Sq <| Ro <| Rc 2 [vi reg_, vb (reg_ == 0)] <| Rk ?_
       cases hb_8 : ((reg_ == 0) : Bool) with
       | true =>
        replace h := ite_t hb_8 h
        refine Ct <| Sq <| Ro ?_
        obtain ⟨r_7, hr_7, h⟩ := bind_s h
        have hc_7 := isa_mod_L 35 2 7 r_7 hr_7
        refine Rt (some 38) (.callf 71) [] none [.i 35, .i 2, .i 7] (.tup [.d (Row.d r_7.1), .b r_7.2]) [] (cc hc_7) <| Rc 4 [⟨.d (Row.d r_7.1), []⟩, vb r_7.2, ⟨.tup [], [([4], some (.cells [.i r_7.1.Name, .i r_7.1.A, .i r_7.1.B, .b r_7.1.Mod] 0))]⟩, vb r_7.2] <| Rk <| Runs.ret <| kB_ret <| kS_ret ?_
        cases h
        exact Fq
       | false =>
        replace h := ite_f hb_8 h
        refine Cf <| Runs.skip <| kB_nrm <| kS_nrm <| Sq <| Ro ?_
        obtain ⟨r_8, hr_8, h⟩ := bind_s h
        have hc_8 := isa_bad_L r_8 hr_8
        refine Rt (some 71) (.callf 58) [] none [] (.tup [.d (Row.d r_8.1), .b r_8.2]) [] (cc hc_8) <| Rc 4 [⟨.d (Row.d r_8.1), []⟩, vb r_8.2, ⟨.tup [], [([4], some (.cells [.i r_8.1.Name, .i r_8.1.A, .i r_8.1.B, .b r_8.1.Mod] 0))]⟩, vb r_8.2] <| Rk <| Runs.ret ?_
        cases h
        exact Fq
      | false =>
       replace h := ite_f hb_7 h
       refine Cf <| Sq <| Ro <| Rc 2 [vb (op_ == 202), vb (op_ == 202)] <| Rk ?_
       cases hb_9 : ((op_ == 202) : Bool) with
       | true =>
        replace h := ite_t hb_9 h
        refine Ct <| Sq <| Ro ?_
        obtain ⟨r_9, hr_9, h⟩ := bind_s h
        have hc_9 := isa_row_L 57 7 0 r_9 hr_9
        refine Rt (some 43) (.callf 57) [] none [.i 57, .i 7, .i 0] (.tup [.d (Row.d r_9.1), .b r_9.2]) [] (cc hc_9) <| Rc 4 [⟨.d (Row.d r_9.1), []⟩, vb r_9.2, ⟨.tup [], [([4], some (.cells [.i r_9.1.Name, .i r_9.1.A, .i r_9.1.B, .b r_9.1.Mod] 0))]⟩, vb r_9.2] <| Rk <| Runs.ret <| kB_ret <| kS_ret ?_
        cases h
        exact Fq
       | false =>
        replace h := ite_f hb_9 h
        refine Cf <| Sq <| Ro <| Rc 2 [vb (op_ == 203), vb (op_ == 203)] <| Rk ?_
        cases hb_10 : ((op_ == 203) : Bool) with
        | true =>
         replace h := ite_t hb_10 h
         refine Ct <| Sq <| Ro ?_
         obtain ⟨r_10, hr_10, h⟩ := bind_s h
         have hc_10 := isa_row_L 57 0 0 r_10 hr_10
         refine Rt (some 48) (.callf 57) [] none [.i 57, .i 0, .i 0] (.tup [.d (Row.d r_10.1), .b r_10.2]) [] (cc hc_10) <| Rc 4 [⟨.d (Row.d r_10.1), []⟩, vb r_10.2, ⟨.tup [], [([4], some (.cells [.i r_10.1.Name, .i r_10.1.A, .i r_10.1.B, .b r_10.1.Mod] 0))]⟩, vb r_10.2] <| Rk <| Runs.ret <| kB_ret <| kS_ret ?_
         cases h
         exact Fq
        | false =>
         replace h := ite_f hb_10 h
         refine Cf <| Sq <| Ro <| Rc 2 [vb (op_ == 204), vb (op_ == 204)] <| Rk ?_
         cases hb_11 : ((op_ == 204) : Bool) with
         | true =>
          replace h := ite_t hb_11 h
          refine Ct <| Sq <| Ro ?_
          obtain ⟨r_11, hr_11, h⟩ := bind_s h
          have hc_11 := isa_row_L 60 24 0 r_11 hr_11
          refine Rt (some 53) (.callf 57) [] none [.i 60, .i 24, .i 0] (.tup [.d (Row.d r_11.1), .b r_11.2]) [] (cc hc_11) <| Rc 4 [⟨.d (Row.d r_11.1), []⟩, vb r_11.2, ⟨.tup [], [([4], some (.cells [.i r_11.1.Name, .i r_11.1.A, .i r_11.1.B, .b r_11.1.Mod] 0))]⟩, vb r_11.2] <| Rk <| Runs.ret <| kB_ret <| kS_ret ?_
          cases h
          exact Fq
         | false =>
          replace h := ite_f hb_11 h
          refine Cf <| Sq <| Ro <| Rc 2 [vb (op_ == 205), vb (op_ == 205)] <| Rk ?_
          cases hb_12 : ((op_ == 205) : Bool) with
          | true =>
           replace h := ite_t hb_12 h
           refine Ct <| Sq <| Ro ?_
           obtain ⟨r_12, hr_12, h⟩ := bind_s h
           have hc_12 := isa_row_L 60 6 0 r_12 hr_12
           refine Rt (some 58) (.callf 57) [] none [.i 60, .i 6, .i 0] (.tup [.d (Row.d r_12.1), .b r_12.2]) [] (cc hc_12) <| Rc 4 [⟨.d (Row.d r_12.1), []⟩, vb r_12.2, ⟨.tup [], [([4], some (.cells [.i r_12.1.Name, .i r_12.1.A, .i r_12.1.B, .b r_12.1.Mod] 0))]⟩, vb r_12.2] <| Rk <| Runs.ret <| kB_ret <| kS_ret ?_
           cases h
           exact Fq
          | false =>
           replace h := ite_f hb_12 h
           refine Cf <| Sq <| Ro <| Rc 2 [vb (op_ == 206), vb (op_ == 206)] <| Rk ?_
           cases hb_13 : ((op_ == 206) : Bool) with
           | true =>
            replace h := ite_t hb_13 h
            refine Ct <| Sq <| Ro ?_
            obtain ⟨r_13, hr_13, h⟩ := bind_s h
            have hc_13 := isa_row_L 61 0 0 r_13 hr_13
            refine Rt (some 63) (.callf 57) [] none [.i 61, .i 0, .i 0] (.tup [.d (Row.d r_13.1), .b r_13.2]) [] (cc hc_13) <| Rc 4 [⟨.d (Row.d r_13.1), []⟩, vb r_13.2, ⟨.tup [], [([4], some (.cells [.i r_13.1.Name, .i r_13.1.A, .i r_13.1.B, .b r_13.1.Mod] 0))]⟩, vb r_13.2] <| Rk <| Runs.ret <| kB_ret <| kS_ret ?_
            cases h
            exact Fq
           | false =>
            replace h := ite_f hb_13 h
            refine Cf <| Sq <| Ro <| Rc 2 [vb (op_ == 207), vb (op_ == 207)] <| Rk ?_
            cases hb_14 : ((op_ == 207) : Bool) with
            | true =>
             replace h := ite_t hb_14 h
             refine Ct <| Sq <| Ro ?_
             obtain ⟨r_14, hr_14, h⟩ := bind_s h
             have hc_14 := isa_row_L 62 0 0 r_14 hr_14
             refine Rt (some 68) (.callf 57) [] none [.i 62, .i 0, .i 0] (.tup [.d (Row.d r_14.1), .b r_14.2]) [] (cc hc_14) <| Rc 4 [⟨.d (Row.d r_14.1), []⟩, vb r_14.2, ⟨.tup [], [([4], some (.cells [.i r_14.1.Name, .i r_14.1.A, .i r_14.1.B, .b r_14.1.Mod] 0))]⟩, vb r_14.2] <| Rk <| Runs.ret <| kB_ret <| kS_ret ?_
             cases h
             exact Fq
            | false =>
             replace h := ite_f hb_14 h
             refine Cf <| Runs.skip <| kB_nrm <| kS_nrm <| Sq <| Ro ?_
             obtain ⟨r_15, hr_15, h⟩ := bind_s h
             have hc_15 := isa_bad_L r_15 hr_15
             refine Rt (some 71) (.callf 58) [] none [] (.tup [.d (Row.d r_15.1), .b r_15.2]) [] (cc hc_15) <| Rc 4 [⟨.d (Row.d r_15.1), []⟩, vb r_15.2, ⟨.tup [], [([4], some (.cells [.i r_15.1.Name, .i r_15.1.A, .i r_15.1.B, .b r_15.1.Mod] 0))]⟩, vb r_15.2] <| Rk <| Runs.ret ?_
             cases h
             exact Fq
theorem isa_backs_L (op_ : Int) (reg_ : Int) (r : (Row × Bool)) (h : isa_backs op_ reg_ = some r) : L 62 [.y op_, .i reg_] = some (.tup [.d (Row.d r.1), .b r.2], [.y op_, .i reg_]) := by
 obtain ⟨p, ⟨hne, hf⟩, hr⟩ := isa_backs_ok op_ reg_ r h
 obtain ⟨k, hk⟩ := run_of (F := F62) (args := [.y op_, .i reg_]) (ap := [.y op_, .i reg_]) (bx0 := updW (fun _ => none) []) rfl rfl (by kernel_rfl) ⟨p, ⟨hne, hf⟩, hr⟩
 exact lim_run (k := k) rfl hk
def isa_turns_Q (op_ : Int) (reg_ : Int) (r : (Row × Bool)) (p : Out × St) : Prop := (∀ i, p.1 ≠ .exit i) ∧ finF F63 [.y op_, .i reg_] p.2 = some (.tup [.d (Row.d r.1), .b r.2], [.y op_, .i reg_])
theorem isa_turns_ok (op_ : Int) (reg_ : Int) (r : (Row × Bool)) (h : isa_turns op_ reg_ = some r) : Runs L F63.body ⟨tmOf [.y op_, .i reg_] 0, updW (fun _ => none) []⟩ (isa_turns_Q op_ reg_ r) := by
 unfold isa_turns at h
 refine Sq <| Ro <| Rc 2 [⟨.ptr [4] 0 0, [([4], some (.cells [.i 0, .i 0, .i 0, .b false] 0))]⟩, vb false] <| Rk <| Sq <| Sq <| Ro <| Rc 2 [vy op_, vb (decide (op_ < 212))] <| Rk ?_
 cases hb_1 : ((decide (op_ < 212)) : Bool) with
 | true =>
  replace h := ite_t hb_1 h
  refine Ct <| Sq <| Sq <| Ro <| Rc 2 [vi reg_, vb (reg_ == 6)] <| Rk ?_
  cases hb_2 : ((reg_ == 6) : Bool) with
  | true =>
   replace h := ite_t hb_2 h
   refine Ct <| Sq <| Ro ?_
   obtain ⟨r_1, hr_1, h⟩ := bind_s h
   have hc_1 := isa_bad_L r_1 hr_1
   refine Rt (some 13) (.callf 58) [] none [] (.tup [.d (Row.d r_1.1), .b r_1.2]) [] (cc hc_1) <| Rc 4 [⟨.d (Row.d r_1.1), []⟩, vb r_1.2, ⟨.tup [], [([4], some (.cells [.i r_1.1.Name, .i r_1.1.A, .i r_1.1.B, .b r_1.1.Mod] 0))]⟩, vb r_1.2] <| Rk <| Runs.ret <| kS_ret <| kS_ret ?_
   cases h
   exact Fq
  | false =>
   replace h := ite_f hb_2 h
   refine Cf <| Runs.skip <| kS_nrm <| Sq <| Ro <| Rc 2 [⟨.ref [16] 0 0 (List.map (D.int .i64) ([63, 64, 65, 66, 67, 68, 0, 69] : List Int)).length 1, [([16], some (.arr (List.map (D.int .i64) ([63, 64, 65, 66, 67, 68, 0, 69] : List Int)) 0 false))]⟩, vi reg_] ?_
   obtain ⟨z_1, hz_1, h⟩ := bind_s h
   refine Rt (some 18) (.iaddrS 1) [] none [.ref [16] 0 0 (List.map (D.int .i64) ([63, 64, 65, 66, 67, 68, 0, 69] : List Int)).length 1, .i reg_] (.eref [16] 0 (0 + (reg_).toNat) 0) [] (cut_atR (e := (D.int .i64)) (l := ([63, 64, 65, 66, 67, 68, 0, 69] : List Int)) hz_1 rfl) <| Rt (some 19) (.load none) [] none [.eref [16] 0 (0 + (reg_).toNat) 0] (.i z_1) [] (cut_loadR (e := (D.int .i64)) (l := ([63, 64, 65, 66, 67, 68, 0, 69] : List Int)) (fz := false) (y := z_1) (by kernel_rfl) hz_1 (by kernel_rfl) (by kernel_rfl)) <| Rc 1 [vi z_1] <| Rk <| Sq <| Ro <| Rc 2 [vi 1, vi 18] <| Rk <| Sq <| Sq <| Ro <| Rc 3 [vy op_, vy (bitsOp .and .u8 op_ 1), vb ((bitsOp .and .u8 op_ 1) == 1)] <| Rk ?_
   cases hb_3 : (((bitsOp .and .u8 op_ 1) == 1) : Bool) with
   | true =>
    replace h := ite_t hb_3 h
    refine Ct <| Ro <| Rc 1 [vi 2] <| Rk <| Sq <| Sq <| Ro <| Rc 3 [vy op_, vy (bitsOp .and .u8 op_ 2), vb ((bitsOp .and .u8 op_ 2) != 0)] <| Rk ?_
    cases hb_4 : (((bitsOp .and .u8 op_ 2) != 0) : Bool) with
    | true =>
     replace h := ite_t hb_4 h
     refine Ct <| Ro <| Rc 1 [vi 15] <| Rk <| Sq <| Ro <| Rc 3 [vi z_1, vi 2, vi 15] ?_
     obtain ⟨r_2, hr_2, h⟩ := bind_s h
     have hc_2 := isa_mod_L z_1 2 15 r_2 hr_2
     refine Rt (some 29) (.callf 71) [] none [.i z_1, .i 2, .i 15] (.tup [.d (Row.d r_2.1), .b r_2.2]) [] (cc hc_2) <| Rc 4 [⟨.d (Row.d r_2.1), []⟩, vb r_2.2, ⟨.tup [], [([4], some (.cells [.i r_2.1.Name, .i r_2.1.A, .i r_2.1.B, .b r_2.1.Mod] 0))]⟩, vb r_2.2] <| Rk <| Runs.ret <| kS_ret ?_
     cases h
     exact Fq
    | false =>
     replace h := ite_f hb_4 h
     refine Cf <| Runs.skip <| kS_nrm <| Sq <| Ro <| Rc 3 [vi z_1, vi 2, vi 18] ?_
     obtain ⟨r_3, hr_3, h⟩ := bind_s h
     have hc_3 := isa_mod_L z_1 2 18 r_3 hr_3
     refine Rt (some 29) (.callf 71) [] none [.i z_1, .i 2, .i 18] (.tup [.d (Row.d r_3.1), .b r_3.2]) [] (cc hc_3) <| Rc 4 [⟨.d (Row.d r_3.1), []⟩, vb r_3.2, ⟨.tup [], [([4], some (.cells [.i r_3.1.Name, .i r_3.1.A, .i r_3.1.B, .b r_3.1.Mod] 0))]⟩, vb r_3.2] <| Rk <| Runs.ret <| kS_ret ?_
     cases h
     exact Fq
   | false =>
    replace h := ite_f hb_3 h
    refine Cf <| Runs.skip <| kS_nrm <| Sq <| Sq <| Ro <| Rc 3 [vy op_, vy (bitsOp .and .u8 op_ 2), vb ((bitsOp .and .u8 op_ 2) != 0)] <| Rk ?_
    cases hb_5 : (((bitsOp .and .u8 op_ 2) != 0) : Bool) with
    | true =>
     replace h := ite_t hb_5 h
     refine Ct <| Ro <| Rc 1 [vi 15] <| Rk <| Sq <| Ro <| Rc 3 [vi z_1, vi 1, vi 15] ?_
     obtain ⟨r_4, hr_4, h⟩ := bind_s h
     have hc_4 := isa_mod_L z_1 1 15 r_4 hr_4
     refine Rt (some 29) (.callf 71) [] none [.i z_1, .i 1, .i 15] (.tup [.d (Row.d r_4.1), .b r_4.2]) [] (cc hc_4) <| Rc 4 [⟨.d (Row.d r_4.1), []⟩, vb r_4.2, ⟨.tup [], [([4], some (.cells [.i r_4.1.Name, .i r_4.1.A, .i r_4.1.B, .b r_4.1.Mod] 0))]⟩, vb r_4.2] <| Rk <| Runs.ret <| kS_ret ?_
     cases h
     exact Fq
    | false =>
     replace h := ite_f hb_5 h
     refine Cf <| Runs.skip <| kS_nrm <| Sq <| Ro <| Rc 3 [vi z_1, vi 1, vi 18] ?_
     obtain ⟨r_5, hr_5, h⟩ := bind_s h
     have hc_5 := isa_mod_L z_1 1 18 r_5 hr_5
     refine Rt (some 29) (.callf 71) [] none [.i z_1, .i 1, .i 18] (.tup [.d (Row.d r_5.1), .b r_5.2]) [] (cc hc_5) <| Rc 4 [⟨.d (Row.d r_5.1), []⟩, vb r_5.2, ⟨.tup [], [([4], some (.cells [.i r_5.1.Name, .i r_5.1.A, .i r_5.1.B, .b r_5.1.Mod] 0))]⟩, vb r_5.2] <| Rk <| Runs.ret <| kS_ret ?_
     cases h
     exact Fq
 | false =>
  replace h := ite_f hb_1 h
  refine Cf <| Runs.skip <| kS_nrm <| Sq <| Runs.block <| Sq <| Ro <| Rc 3 [vy op_, vb (op_ == 212), vb (op_ == 212)] <| Rk ?_
  cases hb_6 : ((op_ == 212) : Bool) with
  | true =>
   replace h := ite_t hb_6 h
   refine Ct <| Sq <| Ro ?_
   obtain ⟨r_6, hr_6, h⟩ := bind_s h
   have hc_6 := isa_row_L 70 6 0 r_6 hr_6
   refine Rt (some 35) (.callf 57) [] none [.i 70, .i 6, .i 0] (.tup [.d (Row.d r_6.1), .b r_6.2]) [] (cc hc_6) <| Rc 4 [⟨.d (Row.d r_6.1), []⟩, vb r_6.2, ⟨.tup [], [([4], some (.cells [.i r_6.1.Name, .i r_6.1.A, .i r_6.1.B, .b r_6.1.Mod] 0))]⟩, vb r_6.2] <| Rk <| Runs.ret <| kB_ret <| kS_ret ?_
   cases h
   exact Fq
  | false =>
   replace h := ite_f hb_6 h
   refine Cf <| Sq <| Ro <| Rc 3 [vy op_, vb (op_ == 213), vb (op_ == 213)] <| Rk ?_
   cases hb_7 : ((op_ == 213) : Bool) with
   | true =>
    replace h := ite_t hb_7 h
    refine Ct <| Sq <| Ro ?_
    obtain ⟨r_7, hr_7, h⟩ := bind_s h
    have hc_7 := isa_row_L 71 6 0 r_7 hr_7
    refine Rt (some 41) (.callf 57) [] none [.i 71, .i 6, .i 0] (.tup [.d (Row.d r_7.1), .b r_7.2]) [] (cc hc_7) <| Rc 4 [⟨.d (Row.d r_7.1), []⟩, vb r_7.2, ⟨.tup [], [([4], some (.cells [.i r_7.1.Name, .i r_7.1.A, .i r_7.1.B, .b r_7.1.Mod] 0))]⟩, vb r_7.2] <| Rk <| Runs.ret <| kB_ret <| kS_ret ?_
    cases h
    exact Fq
   | false =>
    replace h := ite_f hb_7 h
    refine Cf <| Sq <| Ro <| Rc 3 [vy op_, vb (op_ == 215), vb (op_ == 215)] <| Rk ?_
    cases hb_8 : ((op_ == 215) : Bool) with
    | true =>
     replace h := ite_t hb_8 h
     refine Ct <| Sq <| Ro ?_
     obtain ⟨r_8, hr_8, h⟩ := bind_s h
     have hc_8 := isa_row_L 72 0 0 r_8 hr_8
     refine Rt (some 47) (.callf 57) [] none [.i 72, .i 0, .i 0] (.tup [.d (Row.d r_8.1), .b r_8.2]) [] (cc hc_8) <| Rc 4 [⟨.d (Row.d r_8.1), []⟩, vb r_8.2, ⟨.tup [], [([4], some (.cells [.i r_8.1.Name, .i r_8.1.A, .i r_8.1.B, .b r_8.1.Mod] 0))]⟩, vb r_8.2] <| Rk <| Runs.ret <| kB_ret <| kS_ret ?_
     cases h
     exact Fq
    | false =>
     replace h := ite_f hb_8 h
     refine Cf <| Sq <| Ro <| Rc 3 [vy op_, vb (decide (op_ ≥ 216)), vb (decide (op_ ≥ 216))] <| Rk ?_
     cases hb_9 : ((decide (op_ ≥ 216)) : Bool) with
     | true =>
      replace h := ite_t hb_9 h
      refine Ct <| Sq <| Ro ?_
      obtain ⟨r_9, hr_9, h⟩ := bind_s h
      have hc_9 := isa_mod_L 73 2 0 r_9 hr_9
      refine Rt (some 53) (.callf 71) [] none [.i 73, .i 2, .i 0] (.tup [.d (Row.d r_9.1), .b r_9.2]) [] (cc hc_9) <| Rc 4 [⟨.d (Row.d r_9.1), []⟩, vb r_9.2, ⟨.tup [], [([4], some (.cells [.i r_9.1.Name, .i r_9.1.A, .i r_9.1.B, .b r_9.1.Mod] 0))]⟩, vb r_9.2] <| Rk <| Runs.ret <| kB_ret <| kS_ret ?_
      cases h
      exact Fq
     | false =>
      replace h := ite_f hb_9 h
      refine Cf <| Runs.skip <| kB_nrm <| kS_nrm <| Sq <| Ro ?_
      obtain ⟨r_10, hr_10, h⟩ := bind_s h
      have hc_10 := isa_bad_L r_10 hr_10
      refine Rt (some 56) (.callf 58) [] none [] (.tup [.d (Row.d r_10.1), .b r_10.2]) [] (cc hc_10) <| Rc 4 [⟨.d (Row.d r_10.1), []⟩, vb r_10.2, ⟨.tup [], [([4], some (.cells [.i r_10.1.Name, .i r_10.1.A, .i r_10.1.B, .b r_10.1.Mod] 0))]⟩, vb r_10.2] <| Rk <| Runs.ret ?_
      cases h
      exact Fq
theorem isa_turns_L (op_ : Int) (reg_ : Int) (r : (Row × Bool)) (h : isa_turns op_ reg_ = some r) : L 63 [.y op_, .i reg_] = some (.tup [.d (Row.d r.1), .b r.2], [.y op_, .i reg_]) := by
 obtain ⟨p, ⟨hne, hf⟩, hr⟩ := isa_turns_ok op_ reg_ r h
 obtain ⟨k, hk⟩ := run_of (F := F63) (args := [.y op_, .i reg_]) (ap := [.y op_, .i reg_]) (bx0 := updW (fun _ => none) []) rfl rfl (by kernel_rfl) ⟨p, ⟨hne, hf⟩, hr⟩
 exact lim_run (k := k) rfl hk
def isa_goes_h20 (b_2 : Row) (op0 : Int) (t4 : Int) (t5 : Bool) : St := ⟨tab [(0, .y op0), (2, .ptr [2] 0 0), (4, .y t4), (5, .b t5)], tabB [([2], some (.cells [.i b_2.Name, .i b_2.A, .i b_2.B, .b b_2.Mod] 0))]⟩
def isa_goes_Q (op_ : Int) (r : (Row × Bool)) (p : Out × St) : Prop := (∀ i, p.1 ≠ .exit i) ∧ finF F64 [.y op_] p.2 = some (.tup [.d (Row.d r.1), .b r.2], [.y op_])
theorem isa_goes_j20_ok (op_ : Int) (b_2 : Row) (op0 : Int) (t4 : Int) (t5 : Bool) (r : (Row × Bool)) (h : isa_goes_j20 b_2 op0 t4 t5 = some r) : Runs L F64b20 (isa_goes_h20 b_2 op0 t4 t5) (kB 0 (kS L F64c91 (isa_goes_Q op_ r))) := by
 unfold isa_goes_j20 at h
 cases hb_2 : (t5 : Bool) with
 | true =>
  replace h := ite_t hb_2 h
  refine Ct <| Sq <| Ro <| Rc 4 [vy op0, vy (IntKind.wrap .u8 (op0 - 224)), vi (IntKind.wrap .i64 (IntKind.wrap .u8 (op0 - 224))), vi (IntKind.wrap .i64 (74 + (IntKind.wrap .i64 (IntKind.wrap .u8 (op0 - 224)))))] ?_
  obtain ⟨r_1, hr_1, h⟩ := bind_s h
  have hc_1 := isa_row_L (IntKind.wrap .i64 (74 + (IntKind.wrap .i64 (IntKind.wrap .u8 (op0 - 224))))) 9 0 r_1 hr_1
  refine Rt (some 14) (.callf 57) [] none [.i (IntKind.wrap .i64 (74 + (IntKind.wrap .i64 (IntKind.wrap .u8 (op0 - 224))))), .i 9, .i 0] (.tup [.d (Row.d r_1.1), .b r_1.2]) [] (cc hc_1) <| Rc 4 [⟨.d (Row.d r_1.1), []⟩, vb r_1.2, ⟨.tup [], [([2], some (.cells [.i r_1.1.Name, .i r_1.1.A, .i r_1.1.B, .b r_1.1.Mod] 0))]⟩, vb r_1.2] <| Rk <| Runs.ret <| kB_ret <| kS_ret ?_
  cases h
  exact Fq
 | false =>
  replace h := ite_f hb_2 h
  refine Cf <| Sq <| Ro <| Rc 2 [vb (t4 == 228), vb (t4 == 228)] <| Rk ?_
  cases hb_3 : ((t4 == 228) : Bool) with
  | true =>
   replace h := ite_t hb_3 h
   refine Ct <| Sq <| Ro ?_
   obtain ⟨r_2, hr_2, h⟩ := bind_s h
   have hc_2 := isa_row_L 78 14 6 r_2 hr_2
   refine Rt (some 19) (.callf 57) [] none [.i 78, .i 14, .i 6] (.tup [.d (Row.d r_2.1), .b r_2.2]) [] (cc hc_2) <| Rc 4 [⟨.d (Row.d r_2.1), []⟩, vb r_2.2, ⟨.tup [], [([2], some (.cells [.i r_2.1.Name, .i r_2.1.A, .i r_2.1.B, .b r_2.1.Mod] 0))]⟩, vb r_2.2] <| Rk <| Runs.ret <| kB_ret <| kS_ret ?_
   cases h
   exact Fq
  | false =>
   replace h := ite_f hb_3 h
   refine Cf <| Sq <| Ro <| Rc 2 [vb (t4 == 229), vb (t4 == 229)] <| Rk ?_
   cases hb_4 : ((t4 == 229) : Bool) with
   | true =>
    replace h := ite_t hb_4 h
    refine Ct <| Sq <| Ro ?_
    obtain ⟨r_3, hr_3, h⟩ := bind_s h
    have hc_3 := isa_row_L 78 16 6 r_3 hr_3
    refine Rt (some 24) (.callf 57) [] none [.i 78, .i 16, .i 6] (.tup [.d (Row.d r_3.1), .b r_3.2]) [] (cc hc_3) <| Rc 4 [⟨.d (Row.d r_3.1), []⟩, vb r_3.2, ⟨.tup [], [([2], some (.cells [.i r_3.1.Name, .i r_3.1.A, .i r_3.1.B, .b r_3.1.Mod] 0))]⟩, vb r_3.2] <| Rk <| Runs.ret <| kB_ret <| kS_ret ?_
    cases h
    exact Fq
   | false =>
    replace h := ite_f hb_4 h
    refine Cf <| Sq <| Ro <| Rc 2 [vb (t4 == 230), vb (t4 == 230)] <| Rk ?_
    cases hb_5 : ((t4 == 230) : Bool) with
    | true =>
     replace h := ite_t hb_5 h
     refine Ct <| Sq <| Ro ?_
     obtain ⟨r_4, hr_4, h⟩ := bind_s h
     have hc_4 := isa_row_L 79 6 14 r_4 hr_4
     refine Rt (some 29) (.callf 57) [] none [.i 79, .i 6, .i 14] (.tup [.d (Row.d r_4.1), .b r_4.2]) [] (cc hc_4) <| Rc 4 [⟨.d (Row.d r_4.1), []⟩, vb r_4.2, ⟨.tup [], [([2], some (.cells [.i r_4.1.Name, .i r_4.1.A, .i r_4.1.B, .b r_4.1.Mod] 0))]⟩, vb r_4.2] <| Rk <| Runs.ret <| kB_ret <| kS_ret ?_
     cases h
     exact Fq
    | false =>
     replace h := ite_f hb_5 h
     refine Cf <| Sq <| Ro <| Rc 2 [vb (t4 == 231), vb (t4 == 231)] <| Rk ?_
     cases hb_6 : ((t4 == 231) : Bool) with
     | true =>
      replace h := ite_t hb_6 h
      refine Ct <| Sq <| Ro ?_
      obtain ⟨r_5, hr_5, h⟩ := bind_s h
      have hc_5 := isa_row_L 79 6 16 r_5 hr_5
      refine Rt (some 34) (.callf 57) [] none [.i 79, .i 6, .i 16] (.tup [.d (Row.d r_5.1), .b r_5.2]) [] (cc hc_5) <| Rc 4 [⟨.d (Row.d r_5.1), []⟩, vb r_5.2, ⟨.tup [], [([2], some (.cells [.i r_5.1.Name, .i r_5.1.A, .i r_5.1.B, .b r_5.1.Mod] 0))]⟩, vb r_5.2] <| Rk <| Runs.ret <| kB_ret <| kS_ret ?_
      cases h
      exact Fq
     | false =>
      replace h := ite_f hb_6 h
      refine Cf <| Sq <| Ro <| Rc 2 [vb (t4 == 232), vb (t4 == 232)] <| Rk ?_
      cases hb_7 : ((t4 == 232) : Bool) with
      | true =>
       replace h := ite_t hb_7 h
       refine Ct <| Sq <| Ro ?_
       obtain ⟨r_6, hr_6, h⟩ := bind_s h
       have hc_6 := isa_row_L 39 10 0 r_6 hr_6
       refine Rt (some 39) (.callf 57) [] none [.i 39, .i 10, .i 0] (.tup [.d (Row.d r_6.1), .b r_6.2]) [] (cc hc_6) <| Rc 4 [⟨.d (Row.d r_6.1), []⟩, vb r_6.2, ⟨.tup [], [([2], some (.cells [.i r_6.1.Name, .i r_6.1.A, .i r_6.1.B, .b r_6.1.Mod] 0))]⟩, vb r_6.2] <| Rk <| Runs.ret <| kB_ret <| kS_ret ?_
       cases h
       exact Fq
      | false =>
       replace h := ite_f hb_7 h
       refine Cf <| Sq <| Ro <| Rc 2 [vb (t4 == 233), vb (t4 == 233)] <| Rk ?_
       cases hb_8 : ((t4 == 233) : Bool) with
       | true =>
        replace h := ite_t hb_8 h
        refine Ct <| Sq <| Ro ?_
        obtain ⟨r_7, hr_7, h⟩ := bind_s h
        have hc_7 := isa_row_L 80 10 0 r_7 hr_7
        refine Rt (some 44) (.callf 57) [] none [.i 80, .i 10, .i 0] (.tup [.d (Row.d r_7.1), .b r_7.2]) [] (cc hc_7) <| Rc 4 [⟨.d (Row.d r_7.1), []⟩, vb r_7.2, ⟨.tup [], [([2], some (.cells [.i r_7.1.Name, .i r_7.1.A, .i r_7.1.B, .b r_7.1.Mod] 0))]⟩, vb r_7.2] <| Rk <| Runs.ret <| kB_ret <| kS_ret ?_
        cases h
        exact Fq
       | false =>
        replace h := ite_f hb_8 h
        refine Cf <| Sq <| Ro <| Rc 2 [vb (t4 == 234), vb (t4 == 234)] <| Rk ?_
        cases hb_9 : ((t4 == 234) : Bool) with
        | true =>
         replace h := ite_t hb_9 h
         refine Ct <| Sq <| Ro ?_
         obtain ⟨r_8, hr_8, h⟩ := bind_s h
         have hc_8 := isa_row_L 81 11 0 r_8 hr_8
         refine Rt (some 49) (.callf 57) [] none [.i 81, .i 11, .i 0] (.tup [.d (Row.d r_8.1), .b r_8.2]) [] (cc hc_8) <| Rc 4 [⟨.d (Row.d r_8.1), []⟩, vb r_8.2, ⟨.tup [], [([2], some (.cells [.i r_8.1.Name, .i r_8.1.A, .i r_8.1.B, .b r_8.1.Mod] 0))]⟩, vb r_8.2] <| Rk <| Runs.ret <| kB_ret <| kS_ret ?_
         cases h
         exact Fq
        | false =>
         replace h := ite_f hb_9 h
         refine Cf <| Sq <| Ro <| Rc 2 [vb (t4 == 235), vb (t4 == 235)] <| Rk ?_
         cases hb_10 : ((t4 == 235) : Bool) with
         | true =>
          replace h := ite_t hb_10 h
          refine Ct <| Sq <| Ro ?_
          obtain ⟨r_9, hr_9, h⟩ := bind_s h
          have hc_9 := isa_row_L 80 9 0 r_9 hr_9
          refine Rt (some 54) (.callf 57) [] none [.i 80, .i 9, .i 0] (.tup [.d (Row.d r_9.1), .b r_9.2]) [] (cc hc_9) <| Rc 4 [⟨.d (Row.d r_9.1), []⟩, vb r_9.2, ⟨.tup [], [([2], some (.cells [.i r_9.1.Name, .i r_9.1.A, .i r_9.1.B, .b r_9.1.Mod] 0))]⟩, vb r_9.2] <| Rk <| Runs.ret <| kB_ret <| kS_ret ?_
          cases h
          exact Fq
         | false =>
          replace h := ite_f hb_10 h
          refine Cf <| Sq <| Ro <| Rc 2 [vb (t4 == 236), vb (t4 == 236)] <| Rk ?_
          cases hb_11 : ((t4 == 236) : Bool) with
          | true =>
           replace h := ite_t hb_11 h
           refine Ct <| Sq <| Ro ?_
           obtain ⟨r_10, hr_10, h⟩ := bind_s h
           have hc_10 := isa_row_L 78 14 17 r_10 hr_10
           refine Rt (some 59) (.callf 57) [] none [.i 78, .i 14, .i 17] (.tup [.d (Row.d r_10.1), .b r_10.2]) [] (cc hc_10) <| Rc 4 [⟨.d (Row.d r_10.1), []⟩, vb r_10.2, ⟨.tup [], [([2], some (.cells [.i r_10.1.Name, .i r_10.1.A, .i r_10.1.B, .b r_10.1.Mod] 0))]⟩, vb r_10.2] <| Rk <| Runs.ret <| kB_ret <| kS_ret ?_
           cases h
           exact Fq
          | false =>
           replace h := ite_f hb_11 h
           refine Cf <| Sq <| Ro <| Rc 2 [vb (t4 == 237), vb (t4 == 237)] <| Rk ?_
           cases hb_12 : ((t4 == 237) : Bool) with
           | true =>
            replace h := ite_t hb_12 h
            refine Ct <| Sq <| Ro ?_
            obtain ⟨r_11, hr_11, h⟩ := bind_s h
            have hc_11 := isa_row_L 78 16 17 r_11 hr_11
            refine Rt (some 64) (.callf 57) [] none [.i 78, .i 16, .i 17] (.tup [.d (Row.d r_11.1), .b r_11.2]) [] (cc hc_11) <| Rc 4 [⟨.d (Row.d r_11.1), []⟩, vb r_11.2, ⟨.tup [], [([2], some (.cells [.i r_11.1.Name, .i r_11.1.A, .i r_11.1.B, .b r_11.1.Mod] 0))]⟩, vb r_11.2] <| Rk <| Runs.ret <| kB_ret <| kS_ret ?_
            cases h
            exact Fq
           | false =>
            replace h := ite_f hb_12 h
            refine Cf <| Sq <| Ro <| Rc 2 [vb (t4 == 238), vb (t4 == 238)] <| Rk ?_
            cases hb_13 : ((t4 == 238) : Bool) with
            | true =>
             replace h := ite_t hb_13 h
             refine Ct <| Sq <| Ro ?_
             obtain ⟨r_12, hr_12, h⟩ := bind_s h
             have hc_12 := isa_row_L 79 17 14 r_12 hr_12
             refine Rt (some 69) (.callf 57) [] none [.i 79, .i 17, .i 14] (.tup [.d (Row.d r_12.1), .b r_12.2]) [] (cc hc_12) <| Rc 4 [⟨.d (Row.d r_12.1), []⟩, vb r_12.2, ⟨.tup [], [([2], some (.cells [.i r_12.1.Name, .i r_12.1.A, .i r_12.1.B, .b r_12.1.Mod] 0))]⟩, vb r_12.2] <| Rk <| Runs.ret <| kB_ret <| kS_ret ?_
             cases h
             exact Fq
            | false =>
             replace h := ite_f hb_13 h
             refine Cf <| Runs.skip <| kB_nrm <| kS_nrm <| Sq <| Ro ?_
             obtain ⟨r_13, hr_13, h⟩ := bind_s h
             have hc_13 := isa_row_L 79 17 16 r_13 hr_13
             refine Rt (some 72) (.callf 57) [] none [.i 79, .i 17, .i 16] (.tup [.d (Row.d r_13.1), .b r_13.2]) [] (cc hc_13) <| Rc 4 [⟨.d (Row.d r_13.1), []⟩, vb r_13.2, ⟨.tup [], [([2], some (.cells [.i r_13.1.Name, .i r_13.1.A, .i r_13.1.B, .b r_13.1.Mod] 0))]⟩, vb r_13.2] <| Rk <| Runs.ret ?_
             cases h
             exact Fq
theorem isa_goes_ok (op_ : Int) (r : (Row × Bool)) (h : isa_goes op_ = some r) : Runs L F64.body ⟨tmOf [.y op_] 0, updW (fun _ => none) []⟩ (isa_goes_Q op_ r) := by
 unfold isa_goes at h
 refine Sq <| Ro <| Rc 2 [⟨.ptr [2] 0 0, [([2], some (.cells [.i 0, .i 0, .i 0, .b false] 0))]⟩, vb false] <| Rk <| Sq <| Sq <| Ro <| Rc 1 [vy op_] <| Rk <| Runs.block <| Sq <| Sq <| Ro <| Rc 2 [vb (op_ == 224), vb (op_ == 224)] <| Rk ?_
 cases hb_1 : ((op_ == 224) : Bool) with
 | true =>
  replace h := ite_t hb_1 h
  refine Ct <| Runs.skip <| kS_nrm <| Runs.canon (isa_goes_h20 ({ Name := 0, A := 0, B := 0, Mod := false } : Row) op_ op_ true) Cz ?_
  exact isa_goes_j20_ok op_ ({ Name := 0, A := 0, B := 0, Mod := false } : Row) op_ op_ true r h
 | false =>
  replace h := ite_f hb_1 h
  refine Cf <| Sq <| Ro <| Rc 2 [vb (op_ == 225), vb (op_ == 225)] <| Rk ?_
  cases hb_14 : ((op_ == 225) : Bool) with
  | true =>
   replace h := ite_t hb_14 h
   refine Ct <| Runs.skip <| kS_nrm <| Runs.canon (isa_goes_h20 ({ Name := 0, A := 0, B := 0, Mod := false } : Row) op_ op_ true) Cz ?_
   exact isa_goes_j20_ok op_ ({ Name := 0, A := 0, B := 0, Mod := false } : Row) op_ op_ true r h
  | false =>
   replace h := ite_f hb_14 h
   refine Cf <| Sq <| Ro <| Rc 2 [vb (op_ == 226), vb (op_ == 226)] <| Rk ?_
   cases hb_15 : ((op_ == 226) : Bool) with
   | true =>
    replace h := ite_t hb_15 h
    refine Ct <| Runs.skip <| kS_nrm <| Runs.canon (isa_goes_h20 ({ Name := 0, A := 0, B := 0, Mod := false } : Row) op_ op_ true) Cz ?_
    exact isa_goes_j20_ok op_ ({ Name := 0, A := 0, B := 0, Mod := false } : Row) op_ op_ true r h
   | false =>
    replace h := ite_f hb_15 h
    refine Cf <| Ro <| Rc 2 [vb (op_ == 227), vb (op_ == 227)] <| Rk <| Runs.canon (isa_goes_h20 ({ Name := 0, A := 0, B := 0, Mod := false } : Row) op_ op_ (op_ == 227)) Cz ?_
    exact isa_goes_j20_ok op_ ({ Name := 0, A := 0, B := 0, Mod := false } : Row) op_ op_ (op_ == 227) r h
theorem isa_goes_L (op_ : Int) (r : (Row × Bool)) (h : isa_goes op_ = some r) : L 64 [.y op_] = some (.tup [.d (Row.d r.1), .b r.2], [.y op_]) := by
 obtain ⟨p, ⟨hne, hf⟩, hr⟩ := isa_goes_ok op_ r h
 obtain ⟨k, hk⟩ := run_of (F := F64) (args := [.y op_]) (ap := [.y op_]) (bx0 := updW (fun _ => none) []) rfl rfl (by kernel_rfl) ⟨p, ⟨hne, hf⟩, hr⟩
 exact lim_run (k := k) rfl hk
def isa_rest_h18 (b_4 : Row) (op0 : Int) (reg1 : Int) (t21 : Bool) : St := ⟨tab [(0, .y op0), (1, .i reg1), (4, .ptr [4] 0 0), (21, .b t21)], tabB [([4], some (.cells [.i b_4.Name, .i b_4.A, .i b_4.B, .b b_4.Mod] 0))]⟩
def isa_rest_h37 (b_4 : Row) (op0 : Int) (reg1 : Int) (e6 : Int) (i7 : Int) : St := ⟨tab [(0, .y op0), (1, .i reg1), (4, .ptr [4] 0 0), (6, .i e6), (7, .i i7)], tabB [([4], some (.cells [.i b_4.Name, .i b_4.A, .i b_4.B, .b b_4.Mod] 0))]⟩
def isa_rest_Q (op_ : Int) (reg_ : Int) (r : (Row × Bool)) (p : Out × St) : Prop := (∀ i, p.1 ≠ .exit i) ∧ finF F65 [.y op_, .i reg_] p.2 = some (.tup [.d (Row.d r.1), .b r.2], [.y op_, .i reg_])
theorem isa_rest_j37_ok (op_ : Int) (reg_ : Int) (b_4 : Row) (op0 : Int) (reg1 : Int) (e6 : Int) (i7 : Int) (r : (Row × Bool)) (h : isa_rest_j37 b_4 op0 reg1 e6 i7 = some r) : Runs L F65b37 (isa_rest_h37 b_4 op0 reg1 e6 i7) (isa_rest_Q op_ reg_ r) := by
 unfold isa_rest_j37 at h
 refine Sq <| Sq <| Ro <| Rc 2 [vy op0, vb (decide (op0 < 248))] <| Rk ?_
 cases hb_7 : ((decide (op0 < 248)) : Bool) with
 | true =>
  replace h := ite_t hb_7 h
  refine Ct <| Sq <| Sq <| Ro <| Rc 1 [vi reg1] <| Rk <| Runs.block <| Sq <| Ro <| Rc 2 [vb (reg1 == 0), vb (reg1 == 0)] <| Rk ?_
  cases hb_8 : ((reg1 == 0) : Bool) with
  | true =>
   replace h := ite_t hb_8 h
   refine Ct <| Sq <| Ro <| Rc 2 [vi e6, vi i7] ?_
   obtain ⟨r_5, hr_5, h⟩ := bind_s h
   have hc_5 := isa_mod_L 33 e6 i7 r_5 hr_5
   refine Rt (some 51) (.callf 71) [] none [.i 33, .i e6, .i i7] (.tup [.d (Row.d r_5.1), .b r_5.2]) [] (cc hc_5) <| Rc 4 [⟨.d (Row.d r_5.1), []⟩, vb r_5.2, ⟨.tup [], [([4], some (.cells [.i r_5.1.Name, .i r_5.1.A, .i r_5.1.B, .b r_5.1.Mod] 0))]⟩, vb r_5.2] <| Rk <| Runs.ret <| kB_ret <| kS_ret <| kS_ret ?_
   cases h
   exact Fq
  | false =>
   replace h := ite_f hb_8 h
   refine Cf <| Sq <| Ro <| Rc 2 [vb (reg1 == 1), vb (reg1 == 1)] <| Rk ?_
   cases hb_9 : ((reg1 == 1) : Bool) with
   | true =>
    replace h := ite_t hb_9 h
    refine Ct <| Sq <| Ro ?_
    obtain ⟨r_6, hr_6, h⟩ := bind_s h
    have hc_6 := isa_bad_L r_6 hr_6
    refine Rt (some 56) (.callf 58) [] none [] (.tup [.d (Row.d r_6.1), .b r_6.2]) [] (cc hc_6) <| Rc 4 [⟨.d (Row.d r_6.1), []⟩, vb r_6.2, ⟨.tup [], [([4], some (.cells [.i r_6.1.Name, .i r_6.1.A, .i r_6.1.B, .b r_6.1.Mod] 0))]⟩, vb r_6.2] <| Rk <| Runs.ret <| kB_ret <| kS_ret <| kS_ret ?_
    cases h
    exact Fq
   | false =>
    replace h := ite_f hb_9 h
    refine Cf <| Runs.skip <| kB_nrm <| kS_nrm <| Sq <| Ro <| Rc 4 [vi reg1, vi (IntKind.wrap .i64 (84 + reg1)), vi (IntKind.wrap .i64 ((IntKind.wrap .i64 (84 + reg1)) - 2)), vi e6] ?_
    obtain ⟨r_7, hr_7, h⟩ := bind_s h
    have hc_7 := isa_mod_L (IntKind.wrap .i64 ((IntKind.wrap .i64 (84 + reg1)) - 2)) e6 0 r_7 hr_7
    refine Rt (some 63) (.callf 71) [] none [.i (IntKind.wrap .i64 ((IntKind.wrap .i64 (84 + reg1)) - 2)), .i e6, .i 0] (.tup [.d (Row.d r_7.1), .b r_7.2]) [] (cc hc_7) <| Rc 4 [⟨.d (Row.d r_7.1), []⟩, vb r_7.2, ⟨.tup [], [([4], some (.cells [.i r_7.1.Name, .i r_7.1.A, .i r_7.1.B, .b r_7.1.Mod] 0))]⟩, vb r_7.2] <| Rk <| Runs.ret <| kS_ret ?_
    cases h
    exact Fq
 | false =>
  replace h := ite_f hb_7 h
  refine Cf <| Runs.skip <| kS_nrm <| Sq <| Runs.block <| Sq <| Ro <| Rc 3 [vi reg1, vb (decide (reg1 < 2)), vb (decide (reg1 < 2))] <| Rk ?_
  cases hb_10 : ((decide (reg1 < 2)) : Bool) with
  | true =>
   replace h := ite_t hb_10 h
   refine Ct <| Sq <| Ro <| Rc 3 [vi reg1, vi (IntKind.wrap .i64 (15 + reg1)), vi e6] ?_
   obtain ⟨r_8, hr_8, h⟩ := bind_s h
   have hc_8 := isa_mod_L (IntKind.wrap .i64 (15 + reg1)) e6 0 r_8 hr_8
   refine Rt (some 72) (.callf 71) [] none [.i (IntKind.wrap .i64 (15 + reg1)), .i e6, .i 0] (.tup [.d (Row.d r_8.1), .b r_8.2]) [] (cc hc_8) <| Rc 4 [⟨.d (Row.d r_8.1), []⟩, vb r_8.2, ⟨.tup [], [([4], some (.cells [.i r_8.1.Name, .i r_8.1.A, .i r_8.1.B, .b r_8.1.Mod] 0))]⟩, vb r_8.2] <| Rk <| Runs.ret <| kB_ret <| kS_ret ?_
   cases h
   exact Fq
  | false =>
   replace h := ite_f hb_10 h
   refine Cf <| Sq <| Ro <| Rc 3 [vy op0, vb (op0 == 254), vb (op0 == 254)] ?_
   cases hb_11 : ((op0 == 254) : Bool) with
   | true =>
    replace h := ite_t hb_11 h
    refine Rc 4 [vn, vn, vb true, vb true] <| Rk <| Ct <| Sq <| Ro ?_
    obtain ⟨r_9, hr_9, h⟩ := bind_s h
    have hc_9 := isa_bad_L r_9 hr_9
    refine Rt (some 82) (.callf 58) [] none [] (.tup [.d (Row.d r_9.1), .b r_9.2]) [] (cc hc_9) <| Rc 4 [⟨.d (Row.d r_9.1), []⟩, vb r_9.2, ⟨.tup [], [([4], some (.cells [.i r_9.1.Name, .i r_9.1.A, .i r_9.1.B, .b r_9.1.Mod] 0))]⟩, vb r_9.2] <| Rk <| Runs.ret <| kB_ret <| kS_ret ?_
    cases h
    exact Fq
   | false =>
    replace h := ite_f hb_11 h
    refine Rc 4 [vi reg1, vb (reg1 == 7), vb (reg1 == 7), vb (reg1 == 7)] <| Rk ?_
    cases hb_12 : ((reg1 == 7) : Bool) with
    | true =>
     replace h := ite_t hb_12 h
     refine Ct <| Sq <| Ro ?_
     obtain ⟨r_10, hr_10, h⟩ := bind_s h
     have hc_10 := isa_bad_L r_10 hr_10
     refine Rt (some 82) (.callf 58) [] none [] (.tup [.d (Row.d r_10.1), .b r_10.2]) [] (cc hc_10) <| Rc 4 [⟨.d (Row.d r_10.1), []⟩, vb r_10.2, ⟨.tup [], [([4], some (.cells [.i r_10.1.Name, .i r_10.1.A, .i r_10.1.B, .b r_10.1.Mod] 0))]⟩, vb r_10.2] <| Rk <| Runs.ret <| kB_ret <| kS_ret ?_
     cases h
     exact Fq
    | false =>
     replace h := ite_f hb_12 h
     refine Cf <| Runs.skip <| kB_nrm <| kS_nrm <| Sq <| Ro <| Rc 3 [⟨.ref [85] 0 0 (List.map (D.int .i64) ([39, 40, 80, 81, 9] : List Int)).length 1, [([85], some (.arr (List.map (D.int .i64) ([39, 40, 80, 81, 9] : List Int)) 0 false))]⟩, vi reg1, vi (IntKind.wrap .i64 (reg1 - 2))] ?_
     obtain ⟨z_1, hz_1, h⟩ := bind_s h
     refine Rt (some 88) (.iaddrS 1) [] none [.ref [85] 0 0 (List.map (D.int .i64) ([39, 40, 80, 81, 9] : List Int)).length 1, .i (IntKind.wrap .i64 (reg1 - 2))] (.eref [85] 0 (0 + ((IntKind.wrap .i64 (reg1 - 2))).toNat) 0) [] (cut_atR (e := (D.int .i64)) (l := ([39, 40, 80, 81, 9] : List Int)) hz_1 rfl) <| Rt (some 89) (.load none) [] none [.eref [85] 0 (0 + ((IntKind.wrap .i64 (reg1 - 2))).toNat) 0] (.i z_1) [] (cut_loadR (e := (D.int .i64)) (l := ([39, 40, 80, 81, 9] : List Int)) (fz := false) (y := z_1) (by kernel_rfl) hz_1 (by kernel_rfl) (by kernel_rfl)) <| Rc 1 [vi z_1] <| Rk <| Sq <| Sq <| Ro <| Rc 3 [vi reg1, vb (reg1 == 3), vb (reg1 == 3)] ?_
     cases hb_13 : ((reg1 == 3) : Bool) with
     | true =>
      replace h := ite_t hb_13 h
      refine Rc 3 [vn, vn, vb true] <| Rk <| Ct <| Ro <| Rc 1 [vi 19] <| Rk <| Sq <| Ro <| Rc 2 [vi z_1, vi 19] ?_
      obtain ⟨r_11, hr_11, h⟩ := bind_s h
      have hc_11 := isa_mod_L z_1 19 0 r_11 hr_11
      refine Rt (some 98) (.callf 71) [] none [.i z_1, .i 19, .i 0] (.tup [.d (Row.d r_11.1), .b r_11.2]) [] (cc hc_11) <| Rc 4 [⟨.d (Row.d r_11.1), []⟩, vb r_11.2, ⟨.tup [], [([4], some (.cells [.i r_11.1.Name, .i r_11.1.A, .i r_11.1.B, .b r_11.1.Mod] 0))]⟩, vb r_11.2] <| Rk <| Runs.ret ?_
      cases h
      exact Fq
     | false =>
      replace h := ite_f hb_13 h
      refine Rc 3 [vi reg1, vb (reg1 == 5), vb (reg1 == 5)] <| Rk ?_
      cases hb_14 : ((reg1 == 5) : Bool) with
      | true =>
       replace h := ite_t hb_14 h
       refine Ct <| Ro <| Rc 1 [vi 19] <| Rk <| Sq <| Ro <| Rc 2 [vi z_1, vi 19] ?_
       obtain ⟨r_12, hr_12, h⟩ := bind_s h
       have hc_12 := isa_mod_L z_1 19 0 r_12 hr_12
       refine Rt (some 98) (.callf 71) [] none [.i z_1, .i 19, .i 0] (.tup [.d (Row.d r_12.1), .b r_12.2]) [] (cc hc_12) <| Rc 4 [⟨.d (Row.d r_12.1), []⟩, vb r_12.2, ⟨.tup [], [([4], some (.cells [.i r_12.1.Name, .i r_12.1.A, .i r_12.1.B, .b r_12.1.Mod] 0))]⟩, vb r_12.2] <| Rk <| Runs.ret ?_
       cases h
       exact Fq
      | false =>
       replace h := ite_f hb_14 h
       refine Cf <| Runs.skip <| kS_nrm <| Sq <| Ro <| Rc 2 [vi z_1, vi e6] ?_
       obtain ⟨r_13, hr_13, h⟩ := bind_s h
       have hc_13 := isa_mod_L z_1 e6 0 r_13 hr_13
       refine Rt (some 98) (.callf 71) [] none [.i z_1, .i e6, .i 0] (.tup [.d (Row.d r_13.1), .b r_13.2]) [] (cc hc_13) <| Rc 4 [⟨.d (Row.d r_13.1), []⟩, vb r_13.2, ⟨.tup [], [([4], some (.cells [.i r_13.1.Name, .i r_13.1.A, .i r_13.1.B, .b r_13.1.Mod] 0))]⟩, vb r_13.2] <| Rk <| Runs.ret ?_
       cases h
       exact Fq
theorem isa_rest_j18_ok (op_ : Int) (reg_ : Int) (b_4 : Row) (op0 : Int) (reg1 : Int) (t21 : Bool) (r : (Row × Bool)) (h : isa_rest_j18 b_4 op0 reg1 t21 = some r) : Runs L F65b18 (isa_rest_h18 b_4 op0 reg1 t21) (kB 0 (kS L F65c29 (isa_rest_Q op_ reg_ r))) := by
 unfold isa_rest_j18 at h
 cases hb_4 : (t21 : Bool) with
 | true =>
  replace h := ite_t hb_4 h
  refine Ct <| Sq <| Ro <| Rc 4 [vy op0, vy (IntKind.wrap .u8 (op0 - 248)), vi (IntKind.wrap .i64 (IntKind.wrap .u8 (op0 - 248))), vi (IntKind.wrap .i64 (90 + (IntKind.wrap .i64 (IntKind.wrap .u8 (op0 - 248)))))] ?_
  obtain ⟨r_3, hr_3, h⟩ := bind_s h
  have hc_3 := isa_row_L (IntKind.wrap .i64 (90 + (IntKind.wrap .i64 (IntKind.wrap .u8 (op0 - 248))))) 0 0 r_3 hr_3
  refine Rt (some 32) (.callf 57) [] none [.i (IntKind.wrap .i64 (90 + (IntKind.wrap .i64 (IntKind.wrap .u8 (op0 - 248))))), .i 0, .i 0] (.tup [.d (Row.d r_3.1), .b r_3.2]) [] (cc hc_3) <| Rc 4 [⟨.d (Row.d r_3.1), []⟩, vb r_3.2, ⟨.tup [], [([4], some (.cells [.i r_3.1.Name, .i r_3.1.A, .i r_3.1.B, .b r_3.1.Mod] 0))]⟩, vb r_3.2] <| Rk <| Runs.ret <| kB_ret <| kS_ret ?_
  cases h
  exact Fq
 | false =>
  replace h := ite_f hb_4 h
  refine Cf <| Sq <| Ro <| Rc 3 [vy op0, vb (decide (op0 < 246)), vb (decide (op0 < 246))] <| Rk ?_
  cases hb_5 : ((decide (op0 < 246)) : Bool) with
  | true =>
   replace h := ite_t hb_5 h
   refine Ct <| Sq <| Ro ?_
   obtain ⟨r_4, hr_4, h⟩ := bind_s h
   have hc_4 := isa_bad_L r_4 hr_4
   refine Rt (some 38) (.callf 58) [] none [] (.tup [.d (Row.d r_4.1), .b r_4.2]) [] (cc hc_4) <| Rc 4 [⟨.d (Row.d r_4.1), []⟩, vb r_4.2, ⟨.tup [], [([4], some (.cells [.i r_4.1.Name, .i r_4.1.A, .i r_4.1.B, .b r_4.1.Mod] 0))]⟩, vb r_4.2] <| Rk <| Runs.ret <| kB_ret <| kS_ret ?_
   cases h
   exact Fq
  | false =>
   replace h := ite_f hb_5 h
   refine Cf <| Runs.skip <| kB_nrm <| kS_nrm <| Sq <| Ro <| Rc 2 [vi 1, vi 6] <| Rk <| Sq <| Sq <| Ro <| Rc 3 [vy op0, vy (bitsOp .and .u8 op0 1), vb ((bitsOp .and .u8 op0 1) == 1)] <| Rk ?_
   cases hb_6 : (((bitsOp .and .u8 op0 1) == 1) : Bool) with
   | true =>
    replace h := ite_t hb_6 h
    refine Ct <| Ro <| Rc 2 [vi 2, vi 7] <| Rk <| Runs.canon (isa_rest_h37 b_4 op0 reg1 2 7) Cz ?_
    exact isa_rest_j37_ok op_ reg_ b_4 op0 reg1 2 7 r h
   | false =>
    replace h := ite_f hb_6 h
    refine Cf <| Runs.skip <| kS_nrm <| Runs.canon (isa_rest_h37 b_4 op0 reg1 1 6) Cz ?_
    exact isa_rest_j37_ok op_ reg_ b_4 op0 reg1 1 6 r h
theorem isa_rest_ok (op_ : Int) (reg_ : Int) (r : (Row × Bool)) (h : isa_rest op_ reg_ = some r) : Runs L F65.body ⟨tmOf [.y op_, .i reg_] 0, updW (fun _ => none) []⟩ (isa_rest_Q op_ reg_ r) := by
 unfold isa_rest at h
 refine Sq <| Ro <| Rc 2 [⟨.ptr [4] 0 0, [([4], some (.cells [.i 0, .i 0, .i 0, .b false] 0))]⟩, vb false] <| Rk <| Sq <| Runs.block <| Sq <| Ro <| Rc 3 [vy op_, vb (op_ == 244), vb (op_ == 244)] <| Rk ?_
 cases hb_1 : ((op_ == 244) : Bool) with
 | true =>
  replace h := ite_t hb_1 h
  refine Ct <| Sq <| Ro ?_
  obtain ⟨r_1, hr_1, h⟩ := bind_s h
  have hc_1 := isa_row_L 82 0 0 r_1 hr_1
  refine Rt (some 12) (.callf 57) [] none [.i 82, .i 0, .i 0] (.tup [.d (Row.d r_1.1), .b r_1.2]) [] (cc hc_1) <| Rc 4 [⟨.d (Row.d r_1.1), []⟩, vb r_1.2, ⟨.tup [], [([4], some (.cells [.i r_1.1.Name, .i r_1.1.A, .i r_1.1.B, .b r_1.1.Mod] 0))]⟩, vb r_1.2] <| Rk <| Runs.ret <| kB_ret <| kS_ret ?_
  cases h
  exact Fq
 | false =>
  replace h := ite_f hb_1 h
  refine Cf <| Sq <| Ro <| Rc 3 [vy op_, vb (op_ == 245), vb (op_ == 245)] <| Rk ?_
  cases hb_2 : ((op_ == 245) : Bool) with
  | true =>
   replace h := ite_t hb_2 h
   refine Ct <| Sq <| Ro ?_
   obtain ⟨r_2, hr_2, h⟩ := bind_s h
   have hc_2 := isa_row_L 83 0 0 r_2 hr_2
   refine Rt (some 18) (.callf 57) [] none [.i 83, .i 0, .i 0] (.tup [.d (Row.d r_2.1), .b r_2.2]) [] (cc hc_2) <| Rc 4 [⟨.d (Row.d r_2.1), []⟩, vb r_2.2, ⟨.tup [], [([4], some (.cells [.i r_2.1.Name, .i r_2.1.A, .i r_2.1.B, .b r_2.1.Mod] 0))]⟩, vb r_2.2] <| Rk <| Runs.ret <| kB_ret <| kS_ret ?_
   cases h
   exact Fq
  | false =>
   replace h := ite_f hb_2 h
   refine Cf <| Sq <| Ro <| Rc 3 [vy op_, vb (decide (op_ ≥ 248)), vb (decide (op_ ≥ 248))] ?_
   cases hb_3 : ((decide (op_ ≥ 248)) : Bool) with
   | true =>
    replace h := ite_t hb_3 h
    refine Rc 4 [vy op_, vb (decide (op_ < 254)), vb (decide (op_ < 254)), vb (decide (op_ < 254))] <| Rk <| Runs.canon (isa_rest_h18 ({ Name := 0, A := 0, B := 0, Mod := false } : Row) op_ reg_ (decide (op_ < 254))) Cz ?_
    exact isa_rest_j18_ok op_ reg_ ({ Name := 0, A := 0, B := 0, Mod := false } : Row) op_ reg_ (decide (op_ < 254)) r h
   | false =>
    replace h := ite_f hb_3 h
    refine Rc 4 [vn, vn, vb false, vb false] <| Rk <| Runs.canon (isa_rest_h18 ({ Name := 0, A := 0, B := 0, Mod := false } : Row) op_ reg_ false) Cz ?_
    exact isa_rest_j18_ok op_ reg_ ({ Name := 0, A := 0, B := 0, Mod := false } : Row) op_ reg_ false r h
theorem isa_rest_L (op_ : Int) (reg_ : Int) (r : (Row × Bool)) (h : isa_rest op_ reg_ = some r) : L 65 [.y op_, .i reg_] = some (.tup [.d (Row.d r.1), .b r.2], [.y op_, .i reg_]) := by
 obtain ⟨p, ⟨hne, hf⟩, hr⟩ := isa_rest_ok op_ reg_ r h
 obtain ⟨k, hk⟩ := run_of (F := F65) (args := [.y op_, .i reg_]) (ap := [.y op_, .i reg_]) (bx0 := updW (fun _ => none) []) rfl rfl (by kernel_rfl) ⟨p, ⟨hne, hf⟩, hr⟩
 exact lim_run (k := k) rfl hk
def isa_Of_Q (op_ : Int) (reg_ : Int) (r : (Row × Bool)) (p : Out × St) : Prop := (∀ i, p.1 ≠ .exit i) ∧ finF F43 [.y op_, .i reg_] p.2 = some (.tup [.d (Row.d r.1), .b r.2], [.y op_, .i reg_])
theorem isa_Of_ok (op_ : Int) (reg_ : Int) (r : (Row × Bool)) (h : isa_Of op_ reg_ = some r) : Runs L F43.body ⟨tmOf [.y op_, .i reg_] 0, updW (fun _ => none) []⟩ (isa_Of_Q op_ reg_ r) := by
 unfold isa_Of at h
 refine Sq <| Ro <| Rc 2 [⟨.ptr [4] 0 0, [([4], some (.cells [.i 0, .i 0, .i 0, .b false] 0))]⟩, vb false] <| Rk <| Sq <| Ro <| Rc 3 [vi reg_, vi (bitsOp .and .i64 reg_ 7), vi (bitsOp .and .i64 reg_ 7)] <| Rk <| Sq <| Runs.block <| Sq <| Ro <| Rc 3 [vy op_, vb (decide (op_ < 64)), vb (decide (op_ < 64))] <| Rk ?_
 cases hb_1 : ((decide (op_ < 64)) : Bool) with
 | true =>
  replace h := ite_t hb_1 h
  refine Ct <| Sq <| Ro <| Rc 1 [vy op_] ?_
  obtain ⟨r_1, hr_1, h⟩ := bind_s h
  have hc_1 := isa_sums_L op_ r_1 hr_1
  refine Rt (some 13) (.callf 56) [] none [.y op_] (.tup [.d (Row.d r_1.1), .b r_1.2]) [] (cc hc_1) <| Rc 4 [⟨.d (Row.d r_1.1), []⟩, vb r_1.2, ⟨.tup [], [([4], some (.cells [.i r_1.1.Name, .i r_1.1.A, .i r_1.1.B, .b r_1.1.Mod] 0))]⟩, vb r_1.2] <| Rk <| Runs.ret <| kB_ret <| kS_ret ?_
  cases h
  exact Fq
 | false =>
  replace h := ite_f hb_1 h
  refine Cf <| Sq <| Ro <| Rc 3 [vy op_, vb (decide (op_ < 96)), vb (decide (op_ < 96))] <| Rk ?_
  cases hb_2 : ((decide (op_ < 96)) : Bool) with
  | true =>
   replace h := ite_t hb_2 h
   refine Ct <| Sq <| Ro <| Rc 4 [⟨.ref [19] 0 0 (List.map (D.int .i64) ([15, 16, 9, 10] : List Int)).length 1, [([19], some (.arr (List.map (D.int .i64) ([15, 16, 9, 10] : List Int)) 0 false))]⟩, vy op_, vy (IntKind.wrap .u8 (op_ - 64)), vy (shrI .u8 (IntKind.wrap .u8 (op_ - 64)) 3)] ?_
   obtain ⟨z_1, hz_1, h⟩ := bind_s h
   refine Rt (some 23) (.iaddrS 1) [] none [.ref [19] 0 0 (List.map (D.int .i64) ([15, 16, 9, 10] : List Int)).length 1, .y (shrI .u8 (IntKind.wrap .u8 (op_ - 64)) 3)] (.eref [19] 0 (0 + ((shrI .u8 (IntKind.wrap .u8 (op_ - 64)) 3)).toNat) 0) [] (cut_atR (e := (D.int .i64)) (l := ([15, 16, 9, 10] : List Int)) hz_1 rfl) <| Rt (some 24) (.load none) [] none [.eref [19] 0 (0 + ((shrI .u8 (IntKind.wrap .u8 (op_ - 64)) 3)).toNat) 0] (.i z_1) [] (cut_loadR (e := (D.int .i64)) (l := ([15, 16, 9, 10] : List Int)) (fz := false) (y := z_1) (by kernel_rfl) hz_1 (by kernel_rfl) (by kernel_rfl)) <| Rc 1 [vi z_1] <| Rk <| Sq <| Ro <| Rc 1 [vi z_1] ?_
   obtain ⟨r_2, hr_2, h⟩ := bind_s h
   have hc_2 := isa_row_L z_1 22 0 r_2 hr_2
   refine Rt (some 26) (.callf 57) [] none [.i z_1, .i 22, .i 0] (.tup [.d (Row.d r_2.1), .b r_2.2]) [] (cc hc_2) <| Rc 4 [⟨.d (Row.d r_2.1), []⟩, vb r_2.2, ⟨.tup [], [([4], some (.cells [.i r_2.1.Name, .i r_2.1.A, .i r_2.1.B, .b r_2.1.Mod] 0))]⟩, vb r_2.2] <| Rk <| Runs.ret <| kB_ret <| kS_ret ?_
   cases h
   exact Fq
  | false =>
   replace h := ite_f hb_2 h
   refine Cf <| Sq <| Ro <| Rc 3 [vy op_, vb (decide (op_ < 112)), vb (decide (op_ < 112))] <| Rk ?_
   cases hb_3 : ((decide (op_ < 112)) : Bool) with
   | true =>
    replace h := ite_t hb_3 h
    refine Ct <| Sq <| Ro ?_
    obtain ⟨r_3, hr_3, h⟩ := bind_s h
    have hc_3 := isa_bad_L r_3 hr_3
    refine Rt (some 32) (.callf 58) [] none [] (.tup [.d (Row.d r_3.1), .b r_3.2]) [] (cc hc_3) <| Rc 4 [⟨.d (Row.d r_3.1), []⟩, vb r_3.2, ⟨.tup [], [([4], some (.cells [.i r_3.1.Name, .i r_3.1.A, .i r_3.1.B, .b r_3.1.Mod] 0))]⟩, vb r_3.2] <| Rk <| Runs.ret <| kB_ret <| kS_ret ?_
    cases h
    exact Fq
   | false =>
    replace h := ite_f hb_3 h
    refine Cf <| Sq <| Ro <| Rc 3 [vy op_, vb (decide (op_ < 128)), vb (decide (op_ < 128))] <| Rk ?_
    cases hb_4 : ((decide (op_ < 128)) : Bool) with
    | true =>
     replace h := ite_t hb_4 h
     refine Ct <| Sq <| Ro <| Rc 4 [vy op_, vy (IntKind.wrap .u8 (op_ - 112)), vi (IntKind.wrap .i64 (IntKind.wrap .u8 (op_ - 112))), vi (IntKind.wrap .i64 (17 + (IntKind.wrap .i64 (IntKind.wrap .u8 (op_ - 112)))))] ?_
     obtain ⟨r_4, hr_4, h⟩ := bind_s h
     have hc_4 := isa_row_L (IntKind.wrap .i64 (17 + (IntKind.wrap .i64 (IntKind.wrap .u8 (op_ - 112))))) 9 0 r_4 hr_4
     refine Rt (some 42) (.callf 57) [] none [.i (IntKind.wrap .i64 (17 + (IntKind.wrap .i64 (IntKind.wrap .u8 (op_ - 112))))), .i 9, .i 0] (.tup [.d (Row.d r_4.1), .b r_4.2]) [] (cc hc_4) <| Rc 4 [⟨.d (Row.d r_4.1), []⟩, vb r_4.2, ⟨.tup [], [([4], some (.cells [.i r_4.1.Name, .i r_4.1.A, .i r_4.1.B, .b r_4.1.Mod] 0))]⟩, vb r_4.2] <| Rk <| Runs.ret <| kB_ret <| kS_ret ?_
     cases h
     exact Fq
    | false =>
     replace h := ite_f hb_4 h
     refine Cf <| Sq <| Ro <| Rc 3 [vy op_, vb (decide (op_ < 144)), vb (decide (op_ < 144))] <| Rk ?_
     cases hb_5 : ((decide (op_ < 144)) : Bool) with
     | true =>
      replace h := ite_t hb_5 h
      refine Ct <| Sq <| Ro <| Rc 2 [vy op_, vi (bitsOp .and .i64 reg_ 7)] ?_
      obtain ⟨r_5, hr_5, h⟩ := bind_s h
      have hc_5 := isa_moves_L op_ (bitsOp .and .i64 reg_ 7) r_5 hr_5
      refine Rt (some 50) (.callf 59) [] none [.y op_, .i (bitsOp .and .i64 reg_ 7)] (.tup [.d (Row.d r_5.1), .b r_5.2]) [] (cc hc_5) <| Rc 4 [⟨.d (Row.d r_5.1), []⟩, vb r_5.2, ⟨.tup [], [([4], some (.cells [.i r_5.1.Name, .i r_5.1.A, .i r_5.1.B, .b r_5.1.Mod] 0))]⟩, vb r_5.2] <| Rk <| Runs.ret <| kB_ret <| kS_ret ?_
      cases h
      exact Fq
     | false =>
      replace h := ite_f hb_5 h
      refine Cf <| Sq <| Ro <| Rc 3 [vy op_, vb (decide (op_ < 160)), vb (decide (op_ < 160))] <| Rk ?_
      cases hb_6 : ((decide (op_ < 160)) : Bool) with
      | true =>
       replace h := ite_t hb_6 h
       refine Ct <| Sq <| Ro <| Rc 1 [vy op_] ?_
       obtain ⟨r_6, hr_6, h⟩ := bind_s h
       have hc_6 := isa_words_L op_ r_6 hr_6
       refine Rt (some 57) (.callf 60) [] none [.y op_] (.tup [.d (Row.d r_6.1), .b r_6.2]) [] (cc hc_6) <| Rc 4 [⟨.d (Row.d r_6.1), []⟩, vb r_6.2, ⟨.tup [], [([4], some (.cells [.i r_6.1.Name, .i r_6.1.A, .i r_6.1.B, .b r_6.1.Mod] 0))]⟩, vb r_6.2] <| Rk <| Runs.ret <| kB_ret <| kS_ret ?_
       cases h
       exact Fq
      | false =>
       replace h := ite_f hb_6 h
       refine Cf <| Sq <| Ro <| Rc 3 [vy op_, vb (decide (op_ < 176)), vb (decide (op_ < 176))] <| Rk ?_
       cases hb_7 : ((decide (op_ < 176)) : Bool) with
       | true =>
        replace h := ite_t hb_7 h
        refine Ct <| Sq <| Ro <| Rc 1 [vy op_] ?_
        obtain ⟨r_7, hr_7, h⟩ := bind_s h
        have hc_7 := isa_texts_L op_ r_7 hr_7
        refine Rt (some 64) (.callf 61) [] none [.y op_] (.tup [.d (Row.d r_7.1), .b r_7.2]) [] (cc hc_7) <| Rc 4 [⟨.d (Row.d r_7.1), []⟩, vb r_7.2, ⟨.tup [], [([4], some (.cells [.i r_7.1.Name, .i r_7.1.A, .i r_7.1.B, .b r_7.1.Mod] 0))]⟩, vb r_7.2] <| Rk <| Runs.ret <| kB_ret <| kS_ret ?_
        cases h
        exact Fq
       | false =>
        replace h := ite_f hb_7 h
        refine Cf <| Sq <| Ro <| Rc 3 [vy op_, vb (decide (op_ < 184)), vb (decide (op_ < 184))] <| Rk ?_
        cases hb_8 : ((decide (op_ < 184)) : Bool) with
        | true =>
         replace h := ite_t hb_8 h
         refine Ct <| Sq <| Ro ?_
         obtain ⟨r_8, hr_8, h⟩ := bind_s h
         have hc_8 := isa_row_L 35 21 6 r_8 hr_8
         refine Rt (some 70) (.callf 57) [] none [.i 35, .i 21, .i 6] (.tup [.d (Row.d r_8.1), .b r_8.2]) [] (cc hc_8) <| Rc 4 [⟨.d (Row.d r_8.1), []⟩, vb r_8.2, ⟨.tup [], [([4], some (.cells [.i r_8.1.Name, .i r_8.1.A, .i r_8.1.B, .b r_8.1.Mod] 0))]⟩, vb r_8.2] <| Rk <| Runs.ret <| kB_ret <| kS_ret ?_
         cases h
         exact Fq
        | false =>
         replace h := ite_f hb_8 h
         refine Cf <| Sq <| Ro <| Rc 3 [vy op_, vb (decide (op_ < 192)), vb (decide (op_ < 192))] <| Rk ?_
         cases hb_9 : ((decide (op_ < 192)) : Bool) with
         | true =>
          replace h := ite_t hb_9 h
          refine Ct <| Sq <| Ro ?_
          obtain ⟨r_9, hr_9, h⟩ := bind_s h
          have hc_9 := isa_row_L 35 22 7 r_9 hr_9
          refine Rt (some 76) (.callf 57) [] none [.i 35, .i 22, .i 7] (.tup [.d (Row.d r_9.1), .b r_9.2]) [] (cc hc_9) <| Rc 4 [⟨.d (Row.d r_9.1), []⟩, vb r_9.2, ⟨.tup [], [([4], some (.cells [.i r_9.1.Name, .i r_9.1.A, .i r_9.1.B, .b r_9.1.Mod] 0))]⟩, vb r_9.2] <| Rk <| Runs.ret <| kB_ret <| kS_ret ?_
          cases h
          exact Fq
         | false =>
          replace h := ite_f hb_9 h
          refine Cf <| Sq <| Ro <| Rc 3 [vy op_, vb (decide (op_ < 208)), vb (decide (op_ < 208))] <| Rk ?_
          cases hb_10 : ((decide (op_ < 208)) : Bool) with
          | true =>
           replace h := ite_t hb_10 h
           refine Ct <| Sq <| Ro <| Rc 2 [vy op_, vi (bitsOp .and .i64 reg_ 7)] ?_
           obtain ⟨r_10, hr_10, h⟩ := bind_s h
           have hc_10 := isa_backs_L op_ (bitsOp .and .i64 reg_ 7) r_10 hr_10
           refine Rt (some 84) (.callf 62) [] none [.y op_, .i (bitsOp .and .i64 reg_ 7)] (.tup [.d (Row.d r_10.1), .b r_10.2]) [] (cc hc_10) <| Rc 4 [⟨.d (Row.d r_10.1), []⟩, vb r_10.2, ⟨.tup [], [([4], some (.cells [.i r_10.1.Name, .i r_10.1.A, .i r_10.1.B, .b r_10.1.Mod] 0))]⟩, vb r_10.2] <| Rk <| Runs.ret <| kB_ret <| kS_ret ?_
           cases h
           exact Fq
          | false =>
           replace h := ite_f hb_10 h
           refine Cf <| Sq <| Ro <| Rc 3 [vy op_, vb (decide (op_ < 224)), vb (decide (op_ < 224))] <| Rk ?_
           cases hb_11 : ((decide (op_ < 224)) : Bool) with
           | true =>
            replace h := ite_t hb_11 h
            refine Ct <| Sq <| Ro <| Rc 2 [vy op_, vi (bitsOp .and .i64 reg_ 7)] ?_
            obtain ⟨r_11, hr_11, h⟩ := bind_s h
            have hc_11 := isa_turns_L op_ (bitsOp .and .i64 reg_ 7) r_11 hr_11
            refine Rt (some 92) (.callf 63) [] none [.y op_, .i (bitsOp .and .i64 reg_ 7)] (.tup [.d (Row.d r_11.1), .b r_11.2]) [] (cc hc_11) <| Rc 4 [⟨.d (Row.d r_11.1), []⟩, vb r_11.2, ⟨.tup [], [([4], some (.cells [.i r_11.1.Name, .i r_11.1.A, .i r_11.1.B, .b r_11.1.Mod] 0))]⟩, vb r_11.2] <| Rk <| Runs.ret <| kB_ret <| kS_ret ?_
            cases h
            exact Fq
           | false =>
            replace h := ite_f hb_11 h
            refine Cf <| Sq <| Ro <| Rc 3 [vy op_, vb (decide (op_ < 240)), vb (decide (op_ < 240))] <| Rk ?_
            cases hb_12 : ((decide (op_ < 240)) : Bool) with
            | true =>
             replace h := ite_t hb_12 h
             refine Ct <| Sq <| Ro <| Rc 1 [vy op_] ?_
             obtain ⟨r_12, hr_12, h⟩ := bind_s h
             have hc_12 := isa_goes_L op_ r_12 hr_12
             refine Rt (some 99) (.callf 64) [] none [.y op_] (.tup [.d (Row.d r_12.1), .b r_12.2]) [] (cc hc_12) <| Rc 4 [⟨.d (Row.d r_12.1), []⟩, vb r_12.2, ⟨.tup [], [([4], some (.cells [.i r_12.1.Name, .i r_12.1.A, .i r_12.1.B, .b r_12.1.Mod] 0))]⟩, vb r_12.2] <| Rk <| Runs.ret <| kB_ret <| kS_ret ?_
             cases h
             exact Fq
            | false =>
             replace h := ite_f hb_12 h
             refine Cf <| Runs.skip <| kB_nrm <| kS_nrm <| Sq <| Ro <| Rc 2 [vy op_, vi (bitsOp .and .i64 reg_ 7)] ?_
             obtain ⟨r_13, hr_13, h⟩ := bind_s h
             have hc_13 := isa_rest_L op_ (bitsOp .and .i64 reg_ 7) r_13 hr_13
             refine Rt (some 104) (.callf 65) [] none [.y op_, .i (bitsOp .and .i64 reg_ 7)] (.tup [.d (Row.d r_13.1), .b r_13.2]) [] (cc hc_13) <| Rc 4 [⟨.d (Row.d r_13.1), []⟩, vb r_13.2, ⟨.tup [], [([4], some (.cells [.i r_13.1.Name, .i r_13.1.A, .i r_13.1.B, .b r_13.1.Mod] 0))]⟩, vb r_13.2] <| Rk <| Runs.ret ?_
             cases h
             exact Fq
theorem isa_Of_L (op_ : Int) (reg_ : Int) (r : (Row × Bool)) (h : isa_Of op_ reg_ = some r) : L 43 [.y op_, .i reg_] = some (.tup [.d (Row.d r.1), .b r.2], [.y op_, .i reg_]) := by
 obtain ⟨p, ⟨hne, hf⟩, hr⟩ := isa_Of_ok op_ reg_ r h
 obtain ⟨k, hk⟩ := run_of (F := F43) (args := [.y op_, .i reg_]) (ap := [.y op_, .i reg_]) (bx0 := updW (fun _ => none) []) rfl rfl (by kernel_rfl) ⟨p, ⟨hne, hf⟩, hr⟩
 exact lim_run (k := k) rfl hk
def inst_Row_Q (i_ : Inst) (r : (Row × Bool)) (p : Out × St) : Prop := (∀ i, p.1 ≠ .exit i) ∧ finF F31 [.d (Inst.d i_)] p.2 = some (.tup [.d (Row.d r.1), .b r.2], [.d (Inst.d i_)])
theorem inst_Row_ok (i_ : Inst) (r : (Row × Bool)) (h : inst_Row i_ = some r) : Runs L F31.body ⟨tmOf [.d (Inst.d i_)] 0, updW (fun _ => none) []⟩ (inst_Row_Q i_ r) := by
 unfold inst_Row at h
 refine Sq <| Ro <| Rc 3 [⟨.ptr [1] 0 0, [([1], some (.cells [.b i_.Lock, .i i_.Rep, .i i_.Seg, .y i_.Op, .i i_.Mod, .i i_.Reg, .i i_.RM, .w i_.Disp, .w i_.Imm, .w i_.Sel] 0))]⟩, ⟨.ptr [2] 0 0, [([2], some (.cells [.i 0, .i 0, .i 0, .b false] 0))]⟩, vb false] <| Rk <| Sq <| Sq <| Ro <| Rc 2 [vp [1] 0 3, vy i_.Op] ?_
 obtain ⟨r_1, hr_1, h⟩ := bind_s h
 have hc_1 := isa_Prefix_L i_.Op r_1 hr_1
 refine Rt (some 6) (.callf 42) [] none [.y i_.Op] (.b r_1) [] (cc hc_1) <| Rk ?_
 cases hb_1 : (r_1 : Bool) with
 | true =>
  replace h := ite_t hb_1 h
  refine Ct <| Sq <| Ro <| Rc 3 [⟨.d (.agg [.int .i64 0, .int .i64 0, .int .i64 0, .bool false]), []⟩, ⟨.tup [], [([2], some (.cells [.i 0, .i 0, .i 0, .b false] 0))]⟩, vb false] <| Rk <| Runs.ret <| kS_ret ?_
  cases h
  exact Fq
 | false =>
  replace h := ite_f hb_1 h
  refine Cf <| Runs.skip <| kS_nrm <| Sq <| Ro <| Rc 4 [vp [1] 0 3, vy i_.Op, vp [1] 0 5, vi i_.Reg] ?_
  obtain ⟨r_2, hr_2, h⟩ := bind_s h
  have hc_2 := isa_Of_L i_.Op i_.Reg r_2 hr_2
  refine Rt (some 12) (.callf 43) [] none [.y i_.Op, .i i_.Reg] (.tup [.d (Row.d r_2.1), .b r_2.2]) [] (cc hc_2) <| Rc 4 [⟨.d (Row.d r_2.1), []⟩, vb r_2.2, ⟨.tup [], [([2], some (.cells [.i r_2.1.Name, .i r_2.1.A, .i r_2.1.B, .b r_2.1.Mod] 0))]⟩, vb r_2.2] <| Rk <| Runs.ret ?_
  cases h
  exact Fq
theorem inst_Row_L (i_ : Inst) (r : (Row × Bool)) (h : inst_Row i_ = some r) : L 31 [.d (Inst.d i_)] = some (.tup [.d (Row.d r.1), .b r.2], [.d (Inst.d i_)]) := by
 obtain ⟨p, ⟨hne, hf⟩, hr⟩ := inst_Row_ok i_ r h
 obtain ⟨k, hk⟩ := run_of (F := F31) (args := [.d (Inst.d i_)]) (ap := [.d (Inst.d i_)]) (bx0 := updW (fun _ => none) []) rfl rfl (by kernel_rfl) ⟨p, ⟨hne, hf⟩, hr⟩
 exact lim_run (k := k) rfl hk
def inst_Disps_Q (mod_ : Int) (rm_ : Int) (r : Int) (p : Out × St) : Prop := (∀ i, p.1 ≠ .exit i) ∧ finF F53 [.i mod_, .i rm_] p.2 = some (.i r, [.i mod_, .i rm_])
theorem inst_Disps_ok (mod_ : Int) (rm_ : Int) (r : Int) (h : inst_Disps mod_ rm_ = some r) : Runs L F53.body ⟨tmOf [.i mod_, .i rm_] 0, updW (fun _ => none) []⟩ (inst_Disps_Q mod_ rm_ r) := by
 unfold inst_Disps at h
 refine Sq <| Ro <| Rc 1 [vi 0] <| Rk <| Sq <| Runs.block <| Sq <| Ro <| Rc 3 [vi mod_, vb (mod_ == 1), vb (mod_ == 1)] <| Rk ?_
 cases hb_1 : ((mod_ == 1) : Bool) with
 | true =>
  replace h := ite_t hb_1 h
  refine Ct <| Sq <| Ro <| Rc 1 [vi 1] <| Rk <| Runs.ret <| kB_ret <| kS_ret ?_
  cases h
  exact Fq
 | false =>
  replace h := ite_f hb_1 h
  refine Cf <| Sq <| Sq <| Ro <| Rc 3 [vi mod_, vb (mod_ == 2), vb (mod_ == 2)] <| Rk ?_
  cases hb_2 : ((mod_ == 2) : Bool) with
  | true =>
   replace h := ite_t hb_2 h
   refine Ct <| Runs.skip <| kS_nrm <| Ct <| Sq <| Ro <| Rc 1 [vi 2] <| Rk <| Runs.ret <| kB_ret <| kS_ret ?_
   cases h
   exact Fq
  | false =>
   replace h := ite_f hb_2 h
   refine Cf <| Ro <| Rc 3 [vi mod_, vb (mod_ == 0), vb (mod_ == 0)] ?_
   cases hb_3 : ((mod_ == 0) : Bool) with
   | true =>
    replace h := ite_t hb_3 h
    refine Rc 4 [vi rm_, vb (rm_ == 6), vb (rm_ == 6), vb (rm_ == 6)] <| Rk ?_
    cases hb_4 : ((rm_ == 6) : Bool) with
    | true =>
     replace h := ite_t hb_4 h
     refine Ct <| Sq <| Ro <| Rc 1 [vi 2] <| Rk <| Runs.ret <| kB_ret <| kS_ret ?_
     cases h
     exact Fq
    | false =>
     replace h := ite_f hb_4 h
     refine Cf <| Runs.skip <| kB_nrm <| kS_nrm <| Sq <| Ro <| Rc 1 [vi 0] <| Rk <| Runs.ret ?_
     cases h
     exact Fq
   | false =>
    replace h := ite_f hb_3 h
    refine Rc 4 [vn, vn, vb false, vb false] <| Rk <| Cf <| Runs.skip <| kB_nrm <| kS_nrm <| Sq <| Ro <| Rc 1 [vi 0] <| Rk <| Runs.ret ?_
    cases h
    exact Fq
theorem inst_Disps_L (mod_ : Int) (rm_ : Int) (r : Int) (h : inst_Disps mod_ rm_ = some r) : L 53 [.i mod_, .i rm_] = some (.i r, [.i mod_, .i rm_]) := by
 obtain ⟨p, ⟨hne, hf⟩, hr⟩ := inst_Disps_ok mod_ rm_ r h
 obtain ⟨k, hk⟩ := run_of (F := F53) (args := [.i mod_, .i rm_]) (ap := [.i mod_, .i rm_]) (bx0 := updW (fun _ => none) []) rfl rfl (by kernel_rfl) ⟨p, ⟨hne, hf⟩, hr⟩
 exact lim_run (k := k) rfl hk
def bits_Low_Q (w_ : Int) (r : Int) (p : Out × St) : Prop := (∀ i, p.1 ≠ .exit i) ∧ finF F70 [.w w_] p.2 = some (.y r, [.w w_])
theorem bits_Low_ok (w_ : Int) (r : Int) (h : bits_Low w_ = some r) : Runs L F70.body ⟨tmOf [.w w_] 0, updW (fun _ => none) []⟩ (bits_Low_Q w_ r) := by
 unfold bits_Low at h
 refine Sq <| Ro <| Rc 1 [vy 0] <| Rk <| Sq <| Ro <| Rc 3 [vw w_, vy (IntKind.wrap .u8 w_), vy (IntKind.wrap .u8 w_)] <| Rk <| Runs.ret ?_
 cases h
 exact Fq
theorem bits_Low_L (w_ : Int) (r : Int) (h : bits_Low w_ = some r) : L 70 [.w w_] = some (.y r, [.w w_]) := by
 obtain ⟨p, ⟨hne, hf⟩, hr⟩ := bits_Low_ok w_ r h
 obtain ⟨k, hk⟩ := run_of (F := F70) (args := [.w w_]) (ap := [.w w_]) (bx0 := updW (fun _ => none) []) rfl rfl (by kernel_rfl) ⟨p, ⟨hne, hf⟩, hr⟩
 exact lim_run (k := k) rfl hk
def bits_Sign_Q (b_ : Int) (r : Int) (p : Out × St) : Prop := (∀ i, p.1 ≠ .exit i) ∧ finF F69 [.y b_] p.2 = some (.w r, [.y b_])
theorem bits_Sign_ok (b_ : Int) (r : Int) (h : bits_Sign b_ = some r) : Runs L F69.body ⟨tmOf [.y b_] 0, updW (fun _ => none) []⟩ (bits_Sign_Q b_ r) := by
 unfold bits_Sign at h
 refine Sq <| Ro <| Rc 1 [vw 0] <| Rk <| Sq <| Ro <| Rc 5 [vy b_, ⟨.d (.int .i8 (IntKind.wrap .i8 b_)), []⟩, ⟨.d (.int .i16 (IntKind.wrap .i16 (IntKind.wrap .i8 b_))), []⟩, vw (IntKind.wrap .u16 (IntKind.wrap .i16 (IntKind.wrap .i8 b_))), vw (IntKind.wrap .u16 (IntKind.wrap .i16 (IntKind.wrap .i8 b_)))] <| Rk <| Runs.ret ?_
 cases h
 exact Fq
theorem bits_Sign_L (b_ : Int) (r : Int) (h : bits_Sign b_ = some r) : L 69 [.y b_] = some (.w r, [.y b_]) := by
 obtain ⟨p, ⟨hne, hf⟩, hr⟩ := bits_Sign_ok b_ r h
 obtain ⟨k, hk⟩ := run_of (F := F69) (args := [.y b_]) (ap := [.y b_]) (bx0 := updW (fun _ => none) []) rfl rfl (by kernel_rfl) ⟨p, ⟨hne, hf⟩, hr⟩
 exact lim_run (k := k) rfl hk
def bits_Fits_Q (w_ : Int) (r : Bool) (p : Out × St) : Prop := (∀ i, p.1 ≠ .exit i) ∧ finF F54 [.w w_] p.2 = some (.b r, [.w w_])
theorem bits_Fits_ok (w_ : Int) (r : Bool) (h : bits_Fits w_ = some r) : Runs L F54.body ⟨tmOf [.w w_] 0, updW (fun _ => none) []⟩ (bits_Fits_Q w_ r) := by
 unfold bits_Fits at h
 refine Sq <| Ro <| Rc 1 [vb false] <| Rk <| Sq <| Ro <| Rc 1 [vw w_] ?_
 obtain ⟨r_1, hr_1, h⟩ := bind_s h
 have hc_1 := bits_Low_L w_ r_1 hr_1
 refine Rt (some 4) (.callf 70) [] none [.w w_] (.y r_1) [] (cc hc_1) ?_
 obtain ⟨r_2, hr_2, h⟩ := bind_s h
 have hc_2 := bits_Sign_L r_1 r_2 hr_2
 refine Rt (some 5) (.callf 69) [] none [.y r_1] (.w r_2) [] (cc hc_2) <| Rc 3 [vw w_, vb (r_2 == w_), vb (r_2 == w_)] <| Rk <| Runs.ret ?_
 cases h
 exact Fq
theorem bits_Fits_L (w_ : Int) (r : Bool) (h : bits_Fits w_ = some r) : L 54 [.w w_] = some (.b r, [.w w_]) := by
 obtain ⟨p, ⟨hne, hf⟩, hr⟩ := bits_Fits_ok w_ r h
 obtain ⟨k, hk⟩ := run_of (F := F54) (args := [.w w_]) (ap := [.w w_]) (bx0 := updW (fun _ => none) []) rfl rfl (by kernel_rfl) ⟨p, ⟨hne, hf⟩, hr⟩
 exact lim_run (k := k) rfl hk
def inst_second_h26 (i2 : Inst) : St := ⟨tab [(2, .ptr [2] 0 0)], tabB [([2], some (.cells [.b i2.Lock, .i i2.Rep, .i i2.Seg, .y i2.Op, .i i2.Mod, .i i2.Reg, .i i2.RM, .w i2.Disp, .w i2.Imm, .w i2.Sel] 0))]⟩
def inst_second_Q (i_ : Inst) (r_ : Row) (r : Bool) (p : Out × St) : Prop := (∀ i, p.1 ≠ .exit i) ∧ finF F39 [.d (Inst.d i_), .d (Row.d r_)] p.2 = some (.b r, [.d (Inst.d i_), .d (Row.d r_)])
theorem inst_second_j26_ok (i_ : Inst) (r_ : Row) (i2 : Inst) (r : Bool) (h : inst_second_j26 i2 = some r) : Runs L F39b26 (inst_second_h26 i2) (inst_second_Q i_ r_ r) := by
 unfold inst_second_j26 at h
 refine Sq <| Sq <| Ro <| Rc 4 [vp [2] 0 4, vi i2.Mod, vp [2] 0 6, vi i2.RM] ?_
 obtain ⟨r_1, hr_1, h⟩ := bind_s h
 have hc_1 := inst_Disps_L i2.Mod i2.RM r_1 hr_1
 refine Rt (some 76) (.callf 53) [] none [.i i2.Mod, .i i2.RM] (.i r_1) [] (cc hc_1) <| Rk <| Runs.block <| Sq <| Ro <| Rc 2 [vb (r_1 == 0), vb (r_1 == 0)] <| Rk ?_
 cases hb_15 : ((r_1 == 0) : Bool) with
 | true =>
  replace h := ite_t hb_15 h
  refine Ct <| Sq <| Ro <| Rc 4 [vp [2] 0 7, vw i2.Disp, vb (i2.Disp == 0), vb (i2.Disp == 0)] <| Rk <| Runs.ret <| kB_ret <| kS_ret ?_
  cases h
  exact Fq
 | false =>
  replace h := ite_f hb_15 h
  refine Cf <| Sq <| Ro <| Rc 2 [vb (r_1 == 1), vb (r_1 == 1)] <| Rk ?_
  cases hb_16 : ((r_1 == 1) : Bool) with
  | true =>
   replace h := ite_t hb_16 h
   refine Ct <| Sq <| Ro <| Rc 2 [vp [2] 0 7, vw i2.Disp] ?_
   obtain ⟨r_2, hr_2, h⟩ := bind_s h
   have hc_2 := bits_Fits_L i2.Disp r_2 hr_2
   refine Rt (some 86) (.callf 54) [] none [.w i2.Disp] (.b r_2) [] (cc hc_2) <| Rc 1 [vb r_2] <| Rk <| Runs.ret <| kB_ret <| kS_ret ?_
   cases h
   exact Fq
  | false =>
   replace h := ite_f hb_16 h
   refine Cf <| Runs.skip <| kB_nrm <| kS_nrm <| Sq <| Ro <| Rc 1 [vb true] <| Rk <| Runs.ret ?_
   cases h
   exact Fq
theorem inst_second_ok (i_ : Inst) (r_ : Row) (r : Bool) (h : inst_second i_ r_ = some r) : Runs L F39.body ⟨tmOf [.d (Inst.d i_), .d (Row.d r_)] 0, updW (fun _ => none) []⟩ (inst_second_Q i_ r_ r) := by
 unfold inst_second at h
 refine Sq <| Ro <| Rc 3 [⟨.ptr [2] 0 0, [([2], some (.cells [.b i_.Lock, .i i_.Rep, .i i_.Seg, .y i_.Op, .i i_.Mod, .i i_.Reg, .i i_.RM, .w i_.Disp, .w i_.Imm, .w i_.Sel] 0))]⟩, ⟨.ptr [3] 0 0, [([3], some (.cells [.i r_.Name, .i r_.A, .i r_.B, .b r_.Mod] 0))]⟩, vb false] <| Rk <| Sq <| Sq <| Ro <| Rc 3 [vp [3] 0 3, vb r_.Mod, vb (!r_.Mod)] <| Rk ?_
 cases hb_1 : ((!r_.Mod) : Bool) with
 | true =>
  replace h := ite_t hb_1 h
  refine Ct <| Sq <| Ro <| Rc 4 [vp [2] 0 4, vi i_.Mod, vb (i_.Mod == 0), vb (i_.Mod == 0)] ?_
  cases hb_2 : ((i_.Mod == 0) : Bool) with
  | true =>
   replace h := ite_t hb_2 h
   refine Rc 5 [vp [2] 0 5, vi i_.Reg, vb (i_.Reg == 0), vb (i_.Reg == 0), vb (i_.Reg == 0)] ?_
   cases hb_3 : ((i_.Reg == 0) : Bool) with
   | true =>
    replace h := ite_t hb_3 h
    refine Rc 5 [vp [2] 0 6, vi i_.RM, vb (i_.RM == 0), vb (i_.RM == 0), vb (i_.RM == 0)] ?_
    cases hb_4 : ((i_.RM == 0) : Bool) with
    | true =>
     replace h := ite_t hb_4 h
     refine Rc 5 [vp [2] 0 7, vw i_.Disp, vb (i_.Disp == 0), vb (i_.Disp == 0), vb (i_.Disp == 0)] <| Rk <| Runs.ret <| kS_ret ?_
     cases h
     exact Fq
    | false =>
     replace h := ite_f hb_4 h
     refine Rc 5 [vn, vn, vn, vb false, vb false] <| Rk <| Runs.ret <| kS_ret ?_
     cases h
     exact Fq
   | false =>
    replace h := ite_f hb_3 h
    refine Rc 10 [vn, vn, vn, vb false, vb false, vn, vn, vn, vb false, vb false] <| Rk <| Runs.ret <| kS_ret ?_
    cases h
    exact Fq
  | false =>
   replace h := ite_f hb_2 h
   refine Rc 15 [vn, vn, vn, vb false, vb false, vn, vn, vn, vb false, vb false, vn, vn, vn, vb false, vb false] <| Rk <| Runs.ret <| kS_ret ?_
   cases h
   exact Fq
 | false =>
  replace h := ite_f hb_1 h
  refine Cf <| Runs.skip <| kS_nrm <| Sq <| Sq <| Ro <| Rc 4 [vp [2] 0 4, vi i_.Mod, vb (decide (i_.Mod < 0)), vb (decide (i_.Mod < 0))] ?_
  cases hb_5 : ((decide (i_.Mod < 0)) : Bool) with
  | true =>
   replace h := ite_t hb_5 h
   refine Rc 24 [vn, vn, vn, vb true, vb true, vn, vn, vn, vb true, vb true, vn, vn, vn, vb true, vb true, vn, vn, vn, vb true, vb true, vn, vn, vn, vb true] <| Rk <| Ct <| Sq <| Ro <| Rc 1 [vb false] <| Rk <| Runs.ret <| kS_ret ?_
   cases h
   exact Fq
  | false =>
   replace h := ite_f hb_5 h
   refine Rc 5 [vp [2] 0 4, vi i_.Mod, vb (decide (i_.Mod > 3)), vb (decide (i_.Mod > 3)), vb (decide (i_.Mod > 3))] ?_
   cases hb_6 : ((decide (i_.Mod > 3)) : Bool) with
   | true =>
    replace h := ite_t hb_6 h
    refine Rc 19 [vn, vn, vn, vb true, vb true, vn, vn, vn, vb true, vb true, vn, vn, vn, vb true, vb true, vn, vn, vn, vb true] <| Rk <| Ct <| Sq <| Ro <| Rc 1 [vb false] <| Rk <| Runs.ret <| kS_ret ?_
    cases h
    exact Fq
   | false =>
    replace h := ite_f hb_6 h
    refine Rc 5 [vp [2] 0 5, vi i_.Reg, vb (decide (i_.Reg < 0)), vb (decide (i_.Reg < 0)), vb (decide (i_.Reg < 0))] ?_
    cases hb_7 : ((decide (i_.Reg < 0)) : Bool) with
    | true =>
     replace h := ite_t hb_7 h
     refine Rc 14 [vn, vn, vn, vb true, vb true, vn, vn, vn, vb true, vb true, vn, vn, vn, vb true] <| Rk <| Ct <| Sq <| Ro <| Rc 1 [vb false] <| Rk <| Runs.ret <| kS_ret ?_
     cases h
     exact Fq
    | false =>
     replace h := ite_f hb_7 h
     refine Rc 5 [vp [2] 0 5, vi i_.Reg, vb (decide (i_.Reg > 7)), vb (decide (i_.Reg > 7)), vb (decide (i_.Reg > 7))] ?_
     cases hb_8 : ((decide (i_.Reg > 7)) : Bool) with
     | true =>
      replace h := ite_t hb_8 h
      refine Rc 9 [vn, vn, vn, vb true, vb true, vn, vn, vn, vb true] <| Rk <| Ct <| Sq <| Ro <| Rc 1 [vb false] <| Rk <| Runs.ret <| kS_ret ?_
      cases h
      exact Fq
     | false =>
      replace h := ite_f hb_8 h
      refine Rc 5 [vp [2] 0 6, vi i_.RM, vb (decide (i_.RM < 0)), vb (decide (i_.RM < 0)), vb (decide (i_.RM < 0))] ?_
      cases hb_9 : ((decide (i_.RM < 0)) : Bool) with
      | true =>
       replace h := ite_t hb_9 h
       refine Rc 4 [vn, vn, vn, vb true] <| Rk <| Ct <| Sq <| Ro <| Rc 1 [vb false] <| Rk <| Runs.ret <| kS_ret ?_
       cases h
       exact Fq
      | false =>
       replace h := ite_f hb_9 h
       refine Rc 4 [vp [2] 0 6, vi i_.RM, vb (decide (i_.RM > 7)), vb (decide (i_.RM > 7))] <| Rk ?_
       cases hb_10 : ((decide (i_.RM > 7)) : Bool) with
       | true =>
        replace h := ite_t hb_10 h
        refine Ct <| Sq <| Ro <| Rc 1 [vb false] <| Rk <| Runs.ret <| kS_ret ?_
        cases h
        exact Fq
       | false =>
        replace h := ite_f hb_10 h
        refine Cf <| Runs.skip <| kS_nrm <| Sq <| Sq <| Ro <| Rc 4 [vp [2] 0 4, vi i_.Mod, vb (i_.Mod == 3), vb (i_.Mod == 3)] ?_
        cases hb_11 : ((i_.Mod == 3) : Bool) with
        | true =>
         replace h := ite_t hb_11 h
         refine Rc 4 [vp [3] 0 1, vi r_.A, vb (r_.A == 19), vb (r_.A == 19)] ?_
         cases hb_12 : ((r_.A == 19) : Bool) with
         | true =>
          replace h := ite_t hb_12 h
          refine Rc 10 [vn, vn, vn, vb true, vb true, vn, vn, vn, vb true, vb true] <| Rk <| Ct <| Sq <| Ro <| Rc 1 [vb false] <| Rk <| Runs.ret <| kS_ret ?_
          cases h
          exact Fq
         | false =>
          replace h := ite_f hb_12 h
          refine Rc 5 [vp [3] 0 2, vi r_.B, vb (r_.B == 19), vb (r_.B == 19), vb (r_.B == 19)] ?_
          cases hb_13 : ((r_.B == 19) : Bool) with
          | true =>
           replace h := ite_t hb_13 h
           refine Rc 5 [vn, vn, vn, vb true, vb true] <| Rk <| Ct <| Sq <| Ro <| Rc 1 [vb false] <| Rk <| Runs.ret <| kS_ret ?_
           cases h
           exact Fq
          | false =>
           replace h := ite_f hb_13 h
           refine Rc 5 [vp [3] 0 2, vi r_.B, vb (r_.B == 20), vb (r_.B == 20), vb (r_.B == 20)] <| Rk ?_
           cases hb_14 : ((r_.B == 20) : Bool) with
           | true =>
            replace h := ite_t hb_14 h
            refine Ct <| Sq <| Ro <| Rc 1 [vb false] <| Rk <| Runs.ret <| kS_ret ?_
            cases h
            exact Fq
           | false =>
            replace h := ite_f hb_14 h
            refine Cf <| Runs.skip <| kS_nrm <| Runs.canon (inst_second_h26 i_) Cz ?_
            exact inst_second_j26_ok i_ r_ i_ r h
        | false =>
         replace h := ite_f hb_11 h
         refine Rc 14 [vn, vn, vn, vn, vn, vn, vn, vn, vn, vn, vn, vn, vn, vb false] <| Rk <| Cf <| Runs.skip <| kS_nrm <| Runs.canon (inst_second_h26 i_) Cz ?_
         exact inst_second_j26_ok i_ r_ i_ r h
theorem inst_second_L (i_ : Inst) (r_ : Row) (r : Bool) (h : inst_second i_ r_ = some r) : L 39 [.d (Inst.d i_), .d (Row.d r_)] = some (.b r, [.d (Inst.d i_), .d (Row.d r_)]) := by
 obtain ⟨p, ⟨hne, hf⟩, hr⟩ := inst_second_ok i_ r_ r h
 obtain ⟨k, hk⟩ := run_of (F := F39) (args := [.d (Inst.d i_), .d (Row.d r_)]) (ap := [.d (Inst.d i_), .d (Row.d r_)]) (bx0 := updW (fun _ => none) []) rfl rfl (by kernel_rfl) ⟨p, ⟨hne, hf⟩, hr⟩
 exact lim_run (k := k) rfl hk
def inst_behind_h6 (i2 : Inst) (r3 : Row) (t11 : (A2 Int)) (t12 : Int) : St := ⟨tab [(2, .ptr [2] 0 0), (3, .ptr [3] 0 0), (11, .d (.agg [.int .i64 t11.a0, .int .i64 t11.a1])), (12, .i t12)], tabB [([2], some (.cells [.b i2.Lock, .i i2.Rep, .i i2.Seg, .y i2.Op, .i i2.Mod, .i i2.Reg, .i i2.RM, .w i2.Disp, .w i2.Imm, .w i2.Sel] 0)), ([3], some (.cells [.i r3.Name, .i r3.A, .i r3.B, .b r3.Mod] 0))]⟩
def inst_behind_h32 (i2 : Inst) (r3 : Row) (t11 : (A2 Int)) (t12 : Int) (t15 : Int) (t41 : Bool) : St := ⟨tab [(2, .ptr [2] 0 0), (3, .ptr [3] 0 0), (11, .d (.agg [.int .i64 t11.a0, .int .i64 t11.a1])), (12, .i t12), (15, .i t15), (41, .b t41)], tabB [([2], some (.cells [.b i2.Lock, .i i2.Rep, .i i2.Seg, .y i2.Op, .i i2.Mod, .i i2.Reg, .i i2.RM, .w i2.Disp, .w i2.Imm, .w i2.Sel] 0)), ([3], some (.cells [.i r3.Name, .i r3.A, .i r3.B, .b r3.Mod] 0))]⟩
def inst_behind_h62 (i2 : Inst) : St := ⟨tab [(2, .ptr [2] 0 0)], tabB [([2], some (.cells [.b i2.Lock, .i i2.Rep, .i i2.Seg, .y i2.Op, .i i2.Mod, .i i2.Reg, .i i2.RM, .w i2.Disp, .w i2.Imm, .w i2.Sel] 0))]⟩
def inst_behind_Q (i_ : Inst) (r_ : Row) (r : Bool) (p : Out × St) : Prop := (∀ i, p.1 ≠ .exit i) ∧ finF F40 [.d (Inst.d i_), .d (Row.d r_)] p.2 = some (.b r, [.d (Inst.d i_), .d (Row.d r_)])
def inst_behind_P6 (i_ : Inst) (r_ : Row) (i2 : Inst) (r3 : Row) (t11 : (A2 Int)) (e : (Bool ⊕ Unit)) (p : Out × St) : Prop := match e with
 | .inl x => p.1 = .ret ∧ finF F40 [.d (Inst.d i_), .d (Row.d r_)] p.2 = some (.b x, [.d (Inst.d i_), .d (Row.d r_)])
 | .inr x => p.1 = .exit 0 ∧ ∃ g : Unit, Canon [] [2] [[2]] p.2 (inst_behind_h62 i2)
theorem inst_behind_j32_ok (i_ : Inst) (r_ : Row) (i2 : Inst) (r3 : Row) (t11 : (A2 Int)) (t12 : Int) (t15 : Int) (t41 : Bool) (r : (Lp Int (Bool ⊕ Unit))) (h : inst_behind_j32 i2 r3 t11 t12 t15 t41 = some r) : Runs L F40b32 (inst_behind_h32 i2 r3 t11 t12 t15 t41) (kB 2 (kB 1 (kS L F40c61 (LQ [] [2, 3, 11, 12] [[2], [3]] (fun (x : Int) (g : Unit) => inst_behind_h6 i2 r3 t11 x) (inst_behind_P6 i_ r_ i2 r3 t11) r)))) := by
 unfold inst_behind_j32 at h
 cases hb_8 : (t41 : Bool) with
 | true =>
  replace h := ite_t hb_8 h
  refine Ct <| Sq <| Ro <| Rc 2 [vp [2] 0 8, vw i2.Imm] ?_
  obtain ⟨r_1, hr_1, h⟩ := bind_s h
  have hc_1 := bits_Fits_L i2.Imm r_1 hr_1
  refine Rt (some 46) (.callf 54) [] none [.w i2.Imm] (.b r_1) [] (cc hc_1) <| Rc 1 [vb r_1] ?_
  cases hb_9 : (r_1 : Bool) with
  | true =>
   replace h := ite_t hb_9 h
   refine Rc 5 [vp [2] 0 9, vw i2.Sel, vb (i2.Sel == 0), vb (i2.Sel == 0), vb (i2.Sel == 0)] <| Rk <| Runs.ret <| kB_ret <| kB_ret <| kS_ret ?_
   obtain rfl := sj h
   exact ⟨nofun, rfl, (by kernel_rfl)⟩
  | false =>
   replace h := ite_f hb_9 h
   refine Rc 5 [vn, vn, vn, vb false, vb false] <| Rk <| Runs.ret <| kB_ret <| kB_ret <| kS_ret ?_
   obtain rfl := sj h
   exact ⟨nofun, rfl, (by kernel_rfl)⟩
 | false =>
  replace h := ite_f hb_8 h
  refine Cf <| Sq <| Sq <| Ro <| Rc 2 [vb (t15 == 7), vb (t15 == 7)] <| Rk ?_
  cases hb_10 : ((t15 == 7) : Bool) with
  | true =>
   replace h := ite_t hb_10 h
   refine Ct <| Runs.skip <| kS_nrm <| Ct <| Sq <| Ro <| Rc 4 [vp [2] 0 9, vw i2.Sel, vb (i2.Sel == 0), vb (i2.Sel == 0)] <| Rk <| Runs.ret <| kB_ret <| kB_ret <| kS_ret ?_
   obtain rfl := sj h
   exact ⟨nofun, rfl, (by kernel_rfl)⟩
  | false =>
   replace h := ite_f hb_10 h
   refine Cf <| Sq <| Ro <| Rc 2 [vb (t15 == 10), vb (t15 == 10)] <| Rk ?_
   cases hb_11 : ((t15 == 10) : Bool) with
   | true =>
    replace h := ite_t hb_11 h
    refine Ct <| Runs.skip <| kS_nrm <| Ct <| Sq <| Ro <| Rc 4 [vp [2] 0 9, vw i2.Sel, vb (i2.Sel == 0), vb (i2.Sel == 0)] <| Rk <| Runs.ret <| kB_ret <| kB_ret <| kS_ret ?_
    obtain rfl := sj h
    exact ⟨nofun, rfl, (by kernel_rfl)⟩
   | false =>
    replace h := ite_f hb_11 h
    refine Cf <| Sq <| Ro <| Rc 2 [vb (t15 == 12), vb (t15 == 12)] <| Rk ?_
    cases hb_12 : ((t15 == 12) : Bool) with
    | true =>
     replace h := ite_t hb_12 h
     refine Ct <| Runs.skip <| kS_nrm <| Ct <| Sq <| Ro <| Rc 4 [vp [2] 0 9, vw i2.Sel, vb (i2.Sel == 0), vb (i2.Sel == 0)] <| Rk <| Runs.ret <| kB_ret <| kB_ret <| kS_ret ?_
     obtain rfl := sj h
     exact ⟨nofun, rfl, (by kernel_rfl)⟩
    | false =>
     replace h := ite_f hb_12 h
     refine Cf <| Ro <| Rc 2 [vb (t15 == 13), vb (t15 == 13)] <| Rk ?_
     cases hb_13 : ((t15 == 13) : Bool) with
     | true =>
      replace h := ite_t hb_13 h
      refine Ct <| Sq <| Ro <| Rc 4 [vp [2] 0 9, vw i2.Sel, vb (i2.Sel == 0), vb (i2.Sel == 0)] <| Rk <| Runs.ret <| kB_ret <| kB_ret <| kS_ret ?_
      obtain rfl := sj h
      exact ⟨nofun, rfl, (by kernel_rfl)⟩
     | false =>
      replace h := ite_f hb_13 h
      refine Cf <| Sq <| Ro <| Rc 2 [vb (t15 == 11), vb (t15 == 11)] <| Rk ?_
      cases hb_14 : ((t15 == 11) : Bool) with
      | true =>
       replace h := ite_t hb_14 h
       refine Ct <| Sq <| Ro <| Rc 1 [vb true] <| Rk <| Runs.ret <| kB_ret <| kB_ret <| kS_ret ?_
       obtain rfl := sj h
       exact ⟨nofun, rfl, (by kernel_rfl)⟩
      | false =>
       replace h := ite_f hb_14 h
       refine Cf <| Runs.skip <| kB_nrm <| kB_nrm <| kS_nrm <| Ro <| Rc 2 [vi (IntKind.wrap .i64 (t12 + 1)), vi (IntKind.wrap .i64 (t12 + 1))] <| Rd ?_
       obtain rfl := sj h
       exact ⟨rfl, (), Cz⟩
theorem inst_behind_l6_ok (i_ : Inst) (r_ : Row) (i2 : Inst) (r3 : Row) (t11 : (A2 Int)) (t12 : Int) (r : (Lp Int (Bool ⊕ Unit))) (h : inst_behind_l6 i2 r3 t11 t12 = some r) : Runs L F40l6 (inst_behind_h6 i2 r3 t11 t12) (LQ [] [2, 3, 11, 12] [[2], [3]] (fun (x : Int) (g : Unit) => inst_behind_h6 i2 r3 t11 x) (inst_behind_P6 i_ r_ i2 r3 t11) r) := by
 unfold inst_behind_l6 at h
 refine Sq <| Ro <| Rc 1 [vb (decide (t12 < 2))] <| Rk <| Sq ?_
 cases hb_1 : ((decide (t12 < 2)) : Bool) with
 | true =>
  replace h := ite_t hb_1 h
  refine Ct <| Runs.skip <| kS_nrm <| Sq <| Runs.block <| Sq <| Ro ?_
  obtain ⟨z_1, hz_1, h⟩ := bind_s h
  refine Rt (some 14) (.indexA 2 1 none) [] none [.d (.agg [.int .i64 t11.a0, .int .i64 t11.a1]), .i t12] (.i z_1) [] (cut_ixA (e := (D.int .i64)) (l := t11.l) hz_1 rfl) <| Rc 1 [vi z_1] <| Rk <| Sq <| Ro <| Rc 1 [vi z_1] <| Rk <| Runs.block <| Sq <| Ro <| Rc 2 [vb (z_1 == 6), vb (z_1 == 6)] <| Rk ?_
  cases hb_2 : ((z_1 == 6) : Bool) with
  | true =>
   replace h := ite_t hb_2 h
   refine Ct <| Sq <| Ro <| Rc 4 [vp [2] 0 8, vw i2.Imm, vb (decide (i2.Imm < 256)), vb (decide (i2.Imm < 256))] ?_
   cases hb_3 : ((decide (i2.Imm < 256)) : Bool) with
   | true =>
    replace h := ite_t hb_3 h
    refine Rc 5 [vp [2] 0 9, vw i2.Sel, vb (i2.Sel == 0), vb (i2.Sel == 0), vb (i2.Sel == 0)] ?_
    cases hb_4 : ((i2.Sel == 0) : Bool) with
    | true =>
     replace h := ite_t hb_4 h
     refine Rc 4 [vp [3] 0 0, vi r3.Name, vb (r3.Name != 70), vb (r3.Name != 70)] ?_
     cases hb_5 : ((r3.Name != 70) : Bool) with
     | true =>
      replace h := ite_t hb_5 h
      refine Rc 5 [vp [3] 0 0, vi r3.Name, vb (r3.Name != 71), vb (r3.Name != 71), vb (r3.Name != 71)] ?_
      cases hb_6 : ((r3.Name != 71) : Bool) with
      | true =>
       replace h := ite_t hb_6 h
       refine Rc 6 [vn, vn, vn, vb true, vb true, vb true] <| Rk <| Runs.ret <| kB_ret <| kB_ret <| kS_ret ?_
       obtain rfl := sj h
       exact ⟨nofun, rfl, (by kernel_rfl)⟩
      | false =>
       replace h := ite_f hb_6 h
       refine Rc 6 [vp [2] 0 8, vw i2.Imm, vb (i2.Imm == 10), vb (i2.Imm == 10), vb (i2.Imm == 10), vb (i2.Imm == 10)] <| Rk <| Runs.ret <| kB_ret <| kB_ret <| kS_ret ?_
       obtain rfl := sj h
       exact ⟨nofun, rfl, (by kernel_rfl)⟩
     | false =>
      replace h := ite_f hb_5 h
      refine Rc 11 [vn, vn, vn, vb false, vb false, vp [2] 0 8, vw i2.Imm, vb (i2.Imm == 10), vb (i2.Imm == 10), vb (i2.Imm == 10), vb (i2.Imm == 10)] <| Rk <| Runs.ret <| kB_ret <| kB_ret <| kS_ret ?_
      obtain rfl := sj h
      exact ⟨nofun, rfl, (by kernel_rfl)⟩
    | false =>
     replace h := ite_f hb_4 h
     refine Rc 15 [vn, vn, vn, vn, vn, vn, vn, vn, vn, vn, vn, vn, vn, vb false, vb false] <| Rk <| Runs.ret <| kB_ret <| kB_ret <| kS_ret ?_
     obtain rfl := sj h
     exact ⟨nofun, rfl, (by kernel_rfl)⟩
   | false =>
    replace h := ite_f hb_3 h
    refine Rc 20 [vn, vn, vn, vb false, vb false, vn, vn, vn, vn, vn, vn, vn, vn, vn, vn, vn, vn, vn, vb false, vb false] <| Rk <| Runs.ret <| kB_ret <| kB_ret <| kS_ret ?_
    obtain rfl := sj h
    exact ⟨nofun, rfl, (by kernel_rfl)⟩
  | false =>
   replace h := ite_f hb_2 h
   refine Cf <| Sq <| Sq <| Ro <| Rc 2 [vb (z_1 == 8), vb (z_1 == 8)] <| Rk ?_
   cases hb_7 : ((z_1 == 8) : Bool) with
   | true =>
    replace h := ite_t hb_7 h
    refine Ct <| Runs.skip <| kS_nrm <| Runs.canon (inst_behind_h32 i2 r3 t11 t12 z_1 true) Cz ?_
    exact inst_behind_j32_ok i_ r_ i2 r3 t11 t12 z_1 true r h
   | false =>
    replace h := ite_f hb_7 h
    refine Cf <| Ro <| Rc 2 [vb (z_1 == 9), vb (z_1 == 9)] <| Rk <| Runs.canon (inst_behind_h32 i2 r3 t11 t12 z_1 (z_1 == 9)) Cz ?_
    exact inst_behind_j32_ok i_ r_ i2 r3 t11 t12 z_1 (z_1 == 9) r h
 | false =>
  replace h := ite_f hb_1 h
  refine Cf <| Runs.exit <| kS_exit ?_
  obtain rfl := sj h
  exact ⟨nofun, rfl, (), Cz⟩
end Go.Es.Dso
