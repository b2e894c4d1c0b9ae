/- The code that the statement ApplyTwice reaches, as the interpreter reads it; its masked numbers. No condition. -/
import Derived.Test.YtcleoajjochojaaEsD
import Derived.Test.YtcleoajjochojaaChecked
import Derived.KernelRfl
set_option linter.unusedVariables false
set_option linter.unusedSimpArgs false
set_option maxRecDepth 100000
set_option maxHeartbeats 4000000
namespace Go.Es.Apt
open Go.Proofs
def hints : Nat → Nat → Hint
  | 3, 9 => [(1, [[61], [63]], none)]
  | 4, 7 => [(10, [[4]], none), (14, [[4]], none), (17, [], some [[4]])]
  | 4, 13 => [(1, [[101], [7]], none), (4, [[101], [7]], none), (9, [[101], [7]], none), (12, [[101], [7]], none), (17, [[7]], none), (18, [[7]], some []), (20, [[101], [7]], none), (22, [[101]], none)]
  | 4, 25 => [(5, [[170]], none), (7, [[170]], none), (12, [[170]], none)]
  | 4, 29 => [(1, [[208], [209]], none), (11, [], some [])]
  | 4, 31 => [(3, [[2]], none), (5, [], some [[2]])]
  | 5, 9 => [(4, [], some []), (5, [[32]], none), (7, [[32]], none), (8, [], some []), (9, [[32], [36]], none)]
  | 6, 1 => [(2, [[13], [4]], none), (5, [[10], [4]], none), (7, [[10], [13]], none)]
  | 6, 7 => [(4, [[0, 4], [1, 4], [2, 4], [10], [13]], none), (15, [], some [[0, 4], [1, 4], [2, 4], [10], [13]])]
  | 6, 8 => [(1, [[52], [53]], none), (4, [[52]], none), (7, [], some []), (8, [], some [])]
  | 7, 2 => [(1, [[24], [7]], none), (3, [[22], [7]], none), (5, [[22], [24]], none)]
  | 7, 15 => [(5, [], some []), (8, [[60]], none), (12, [[60]], none)]
  | 9, 6 => [(1, [[36], [37]], none), (7, [], some [])]
  | 9, 20 => [(1, [[101], [124]], none), (3, [[101]], none), (8, [[101]], none), (13, [[101]], none), (17, [[101]], none), (23, [[101]], none)]
  | 9, 28 => [(1, [[181]], none)]
  | 11, 3 => [(1, [[26]], none), (6, [], some [])]
  | 11, 4 => [(5, [[6]], none), (9, [], some [[6]])]
  | 12, 7 => [(3, [[18]], none), (4, [[18]], none), (5, [[18]], none), (6, [[18]], some []), (10, [[54]], none)]
  | 18, 12 => [(7, [[84]], none), (10, [[84]], none), (14, [], some [])]
  | 19, 4 => [(2, [[49]], none), (5, [[49]], none), (11, [], some []), (14, [[49]], none), (17, [[49]], none)]
  | 28, 2 => [(1, [[15]], none), (4, [], some [])]
  | 28, 5 => [(2, [], some []), (4, [[27]], none)]
  | 28, 9 => [(1, [[51]], none), (2, [[51]], some []), (3, [[49]], none), (4, [[49]], none)]
  | 32, 1 => [(20, [[29]], none), (24, [], some [])]
  | 34, 15 => [(1, [[8]], none), (2, [], some [[8]])]
  | 55, 4 => [(1, [[51]], none), (10, [], some [])]
  | 56, 3 => [(1, [[8]], none), (3, [[8]], none), (7, [[8]], none), (12, [[8]], none), (13, [[8]], some []), (17, [[49]], none)]
  | _, _ => []
def spf : Nat → Bool := fun n => [24, 40].contains n

noncomputable def tab1 : Nat → Option Fn := autoT Try.prog (fun _ => none) spf hints
noncomputable def L : Cs := lim tab1 (fun _ _ => none)
theorem no_globals : GOk (fun _ _ => none) (fun _ => none) := fun n a h => by cases h
theorem tab1_ok : ∀ f fn, tab1 f = some fn → FnOk (fun _ _ => none) Try.prog f fn := fun f fn h => autoT_spec no_globals h
theorem meets1 (f : Nat) : Meets (fun _ _ => none) Try.prog f (L f) := lim_meets tab1_ok (fun f _ m w args vs bs _ _ _ _ _ r a h => by cases h) f
noncomputable def X1 : Cs := fun _ _ => none
noncomputable def FL : Fn := (tab1 3).getD ⟨0, false, false, [], [], .skip⟩
theorem tabL : tab1 3 = some FL := by kernel_rfl
theorem spL : FL.sp = false := by kernel_rfl
theorem L_of {args : List T} {r : T × List T} (h : run (prog tab1 X1 100) 100 FL args = some r) : L 3 args = some r :=
  (lim_iff (F := tab1)).2 ⟨101, by
    show (match tab1 3 with | some fn => run (prog tab1 X1 100) 100 fn args | none => X1 3 args) = some r
    rw [tabL]; exact h⟩
theorem and_mask' {x : Int} {m : Int} (j : Nat) (hj : j ≤ 62) (hm : m = ((2 ^ j - 1 : Nat) : Int)) : bitsOp .and .i64 x m = x % (2 ^ j : Nat) := by
  subst hm; exact and_mask x j hj
noncomputable def G1 (x0 : Int) : Fn := subF 28 (.d (.int .i64 x0)) FL
theorem okG1  : okA 0 27 28 7 FL.body = true := by kernel_rfl
theorem toG1  (v0 : Int) (v1 : Int) (v2 : Bool) : run (prog tab1 X1 100) 100 FL [.d (.int .i64 v0), .d (.int .i64 v1), .d (.bool v2)] = run (prog tab1 X1 100) 100 (G1 (bitsOp .and .i64 v0 7)) [.d (.int .i64 v0), .d (.int .i64 v1), .d (.bool v2)] :=
  run_sub (p := 0) (d1 := 27) (d := 28) (m := 7) (by decide) (by kernel_rfl) (okG1 ) (show takesP (fun _ => none) 0 [.d (.int .i64 v0), .d (.int .i64 v1), .d (.bool v2)] = some ([.d (.int .i64 v0), .d (.int .i64 v1), .d (.bool v2)], fun _ => none) from rfl) rfl
noncomputable def G2 (x0 : Int) (x1 : Int) : Fn := subF 32 (.d (.int .i64 x1)) (G1 x0)
theorem okG2 (x0 : Int) : okA 1 31 32 3 (G1 x0).body = true := by kernel_rfl
theorem toG2 (x0 : Int) (v0 : Int) (v1 : Int) (v2 : Bool) : run (prog tab1 X1 100) 100 (G1 x0) [.d (.int .i64 v0), .d (.int .i64 v1), .d (.bool v2)] = run (prog tab1 X1 100) 100 (G2 x0 (bitsOp .and .i64 v1 3)) [.d (.int .i64 v0), .d (.int .i64 v1), .d (.bool v2)] :=
  run_sub (p := 1) (d1 := 31) (d := 32) (m := 3) (by decide) (by kernel_rfl) (okG2 x0) (show takesP (fun _ => none) 0 [.d (.int .i64 v0), .d (.int .i64 v1), .d (.bool v2)] = some ([.d (.int .i64 v0), .d (.int .i64 v1), .d (.bool v2)], fun _ => none) from rfl) rfl
end Go.Es.Apt
