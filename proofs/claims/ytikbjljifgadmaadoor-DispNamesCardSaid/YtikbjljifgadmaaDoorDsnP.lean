/- What the functions that the law DispNames reaches answer, in plain Lean. No condition. -/
import Derived.Test.YtikbjljifgadmaaDoorEsD
set_option linter.unusedVariables false
set_option linter.unusedSimpArgs false
set_option maxRecDepth 100000
set_option maxHeartbeats 4000000
namespace Go.Es.Dsn
structure Inst where
  Lock : Bool
  Rep : Int
  Seg : Int
  Op : Int
  Mod : Int
  Reg : Int
  RM : Int
  Disp : Int
  Imm : Int
  Sel : Int
  deriving DecidableEq, Inhabited
def Inst.cs (x : Inst) : List D := [.bool x.Lock, .int .i64 x.Rep, .int .i64 x.Seg, .int .u8 x.Op, .int .i64 x.Mod, .int .i64 x.Reg, .int .i64 x.RM, .int .u16 x.Disp, .int .u16 x.Imm, .int .u16 x.Sel]
def Inst.d (x : Inst) : D := .agg (Inst.cs x)
def Inst.wf (x : Inst) : Prop := (fun _ => True) x.Lock ∧ wfI .i64 x.Rep ∧ wfI .i64 x.Seg ∧ wfI .u8 x.Op ∧ wfI .i64 x.Mod ∧ wfI .i64 x.Reg ∧ wfI .i64 x.RM ∧ wfI .u16 x.Disp ∧ wfI .u16 x.Imm ∧ wfI .u16 x.Sel
/-- strings.Fields -/
noncomputable def strings_Fields (a0_ : (List UInt8)) : Option (List (List UInt8)) :=
  if a0_ = [65, 68, 68, 32, 79, 82, 32, 65, 68, 67, 32, 83, 66, 66, 32, 65, 78, 68, 32, 83, 85, 66, 32, 88, 79, 82, 32, 67, 77, 80, 32, 80, 85, 83, 72, 32, 80, 79, 80, 32, 68, 65, 65, 32, 68, 65, 83, 32, 65, 65, 65, 32, 65, 65, 83, 32, 73, 78, 67, 32, 68, 69, 67, 32, 74, 79, 32, 74, 78, 79, 32, 74, 66, 32, 74, 78, 66, 32, 74, 90, 32, 74, 78, 90, 32, 74, 66, 69, 32, 74, 65, 32, 74, 83, 32, 74, 78, 83, 32, 74, 80, 32, 74, 78, 80, 32, 74, 76, 32, 74, 71, 69, 32, 74, 76, 69, 32, 74, 71, 32, 84, 69, 83, 84, 32, 88, 67, 72, 71, 32, 77, 79, 86, 32, 76, 69, 65, 32, 67, 66, 87, 32, 67, 87, 68, 32, 67, 65, 76, 76, 32, 67, 65, 76, 76, 70, 32, 87, 65, 73, 84, 32, 80, 85, 83, 72, 70, 32, 80, 79, 80, 70, 32, 83, 65, 72, 70, 32, 76, 65, 72, 70, 32, 77, 79, 86, 83, 66, 32, 77, 79, 86, 83, 87, 32, 67, 77, 80, 83, 66, 32, 67, 77, 80, 83, 87, 32, 83, 84, 79, 83, 66, 32, 83, 84, 79, 83, 87, 32, 76, 79, 68, 83, 66, 32, 76, 79, 68, 83, 87, 32, 83, 67, 65, 83, 66, 32, 83, 67, 65, 83, 87, 32, 82, 69, 84, 32, 82, 69, 84, 70, 32, 76, 69, 83, 32, 76, 68, 83, 32, 73, 78, 84, 32, 73, 78, 84, 79, 32, 73, 82, 69, 84, 32, 82, 79, 76, 32, 82, 79, 82, 32, 82, 67, 76, 32, 82, 67, 82, 32, 83, 72, 76, 32, 83, 72, 82, 32, 83, 65, 82, 32, 65, 65, 77, 32, 65, 65, 68, 32, 88, 76, 65, 84, 32, 69, 83, 67, 32, 76, 79, 79, 80, 78, 90, 32, 76, 79, 79, 80, 90, 32, 76, 79, 79, 80, 32, 74, 67, 88, 90, 32, 73, 78, 32, 79, 85, 84, 32, 74, 77, 80, 32, 74, 77, 80, 70, 32, 72, 76, 84, 32, 67, 77, 67, 32, 78, 79, 84, 32, 78, 69, 71, 32, 77, 85, 76, 32, 73, 77, 85, 76, 32, 68, 73, 86, 32, 73, 68, 73, 86, 32, 67, 76, 67, 32, 83, 84, 67, 32, 67, 76, 73, 32, 83, 84, 73, 32, 67, 76, 68, 32, 83, 84, 68] then some [[65, 68, 68], [79, 82], [65, 68, 67], [83, 66, 66], [65, 78, 68], [83, 85, 66], [88, 79, 82], [67, 77, 80], [80, 85, 83, 72], [80, 79, 80], [68, 65, 65], [68, 65, 83], [65, 65, 65], [65, 65, 83], [73, 78, 67], [68, 69, 67], [74, 79], [74, 78, 79], [74, 66], [74, 78, 66], [74, 90], [74, 78, 90], [74, 66, 69], [74, 65], [74, 83], [74, 78, 83], [74, 80], [74, 78, 80], [74, 76], [74, 71, 69], [74, 76, 69], [74, 71], [84, 69, 83, 84], [88, 67, 72, 71], [77, 79, 86], [76, 69, 65], [67, 66, 87], [67, 87, 68], [67, 65, 76, 76], [67, 65, 76, 76, 70], [87, 65, 73, 84], [80, 85, 83, 72, 70], [80, 79, 80, 70], [83, 65, 72, 70], [76, 65, 72, 70], [77, 79, 86, 83, 66], [77, 79, 86, 83, 87], [67, 77, 80, 83, 66], [67, 77, 80, 83, 87], [83, 84, 79, 83, 66], [83, 84, 79, 83, 87], [76, 79, 68, 83, 66], [76, 79, 68, 83, 87], [83, 67, 65, 83, 66], [83, 67, 65, 83, 87], [82, 69, 84], [82, 69, 84, 70], [76, 69, 83], [76, 68, 83], [73, 78, 84], [73, 78, 84, 79], [73, 82, 69, 84], [82, 79, 76], [82, 79, 82], [82, 67, 76], [82, 67, 82], [83, 72, 76], [83, 72, 82], [83, 65, 82], [65, 65, 77], [65, 65, 68], [88, 76, 65, 84], [69, 83, 67], [76, 79, 79, 80, 78, 90], [76, 79, 79, 80, 90], [76, 79, 79, 80], [74, 67, 88, 90], [73, 78], [79, 85, 84], [74, 77, 80], [74, 77, 80, 70], [72, 76, 84], [67, 77, 67], [78, 79, 84], [78, 69, 71], [77, 85, 76], [73, 77, 85, 76], [68, 73, 86], [73, 68, 73, 86], [67, 76, 67], [83, 84, 67], [67, 76, 73], [83, 84, 73], [67, 76, 68], [83, 84, 68]] else
  if a0_ = [65, 88, 32, 67, 88, 32, 68, 88, 32, 66, 88, 32, 83, 80, 32, 66, 80, 32, 83, 73, 32, 68, 73] then some [[65, 88], [67, 88], [68, 88], [66, 88], [83, 80], [66, 80], [83, 73], [68, 73]] else
  if a0_ = [65, 76, 32, 67, 76, 32, 68, 76, 32, 66, 76, 32, 65, 72, 32, 67, 72, 32, 68, 72, 32, 66, 72] then some [[65, 76], [67, 76], [68, 76], [66, 76], [65, 72], [67, 72], [68, 72], [66, 72]] else
  if a0_ = [69, 83, 32, 67, 83, 32, 83, 83, 32, 68, 83] then some [[69, 83], [67, 83], [83, 83], [68, 83]] else
  none
/-- hansom/disp.Text -/
noncomputable def disp_Text (a0_ : Inst) : Option (List UInt8) :=
  if a0_ = ({ Lock := false, Rep := 0, Seg := 0, Op := 144, Mod := 0, Reg := 0, RM := 0, Disp := 0, Imm := 0, Sel := 0 } : Inst) then some [88, 67, 72, 71, 32, 65, 88, 44, 65, 88] else
  none
noncomputable def disp_Find_l6 (s0 : (List UInt8)) (t5 : (List (List UInt8))) (t6 : Int) (t7 : Int) : Option (Lp Int (Int ⊕ Unit)) :=
  if (decide (t7 < t6)) then
    (idx t5 t7).bind fun z_1 =>
    if (z_1 == s0) then
      some (.out (.inl (IntKind.wrap .i64 (t7 + 1))))
    else
      some (.next (IntKind.wrap .i64 (t7 + 1)))
  else
    some (.out (.inr ()))
/-- hansom/disp.Find -/
noncomputable def disp_Find (s_ : (List UInt8)) : Option Int :=
  (strings_Fields ([65, 68, 68, 32, 79, 82, 32, 65, 68, 67, 32, 83, 66, 66, 32, 65, 78, 68, 32, 83, 85, 66, 32, 88, 79, 82, 32, 67, 77, 80, 32, 80, 85, 83, 72, 32, 80, 79, 80, 32, 68, 65, 65, 32, 68, 65, 83, 32, 65, 65, 65, 32, 65, 65, 83, 32, 73, 78, 67, 32, 68, 69, 67, 32, 74, 79, 32, 74, 78, 79, 32, 74, 66, 32, 74, 78, 66, 32, 74, 90, 32, 74, 78, 90, 32, 74, 66, 69, 32, 74, 65, 32, 74, 83, 32, 74, 78, 83, 32, 74, 80, 32, 74, 78, 80, 32, 74, 76, 32, 74, 71, 69, 32, 74, 76, 69, 32, 74, 71, 32, 84, 69, 83, 84, 32, 88, 67, 72, 71, 32, 77, 79, 86, 32, 76, 69, 65, 32, 67, 66, 87, 32, 67, 87, 68, 32, 67, 65, 76, 76, 32, 67, 65, 76, 76, 70, 32, 87, 65, 73, 84, 32, 80, 85, 83, 72, 70, 32, 80, 79, 80, 70, 32, 83, 65, 72, 70, 32, 76, 65, 72, 70, 32, 77, 79, 86, 83, 66, 32, 77, 79, 86, 83, 87, 32, 67, 77, 80, 83, 66, 32, 67, 77, 80, 83, 87, 32, 83, 84, 79, 83, 66, 32, 83, 84, 79, 83, 87, 32, 76, 79, 68, 83, 66, 32, 76, 79, 68, 83, 87, 32, 83, 67, 65, 83, 66, 32, 83, 67, 65, 83, 87, 32, 82, 69, 84, 32, 82, 69, 84, 70, 32, 76, 69, 83, 32, 76, 68, 83, 32, 73, 78, 84, 32, 73, 78, 84, 79, 32, 73, 82, 69, 84, 32, 82, 79, 76, 32, 82, 79, 82, 32, 82, 67, 76, 32, 82, 67, 82, 32, 83, 72, 76, 32, 83, 72, 82, 32, 83, 65, 82, 32, 65, 65, 77, 32, 65, 65, 68, 32, 88, 76, 65, 84, 32, 69, 83, 67, 32, 76, 79, 79, 80, 78, 90, 32, 76, 79, 79, 80, 90, 32, 76, 79, 79, 80, 32, 74, 67, 88, 90, 32, 73, 78, 32, 79, 85, 84, 32, 74, 77, 80, 32, 74, 77, 80, 70, 32, 72, 76, 84, 32, 67, 77, 67, 32, 78, 79, 84, 32, 78, 69, 71, 32, 77, 85, 76, 32, 73, 77, 85, 76, 32, 68, 73, 86, 32, 73, 68, 73, 86, 32, 67, 76, 67, 32, 83, 84, 67, 32, 67, 76, 73, 32, 83, 84, 73, 32, 67, 76, 68, 32, 83, 84, 68] : List UInt8)).bind fun r_1 =>
  (loopO (fun x : Int => disp_Find_l6 s_ r_1 (r_1.length : Int) x) 0).bind fun e_1 =>
  match e_1 with
  | .inl e_2 =>
    some e_2
  | .inr e_3 =>
    some 0
/-- hansom/disp.nth -/
noncomputable def disp_nth (all_ : (List UInt8)) (n_ : Int) : Option (List UInt8) :=
  (strings_Fields all_).bind fun r_1 =>
  if (decide (n_ < 0)) then
    some ([63] : List UInt8)
  else
    if (decide (n_ ≥ (r_1.length : Int))) then
      some ([63] : List UInt8)
    else
      (idx r_1 n_).bind fun z_1 =>
      some z_1
/-- hansom/disp.Name -/
noncomputable def disp_Name (n_ : Int) : Option (List UInt8) :=
  (disp_nth ([65, 68, 68, 32, 79, 82, 32, 65, 68, 67, 32, 83, 66, 66, 32, 65, 78, 68, 32, 83, 85, 66, 32, 88, 79, 82, 32, 67, 77, 80, 32, 80, 85, 83, 72, 32, 80, 79, 80, 32, 68, 65, 65, 32, 68, 65, 83, 32, 65, 65, 65, 32, 65, 65, 83, 32, 73, 78, 67, 32, 68, 69, 67, 32, 74, 79, 32, 74, 78, 79, 32, 74, 66, 32, 74, 78, 66, 32, 74, 90, 32, 74, 78, 90, 32, 74, 66, 69, 32, 74, 65, 32, 74, 83, 32, 74, 78, 83, 32, 74, 80, 32, 74, 78, 80, 32, 74, 76, 32, 74, 71, 69, 32, 74, 76, 69, 32, 74, 71, 32, 84, 69, 83, 84, 32, 88, 67, 72, 71, 32, 77, 79, 86, 32, 76, 69, 65, 32, 67, 66, 87, 32, 67, 87, 68, 32, 67, 65, 76, 76, 32, 67, 65, 76, 76, 70, 32, 87, 65, 73, 84, 32, 80, 85, 83, 72, 70, 32, 80, 79, 80, 70, 32, 83, 65, 72, 70, 32, 76, 65, 72, 70, 32, 77, 79, 86, 83, 66, 32, 77, 79, 86, 83, 87, 32, 67, 77, 80, 83, 66, 32, 67, 77, 80, 83, 87, 32, 83, 84, 79, 83, 66, 32, 83, 84, 79, 83, 87, 32, 76, 79, 68, 83, 66, 32, 76, 79, 68, 83, 87, 32, 83, 67, 65, 83, 66, 32, 83, 67, 65, 83, 87, 32, 82, 69, 84, 32, 82, 69, 84, 70, 32, 76, 69, 83, 32, 76, 68, 83, 32, 73, 78, 84, 32, 73, 78, 84, 79, 32, 73, 82, 69, 84, 32, 82, 79, 76, 32, 82, 79, 82, 32, 82, 67, 76, 32, 82, 67, 82, 32, 83, 72, 76, 32, 83, 72, 82, 32, 83, 65, 82, 32, 65, 65, 77, 32, 65, 65, 68, 32, 88, 76, 65, 84, 32, 69, 83, 67, 32, 76, 79, 79, 80, 78, 90, 32, 76, 79, 79, 80, 90, 32, 76, 79, 79, 80, 32, 74, 67, 88, 90, 32, 73, 78, 32, 79, 85, 84, 32, 74, 77, 80, 32, 74, 77, 80, 70, 32, 72, 76, 84, 32, 67, 77, 67, 32, 78, 79, 84, 32, 78, 69, 71, 32, 77, 85, 76, 32, 73, 77, 85, 76, 32, 68, 73, 86, 32, 73, 68, 73, 86, 32, 67, 76, 67, 32, 83, 84, 67, 32, 67, 76, 73, 32, 83, 84, 73, 32, 67, 76, 68, 32, 83, 84, 68] : List UInt8) (IntKind.wrap .i64 (n_ - 1))).bind fun r_1 =>
  some r_1
/-- hansom/hansomlaw17.awake -/
noncomputable def hansomlaw17_awake  : Option Bool :=
  (disp_Text ({ Lock := false, Rep := 0, Seg := 0, Op := 144, Mod := 0, Reg := 0, RM := 0, Disp := 0, Imm := 0, Sel := 0 } : Inst)).bind fun r_1 =>
  if (r_1 == ([88, 67, 72, 71, 32, 65, 88, 44, 65, 88] : List UInt8)) then
    (disp_Find ([83, 84, 68] : List UInt8)).bind fun r_2 =>
    if (r_2 == 95) then
      (disp_Name 32).bind fun r_3 =>
      some (r_3 == ([74, 71] : List UInt8))
    else
      some false
  else
    some false
noncomputable def hansomref04_word_l19 (s0 : (List UInt8)) (n1 : Int) (at5 : Int) (k6 : Int) : Option (Lp Int Int) :=
  if (decide (at5 < (s0.length : Int))) then
    (idx s0 at5).bind fun z_1 =>
    if ((z_1.toNat : Int) != 32) then
      some (.next (IntKind.wrap .i64 (at5 + 1)))
    else
      some (.out at5)
  else
    some (.out at5)
noncomputable def hansomref04_word_l8 (s0 : (List UInt8)) (n1 : Int) (at5 : Int) (k6 : Int) : Option (Lp (Int × Int) Int) :=
  if (decide (k6 < n1)) then
    if (decide (at5 < (s0.length : Int))) then
      (loopO (fun x : Int => hansomref04_word_l19 s0 n1 x k6) at5).bind fun e_1 =>
      some (.next ((IntKind.wrap .i64 (e_1 + 1)), (IntKind.wrap .i64 (k6 + 1))))
    else
      some (.out at5)
  else
    some (.out at5)
noncomputable def hansomref04_word_l34 (s0 : (List UInt8)) (at5 : Int) (end7 : Int) : Option (Lp Int Int) :=
  if (decide (end7 < (s0.length : Int))) then
    (idx s0 end7).bind fun z_1 =>
    if ((z_1.toNat : Int) != 32) then
      some (.next (IntKind.wrap .i64 (end7 + 1)))
    else
      some (.out end7)
  else
    some (.out end7)
/-- hansom/hansomref04.word -/
noncomputable def hansomref04_word (s_ : (List UInt8)) (n_ : Int) : Option (List UInt8) :=
  (loopO (fun x : (Int × Int) => hansomref04_word_l8 s_ n_ x.1 x.2) (0, 0)).bind fun e_1 =>
  (loopO (fun x : Int => hansomref04_word_l34 s_ e_1 x) e_1).bind fun e_2 =>
  if (decide (e_1 ≥ (s_.length : Int))) then
    some ([] : List UInt8)
  else
    (cutL s_ e_1 e_2).bind fun z_1 =>
    some z_1
/-- hansom/hansomref04.Name -/
noncomputable def hansomref04_Name (n_ : Int) : Option (List UInt8) :=
  if (decide (n_ < 1)) then
    some ([63] : List UInt8)
  else
    if (decide (n_ > 95)) then
      some ([63] : List UInt8)
    else
      (hansomref04_word ([65, 68, 68, 32, 79, 82, 32, 65, 68, 67, 32, 83, 66, 66, 32, 65, 78, 68, 32, 83, 85, 66, 32, 88, 79, 82, 32, 67, 77, 80, 32, 80, 85, 83, 72, 32, 80, 79, 80, 32, 68, 65, 65, 32, 68, 65, 83, 32, 65, 65, 65, 32, 65, 65, 83, 32, 73, 78, 67, 32, 68, 69, 67, 32, 74, 79, 32, 74, 78, 79, 32, 74, 66, 32, 74, 78, 66, 32, 74, 90, 32, 74, 78, 90, 32, 74, 66, 69, 32, 74, 65, 32, 74, 83, 32, 74, 78, 83, 32, 74, 80, 32, 74, 78, 80, 32, 74, 76, 32, 74, 71, 69, 32, 74, 76, 69, 32, 74, 71, 32, 84, 69, 83, 84, 32, 88, 67, 72, 71, 32, 77, 79, 86, 32, 76, 69, 65, 32, 67, 66, 87, 32, 67, 87, 68, 32, 67, 65, 76, 76, 32, 67, 65, 76, 76, 70, 32, 87, 65, 73, 84, 32, 80, 85, 83, 72, 70, 32, 80, 79, 80, 70, 32, 83, 65, 72, 70, 32, 76, 65, 72, 70, 32, 77, 79, 86, 83, 66, 32, 77, 79, 86, 83, 87, 32, 67, 77, 80, 83, 66, 32, 67, 77, 80, 83, 87, 32, 83, 84, 79, 83, 66, 32, 83, 84, 79, 83, 87, 32, 76, 79, 68, 83, 66, 32, 76, 79, 68, 83, 87, 32, 83, 67, 65, 83, 66, 32, 83, 67, 65, 83, 87, 32, 82, 69, 84, 32, 82, 69, 84, 70, 32, 76, 69, 83, 32, 76, 68, 83, 32, 73, 78, 84, 32, 73, 78, 84, 79, 32, 73, 82, 69, 84, 32, 82, 79, 76, 32, 82, 79, 82, 32, 82, 67, 76, 32, 82, 67, 82, 32, 83, 72, 76, 32, 83, 72, 82, 32, 83, 65, 82, 32, 65, 65, 77, 32, 65, 65, 68, 32, 88, 76, 65, 84, 32, 69, 83, 67, 32, 76, 79, 79, 80, 78, 90, 32, 76, 79, 79, 80, 90, 32, 76, 79, 79, 80, 32, 74, 67, 88, 90, 32, 73, 78, 32, 79, 85, 84, 32, 74, 77, 80, 32, 74, 77, 80, 70, 32, 72, 76, 84, 32, 67, 77, 67, 32, 78, 79, 84, 32, 78, 69, 71, 32, 77, 85, 76, 32, 73, 77, 85, 76, 32, 68, 73, 86, 32, 73, 68, 73, 86, 32, 67, 76, 67, 32, 83, 84, 67, 32, 67, 76, 73, 32, 83, 84, 73, 32, 67, 76, 68, 32, 83, 84, 68, 32] : List UInt8) (IntKind.wrap .i64 (n_ - 1))).bind fun r_1 =>
      some r_1
/-- hansom/disp.Reg -/
noncomputable def disp_Reg (n_ : Int) : Option (List UInt8) :=
  (disp_nth ([65, 88, 32, 67, 88, 32, 68, 88, 32, 66, 88, 32, 83, 80, 32, 66, 80, 32, 83, 73, 32, 68, 73] : List UInt8) n_).bind fun r_1 =>
  some r_1
/-- hansom/hansomref17.of -/
noncomputable def hansomref17_of (l_ : (List (List UInt8))) (n_ : Int) : Option (List UInt8) :=
  if (decide (n_ < 0)) then
    some ([63] : List UInt8)
  else
    if (decide (n_ ≥ (l_.length : Int))) then
      some ([63] : List UInt8)
    else
      (idx l_ n_).bind fun z_1 =>
      some z_1
/-- hansom/hansomref17.Reg -/
noncomputable def hansomref17_Reg (n_ : Int) : Option (List UInt8) :=
  (hansomref17_of ([([65, 88] : List UInt8), ([67, 88] : List UInt8), ([68, 88] : List UInt8), ([66, 88] : List UInt8), ([83, 80] : List UInt8), ([66, 80] : List UInt8), ([83, 73] : List UInt8), ([68, 73] : List UInt8)] : List (List UInt8)) n_).bind fun r_1 =>
  some r_1
/-- hansom/disp.Byte -/
noncomputable def disp_Byte (n_ : Int) : Option (List UInt8) :=
  (disp_nth ([65, 76, 32, 67, 76, 32, 68, 76, 32, 66, 76, 32, 65, 72, 32, 67, 72, 32, 68, 72, 32, 66, 72] : List UInt8) n_).bind fun r_1 =>
  some r_1
/-- hansom/hansomref17.Byte -/
noncomputable def hansomref17_Byte (n_ : Int) : Option (List UInt8) :=
  (hansomref17_of ([([65, 76] : List UInt8), ([67, 76] : List UInt8), ([68, 76] : List UInt8), ([66, 76] : List UInt8), ([65, 72] : List UInt8), ([67, 72] : List UInt8), ([68, 72] : List UInt8), ([66, 72] : List UInt8)] : List (List UInt8)) n_).bind fun r_1 =>
  some r_1
/-- hansom/disp.Seg -/
noncomputable def disp_Seg (n_ : Int) : Option (List UInt8) :=
  (disp_nth ([69, 83, 32, 67, 83, 32, 83, 83, 32, 68, 83] : List UInt8) n_).bind fun r_1 =>
  some r_1
/-- hansom/hansomref17.Seg -/
noncomputable def hansomref17_Seg (n_ : Int) : Option (List UInt8) :=
  (hansomref17_of ([([69, 83] : List UInt8), ([67, 83] : List UInt8), ([83, 83] : List UInt8), ([68, 83] : List UInt8)] : List (List UInt8)) n_).bind fun r_1 =>
  some r_1
noncomputable def hansomref04_find_l8 (s0 : (List UInt8)) (w1 : (List UInt8)) (n5 : Int) (from6 : Int) (i7 : Int) : Option (Lp (Int × Int × Int) (Int ⊕ Unit)) :=
  if (decide (i7 < (s0.length : Int))) then
    (idx s0 i7).bind fun z_1 =>
    if ((z_1.toNat : Int) != 32) then
      some (.next (n5, from6, (IntKind.wrap .i64 (i7 + 1))))
    else
      (cutL s0 from6 i7).bind fun z_2 =>
      if (z_2 == w1) then
        some (.out (.inl n5))
      else
        some (.next ((IntKind.wrap .i64 (n5 + 1)), (IntKind.wrap .i64 (i7 + 1)), (IntKind.wrap .i64 (i7 + 1))))
  else
    some (.out (.inr ()))
/-- hansom/hansomref04.find -/
noncomputable def hansomref04_find (s_ : (List UInt8)) (w_ : (List UInt8)) : Option Int :=
  (loopO (fun x : (Int × Int × Int) => hansomref04_find_l8 s_ w_ x.1 x.2.1 x.2.2) (1, 0, 0)).bind fun e_1 =>
  match e_1 with
  | .inl e_2 =>
    some e_2
  | .inr e_3 =>
    some 0
/-- hansom/hansomref04.Find -/
noncomputable def hansomref04_Find (s_ : (List UInt8)) : Option Int :=
  (hansomref04_find ([65, 68, 68, 32, 79, 82, 32, 65, 68, 67, 32, 83, 66, 66, 32, 65, 78, 68, 32, 83, 85, 66, 32, 88, 79, 82, 32, 67, 77, 80, 32, 80, 85, 83, 72, 32, 80, 79, 80, 32, 68, 65, 65, 32, 68, 65, 83, 32, 65, 65, 65, 32, 65, 65, 83, 32, 73, 78, 67, 32, 68, 69, 67, 32, 74, 79, 32, 74, 78, 79, 32, 74, 66, 32, 74, 78, 66, 32, 74, 90, 32, 74, 78, 90, 32, 74, 66, 69, 32, 74, 65, 32, 74, 83, 32, 74, 78, 83, 32, 74, 80, 32, 74, 78, 80, 32, 74, 76, 32, 74, 71, 69, 32, 74, 76, 69, 32, 74, 71, 32, 84, 69, 83, 84, 32, 88, 67, 72, 71, 32, 77, 79, 86, 32, 76, 69, 65, 32, 67, 66, 87, 32, 67, 87, 68, 32, 67, 65, 76, 76, 32, 67, 65, 76, 76, 70, 32, 87, 65, 73, 84, 32, 80, 85, 83, 72, 70, 32, 80, 79, 80, 70, 32, 83, 65, 72, 70, 32, 76, 65, 72, 70, 32, 77, 79, 86, 83, 66, 32, 77, 79, 86, 83, 87, 32, 67, 77, 80, 83, 66, 32, 67, 77, 80, 83, 87, 32, 83, 84, 79, 83, 66, 32, 83, 84, 79, 83, 87, 32, 76, 79, 68, 83, 66, 32, 76, 79, 68, 83, 87, 32, 83, 67, 65, 83, 66, 32, 83, 67, 65, 83, 87, 32, 82, 69, 84, 32, 82, 69, 84, 70, 32, 76, 69, 83, 32, 76, 68, 83, 32, 73, 78, 84, 32, 73, 78, 84, 79, 32, 73, 82, 69, 84, 32, 82, 79, 76, 32, 82, 79, 82, 32, 82, 67, 76, 32, 82, 67, 82, 32, 83, 72, 76, 32, 83, 72, 82, 32, 83, 65, 82, 32, 65, 65, 77, 32, 65, 65, 68, 32, 88, 76, 65, 84, 32, 69, 83, 67, 32, 76, 79, 79, 80, 78, 90, 32, 76, 79, 79, 80, 90, 32, 76, 79, 79, 80, 32, 74, 67, 88, 90, 32, 73, 78, 32, 79, 85, 84, 32, 74, 77, 80, 32, 74, 77, 80, 70, 32, 72, 76, 84, 32, 67, 77, 67, 32, 78, 79, 84, 32, 78, 69, 71, 32, 77, 85, 76, 32, 73, 77, 85, 76, 32, 68, 73, 86, 32, 73, 68, 73, 86, 32, 67, 76, 67, 32, 83, 84, 67, 32, 67, 76, 73, 32, 83, 84, 73, 32, 67, 76, 68, 32, 83, 84, 68, 32] : List UInt8) s_).bind fun r_1 =>
  some r_1
/-- hansom/hansomlaw17.DispNames -/
noncomputable def hansomlaw17_DispNames (n_ : Int) (s_ : (List UInt8)) : Option Bool :=
  (cutL s_ 0 (mnI (s_.length : Int) 8)).bind fun z_1 =>
  (disp_Find z_1).bind fun r_1 =>
  (hansomlaw17_awake).bind fun r_2 =>
  if r_2 then
    (disp_Name n_).bind fun r_3 =>
    (hansomref04_Name n_).bind fun r_4 =>
    if (r_3 == r_4) then
      (disp_Reg n_).bind fun r_5 =>
      (hansomref17_Reg n_).bind fun r_6 =>
      if (r_5 == r_6) then
        (disp_Byte n_).bind fun r_7 =>
        (hansomref17_Byte n_).bind fun r_8 =>
        if (r_7 == r_8) then
          (disp_Seg n_).bind fun r_9 =>
          (hansomref17_Seg n_).bind fun r_10 =>
          if (r_9 == r_10) then
            if (decide (n_ < 1)) then
              if (r_1 == 0) then
                (hansomref04_Find z_1).bind fun r_11 =>
                some (r_1 == r_11)
              else
                (disp_Name r_1).bind fun r_12 =>
                if (r_12 == z_1) then
                  (hansomref04_Find z_1).bind fun r_13 =>
                  some (r_1 == r_13)
                else
                  some false
            else
              if (decide (n_ > 95)) then
                if (r_1 == 0) then
                  (hansomref04_Find z_1).bind fun r_14 =>
                  some (r_1 == r_14)
                else
                  (disp_Name r_1).bind fun r_15 =>
                  if (r_15 == z_1) then
                    (hansomref04_Find z_1).bind fun r_16 =>
                    some (r_1 == r_16)
                  else
                    some false
              else
                (disp_Name n_).bind fun r_17 =>
                (disp_Find r_17).bind fun r_18 =>
                if (r_18 == n_) then
                  if (r_1 == 0) then
                    (hansomref04_Find z_1).bind fun r_19 =>
                    some (r_1 == r_19)
                  else
                    (disp_Name r_1).bind fun r_20 =>
                    if (r_20 == z_1) then
                      (hansomref04_Find z_1).bind fun r_21 =>
                      some (r_1 == r_21)
                    else
                      some false
                else
                  some false
          else
            some false
        else
          some false
      else
        some false
    else
      some false
  else
    some false
end Go.Es.Dsn
