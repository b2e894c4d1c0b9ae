/- What the functions that the law PickJumps reaches answer, in plain Lean. No condition. -/
import Derived.Test.YtbdmoaofbacfpaaDoorEsD
set_option linter.unusedVariables false
set_option linter.unusedSimpArgs false
set_option maxRecDepth 100000
set_option maxHeartbeats 4000000
namespace Go.Es.Pkj
structure api_Value where
  N : Int
  From : Int
  Which : Int
  Type_ : Int
  Wants : Int
  Known : Bool
  deriving DecidableEq, Inhabited
def api_Value.cs (x : api_Value) : List D := [.int .i64 x.N, .int .i64 x.From, .int .i64 x.Which, .int .i64 x.Type_, .int .i64 x.Wants, .bool x.Known]
def api_Value.d (x : api_Value) : D := .agg (api_Value.cs x)
structure Operand where
  Kind : Int
  N : Int
  RM : Int
  V : api_Value
  Type_ : Int
  Over : Int
  Short : Bool
  deriving DecidableEq, Inhabited
def Operand.cs (x : Operand) : List D := [.int .i64 x.Kind, .int .i64 x.N, .int .i64 x.RM, .int .i64 x.V.N, .int .i64 x.V.From, .int .i64 x.V.Which, .int .i64 x.V.Type_, .int .i64 x.V.Wants, .bool x.V.Known, .int .i64 x.Type_, .int .i64 x.Over, .bool x.Short]
def Operand.d (x : Operand) : D := .agg (Operand.cs x)
structure Inst where
  Lock : Bool
  Rep : Int
  Seg : Int
  Op : Int
  Mod : Int
  Reg : Int
  RM : Int
  Disp : Int
  Imm : Int
  Sel : Int
  deriving DecidableEq, Inhabited
def Inst.cs (x : Inst) : List D := [.bool x.Lock, .int .i64 x.Rep, .int .i64 x.Seg, .int .u8 x.Op, .int .i64 x.Mod, .int .i64 x.Reg, .int .i64 x.RM, .int .u16 x.Disp, .int .u16 x.Imm, .int .u16 x.Sel]
def Inst.d (x : Inst) : D := .agg (Inst.cs x)
structure Choice where
  I : Inst
  Disp : api_Value
  Imm : api_Value
  HasD : Bool
  HasI : Bool
  Jumps : Bool
  deriving DecidableEq, Inhabited
def Choice.cs (x : Choice) : List D := [.bool x.I.Lock, .int .i64 x.I.Rep, .int .i64 x.I.Seg, .int .u8 x.I.Op, .int .i64 x.I.Mod, .int .i64 x.I.Reg, .int .i64 x.I.RM, .int .u16 x.I.Disp, .int .u16 x.I.Imm, .int .u16 x.I.Sel, .int .i64 x.Disp.N, .int .i64 x.Disp.From, .int .i64 x.Disp.Which, .int .i64 x.Disp.Type_, .int .i64 x.Disp.Wants, .bool x.Disp.Known, .int .i64 x.Imm.N, .int .i64 x.Imm.From, .int .i64 x.Imm.Which, .int .i64 x.Imm.Type_, .int .i64 x.Imm.Wants, .bool x.Imm.Known, .bool x.HasD, .bool x.HasI, .bool x.Jumps]
def Choice.d (x : Choice) : D := .agg (Choice.cs x)
structure Row where
  Name : Int
  A : Int
  B : Int
  Mod : Bool
  deriving DecidableEq, Inhabited
def Row.cs (x : Row) : List D := [.int .i64 x.Name, .int .i64 x.A, .int .i64 x.B, .bool x.Mod]
def Row.d (x : Row) : D := .agg (Row.cs x)
def api_Value.wf (x : api_Value) : Prop := wfI .i64 x.N ∧ wfI .i64 x.From ∧ wfI .i64 x.Which ∧ wfI .i64 x.Type_ ∧ wfI .i64 x.Wants ∧ (fun _ => True) x.Known
def Operand.wf (x : Operand) : Prop := wfI .i64 x.Kind ∧ wfI .i64 x.N ∧ wfI .i64 x.RM ∧ api_Value.wf x.V ∧ wfI .i64 x.Type_ ∧ wfI .i64 x.Over ∧ (fun _ => True) x.Short
def Inst.wf (x : Inst) : Prop := (fun _ => True) x.Lock ∧ wfI .i64 x.Rep ∧ wfI .i64 x.Seg ∧ wfI .u8 x.Op ∧ wfI .i64 x.Mod ∧ wfI .i64 x.Reg ∧ wfI .i64 x.RM ∧ wfI .u16 x.Disp ∧ wfI .u16 x.Imm ∧ wfI .u16 x.Sel
def Choice.wf (x : Choice) : Prop := Inst.wf x.I ∧ api_Value.wf x.Disp ∧ api_Value.wf x.Imm ∧ (fun _ => True) x.HasD ∧ (fun _ => True) x.HasI ∧ (fun _ => True) x.Jumps
def Row.wf (x : Row) : Prop := wfI .i64 x.Name ∧ wfI .i64 x.A ∧ wfI .i64 x.B ∧ (fun _ => True) x.Mod
/-- strings.Fields -/
noncomputable def strings_Fields (a0_ : (List UInt8)) : Option (List (List UInt8)) :=
  if a0_ = [65, 68, 68, 32, 79, 82, 32, 65, 68, 67, 32, 83, 66, 66, 32, 65, 78, 68, 32, 83, 85, 66, 32, 88, 79, 82, 32, 67, 77, 80, 32, 80, 85, 83, 72, 32, 80, 79, 80, 32, 68, 65, 65, 32, 68, 65, 83, 32, 65, 65, 65, 32, 65, 65, 83, 32, 73, 78, 67, 32, 68, 69, 67, 32, 74, 79, 32, 74, 78, 79, 32, 74, 66, 32, 74, 78, 66, 32, 74, 90, 32, 74, 78, 90, 32, 74, 66, 69, 32, 74, 65, 32, 74, 83, 32, 74, 78, 83, 32, 74, 80, 32, 74, 78, 80, 32, 74, 76, 32, 74, 71, 69, 32, 74, 76, 69, 32, 74, 71, 32, 84, 69, 83, 84, 32, 88, 67, 72, 71, 32, 77, 79, 86, 32, 76, 69, 65, 32, 67, 66, 87, 32, 67, 87, 68, 32, 67, 65, 76, 76, 32, 67, 65, 76, 76, 70, 32, 87, 65, 73, 84, 32, 80, 85, 83, 72, 70, 32, 80, 79, 80, 70, 32, 83, 65, 72, 70, 32, 76, 65, 72, 70, 32, 77, 79, 86, 83, 66, 32, 77, 79, 86, 83, 87, 32, 67, 77, 80, 83, 66, 32, 67, 77, 80, 83, 87, 32, 83, 84, 79, 83, 66, 32, 83, 84, 79, 83, 87, 32, 76, 79, 68, 83, 66, 32, 76, 79, 68, 83, 87, 32, 83, 67, 65, 83, 66, 32, 83, 67, 65, 83, 87, 32, 82, 69, 84, 32, 82, 69, 84, 70, 32, 76, 69, 83, 32, 76, 68, 83, 32, 73, 78, 84, 32, 73, 78, 84, 79, 32, 73, 82, 69, 84, 32, 82, 79, 76, 32, 82, 79, 82, 32, 82, 67, 76, 32, 82, 67, 82, 32, 83, 72, 76, 32, 83, 72, 82, 32, 83, 65, 82, 32, 65, 65, 77, 32, 65, 65, 68, 32, 88, 76, 65, 84, 32, 69, 83, 67, 32, 76, 79, 79, 80, 78, 90, 32, 76, 79, 79, 80, 90, 32, 76, 79, 79, 80, 32, 74, 67, 88, 90, 32, 73, 78, 32, 79, 85, 84, 32, 74, 77, 80, 32, 74, 77, 80, 70, 32, 72, 76, 84, 32, 67, 77, 67, 32, 78, 79, 84, 32, 78, 69, 71, 32, 77, 85, 76, 32, 73, 77, 85, 76, 32, 68, 73, 86, 32, 73, 68, 73, 86, 32, 67, 76, 67, 32, 83, 84, 67, 32, 67, 76, 73, 32, 83, 84, 73, 32, 67, 76, 68, 32, 83, 84, 68] then some [[65, 68, 68], [79, 82], [65, 68, 67], [83, 66, 66], [65, 78, 68], [83, 85, 66], [88, 79, 82], [67, 77, 80], [80, 85, 83, 72], [80, 79, 80], [68, 65, 65], [68, 65, 83], [65, 65, 65], [65, 65, 83], [73, 78, 67], [68, 69, 67], [74, 79], [74, 78, 79], [74, 66], [74, 78, 66], [74, 90], [74, 78, 90], [74, 66, 69], [74, 65], [74, 83], [74, 78, 83], [74, 80], [74, 78, 80], [74, 76], [74, 71, 69], [74, 76, 69], [74, 71], [84, 69, 83, 84], [88, 67, 72, 71], [77, 79, 86], [76, 69, 65], [67, 66, 87], [67, 87, 68], [67, 65, 76, 76], [67, 65, 76, 76, 70], [87, 65, 73, 84], [80, 85, 83, 72, 70], [80, 79, 80, 70], [83, 65, 72, 70], [76, 65, 72, 70], [77, 79, 86, 83, 66], [77, 79, 86, 83, 87], [67, 77, 80, 83, 66], [67, 77, 80, 83, 87], [83, 84, 79, 83, 66], [83, 84, 79, 83, 87], [76, 79, 68, 83, 66], [76, 79, 68, 83, 87], [83, 67, 65, 83, 66], [83, 67, 65, 83, 87], [82, 69, 84], [82, 69, 84, 70], [76, 69, 83], [76, 68, 83], [73, 78, 84], [73, 78, 84, 79], [73, 82, 69, 84], [82, 79, 76], [82, 79, 82], [82, 67, 76], [82, 67, 82], [83, 72, 76], [83, 72, 82], [83, 65, 82], [65, 65, 77], [65, 65, 68], [88, 76, 65, 84], [69, 83, 67], [76, 79, 79, 80, 78, 90], [76, 79, 79, 80, 90], [76, 79, 79, 80], [74, 67, 88, 90], [73, 78], [79, 85, 84], [74, 77, 80], [74, 77, 80, 70], [72, 76, 84], [67, 77, 67], [78, 79, 84], [78, 69, 71], [77, 85, 76], [73, 77, 85, 76], [68, 73, 86], [73, 68, 73, 86], [67, 76, 67], [83, 84, 67], [67, 76, 73], [83, 84, 73], [67, 76, 68], [83, 84, 68]] else
  if a0_ = [65, 88, 32, 67, 88, 32, 68, 88, 32, 66, 88, 32, 83, 80, 32, 66, 80, 32, 83, 73, 32, 68, 73] then some [[65, 88], [67, 88], [68, 88], [66, 88], [83, 80], [66, 80], [83, 73], [68, 73]] else
  if a0_ = [65, 76, 32, 67, 76, 32, 68, 76, 32, 66, 76, 32, 65, 72, 32, 67, 72, 32, 68, 72, 32, 66, 72] then some [[65, 76], [67, 76], [68, 76], [66, 76], [65, 72], [67, 72], [68, 72], [66, 72]] else
  if a0_ = [69, 83, 32, 67, 83, 32, 83, 83, 32, 68, 83] then some [[69, 83], [67, 83], [83, 83], [68, 83]] else
  none
noncomputable def pick_alias_j34 (s0 : (List UInt8)) (t3 : (List UInt8)) (t11 : Bool) : Option (List UInt8) :=
  if t11 then
    some ([74, 78, 66] : List UInt8)
  else
    if (t3 == ([74, 78, 65] : List UInt8)) then
      some ([74, 66, 69] : List UInt8)
    else
      if (t3 == ([74, 78, 66, 69] : List UInt8)) then
        some ([74, 65] : List UInt8)
      else
        if (t3 == ([74, 80, 69] : List UInt8)) then
          some ([74, 80] : List UInt8)
        else
          if (t3 == ([74, 80, 79] : List UInt8)) then
            some ([74, 78, 80] : List UInt8)
          else
            if (t3 == ([74, 78, 71, 69] : List UInt8)) then
              some ([74, 76] : List UInt8)
            else
              if (t3 == ([74, 78, 76] : List UInt8)) then
                some ([74, 71, 69] : List UInt8)
              else
                if (t3 == ([74, 78, 71] : List UInt8)) then
                  some ([74, 76, 69] : List UInt8)
                else
                  if (t3 == ([74, 78, 76, 69] : List UInt8)) then
                    some ([74, 71] : List UInt8)
                  else
                    if (t3 == ([76, 79, 79, 80, 69] : List UInt8)) then
                      some ([76, 79, 79, 80, 90] : List UInt8)
                    else
                      if (t3 == ([76, 79, 79, 80, 78, 69] : List UInt8)) then
                        some ([76, 79, 79, 80, 78, 90] : List UInt8)
                      else
                        if (t3 == ([83, 65, 76] : List UInt8)) then
                          some ([83, 72, 76] : List UInt8)
                        else
                          some s0
noncomputable def pick_alias_j24 (s0 : (List UInt8)) (t3 : (List UInt8)) (t8 : Bool) : Option (List UInt8) :=
  if t8 then
    some ([74, 66] : List UInt8)
  else
    if (t3 == ([74, 78, 67] : List UInt8)) then
      pick_alias_j34 s0 t3 true
    else
      pick_alias_j34 s0 t3 (t3 == ([74, 65, 69] : List UInt8))
/-- hansom/pick.alias -/
noncomputable def pick_alias (s_ : (List UInt8)) : Option (List UInt8) :=
  if (s_ == ([74, 69] : List UInt8)) then
    some ([74, 90] : List UInt8)
  else
    if (s_ == ([74, 78, 69] : List UInt8)) then
      some ([74, 78, 90] : List UInt8)
    else
      if (s_ == ([74, 67] : List UInt8)) then
        pick_alias_j24 s_ s_ true
      else
        pick_alias_j24 s_ s_ (s_ == ([74, 78, 65, 69] : List UInt8))
noncomputable def disp_Find_l6 (s0 : (List UInt8)) (t5 : (List (List UInt8))) (t6 : Int) (t7 : Int) : Option (Lp Int (Int ⊕ Unit)) :=
  if (decide (t7 < t6)) then
    (idx t5 t7).bind fun z_1 =>
    if (z_1 == s0) then
      some (.out (.inl (IntKind.wrap .i64 (t7 + 1))))
    else
      some (.next (IntKind.wrap .i64 (t7 + 1)))
  else
    some (.out (.inr ()))
/-- hansom/disp.Find -/
noncomputable def disp_Find (s_ : (List UInt8)) : Option Int :=
  (strings_Fields ([65, 68, 68, 32, 79, 82, 32, 65, 68, 67, 32, 83, 66, 66, 32, 65, 78, 68, 32, 83, 85, 66, 32, 88, 79, 82, 32, 67, 77, 80, 32, 80, 85, 83, 72, 32, 80, 79, 80, 32, 68, 65, 65, 32, 68, 65, 83, 32, 65, 65, 65, 32, 65, 65, 83, 32, 73, 78, 67, 32, 68, 69, 67, 32, 74, 79, 32, 74, 78, 79, 32, 74, 66, 32, 74, 78, 66, 32, 74, 90, 32, 74, 78, 90, 32, 74, 66, 69, 32, 74, 65, 32, 74, 83, 32, 74, 78, 83, 32, 74, 80, 32, 74, 78, 80, 32, 74, 76, 32, 74, 71, 69, 32, 74, 76, 69, 32, 74, 71, 32, 84, 69, 83, 84, 32, 88, 67, 72, 71, 32, 77, 79, 86, 32, 76, 69, 65, 32, 67, 66, 87, 32, 67, 87, 68, 32, 67, 65, 76, 76, 32, 67, 65, 76, 76, 70, 32, 87, 65, 73, 84, 32, 80, 85, 83, 72, 70, 32, 80, 79, 80, 70, 32, 83, 65, 72, 70, 32, 76, 65, 72, 70, 32, 77, 79, 86, 83, 66, 32, 77, 79, 86, 83, 87, 32, 67, 77, 80, 83, 66, 32, 67, 77, 80, 83, 87, 32, 83, 84, 79, 83, 66, 32, 83, 84, 79, 83, 87, 32, 76, 79, 68, 83, 66, 32, 76, 79, 68, 83, 87, 32, 83, 67, 65, 83, 66, 32, 83, 67, 65, 83, 87, 32, 82, 69, 84, 32, 82, 69, 84, 70, 32, 76, 69, 83, 32, 76, 68, 83, 32, 73, 78, 84, 32, 73, 78, 84, 79, 32, 73, 82, 69, 84, 32, 82, 79, 76, 32, 82, 79, 82, 32, 82, 67, 76, 32, 82, 67, 82, 32, 83, 72, 76, 32, 83, 72, 82, 32, 83, 65, 82, 32, 65, 65, 77, 32, 65, 65, 68, 32, 88, 76, 65, 84, 32, 69, 83, 67, 32, 76, 79, 79, 80, 78, 90, 32, 76, 79, 79, 80, 90, 32, 76, 79, 79, 80, 32, 74, 67, 88, 90, 32, 73, 78, 32, 79, 85, 84, 32, 74, 77, 80, 32, 74, 77, 80, 70, 32, 72, 76, 84, 32, 67, 77, 67, 32, 78, 79, 84, 32, 78, 69, 71, 32, 77, 85, 76, 32, 73, 77, 85, 76, 32, 68, 73, 86, 32, 73, 68, 73, 86, 32, 67, 76, 67, 32, 83, 84, 67, 32, 67, 76, 73, 32, 83, 84, 73, 32, 67, 76, 68, 32, 83, 84, 68] : List UInt8)).bind fun r_1 =>
  (loopO (fun x : Int => disp_Find_l6 s_ r_1 (r_1.length : Int) x) 0).bind fun e_1 =>
  match e_1 with
  | .inl e_2 =>
    some e_2
  | .inr e_3 =>
    some 0
/-- hansom/pick.Find -/
noncomputable def pick_Find (s_ : (List UInt8)) : Option (Int × Int) :=
  (pick_alias s_).bind fun r_1 =>
  (disp_Find r_1).bind fun r_2 =>
  if (r_2 == 80) then
    some (r_2, 81)
  else
    if (r_2 == 39) then
      some (r_2, 40)
    else
      some (r_2, 0)
/-- hansom/isa.Grouped -/
noncomputable def isa_Grouped (op_ : Int) : Option Bool :=
  if (op_ == 128) then
    some true
  else
    if (op_ == 129) then
      some true
    else
      if (op_ == 131) then
        some true
      else
        if (op_ == 143) then
          some true
        else
          if (op_ == 198) then
            some true
          else
            if (op_ == 199) then
              some true
            else
              if (op_ == 208) then
                some true
              else
                if (op_ == 209) then
                  some true
                else
                  if (op_ == 210) then
                    some true
                  else
                    if (op_ == 211) then
                      some true
                    else
                      if (op_ == 246) then
                        some true
                      else
                        if (op_ == 247) then
                          some true
                        else
                          if (op_ == 254) then
                            some true
                          else
                            if (op_ == 255) then
                              some true
                            else
                              some false
/-- hansom/isa.Prefix -/
noncomputable def isa_Prefix (b_ : Int) : Option Bool :=
  if (b_ == 38) then
    some true
  else
    if (b_ == 46) then
      some true
    else
      if (b_ == 54) then
        some true
      else
        if (b_ == 62) then
          some true
        else
          if (b_ == 240) then
            some true
          else
            if (b_ == 242) then
              some true
            else
              if (b_ == 243) then
                some true
              else
                some false
/-- hansom/isa.mod -/
noncomputable def isa_mod (name_ : Int) (a_ : Int) (b_ : Int) : Option (Row × Bool) :=
  some (({ Name := name_, A := a_, B := b_, Mod := true } : Row), true)
/-- hansom/isa.row -/
noncomputable def isa_row (name_ : Int) (a_ : Int) (b_ : Int) : Option (Row × Bool) :=
  some (({ Name := name_, A := a_, B := b_, Mod := false } : Row), true)
/-- hansom/isa.bad -/
noncomputable def isa_bad  : Option (Row × Bool) :=
  some (({ Name := 0, A := 0, B := 0, Mod := false } : Row), false)
noncomputable def isa_sums_j77 (b_2 : Row) (t47 : Int) (t56 : Bool) : Option (Row × Bool) :=
  if t56 then
    (isa_row 10 23 0).bind fun r_8 =>
    some (r_8.1, r_8.2)
  else
    if (t47 == 39) then
      (isa_row 11 0 0).bind fun r_9 =>
      some (r_9.1, r_9.2)
    else
      if (t47 == 47) then
        (isa_row 12 0 0).bind fun r_10 =>
        some (r_10.1, r_10.2)
      else
        if (t47 == 55) then
          (isa_row 13 0 0).bind fun r_11 =>
          some (r_11.1, r_11.2)
        else
          if (t47 == 63) then
            (isa_row 14 0 0).bind fun r_12 =>
            some (r_12.1, r_12.2)
          else
            (isa_bad).bind fun r_13 =>
            some (r_13.1, r_13.2)
noncomputable def isa_sums_j63 (b_2 : Row) (t47 : Int) (t48 : Bool) : Option (Row × Bool) :=
  if t48 then
    (isa_row 9 23 0).bind fun r_7 =>
    some (r_7.1, r_7.2)
  else
    if (t47 == 7) then
      isa_sums_j77 b_2 t47 true
    else
      if (t47 == 23) then
        isa_sums_j77 b_2 t47 true
      else
        isa_sums_j77 b_2 t47 (t47 == 31)
/-- hansom/isa.sums -/
noncomputable def isa_sums (op_ : Int) : Option (Row × Bool) :=
  if ((bitsOp .and .u8 op_ 7) == 0) then
    (isa_mod (IntKind.wrap .i64 (1 + (IntKind.wrap .i64 (shrI .u8 op_ 3)))) 1 3).bind fun r_1 =>
    some (r_1.1, r_1.2)
  else
    if ((bitsOp .and .u8 op_ 7) == 1) then
      (isa_mod (IntKind.wrap .i64 (1 + (IntKind.wrap .i64 (shrI .u8 op_ 3)))) 2 4).bind fun r_2 =>
      some (r_2.1, r_2.2)
    else
      if ((bitsOp .and .u8 op_ 7) == 2) then
        (isa_mod (IntKind.wrap .i64 (1 + (IntKind.wrap .i64 (shrI .u8 op_ 3)))) 3 1).bind fun r_3 =>
        some (r_3.1, r_3.2)
      else
        if ((bitsOp .and .u8 op_ 7) == 3) then
          (isa_mod (IntKind.wrap .i64 (1 + (IntKind.wrap .i64 (shrI .u8 op_ 3)))) 4 2).bind fun r_4 =>
          some (r_4.1, r_4.2)
        else
          if ((bitsOp .and .u8 op_ 7) == 4) then
            (isa_row (IntKind.wrap .i64 (1 + (IntKind.wrap .i64 (shrI .u8 op_ 3)))) 14 6).bind fun r_5 =>
            some (r_5.1, r_5.2)
          else
            if ((bitsOp .and .u8 op_ 7) == 5) then
              (isa_row (IntKind.wrap .i64 (1 + (IntKind.wrap .i64 (shrI .u8 op_ 3)))) 16 7).bind fun r_6 =>
              some (r_6.1, r_6.2)
            else
              if (op_ == 6) then
                isa_sums_j63 ({ Name := 0, A := 0, B := 0, Mod := false } : Row) op_ true
              else
                if (op_ == 14) then
                  isa_sums_j63 ({ Name := 0, A := 0, B := 0, Mod := false } : Row) op_ true
                else
                  if (op_ == 22) then
                    isa_sums_j63 ({ Name := 0, A := 0, B := 0, Mod := false } : Row) op_ true
                  else
                    isa_sums_j63 ({ Name := 0, A := 0, B := 0, Mod := false } : Row) op_ (op_ == 30)
/-- hansom/isa.moves -/
noncomputable def isa_moves (op_ : Int) (reg_ : Int) : Option (Row × Bool) :=
  if (op_ == 128) then
    (isa_mod (IntKind.wrap .i64 (1 + reg_)) 1 6).bind fun r_1 =>
    some (r_1.1, r_1.2)
  else
    if (op_ == 129) then
      (isa_mod (IntKind.wrap .i64 (1 + reg_)) 2 7).bind fun r_2 =>
      some (r_2.1, r_2.2)
    else
      if (op_ == 131) then
        if (reg_ == 1) then
          (isa_bad).bind fun r_3 =>
          some (r_3.1, r_3.2)
        else
          if (reg_ == 4) then
            (isa_bad).bind fun r_4 =>
            some (r_4.1, r_4.2)
          else
            if (reg_ == 6) then
              (isa_bad).bind fun r_5 =>
              some (r_5.1, r_5.2)
            else
              (isa_mod (IntKind.wrap .i64 (1 + reg_)) 2 8).bind fun r_6 =>
              some (r_6.1, r_6.2)
      else
        if (op_ == 132) then
          (isa_mod 33 1 3).bind fun r_7 =>
          some (r_7.1, r_7.2)
        else
          if (op_ == 133) then
            (isa_mod 33 2 4).bind fun r_8 =>
            some (r_8.1, r_8.2)
          else
            if (op_ == 134) then
              (isa_mod 34 1 3).bind fun r_9 =>
              some (r_9.1, r_9.2)
            else
              if (op_ == 135) then
                (isa_mod 34 2 4).bind fun r_10 =>
                some (r_10.1, r_10.2)
              else
                if (op_ == 136) then
                  (isa_mod 35 1 3).bind fun r_11 =>
                  some (r_11.1, r_11.2)
                else
                  if (op_ == 137) then
                    (isa_mod 35 2 4).bind fun r_12 =>
                    some (r_12.1, r_12.2)
                  else
                    if (op_ == 138) then
                      (isa_mod 35 3 1).bind fun r_13 =>
                      some (r_13.1, r_13.2)
                    else
                      if (op_ == 139) then
                        (isa_mod 35 4 2).bind fun r_14 =>
                        some (r_14.1, r_14.2)
                      else
                        if (op_ == 140) then
                          if (decide (reg_ < 4)) then
                            (isa_mod 35 2 5).bind fun r_15 =>
                            some (r_15.1, r_15.2)
                          else
                            (isa_bad).bind fun r_16 =>
                            some (r_16.1, r_16.2)
                        else
                          if (op_ == 141) then
                            (isa_mod 36 4 20).bind fun r_17 =>
                            some (r_17.1, r_17.2)
                          else
                            if (op_ == 142) then
                              if (decide (reg_ < 4)) then
                                if (reg_ != 1) then
                                  (isa_mod 35 5 2).bind fun r_18 =>
                                  some (r_18.1, r_18.2)
                                else
                                  (isa_bad).bind fun r_19 =>
                                  some (r_19.1, r_19.2)
                              else
                                (isa_bad).bind fun r_20 =>
                                some (r_20.1, r_20.2)
                            else
                              if (op_ == 143) then
                                if (reg_ == 0) then
                                  (isa_mod 10 2 0).bind fun r_21 =>
                                  some (r_21.1, r_21.2)
                                else
                                  (isa_bad).bind fun r_22 =>
                                  some (r_22.1, r_22.2)
                              else
                                (isa_bad).bind fun r_23 =>
                                some (r_23.1, r_23.2)
/-- hansom/isa.words -/
noncomputable def isa_words (op_ : Int) : Option (Row × Bool) :=
  if (decide (op_ < 152)) then
    (isa_row 34 16 22).bind fun r_1 =>
    some (r_1.1, r_1.2)
  else
    if (op_ == 154) then
      (isa_row 40 11 0).bind fun r_2 =>
      some (r_2.1, r_2.2)
    else
      (idx ([37, 38, 0, 41, 42, 43, 44, 45] : List Int) (IntKind.wrap .u8 (op_ - 152))).bind fun z_1 =>
      (isa_row z_1 0 0).bind fun r_3 =>
      some (r_3.1, r_3.2)
/-- hansom/isa.texts -/
noncomputable def isa_texts (op_ : Int) : Option (Row × Bool) :=
  if (op_ == 160) then
    (isa_row 35 14 12).bind fun r_1 =>
    some (r_1.1, r_1.2)
  else
    if (op_ == 161) then
      (isa_row 35 16 13).bind fun r_2 =>
      some (r_2.1, r_2.2)
    else
      if (op_ == 162) then
        (isa_row 35 12 14).bind fun r_3 =>
        some (r_3.1, r_3.2)
      else
        if (op_ == 163) then
          (isa_row 35 13 16).bind fun r_4 =>
          some (r_4.1, r_4.2)
        else
          if (op_ == 168) then
            (isa_row 33 14 6).bind fun r_5 =>
            some (r_5.1, r_5.2)
          else
            if (op_ == 169) then
              (isa_row 33 16 7).bind fun r_6 =>
              some (r_6.1, r_6.2)
            else
              if (decide (op_ < 168)) then
                (isa_row (IntKind.wrap .i64 (46 + (IntKind.wrap .i64 (IntKind.wrap .u8 (op_ - 164))))) 0 0).bind fun r_7 =>
                some (r_7.1, r_7.2)
              else
                (isa_row (IntKind.wrap .i64 (50 + (IntKind.wrap .i64 (IntKind.wrap .u8 (op_ - 170))))) 0 0).bind fun r_8 =>
                some (r_8.1, r_8.2)
/-- hansom/isa.backs -/
noncomputable def isa_backs (op_ : Int) (reg_ : Int) : Option (Row × Bool) :=
  if (op_ == 194) then
    (isa_row 56 7 0).bind fun r_1 =>
    some (r_1.1, r_1.2)
  else
    if (op_ == 195) then
      (isa_row 56 0 0).bind fun r_2 =>
      some (r_2.1, r_2.2)
    else
      if (op_ == 196) then
        (isa_mod 58 4 19).bind fun r_3 =>
        some (r_3.1, r_3.2)
      else
        if (op_ == 197) then
          (isa_mod 59 4 19).bind fun r_4 =>
          some (r_4.1, r_4.2)
        else
          if (op_ == 198) then
            if (reg_ == 0) then
              (isa_mod 35 1 6).bind fun r_5 =>
              some (r_5.1, r_5.2)
            else
              (isa_bad).bind fun r_6 =>
              some (r_6.1, r_6.2)
          else
            if (op_ == 199) then
              if (reg_ == 0) then
                (isa_mod 35 2 7).bind fun r_7 =>
                some (r_7.1, r_7.2)
              else
                (isa_bad).bind fun r_8 =>
                some (r_8.1, r_8.2)
            else
              if (op_ == 202) then
                (isa_row 57 7 0).bind fun r_9 =>
                some (r_9.1, r_9.2)
              else
                if (op_ == 203) then
                  (isa_row 57 0 0).bind fun r_10 =>
                  some (r_10.1, r_10.2)
                else
                  if (op_ == 204) then
                    (isa_row 60 24 0).bind fun r_11 =>
                    some (r_11.1, r_11.2)
                  else
                    if (op_ == 205) then
                      (isa_row 60 6 0).bind fun r_12 =>
                      some (r_12.1, r_12.2)
                    else
                      if (op_ == 206) then
                        (isa_row 61 0 0).bind fun r_13 =>
                        some (r_13.1, r_13.2)
                      else
                        if (op_ == 207) then
                          (isa_row 62 0 0).bind fun r_14 =>
                          some (r_14.1, r_14.2)
                        else
                          (isa_bad).bind fun r_15 =>
                          some (r_15.1, r_15.2)
/-- hansom/isa.turns -/
noncomputable def isa_turns (op_ : Int) (reg_ : Int) : Option (Row × Bool) :=
  if (decide (op_ < 212)) then
    if (reg_ == 6) then
      (isa_bad).bind fun r_1 =>
      some (r_1.1, r_1.2)
    else
      (idx ([63, 64, 65, 66, 67, 68, 0, 69] : List Int) reg_).bind fun z_1 =>
      if ((bitsOp .and .u8 op_ 1) == 1) then
        if ((bitsOp .and .u8 op_ 2) != 0) then
          (isa_mod z_1 2 15).bind fun r_2 =>
          some (r_2.1, r_2.2)
        else
          (isa_mod z_1 2 18).bind fun r_3 =>
          some (r_3.1, r_3.2)
      else
        if ((bitsOp .and .u8 op_ 2) != 0) then
          (isa_mod z_1 1 15).bind fun r_4 =>
          some (r_4.1, r_4.2)
        else
          (isa_mod z_1 1 18).bind fun r_5 =>
          some (r_5.1, r_5.2)
  else
    if (op_ == 212) then
      (isa_row 70 6 0).bind fun r_6 =>
      some (r_6.1, r_6.2)
    else
      if (op_ == 213) then
        (isa_row 71 6 0).bind fun r_7 =>
        some (r_7.1, r_7.2)
      else
        if (op_ == 215) then
          (isa_row 72 0 0).bind fun r_8 =>
          some (r_8.1, r_8.2)
        else
          if (decide (op_ ≥ 216)) then
            (isa_mod 73 2 0).bind fun r_9 =>
            some (r_9.1, r_9.2)
          else
            (isa_bad).bind fun r_10 =>
            some (r_10.1, r_10.2)
noncomputable def isa_goes_j20 (b_2 : Row) (op0 : Int) (t4 : Int) (t5 : Bool) : Option (Row × Bool) :=
  if t5 then
    (isa_row (IntKind.wrap .i64 (74 + (IntKind.wrap .i64 (IntKind.wrap .u8 (op0 - 224))))) 9 0).bind fun r_1 =>
    some (r_1.1, r_1.2)
  else
    if (t4 == 228) then
      (isa_row 78 14 6).bind fun r_2 =>
      some (r_2.1, r_2.2)
    else
      if (t4 == 229) then
        (isa_row 78 16 6).bind fun r_3 =>
        some (r_3.1, r_3.2)
      else
        if (t4 == 230) then
          (isa_row 79 6 14).bind fun r_4 =>
          some (r_4.1, r_4.2)
        else
          if (t4 == 231) then
            (isa_row 79 6 16).bind fun r_5 =>
            some (r_5.1, r_5.2)
          else
            if (t4 == 232) then
              (isa_row 39 10 0).bind fun r_6 =>
              some (r_6.1, r_6.2)
            else
              if (t4 == 233) then
                (isa_row 80 10 0).bind fun r_7 =>
                some (r_7.1, r_7.2)
              else
                if (t4 == 234) then
                  (isa_row 81 11 0).bind fun r_8 =>
                  some (r_8.1, r_8.2)
                else
                  if (t4 == 235) then
                    (isa_row 80 9 0).bind fun r_9 =>
                    some (r_9.1, r_9.2)
                  else
                    if (t4 == 236) then
                      (isa_row 78 14 17).bind fun r_10 =>
                      some (r_10.1, r_10.2)
                    else
                      if (t4 == 237) then
                        (isa_row 78 16 17).bind fun r_11 =>
                        some (r_11.1, r_11.2)
                      else
                        if (t4 == 238) then
                          (isa_row 79 17 14).bind fun r_12 =>
                          some (r_12.1, r_12.2)
                        else
                          (isa_row 79 17 16).bind fun r_13 =>
                          some (r_13.1, r_13.2)
/-- hansom/isa.goes -/
noncomputable def isa_goes (op_ : Int) : Option (Row × Bool) :=
  if (op_ == 224) then
    isa_goes_j20 ({ Name := 0, A := 0, B := 0, Mod := false } : Row) op_ op_ true
  else
    if (op_ == 225) then
      isa_goes_j20 ({ Name := 0, A := 0, B := 0, Mod := false } : Row) op_ op_ true
    else
      if (op_ == 226) then
        isa_goes_j20 ({ Name := 0, A := 0, B := 0, Mod := false } : Row) op_ op_ true
      else
        isa_goes_j20 ({ Name := 0, A := 0, B := 0, Mod := false } : Row) op_ op_ (op_ == 227)
noncomputable def isa_rest_j37 (b_4 : Row) (op0 : Int) (reg1 : Int) (e6 : Int) (i7 : Int) : Option (Row × Bool) :=
  if (decide (op0 < 248)) then
    if (reg1 == 0) then
      (isa_mod 33 e6 i7).bind fun r_5 =>
      some (r_5.1, r_5.2)
    else
      if (reg1 == 1) then
        (isa_bad).bind fun r_6 =>
        some (r_6.1, r_6.2)
      else
        (isa_mod (IntKind.wrap .i64 ((IntKind.wrap .i64 (84 + reg1)) - 2)) e6 0).bind fun r_7 =>
        some (r_7.1, r_7.2)
  else
    if (decide (reg1 < 2)) then
      (isa_mod (IntKind.wrap .i64 (15 + reg1)) e6 0).bind fun r_8 =>
      some (r_8.1, r_8.2)
    else
      if (op0 == 254) then
        (isa_bad).bind fun r_9 =>
        some (r_9.1, r_9.2)
      else
        if (reg1 == 7) then
          (isa_bad).bind fun r_10 =>
          some (r_10.1, r_10.2)
        else
          (idx ([39, 40, 80, 81, 9] : List Int) (IntKind.wrap .i64 (reg1 - 2))).bind fun z_1 =>
          if (reg1 == 3) then
            (isa_mod z_1 19 0).bind fun r_11 =>
            some (r_11.1, r_11.2)
          else
            if (reg1 == 5) then
              (isa_mod z_1 19 0).bind fun r_12 =>
              some (r_12.1, r_12.2)
            else
              (isa_mod z_1 e6 0).bind fun r_13 =>
              some (r_13.1, r_13.2)
noncomputable def isa_rest_j18 (b_4 : Row) (op0 : Int) (reg1 : Int) (t21 : Bool) : Option (Row × Bool) :=
  if t21 then
    (isa_row (IntKind.wrap .i64 (90 + (IntKind.wrap .i64 (IntKind.wrap .u8 (op0 - 248))))) 0 0).bind fun r_3 =>
    some (r_3.1, r_3.2)
  else
    if (decide (op0 < 246)) then
      (isa_bad).bind fun r_4 =>
      some (r_4.1, r_4.2)
    else
      if ((bitsOp .and .u8 op0 1) == 1) then
        isa_rest_j37 b_4 op0 reg1 2 7
      else
        isa_rest_j37 b_4 op0 reg1 1 6
/-- hansom/isa.rest -/
noncomputable def isa_rest (op_ : Int) (reg_ : Int) : Option (Row × Bool) :=
  if (op_ == 244) then
    (isa_row 82 0 0).bind fun r_1 =>
    some (r_1.1, r_1.2)
  else
    if (op_ == 245) then
      (isa_row 83 0 0).bind fun r_2 =>
      some (r_2.1, r_2.2)
    else
      if (decide (op_ ≥ 248)) then
        isa_rest_j18 ({ Name := 0, A := 0, B := 0, Mod := false } : Row) op_ reg_ (decide (op_ < 254))
      else
        isa_rest_j18 ({ Name := 0, A := 0, B := 0, Mod := false } : Row) op_ reg_ false
/-- hansom/isa.Of -/
noncomputable def isa_Of (op_ : Int) (reg_ : Int) : Option (Row × Bool) :=
  if (decide (op_ < 64)) then
    (isa_sums op_).bind fun r_1 =>
    some (r_1.1, r_1.2)
  else
    if (decide (op_ < 96)) then
      (idx ([15, 16, 9, 10] : List Int) (shrI .u8 (IntKind.wrap .u8 (op_ - 64)) 3)).bind fun z_1 =>
      (isa_row z_1 22 0).bind fun r_2 =>
      some (r_2.1, r_2.2)
    else
      if (decide (op_ < 112)) then
        (isa_bad).bind fun r_3 =>
        some (r_3.1, r_3.2)
      else
        if (decide (op_ < 128)) then
          (isa_row (IntKind.wrap .i64 (17 + (IntKind.wrap .i64 (IntKind.wrap .u8 (op_ - 112))))) 9 0).bind fun r_4 =>
          some (r_4.1, r_4.2)
        else
          if (decide (op_ < 144)) then
            (isa_moves op_ (bitsOp .and .i64 reg_ 7)).bind fun r_5 =>
            some (r_5.1, r_5.2)
          else
            if (decide (op_ < 160)) then
              (isa_words op_).bind fun r_6 =>
              some (r_6.1, r_6.2)
            else
              if (decide (op_ < 176)) then
                (isa_texts op_).bind fun r_7 =>
                some (r_7.1, r_7.2)
              else
                if (decide (op_ < 184)) then
                  (isa_row 35 21 6).bind fun r_8 =>
                  some (r_8.1, r_8.2)
                else
                  if (decide (op_ < 192)) then
                    (isa_row 35 22 7).bind fun r_9 =>
                    some (r_9.1, r_9.2)
                  else
                    if (decide (op_ < 208)) then
                      (isa_backs op_ (bitsOp .and .i64 reg_ 7)).bind fun r_10 =>
                      some (r_10.1, r_10.2)
                    else
                      if (decide (op_ < 224)) then
                        (isa_turns op_ (bitsOp .and .i64 reg_ 7)).bind fun r_11 =>
                        some (r_11.1, r_11.2)
                      else
                        if (decide (op_ < 240)) then
                          (isa_goes op_).bind fun r_12 =>
                          some (r_12.1, r_12.2)
                        else
                          (isa_rest op_ (bitsOp .and .i64 reg_ 7)).bind fun r_13 =>
                          some (r_13.1, r_13.2)
/-- hansom/pick.memory -/
noncomputable def pick_memory (o_ : Operand) (size_ : Int) : Option Bool :=
  if (o_.Kind == 5) then
    if (o_.Type_ == size_) then
      some true
    else
      if (o_.Type_ == 0) then
        some true
      else
        some (size_ == 0)
  else
    some false
/-- hansom/value.Plain -/
noncomputable def value_Plain (v_ : api_Value) : Option Bool :=
  if (v_.From == 0) then
    some (v_.Wants == 0)
  else
    some false
/-- hansom/pick.plain -/
noncomputable def pick_plain (o_ : Operand) : Option Bool :=
  if (o_.Kind == 4) then
    (value_Plain o_.V).bind fun r_1 =>
    if r_1 then
      some o_.V.Known
    else
      some false
  else
    some false
/-- hansom/value.Fits -/
noncomputable def value_Fits (n_ : Int) (size_ : Int) : Option Bool :=
  if (size_ == 1) then
    if (decide (n_ ≥ (-128))) then
      some (decide (n_ ≤ 255))
    else
      some false
  else
    if (decide (n_ ≥ (-32768))) then
      some (decide (n_ ≤ 65535))
    else
      some false
/-- hansom/pick.number -/
noncomputable def pick_number (o_ : Operand) : Option Bool :=
  if (o_.Kind == 4) then
    (value_Plain o_.V).bind fun r_1 =>
    if r_1 then
      some true
    else
      some (o_.V.Wants != 0)
  else
    some false
/-- hansom/bits.Low -/
noncomputable def bits_Low (w_ : Int) : Option Int :=
  some (IntKind.wrap .u8 w_)
/-- hansom/bits.Sign -/
noncomputable def bits_Sign (b_ : Int) : Option Int :=
  some (IntKind.wrap .u16 (IntKind.wrap .i16 (IntKind.wrap .i8 b_)))
/-- hansom/bits.Fits -/
noncomputable def bits_Fits (w_ : Int) : Option Bool :=
  (bits_Low w_).bind fun r_1 =>
  (bits_Sign r_1).bind fun r_2 =>
  some (r_2 == w_)
/-- hansom/pick.signed -/
noncomputable def pick_signed (n_ : Int) : Option Bool :=
  (bits_Fits (IntKind.wrap .u16 n_)).bind fun r_1 =>
  if r_1 then
    (value_Fits n_ 2).bind fun r_2 =>
    some r_2
  else
    some false
/-- hansom/pick.label -/
noncomputable def pick_label (o_ : Operand) (far_ : Bool) : Option Bool :=
  if (o_.Kind != 4) then
    some false
  else
    if (o_.V.Wants != 0) then
      some false
    else
      (value_Plain o_.V).bind fun r_1 =>
      if r_1 then
        if o_.V.Known then
          some false
        else
          some ((o_.Type_ == 102) == far_)
      else
        some ((o_.Type_ == 102) == far_)
/-- hansom/pick.direct -/
noncomputable def pick_direct (o_ : Operand) (size_ : Int) : Option Bool :=
  (pick_memory o_ size_).bind fun r_1 =>
  if r_1 then
    some (o_.RM == 8)
  else
    some false
/-- hansom/pick.fixed -/
noncomputable def pick_fixed (op_ : Int) (o_ : Operand) (first_ : Int) : Option Bool :=
  if (op_ == 14) then
    if (o_.Kind == 1) then
      some (o_.N == 0)
    else
      some false
  else
    if (op_ == 15) then
      if (o_.Kind == 1) then
        some (o_.N == 1)
      else
        some false
    else
      if (op_ == 16) then
        if (o_.Kind == 2) then
          some (o_.N == 0)
        else
          some false
      else
        if (op_ == 17) then
          if (o_.Kind == 2) then
            some (o_.N == 2)
          else
            some false
        else
          if (op_ == 18) then
            (pick_plain o_).bind fun r_1 =>
            if r_1 then
              some (o_.V.N == 1)
            else
              some false
          else
            if (op_ == 24) then
              (pick_plain o_).bind fun r_2 =>
              if r_2 then
                some (o_.V.N == 3)
              else
                some false
            else
              if (op_ == 21) then
                if (o_.Kind == 1) then
                  some (o_.N == (IntKind.wrap .i64 (bitsOp .and .u8 first_ 7)))
                else
                  some false
              else
                if (op_ == 22) then
                  if (o_.Kind == 2) then
                    some (o_.N == (IntKind.wrap .i64 (bitsOp .and .u8 first_ 7)))
                  else
                    some false
                else
                  if (op_ == 23) then
                    if (o_.Kind == 3) then
                      some (o_.N == (IntKind.wrap .i64 (bitsOp .and .u8 (shrI .u8 first_ 3) 3)))
                    else
                      some false
                  else
                    some false
/-- hansom/pick.Fits -/
noncomputable def pick_Fits (op_ : Int) (o_ : Operand) (first_ : Int) : Option Bool :=
  if (op_ == 0) then
    some (o_.Kind == 0)
  else
    if (op_ == 1) then
      if (o_.Kind == 1) then
        some true
      else
        (pick_memory o_ 1).bind fun r_1 =>
        some r_1
    else
      if (op_ == 2) then
        if (o_.Kind == 2) then
          some true
        else
          (pick_memory o_ 2).bind fun r_2 =>
          some r_2
      else
        if (op_ == 3) then
          some (o_.Kind == 1)
        else
          if (op_ == 4) then
            some (o_.Kind == 2)
          else
            if (op_ == 5) then
              some (o_.Kind == 3)
            else
              if (op_ == 6) then
                (pick_plain o_).bind fun r_3 =>
                if r_3 then
                  (value_Fits o_.V.N 1).bind fun r_4 =>
                  some r_4
                else
                  some false
              else
                if (op_ == 7) then
                  (pick_number o_).bind fun r_5 =>
                  if r_5 then
                    (value_Plain o_.V).bind fun r_6 =>
                    if (!r_6) then
                      some true
                    else
                      (value_Fits o_.V.N 2).bind fun r_7 =>
                      some r_7
                  else
                    some false
                else
                  if (op_ == 8) then
                    (pick_plain o_).bind fun r_8 =>
                    if r_8 then
                      (pick_signed o_.V.N).bind fun r_9 =>
                      some r_9
                    else
                      some false
                  else
                    if (op_ == 9) then
                      (pick_label o_ false).bind fun r_10 =>
                      some r_10
                    else
                      if (op_ == 10) then
                        (pick_label o_ false).bind fun r_11 =>
                        if r_11 then
                          some (!o_.Short)
                        else
                          some false
                      else
                        if (op_ == 11) then
                          (pick_label o_ true).bind fun r_12 =>
                          if r_12 then
                            some (!o_.Short)
                          else
                            some false
                        else
                          if (op_ == 12) then
                            (pick_direct o_ 1).bind fun r_13 =>
                            some r_13
                          else
                            if (op_ == 13) then
                              (pick_direct o_ 2).bind fun r_14 =>
                              some r_14
                            else
                              if (op_ == 20) then
                                (pick_memory o_ 0).bind fun r_15 =>
                                some r_15
                              else
                                if (op_ == 19) then
                                  if (o_.Kind == 5) then
                                    if (o_.Type_ == 4) then
                                      some true
                                    else
                                      some (o_.Type_ == 0)
                                  else
                                    some false
                                else
                                  (pick_fixed op_ o_ first_).bind fun r_16 =>
                                  some r_16
noncomputable def isa_Immediate_j16 (t3 : Int) (t4 : Bool) : Option Int :=
  if t4 then
    some 1
  else
    if (t3 == 7) then
      some 2
    else
      if (t3 == 10) then
        some 2
      else
        if (t3 == 12) then
          some 2
        else
          if (t3 == 13) then
            some 2
          else
            if (t3 == 11) then
              some 4
            else
              some 0
/-- hansom/isa.Immediate -/
noncomputable def isa_Immediate (op_ : Int) : Option Int :=
  if (op_ == 6) then
    isa_Immediate_j16 op_ true
  else
    if (op_ == 8) then
      isa_Immediate_j16 op_ true
    else
      isa_Immediate_j16 op_ (op_ == 9)
noncomputable def pick_sized_j19 (r2 : Row) (ops3 : (A2 Operand)) (k5 : Int) (t12 : (A2 Int)) (t13 : Int) (t50 : Bool) : Option (Lp Int (Bool ⊕ Unit)) :=
  if t50 then
    (idx ops3.l (IntKind.wrap .i64 (1 - k5))).bind fun z_4 =>
    if (z_4.Kind != 1) then
      if (z_4.Kind != 2) then
        if (z_4.Kind != 3) then
          some (.out (.inl false))
        else
          (isa_Immediate r2.B).bind fun r_1 =>
          if (r_1 == 0) then
            if (r2.B == 15) then
              some (.out (.inl false))
            else
              some (.next (IntKind.wrap .i64 (t13 + 1)))
          else
            some (.next (IntKind.wrap .i64 (t13 + 1)))
      else
        (isa_Immediate r2.B).bind fun r_2 =>
        if (r_2 == 0) then
          if (r2.B == 15) then
            some (.out (.inl false))
          else
            some (.next (IntKind.wrap .i64 (t13 + 1)))
        else
          some (.next (IntKind.wrap .i64 (t13 + 1)))
    else
      (isa_Immediate r2.B).bind fun r_3 =>
      if (r_3 == 0) then
        if (r2.B == 15) then
          some (.out (.inl false))
        else
          some (.next (IntKind.wrap .i64 (t13 + 1)))
      else
        some (.next (IntKind.wrap .i64 (t13 + 1)))
  else
    some (.next (IntKind.wrap .i64 (t13 + 1)))
noncomputable def pick_sized_l6 (r2 : Row) (ops3 : (A2 Operand)) (t12 : (A2 Int)) (t13 : Int) : Option (Lp Int (Bool ⊕ Unit)) :=
  if (decide (t13 < 2)) then
    (idx t12.l t13).bind fun z_1 =>
    if (z_1 == 1) then
      (idx ops3.l t13).bind fun z_2 =>
      if (z_2.Kind == 5) then
        (idx ops3.l t13).bind fun z_3 =>
        pick_sized_j19 r2 ops3 t13 t12 t13 (z_3.Type_ == 0)
      else
        pick_sized_j19 r2 ops3 t13 t12 t13 false
    else
      if (z_1 == 2) then
        (idx ops3.l t13).bind fun z_5 =>
        if (z_5.Kind == 5) then
          (idx ops3.l t13).bind fun z_6 =>
          pick_sized_j19 r2 ops3 t13 t12 t13 (z_6.Type_ == 0)
        else
          pick_sized_j19 r2 ops3 t13 t12 t13 false
      else
        if (z_1 == 19) then
          if (r2.Name != 58) then
            if (r2.Name != 59) then
              (idx ops3.l t13).bind fun z_7 =>
              if (z_7.Kind == 5) then
                (idx ops3.l t13).bind fun z_8 =>
                pick_sized_j19 r2 ops3 t13 t12 t13 (z_8.Type_ == 0)
              else
                pick_sized_j19 r2 ops3 t13 t12 t13 false
            else
              pick_sized_j19 r2 ops3 t13 t12 t13 false
          else
            pick_sized_j19 r2 ops3 t13 t12 t13 false
        else
          pick_sized_j19 r2 ops3 t13 t12 t13 false
  else
    some (.out (.inr ()))
/-- hansom/pick.sized -/
noncomputable def pick_sized (r_ : Row) (ops_ : (A2 Operand)) : Option Bool :=
  (loopO (fun x : Int => pick_sized_l6 r_ ops_ ({ a0 := r_.A, a1 := r_.B } : (A2 Int)) x) 0).bind fun e_1 =>
  match e_1 with
  | .inl e_2 =>
    some e_2
  | .inr e_3 =>
    some true
/-- hansom/isa.Memory -/
noncomputable def isa_Memory (op_ : Int) : Option Bool :=
  if (op_ == 1) then
    some true
  else
    if (op_ == 2) then
      some true
    else
      if (op_ == 19) then
        some true
      else
        some (op_ == 20)
/-- hansom/inst.Disps -/
noncomputable def inst_Disps (mod_ : Int) (rm_ : Int) : Option Int :=
  if (mod_ == 1) then
    some 1
  else
    if (mod_ == 2) then
      some 2
    else
      if (mod_ == 0) then
        if (rm_ == 6) then
          some 2
        else
          some 0
      else
        some 0
noncomputable def pick_second_j30 (c3 : Choice) (o5 : Operand) (b_6 : Choice) (known7 : Bool) (t39 : Bool) : Option Choice :=
  if t39 then
    (inst_Disps 0 c3.I.RM).bind fun r_4 =>
    some ({ I := ({ c3.I with Mod := 0 } : Inst), Disp := c3.Disp, Imm := c3.Imm, HasD := (r_4 == 2), HasI := c3.HasI, Jumps := c3.Jumps } : Choice)
  else
    if known7 then
      (pick_signed o5.V.N).bind fun r_5 =>
      if r_5 then
        (inst_Disps 1 c3.I.RM).bind fun r_6 =>
        some ({ I := ({ c3.I with Mod := 1 } : Inst), Disp := c3.Disp, Imm := c3.Imm, HasD := (r_6 == 2), HasI := c3.HasI, Jumps := c3.Jumps } : Choice)
      else
        (inst_Disps 2 c3.I.RM).bind fun r_7 =>
        some ({ I := ({ c3.I with Mod := 2 } : Inst), Disp := c3.Disp, Imm := c3.Imm, HasD := (r_7 == 2), HasI := c3.HasI, Jumps := c3.Jumps } : Choice)
    else
      (inst_Disps 2 c3.I.RM).bind fun r_8 =>
      some ({ I := ({ c3.I with Mod := 2 } : Inst), Disp := c3.Disp, Imm := c3.Imm, HasD := (r_8 == 2), HasI := c3.HasI, Jumps := c3.Jumps } : Choice)
noncomputable def pick_second_j20 (c3 : Choice) (o5 : Operand) (b_6 : Choice) (known7 : Bool) : Option Choice :=
  if (o5.RM == 8) then
    (inst_Disps 0 6).bind fun r_3 =>
    some ({ I := ({ c3.I with Mod := 0, RM := 6, Disp := (IntKind.wrap .u16 o5.V.N) } : Inst), Disp := c3.Disp, Imm := c3.Imm, HasD := (r_3 == 2), HasI := c3.HasI, Jumps := c3.Jumps } : Choice)
  else
    if known7 then
      if (o5.V.N == 0) then
        pick_second_j30 ({ I := ({ c3.I with RM := o5.RM, Disp := (IntKind.wrap .u16 o5.V.N) } : Inst), Disp := c3.Disp, Imm := c3.Imm, HasD := c3.HasD, HasI := c3.HasI, Jumps := c3.Jumps } : Choice) o5 b_6 true (o5.RM != 6)
      else
        pick_second_j30 ({ I := ({ c3.I with RM := o5.RM, Disp := (IntKind.wrap .u16 o5.V.N) } : Inst), Disp := c3.Disp, Imm := c3.Imm, HasD := c3.HasD, HasI := c3.HasI, Jumps := c3.Jumps } : Choice) o5 b_6 true false
    else
      pick_second_j30 ({ I := ({ c3.I with RM := o5.RM, Disp := (IntKind.wrap .u16 o5.V.N) } : Inst), Disp := c3.Disp, Imm := c3.Imm, HasD := c3.HasD, HasI := c3.HasI, Jumps := c3.Jumps } : Choice) o5 b_6 false false
noncomputable def pick_second_j6 (c3 : Choice) (o5 : Operand) (b_6 : Choice) (op1 : Int) (t73 : Bool) : Option Choice :=
  if t73 then
    some ({ I := ({ c3.I with Reg := o5.N } : Inst), Disp := c3.Disp, Imm := c3.Imm, HasD := c3.HasD, HasI := c3.HasI, Jumps := c3.Jumps } : Choice)
  else
    (isa_Memory op1).bind fun r_1 =>
    if (!r_1) then
      some c3
    else
      if (o5.Kind != 5) then
        some ({ I := ({ c3.I with Mod := 3, RM := o5.N } : Inst), Disp := c3.Disp, Imm := c3.Imm, HasD := c3.HasD, HasI := c3.HasI, Jumps := c3.Jumps } : Choice)
      else
        (value_Plain o5.V).bind fun r_2 =>
        if r_2 then
          pick_second_j20 ({ c3 with Disp := o5.V } : Choice) o5 b_6 o5.V.Known
        else
          pick_second_j20 ({ c3 with Disp := o5.V } : Choice) o5 b_6 false
/-- hansom/pick.second -/
noncomputable def pick_second (c_ : Choice) (op_ : Int) (o_ : Operand) : Option Choice :=
  if (op_ == 3) then
    pick_second_j6 c_ o_ ({ I := ({ Lock := false, Rep := 0, Seg := 0, Op := 0, Mod := 0, Reg := 0, RM := 0, Disp := 0, Imm := 0, Sel := 0 } : Inst), Disp := ({ N := 0, From := 0, Which := 0, Type_ := 0, Wants := 0, Known := false } : api_Value), Imm := ({ N := 0, From := 0, Which := 0, Type_ := 0, Wants := 0, Known := false } : api_Value), HasD := false, HasI := false, Jumps := false } : Choice) op_ true
  else
    if (op_ == 4) then
      pick_second_j6 c_ o_ ({ I := ({ Lock := false, Rep := 0, Seg := 0, Op := 0, Mod := 0, Reg := 0, RM := 0, Disp := 0, Imm := 0, Sel := 0 } : Inst), Disp := ({ N := 0, From := 0, Which := 0, Type_ := 0, Wants := 0, Known := false } : api_Value), Imm := ({ N := 0, From := 0, Which := 0, Type_ := 0, Wants := 0, Known := false } : api_Value), HasD := false, HasI := false, Jumps := false } : Choice) op_ true
    else
      pick_second_j6 c_ o_ ({ I := ({ Lock := false, Rep := 0, Seg := 0, Op := 0, Mod := 0, Reg := 0, RM := 0, Disp := 0, Imm := 0, Sel := 0 } : Inst), Disp := ({ N := 0, From := 0, Which := 0, Type_ := 0, Wants := 0, Known := false } : api_Value), Imm := ({ N := 0, From := 0, Which := 0, Type_ := 0, Wants := 0, Known := false } : api_Value), HasD := false, HasI := false, Jumps := false } : Choice) op_ (op_ == 5)
noncomputable def pick_behind_j32 (c3 : Choice) (o5 : Operand) (b_6 : Choice) (t7 : Int) (t39 : Bool) : Option Choice :=
  if t39 then
    some ({ c3 with Imm := o5.V, HasI := true, Jumps := true } : Choice)
  else
    if (t7 == 11) then
      some ({ c3 with Imm := o5.V, HasI := true } : Choice)
    else
      some c3
noncomputable def pick_behind_j24 (c3 : Choice) (o5 : Operand) (b_6 : Choice) (t7 : Int) (t25 : Bool) : Option Choice :=
  if t25 then
    some ({ I := ({ c3.I with Imm := (IntKind.wrap .u16 o5.V.N) } : Inst), Disp := c3.Disp, Imm := o5.V, HasD := c3.HasD, HasI := true, Jumps := c3.Jumps } : Choice)
  else
    if (t7 == 9) then
      pick_behind_j32 c3 o5 b_6 t7 true
    else
      pick_behind_j32 c3 o5 b_6 t7 (t7 == 10)
/-- hansom/pick.behind -/
noncomputable def pick_behind (c_ : Choice) (op_ : Int) (o_ : Operand) : Option Choice :=
  if (op_ == 6) then
    some ({ I := ({ c_.I with Imm := (bitsOp .and .u16 (IntKind.wrap .u16 o_.V.N) 255) } : Inst), Disp := c_.Disp, Imm := c_.Imm, HasD := c_.HasD, HasI := c_.HasI, Jumps := c_.Jumps } : Choice)
  else
    if (op_ == 8) then
      some ({ I := ({ c_.I with Imm := (IntKind.wrap .u16 o_.V.N) } : Inst), Disp := c_.Disp, Imm := c_.Imm, HasD := c_.HasD, HasI := c_.HasI, Jumps := c_.Jumps } : Choice)
    else
      if (op_ == 7) then
        pick_behind_j24 c_ o_ ({ I := ({ Lock := false, Rep := 0, Seg := 0, Op := 0, Mod := 0, Reg := 0, RM := 0, Disp := 0, Imm := 0, Sel := 0 } : Inst), Disp := ({ N := 0, From := 0, Which := 0, Type_ := 0, Wants := 0, Known := false } : api_Value), Imm := ({ N := 0, From := 0, Which := 0, Type_ := 0, Wants := 0, Known := false } : api_Value), HasD := false, HasI := false, Jumps := false } : Choice) op_ true
      else
        if (op_ == 12) then
          pick_behind_j24 c_ o_ ({ I := ({ Lock := false, Rep := 0, Seg := 0, Op := 0, Mod := 0, Reg := 0, RM := 0, Disp := 0, Imm := 0, Sel := 0 } : Inst), Disp := ({ N := 0, From := 0, Which := 0, Type_ := 0, Wants := 0, Known := false } : api_Value), Imm := ({ N := 0, From := 0, Which := 0, Type_ := 0, Wants := 0, Known := false } : api_Value), HasD := false, HasI := false, Jumps := false } : Choice) op_ true
        else
          pick_behind_j24 c_ o_ ({ I := ({ Lock := false, Rep := 0, Seg := 0, Op := 0, Mod := 0, Reg := 0, RM := 0, Disp := 0, Imm := 0, Sel := 0 } : Inst), Disp := ({ N := 0, From := 0, Which := 0, Type_ := 0, Wants := 0, Known := false } : api_Value), Imm := ({ N := 0, From := 0, Which := 0, Type_ := 0, Wants := 0, Known := false } : api_Value), HasD := false, HasI := false, Jumps := false } : Choice) op_ (op_ == 13)
noncomputable def pick_build_l14 (ops7 : (A2 Operand)) (b_8 : Choice) (c9 : Choice) (t28 : (A2 Int)) (t29 : Int) : Option (Lp (Choice × Int) Choice) :=
  if (decide (t29 < 2)) then
    (idx t28.l t29).bind fun z_1 =>
    (idx ops7.l t29).bind fun z_2 =>
    (pick_second c9 z_1 z_2).bind fun r_2 =>
    (idx ops7.l t29).bind fun z_3 =>
    (pick_behind r_2 z_1 z_3).bind fun r_3 =>
    some (.next (r_3, (IntKind.wrap .i64 (t29 + 1))))
  else
    some (.out c9)
noncomputable def pick_build_j10 (r6 : Row) (ops7 : (A2 Operand)) (b_8 : Choice) (c9 : Choice) : Option Choice :=
  (loopO (fun x : (Choice × Int) => pick_build_l14 ops7 b_8 x.1 ({ a0 := r6.A, a1 := r6.B } : (A2 Int)) x.2) (c9, 0)).bind fun e_1 =>
  some e_1
/-- hansom/pick.build -/
noncomputable def pick_build (first_ : Int) (reg_ : Int) (r_ : Row) (ops_ : (A2 Operand)) : Option Choice :=
  if r_.Mod then
    (isa_Grouped first_).bind fun r_1 =>
    if r_1 then
      pick_build_j10 ({ r_ with Mod := true } : Row) ops_ ({ I := ({ Lock := false, Rep := 0, Seg := 0, Op := 0, Mod := 0, Reg := 0, RM := 0, Disp := 0, Imm := 0, Sel := 0 } : Inst), Disp := ({ N := 0, From := 0, Which := 0, Type_ := 0, Wants := 0, Known := false } : api_Value), Imm := ({ N := 0, From := 0, Which := 0, Type_ := 0, Wants := 0, Known := false } : api_Value), HasD := false, HasI := false, Jumps := false } : Choice) ({ I := ({ Lock := false, Rep := 0, Seg := 0, Op := first_, Mod := 0, Reg := reg_, RM := 0, Disp := 0, Imm := 0, Sel := 0 } : Inst), Disp := ({ N := 0, From := 0, Which := 0, Type_ := 0, Wants := 0, Known := false } : api_Value), Imm := ({ N := 0, From := 0, Which := 0, Type_ := 0, Wants := 0, Known := false } : api_Value), HasD := false, HasI := false, Jumps := false } : Choice)
    else
      pick_build_j10 ({ r_ with Mod := true } : Row) ops_ ({ I := ({ Lock := false, Rep := 0, Seg := 0, Op := 0, Mod := 0, Reg := 0, RM := 0, Disp := 0, Imm := 0, Sel := 0 } : Inst), Disp := ({ N := 0, From := 0, Which := 0, Type_ := 0, Wants := 0, Known := false } : api_Value), Imm := ({ N := 0, From := 0, Which := 0, Type_ := 0, Wants := 0, Known := false } : api_Value), HasD := false, HasI := false, Jumps := false } : Choice) ({ I := ({ Lock := false, Rep := 0, Seg := 0, Op := first_, Mod := 0, Reg := 0, RM := 0, Disp := 0, Imm := 0, Sel := 0 } : Inst), Disp := ({ N := 0, From := 0, Which := 0, Type_ := 0, Wants := 0, Known := false } : api_Value), Imm := ({ N := 0, From := 0, Which := 0, Type_ := 0, Wants := 0, Known := false } : api_Value), HasD := false, HasI := false, Jumps := false } : Choice)
  else
    pick_build_j10 ({ r_ with Mod := false } : Row) ops_ ({ I := ({ Lock := false, Rep := 0, Seg := 0, Op := 0, Mod := 0, Reg := 0, RM := 0, Disp := 0, Imm := 0, Sel := 0 } : Inst), Disp := ({ N := 0, From := 0, Which := 0, Type_ := 0, Wants := 0, Known := false } : api_Value), Imm := ({ N := 0, From := 0, Which := 0, Type_ := 0, Wants := 0, Known := false } : api_Value), HasD := false, HasI := false, Jumps := false } : Choice) ({ I := ({ Lock := false, Rep := 0, Seg := 0, Op := first_, Mod := 0, Reg := 0, RM := 0, Disp := 0, Imm := 0, Sel := 0 } : Inst), Disp := ({ N := 0, From := 0, Which := 0, Type_ := 0, Wants := 0, Known := false } : api_Value), Imm := ({ N := 0, From := 0, Which := 0, Type_ := 0, Wants := 0, Known := false } : api_Value), HasD := false, HasI := false, Jumps := false } : Choice)
/-- hansom/inst.Row -/
noncomputable def inst_Row (i_ : Inst) : Option (Row × Bool) :=
  (isa_Prefix i_.Op).bind fun r_1 =>
  if r_1 then
    some (({ Name := 0, A := 0, B := 0, Mod := false } : Row), false)
  else
    (isa_Of i_.Op i_.Reg).bind fun r_2 =>
    some (r_2.1, r_2.2)
noncomputable def inst_second_j26 (i2 : Inst) : Option Bool :=
  (inst_Disps i2.Mod i2.RM).bind fun r_1 =>
  if (r_1 == 0) then
    some (i2.Disp == 0)
  else
    if (r_1 == 1) then
      (bits_Fits i2.Disp).bind fun r_2 =>
      some r_2
    else
      some true
/-- hansom/inst.second -/
noncomputable def inst_second (i_ : Inst) (r_ : Row) : Option Bool :=
  if (!r_.Mod) then
    if (i_.Mod == 0) then
      if (i_.Reg == 0) then
        if (i_.RM == 0) then
          some (i_.Disp == 0)
        else
          some false
      else
        some false
    else
      some false
  else
    if (decide (i_.Mod < 0)) then
      some false
    else
      if (decide (i_.Mod > 3)) then
        some false
      else
        if (decide (i_.Reg < 0)) then
          some false
        else
          if (decide (i_.Reg > 7)) then
            some false
          else
            if (decide (i_.RM < 0)) then
              some false
            else
              if (decide (i_.RM > 7)) then
                some false
              else
                if (i_.Mod == 3) then
                  if (r_.A == 19) then
                    some false
                  else
                    if (r_.B == 19) then
                      some false
                    else
                      if (r_.B == 20) then
                        some false
                      else
                        inst_second_j26 i_
                else
                  inst_second_j26 i_
noncomputable def inst_behind_j32 (i2 : Inst) (r3 : Row) (t11 : (A2 Int)) (t12 : Int) (t15 : Int) (t41 : Bool) : Option (Lp Int (Bool ⊕ Unit)) :=
  if t41 then
    (bits_Fits i2.Imm).bind fun r_1 =>
    if r_1 then
      some (.out (.inl (i2.Sel == 0)))
    else
      some (.out (.inl false))
  else
    if (t15 == 7) then
      some (.out (.inl (i2.Sel == 0)))
    else
      if (t15 == 10) then
        some (.out (.inl (i2.Sel == 0)))
      else
        if (t15 == 12) then
          some (.out (.inl (i2.Sel == 0)))
        else
          if (t15 == 13) then
            some (.out (.inl (i2.Sel == 0)))
          else
            if (t15 == 11) then
              some (.out (.inl true))
            else
              some (.next (IntKind.wrap .i64 (t12 + 1)))
noncomputable def inst_behind_l6 (i2 : Inst) (r3 : Row) (t11 : (A2 Int)) (t12 : Int) : Option (Lp Int (Bool ⊕ Unit)) :=
  if (decide (t12 < 2)) then
    (idx t11.l t12).bind fun z_1 =>
    if (z_1 == 6) then
      if (decide (i2.Imm < 256)) then
        if (i2.Sel == 0) then
          if (r3.Name != 70) then
            if (r3.Name != 71) then
              some (.out (.inl true))
            else
              some (.out (.inl (i2.Imm == 10)))
          else
            some (.out (.inl (i2.Imm == 10)))
        else
          some (.out (.inl false))
      else
        some (.out (.inl false))
    else
      if (z_1 == 8) then
        inst_behind_j32 i2 r3 t11 t12 z_1 true
      else
        inst_behind_j32 i2 r3 t11 t12 z_1 (z_1 == 9)
  else
    some (.out (.inr ()))
/-- hansom/inst.behind -/
noncomputable def inst_behind (i_ : Inst) (r_ : Row) : Option Bool :=
  (loopO (fun x : Int => inst_behind_l6 i_ r_ ({ a0 := r_.A, a1 := r_.B } : (A2 Int)) x) 0).bind fun e_1 =>
  match e_1 with
  | .inl e_2 =>
    some e_2
  | .inr e_3 =>
    if (i_.Imm == 0) then
      some (i_.Sel == 0)
    else
      some false
noncomputable def isa_Repeats_j28 (t3 : Int) (t4 : Bool) : Option Int :=
  if t4 then
    some 1
  else
    if (t3 == 48) then
      some 2
    else
      if (t3 == 49) then
        some 2
      else
        if (t3 == 54) then
          some 2
        else
          if (t3 == 55) then
            some 2
          else
            some 0
/-- hansom/isa.Repeats -/
noncomputable def isa_Repeats (name_ : Int) : Option Int :=
  if (name_ == 46) then
    isa_Repeats_j28 name_ true
  else
    if (name_ == 47) then
      isa_Repeats_j28 name_ true
    else
      if (name_ == 50) then
        isa_Repeats_j28 name_ true
      else
        if (name_ == 51) then
          isa_Repeats_j28 name_ true
        else
          if (name_ == 52) then
            isa_Repeats_j28 name_ true
          else
            isa_Repeats_j28 name_ (name_ == 53)
/-- hansom/inst.prefixes -/
noncomputable def inst_prefixes (i_ : Inst) (r_ : Row) : Option Bool :=
  (isa_Repeats r_.Name).bind fun r_1 =>
  if (i_.Rep == 0) then
    if (decide (i_.Seg ≥ 0)) then
      some (decide (i_.Seg ≤ 4))
    else
      some false
  else
    if (i_.Rep == 1) then
      if (decide (r_1 < 2)) then
        some false
      else
        if (decide (i_.Seg ≥ 0)) then
          some (decide (i_.Seg ≤ 4))
        else
          some false
    else
      if (i_.Rep == 2) then
        if (decide (r_1 < 1)) then
          some false
        else
          if (decide (i_.Seg ≥ 0)) then
            some (decide (i_.Seg ≤ 4))
          else
            some false
      else
        some false
/-- hansom/inst.May -/
noncomputable def inst_May (i_ : Inst) : Option Bool :=
  (inst_Row i_).bind fun r_1 =>
  if r_1.2 then
    (inst_second i_ r_1.1).bind fun r_2 =>
    if r_2 then
      (inst_behind i_ r_1.1).bind fun r_3 =>
      if r_3 then
        (inst_prefixes i_ r_1.1).bind fun r_4 =>
        some r_4
      else
        some false
    else
      some false
  else
    some false
/-- hansom/inst.Imms -/
noncomputable def inst_Imms (r_ : Row) : Option Int :=
  (isa_Immediate r_.A).bind fun r_1 =>
  (isa_Immediate r_.B).bind fun r_2 =>
  some (IntKind.wrap .i64 (r_1 + r_2))
noncomputable def inst_Len_j26 (i1 : Inst) (r3 : Row) (n5 : Int) : Option Int :=
  if (decide (i1.Seg > 0)) then
    if r3.Mod then
      (inst_Disps i1.Mod i1.RM).bind fun r_4 =>
      some (IntKind.wrap .i64 ((IntKind.wrap .i64 (n5 + 1)) + (IntKind.wrap .i64 (1 + r_4))))
    else
      some (IntKind.wrap .i64 (n5 + 1))
  else
    if r3.Mod then
      (inst_Disps i1.Mod i1.RM).bind fun r_5 =>
      some (IntKind.wrap .i64 (n5 + (IntKind.wrap .i64 (1 + r_5))))
    else
      some n5
noncomputable def inst_Len_j20 (i1 : Inst) (r3 : Row) (n5 : Int) : Option Int :=
  if (decide (i1.Rep > 0)) then
    inst_Len_j26 i1 r3 (IntKind.wrap .i64 (n5 + 1))
  else
    inst_Len_j26 i1 r3 n5
/-- hansom/inst.Len -/
noncomputable def inst_Len (i_ : Inst) : Option Int :=
  (inst_May i_).bind fun r_1 =>
  if (!r_1) then
    some 0
  else
    (inst_Row i_).bind fun r_2 =>
    (inst_Imms r_2.1).bind fun r_3 =>
    if i_.Lock then
      inst_Len_j20 ({ i_ with Lock := true } : Inst) r_2.1 (IntKind.wrap .i64 ((IntKind.wrap .i64 (1 + r_3)) + 1))
    else
      inst_Len_j20 ({ i_ with Lock := false } : Inst) r_2.1 (IntKind.wrap .i64 (1 + r_3))
noncomputable def pick_sorted_l20 (out3 : (List Choice)) (l0 : (List Choice)) (n4 : Int) (t11 : (List Choice)) (t12 : Int) (t13 : Int) : Option (Lp ((List Choice) × Int) (List Choice)) :=
  if (decide (t13 < t12)) then
    (idx t11 t13).bind fun z_1 =>
    (inst_Len z_1.I).bind fun r_1 =>
    if (r_1 == n4) then
      (grow 168 out3 ([z_1] : List Choice)).bind fun z_2 =>
      some (.next (z_2, (IntKind.wrap .i64 (t13 + 1))))
    else
      some (.next (out3, (IntKind.wrap .i64 (t13 + 1))))
  else
    some (.out out3)
noncomputable def pick_sorted_l8 (out3 : (List Choice)) (l0 : (List Choice)) (n4 : Int) : Option (Lp ((List Choice) × Int) (List Choice)) :=
  if (decide (n4 ≤ 12)) then
    (loopO (fun x : ((List Choice) × Int) => pick_sorted_l20 x.1 l0 n4 l0 (l0.length : Int) x.2) (out3, 0)).bind fun e_1 =>
    some (.next (e_1, (IntKind.wrap .i64 (n4 + 1))))
  else
    some (.out out3)
/-- hansom/pick.sorted -/
noncomputable def pick_sorted (l_ : (List Choice)) : Option (List Choice) :=
  (loopO (fun x : ((List Choice) × Int) => pick_sorted_l8 x.1 l_ x.2) (([] : List Choice), 1)).bind fun e_1 =>
  some e_1
noncomputable def pick_All_j27 (ops3 : (A2 Operand)) (out5 : (List Choice)) (name0 : Int) (first7 : Int) (reg8 : Int) (t12 : Int) : Option (Lp ((List Choice) × Int) (List Choice)) :=
  (isa_Of first7 reg8).bind fun r_3 =>
  if (!r_3.2) then
    some (.next (out5, (IntKind.wrap .i64 (t12 + 1))))
  else
    if (r_3.1.Name != name0) then
      some (.next (out5, (IntKind.wrap .i64 (t12 + 1))))
    else
      (pick_Fits r_3.1.A ops3.a0 first7).bind fun r_4 =>
      if (!r_4) then
        some (.next (out5, (IntKind.wrap .i64 (t12 + 1))))
      else
        (pick_Fits r_3.1.B ops3.a1 first7).bind fun r_5 =>
        if (!r_5) then
          some (.next (out5, (IntKind.wrap .i64 (t12 + 1))))
        else
          (pick_sized r_3.1 ops3).bind fun r_6 =>
          if (!r_6) then
            some (.next (out5, (IntKind.wrap .i64 (t12 + 1))))
          else
            (pick_build first7 reg8 r_3.1 ops3).bind fun r_7 =>
            (inst_May r_7.I).bind fun r_8 =>
            if r_8 then
              (grow 168 out5 ([r_7] : List Choice)).bind fun z_1 =>
              some (.next (z_1, (IntKind.wrap .i64 (t12 + 1))))
            else
              some (.next (out5, (IntKind.wrap .i64 (t12 + 1))))
noncomputable def pick_All_l8 (ops3 : (A2 Operand)) (out5 : (List Choice)) (name0 : Int) (t12 : Int) : Option (Lp ((List Choice) × Int) (List Choice)) :=
  if (decide (t12 < 2048)) then
    if (decide ((bitsOp .and .i64 t12 7) > 0)) then
      (isa_Grouped (IntKind.wrap .u8 (shrI .i64 t12 3))).bind fun r_1 =>
      if (!r_1) then
        some (.next (out5, (IntKind.wrap .i64 (t12 + 1))))
      else
        (isa_Prefix (IntKind.wrap .u8 (shrI .i64 t12 3))).bind fun r_2 =>
        if r_2 then
          some (.next (out5, (IntKind.wrap .i64 (t12 + 1))))
        else
          pick_All_j27 ops3 out5 name0 (IntKind.wrap .u8 (shrI .i64 t12 3)) (bitsOp .and .i64 t12 7) t12
    else
      (isa_Prefix (IntKind.wrap .u8 (shrI .i64 t12 3))).bind fun r_9 =>
      if r_9 then
        some (.next (out5, (IntKind.wrap .i64 (t12 + 1))))
      else
        pick_All_j27 ops3 out5 name0 (IntKind.wrap .u8 (shrI .i64 t12 3)) (bitsOp .and .i64 t12 7) t12
  else
    some (.out out5)
/-- hansom/pick.All -/
noncomputable def pick_All (name_ : Int) (ops_ : (A2 Operand)) : Option (List Choice) :=
  (loopO (fun x : ((List Choice) × Int) => pick_All_l8 ops_ x.1 name_ x.2) (([] : List Choice), 0)).bind fun e_1 =>
  (pick_sorted e_1).bind fun r_1 =>
  some r_1
noncomputable def pick_Pick_j12 (b_6 : Choice) (b_18 : (List Choice)) (long2 : Bool) : Option (Choice × Int) :=
  if ((b_18.length : Int) == 0) then
    some (({ I := ({ Lock := false, Rep := 0, Seg := 0, Op := 0, Mod := 0, Reg := 0, RM := 0, Disp := 0, Imm := 0, Sel := 0 } : Inst), Disp := ({ N := 0, From := 0, Which := 0, Type_ := 0, Wants := 0, Known := false } : api_Value), Imm := ({ N := 0, From := 0, Which := 0, Type_ := 0, Wants := 0, Known := false } : api_Value), HasD := false, HasI := false, Jumps := false } : Choice), 6)
  else
    if long2 then
      (idx b_18 0).bind fun z_2 =>
      if z_2.Jumps then
        if (decide ((b_18.length : Int) > 1)) then
          (idx b_18 1).bind fun z_3 =>
          some (z_3, 0)
        else
          (idx b_18 0).bind fun z_4 =>
          some (z_4, 0)
      else
        (idx b_18 0).bind fun z_5 =>
        some (z_5, 0)
    else
      (idx b_18 0).bind fun z_6 =>
      some (z_6, 0)
/-- hansom/pick.Pick -/
noncomputable def pick_Pick (word_ : (List UInt8)) (ops_ : (A2 Operand)) (long_ : Bool) : Option (Choice × Int) :=
  (pick_Find word_).bind fun r_1 =>
  (pick_All r_1.1 ops_).bind fun r_2 =>
  if (decide (r_1.2 > 0)) then
    (pick_All r_1.2 ops_).bind fun r_3 =>
    (grow 168 r_2 r_3).bind fun z_1 =>
    pick_Pick_j12 ({ I := ({ Lock := false, Rep := 0, Seg := 0, Op := 0, Mod := 0, Reg := 0, RM := 0, Disp := 0, Imm := 0, Sel := 0 } : Inst), Disp := ({ N := 0, From := 0, Which := 0, Type_ := 0, Wants := 0, Known := false } : api_Value), Imm := ({ N := 0, From := 0, Which := 0, Type_ := 0, Wants := 0, Known := false } : api_Value), HasD := false, HasI := false, Jumps := false } : Choice) z_1 long_
  else
    pick_Pick_j12 ({ I := ({ Lock := false, Rep := 0, Seg := 0, Op := 0, Mod := 0, Reg := 0, RM := 0, Disp := 0, Imm := 0, Sel := 0 } : Inst), Disp := ({ N := 0, From := 0, Which := 0, Type_ := 0, Wants := 0, Known := false } : api_Value), Imm := ({ N := 0, From := 0, Which := 0, Type_ := 0, Wants := 0, Known := false } : api_Value), HasD := false, HasI := false, Jumps := false } : Choice) r_2 long_
/-- hansom/hansomlaw34.awake -/
noncomputable def hansomlaw34_awake  : Option Bool :=
  (pick_Pick ([73, 78, 67] : List UInt8) ({ a0 := ({ Kind := 2, N := 0, RM := 0, V := ({ N := 0, From := 0, Which := 0, Type_ := 0, Wants := 0, Known := false } : api_Value), Type_ := 0, Over := 0, Short := false } : Operand), a1 := ({ Kind := 0, N := 0, RM := 0, V := ({ N := 0, From := 0, Which := 0, Type_ := 0, Wants := 0, Known := false } : api_Value), Type_ := 0, Over := 0, Short := false } : Operand) } : (A2 Operand)) false).bind fun r_1 =>
  (pick_Pick ([77, 79, 86] : List UInt8) ({ a0 := ({ Kind := 3, N := 1, RM := 0, V := ({ N := 0, From := 0, Which := 0, Type_ := 0, Wants := 0, Known := false } : api_Value), Type_ := 0, Over := 0, Short := false } : Operand), a1 := ({ Kind := 2, N := 0, RM := 0, V := ({ N := 0, From := 0, Which := 0, Type_ := 0, Wants := 0, Known := false } : api_Value), Type_ := 0, Over := 0, Short := false } : Operand) } : (A2 Operand)) false).bind fun r_2 =>
  if (r_1.2 == 0) then
    if (r_1.1.I.Op == 64) then
      some (r_2.2 == 6)
    else
      some false
  else
    some false
noncomputable def hansomlaw34_PickJumps_j40 (o7 : Operand) (c9 : Choice) (d11 : Choice) (g13 : Choice) (e10 : Int) (f12 : Int) (h14 : Int) (j17 : Int) (op18 : Int) : Option Bool :=
  (hansomlaw34_awake).bind fun r_6 =>
  if r_6 then
    if (e10 == 0) then
      if (c9.I.Op == op18) then
        if c9.Jumps then
          if (c9.Imm.N == o7.V.N && (c9.Imm.From == o7.V.From && (c9.Imm.Which == o7.V.Which && (c9.Imm.Type_ == o7.V.Type_ && (c9.Imm.Wants == o7.V.Wants && (c9.Imm.Known == o7.V.Known && true)))))) then
            if (f12 == 0) then
              if (d11.I.Op == 116) then
                if (h14 == 0) then
                  if (g13.I.Op == 232) then
                    if g13.Jumps then
                      some (j17 == 6)
                    else
                      some false
                  else
                    some false
                else
                  some false
              else
                some false
            else
              some false
          else
            some false
        else
          some false
      else
        some false
    else
      some false
  else
    some false
noncomputable def hansomlaw34_PickJumps_j10 (o7 : Operand) (long1 : Bool) (far2 : Bool) : Option Bool :=
  (pick_Pick ([74, 77, 80] : List UInt8) ({ a0 := o7, a1 := ({ Kind := 0, N := 0, RM := 0, V := ({ N := 0, From := 0, Which := 0, Type_ := 0, Wants := 0, Known := false } : api_Value), Type_ := 0, Over := 0, Short := false } : Operand) } : (A2 Operand)) long1).bind fun r_1 =>
  (pick_Pick ([74, 90] : List UInt8) ({ a0 := o7, a1 := ({ Kind := 0, N := 0, RM := 0, V := ({ N := 0, From := 0, Which := 0, Type_ := 0, Wants := 0, Known := false } : api_Value), Type_ := 0, Over := 0, Short := false } : Operand) } : (A2 Operand)) long1).bind fun r_2 =>
  (pick_Pick ([67, 65, 76, 76] : List UInt8) ({ a0 := o7, a1 := ({ Kind := 0, N := 0, RM := 0, V := ({ N := 0, From := 0, Which := 0, Type_ := 0, Wants := 0, Known := false } : api_Value), Type_ := 0, Over := 0, Short := false } : Operand) } : (A2 Operand)) long1).bind fun r_3 =>
  (pick_Pick ([67, 65, 76, 76] : List UInt8) ({ a0 := ({ o7 with Short := true } : Operand), a1 := ({ Kind := 0, N := 0, RM := 0, V := ({ N := 0, From := 0, Which := 0, Type_ := 0, Wants := 0, Known := false } : api_Value), Type_ := 0, Over := 0, Short := false } : Operand) } : (A2 Operand)) false).bind fun r_4 =>
  if far2 then
    (hansomlaw34_awake).bind fun r_5 =>
    if r_5 then
      if (r_1.2 == 0) then
        if (r_1.1.I.Op == 234) then
          if (!r_1.1.Jumps) then
            if r_1.1.HasI then
              if (r_2.2 == 6) then
                if (r_3.2 == 0) then
                  if (r_3.1.I.Op == 154) then
                    some (r_4.2 == 6)
                  else
                    some false
                else
                  some false
              else
                some false
            else
              some false
          else
            some false
        else
          some false
      else
        some false
    else
      some false
  else
    if long1 then
      hansomlaw34_PickJumps_j40 o7 r_1.1 r_2.1 r_3.1 r_1.2 r_2.2 r_3.2 r_4.2 233
    else
      hansomlaw34_PickJumps_j40 o7 r_1.1 r_2.1 r_3.1 r_1.2 r_2.2 r_3.2 r_4.2 235
/-- hansom/hansomlaw34.PickJumps -/
noncomputable def hansomlaw34_PickJumps (n_ : Int) (long_ : Bool) (far_ : Bool) : Option Bool :=
  if far_ then
    hansomlaw34_PickJumps_j10 ({ Kind := 4, N := 0, RM := 8, V := ({ N := (bitsOp .and .i64 n_ 65535), From := 1, Which := 1, Type_ := 101, Wants := 0, Known := true } : api_Value), Type_ := 102, Over := 0, Short := false } : Operand) long_ true
  else
    hansomlaw34_PickJumps_j10 ({ Kind := 4, N := 0, RM := 8, V := ({ N := (bitsOp .and .i64 n_ 65535), From := 1, Which := 1, Type_ := 101, Wants := 0, Known := true } : api_Value), Type_ := 101, Over := 0, Short := false } : Operand) long_ false
end Go.Es.Pkj
