/- What the functions that the law DispOwn reaches answer, in plain Lean. No condition. -/
import Derived.Test.YtikbjljifgadmaaDoorEsD
set_option linter.unusedVariables false
set_option linter.unusedSimpArgs false
set_option maxRecDepth 100000
set_option maxHeartbeats 4000000
namespace Go.Es.Dso
structure Inst where
 Lock : Bool
 Rep : Int
 Seg : Int
 Op : Int
 Mod : Int
 Reg : Int
 RM : Int
 Disp : Int
 Imm : Int
 Sel : Int
 deriving DecidableEq, Inhabited
def Inst.cs (x : Inst) : List D := [.bool x.Lock, .int .i64 x.Rep, .int .i64 x.Seg, .int .u8 x.Op, .int .i64 x.Mod, .int .i64 x.Reg, .int .i64 x.RM, .int .u16 x.Disp, .int .u16 x.Imm, .int .u16 x.Sel]
def Inst.d (x : Inst) : D := .agg (Inst.cs x)
structure Row where
 Name : Int
 A : Int
 B : Int
 Mod : Bool
 deriving DecidableEq, Inhabited
def Row.cs (x : Row) : List D := [.int .i64 x.Name, .int .i64 x.A, .int .i64 x.B, .bool x.Mod]
def Row.d (x : Row) : D := .agg (Row.cs x)
def Inst.wf (x : Inst) : Prop := (fun _ => True) x.Lock ∧ wfI .i64 x.Rep ∧ wfI .i64 x.Seg ∧ wfI .u8 x.Op ∧ wfI .i64 x.Mod ∧ wfI .i64 x.Reg ∧ wfI .i64 x.RM ∧ wfI .u16 x.Disp ∧ wfI .u16 x.Imm ∧ wfI .u16 x.Sel
def Row.wf (x : Row) : Prop := wfI .i64 x.Name ∧ wfI .i64 x.A ∧ wfI .i64 x.B ∧ (fun _ => True) x.Mod
/-- strings.Fields -/
noncomputable def strings_Fields (a0_ : (List UInt8)) : Option (List (List UInt8)) :=
 if a0_ = [65, 68, 68, 32, 79, 82, 32, 65, 68, 67, 32, 83, 66, 66, 32, 65, 78, 68, 32, 83, 85, 66, 32, 88, 79, 82, 32, 67, 77, 80, 32, 80, 85, 83, 72, 32, 80, 79, 80, 32, 68, 65, 65, 32, 68, 65, 83, 32, 65, 65, 65, 32, 65, 65, 83, 32, 73, 78, 67, 32, 68, 69, 67, 32, 74, 79, 32, 74, 78, 79, 32, 74, 66, 32, 74, 78, 66, 32, 74, 90, 32, 74, 78, 90, 32, 74, 66, 69, 32, 74, 65, 32, 74, 83, 32, 74, 78, 83, 32, 74, 80, 32, 74, 78, 80, 32, 74, 76, 32, 74, 71, 69, 32, 74, 76, 69, 32, 74, 71, 32, 84, 69, 83, 84, 32, 88, 67, 72, 71, 32, 77, 79, 86, 32, 76, 69, 65, 32, 67, 66, 87, 32, 67, 87, 68, 32, 67, 65, 76, 76, 32, 67, 65, 76, 76, 70, 32, 87, 65, 73, 84, 32, 80, 85, 83, 72, 70, 32, 80, 79, 80, 70, 32, 83, 65, 72, 70, 32, 76, 65, 72, 70, 32, 77, 79, 86, 83, 66, 32, 77, 79, 86, 83, 87, 32, 67, 77, 80, 83, 66, 32, 67, 77, 80, 83, 87, 32, 83, 84, 79, 83, 66, 32, 83, 84, 79, 83, 87, 32, 76, 79, 68, 83, 66, 32, 76, 79, 68, 83, 87, 32, 83, 67, 65, 83, 66, 32, 83, 67, 65, 83, 87, 32, 82, 69, 84, 32, 82, 69, 84, 70, 32, 76, 69, 83, 32, 76, 68, 83, 32, 73, 78, 84, 32, 73, 78, 84, 79, 32, 73, 82, 69, 84, 32, 82, 79, 76, 32, 82, 79, 82, 32, 82, 67, 76, 32, 82, 67, 82, 32, 83, 72, 76, 32, 83, 72, 82, 32, 83, 65, 82, 32, 65, 65, 77, 32, 65, 65, 68, 32, 88, 76, 65, 84, 32, 69, 83, 67, 32, 76, 79, 79, 80, 78, 90, 32, 76, 79, 79, 80, 90, 32, 76, 79, 79, 80, 32, 74, 67, 88, 90, 32, 73, 78, 32, 79, 85, 84, 32, 74, 77, 80, 32, 74, 77, 80, 70, 32, 72, 76, 84, 32, 67, 77, 67, 32, 78, 79, 84, 32, 78, 69, 71, 32, 77, 85, 76, 32, 73, 77, 85, 76, 32, 68, 73, 86, 32, 73, 68, 73, 86, 32, 67, 76, 67, 32, 83, 84, 67, 32, 67, 76, 73, 32, 83, 84, 73, 32, 67, 76, 68, 32, 83, 84, 68] then some [[65, 68, 68], [79, 82], [65, 68, 67], [83, 66, 66], [65, 78, 68], [83, 85, 66], [88, 79, 82], [67, 77, 80], [80, 85, 83, 72], [80, 79, 80], [68, 65, 65], [68, 65, 83], [65, 65, 65], [65, 65, 83], [73, 78, 67], [68, 69, 67], [74, 79], [74, 78, 79], [74, 66], [74, 78, 66], [74, 90], [74, 78, 90], [74, 66, 69], [74, 65], [74, 83], [74, 78, 83], [74, 80], [74, 78, 80], [74, 76], [74, 71, 69], [74, 76, 69], [74, 71], [84, 69, 83, 84], [88, 67, 72, 71], [77, 79, 86], [76, 69, 65], [67, 66, 87], [67, 87, 68], [67, 65, 76, 76], [67, 65, 76, 76, 70], [87, 65, 73, 84], [80, 85, 83, 72, 70], [80, 79, 80, 70], [83, 65, 72, 70], [76, 65, 72, 70], [77, 79, 86, 83, 66], [77, 79, 86, 83, 87], [67, 77, 80, 83, 66], [67, 77, 80, 83, 87], [83, 84, 79, 83, 66], [83, 84, 79, 83, 87], [76, 79, 68, 83, 66], [76, 79, 68, 83, 87], [83, 67, 65, 83, 66], [83, 67, 65, 83, 87], [82, 69, 84], [82, 69, 84, 70], [76, 69, 83], [76, 68, 83], [73, 78, 84], [73, 78, 84, 79], [73, 82, 69, 84], [82, 79, 76], [82, 79, 82], [82, 67, 76], [82, 67, 82], [83, 72, 76], [83, 72, 82], [83, 65, 82], [65, 65, 77], [65, 65, 68], [88, 76, 65, 84], [69, 83, 67], [76, 79, 79, 80, 78, 90], [76, 79, 79, 80, 90], [76, 79, 79, 80], [74, 67, 88, 90], [73, 78], [79, 85, 84], [74, 77, 80], [74, 77, 80, 70], [72, 76, 84], [67, 77, 67], [78, 79, 84], [78, 69, 71], [77, 85, 76], [73, 77, 85, 76], [68, 73, 86], [73, 68, 73, 86], [67, 76, 67], [83, 84, 67], [67, 76, 73], [83, 84, 73], [67, 76, 68], [83, 84, 68]] else
 if a0_ = [65, 88, 32, 67, 88, 32, 68, 88, 32, 66, 88, 32, 83, 80, 32, 66, 80, 32, 83, 73, 32, 68, 73] then some [[65, 88], [67, 88], [68, 88], [66, 88], [83, 80], [66, 80], [83, 73], [68, 73]] else
 if a0_ = [65, 76, 32, 67, 76, 32, 68, 76, 32, 66, 76, 32, 65, 72, 32, 67, 72, 32, 68, 72, 32, 66, 72] then some [[65, 76], [67, 76], [68, 76], [66, 76], [65, 72], [67, 72], [68, 72], [66, 72]] else
 if a0_ = [69, 83, 32, 67, 83, 32, 83, 83, 32, 68, 83] then some [[69, 83], [67, 83], [83, 83], [68, 83]] else
 if a0_ = [66, 88, 43, 83, 73, 32, 66, 88, 43, 68, 73, 32, 66, 80, 43, 83, 73, 32, 66, 80, 43, 68, 73, 32, 83, 73, 32, 68, 73, 32, 66, 80, 32, 66, 88] then some [[66, 88, 43, 83, 73], [66, 88, 43, 68, 73], [66, 80, 43, 83, 73], [66, 80, 43, 68, 73], [83, 73], [68, 73], [66, 80], [66, 88]] else
 none
/-- hansom/hansomref05.prefix -/
noncomputable def hansomref05_prefix (b_ : Int) : Option Bool :=
 if (b_ == 38) then
  some true
 else
  if (b_ == 46) then
   some true
  else
   if (b_ == 54) then
    some true
   else
    if (b_ == 62) then
     some true
    else
     if (b_ == 240) then
      some true
     else
      if (b_ == 242) then
       some true
      else
       some (b_ == 243)
noncomputable def hansomref04_word_l19 (s0 : (List UInt8)) (n1 : Int) (at5 : Int) (k6 : Int) : Option (Lp Int Int) :=
 if (decide (at5 < (s0.length : Int))) then
  (idx s0 at5).bind fun z_1 =>
  if ((z_1.toNat : Int) != 32) then
   some (.next (IntKind.wrap .i64 (at5 + 1)))
  else
   some (.out at5)
 else
  some (.out at5)
noncomputable def hansomref04_word_l8 (s0 : (List UInt8)) (n1 : Int) (at5 : Int) (k6 : Int) : Option (Lp (Int × Int) Int) :=
 if (decide (k6 < n1)) then
  if (decide (at5 < (s0.length : Int))) then
   (loopO (fun x : Int => hansomref04_word_l19 s0 n1 x k6) at5).bind fun e_1 =>
   some (.next ((IntKind.wrap .i64 (e_1 + 1)), (IntKind.wrap .i64 (k6 + 1))))
  else
   some (.out at5)
 else
  some (.out at5)
noncomputable def hansomref04_word_l34 (s0 : (List UInt8)) (at5 : Int) (end7 : Int) : Option (Lp Int Int) :=
 if (decide (end7 < (s0.length : Int))) then
  (idx s0 end7).bind fun z_1 =>
  if ((z_1.toNat : Int) != 32) then
   some (.next (IntKind.wrap .i64 (end7 + 1)))
  else
   some (.out end7)
 else
  some (.out end7)
/-- hansom/hansomref04.word -/
noncomputable def hansomref04_word (s_ : (List UInt8)) (n_ : Int) : Option (List UInt8) :=
 (loopO (fun x : (Int × Int) => hansomref04_word_l8 s_ n_ x.1 x.2) (0, 0)).bind fun e_1 =>
 (loopO (fun x : Int => hansomref04_word_l34 s_ e_1 x) e_1).bind fun e_2 =>
 if (decide (e_1 ≥ (s_.length : Int))) then
  some ([] : List UInt8)
 else
  (cutL s_ e_1 e_2).bind fun z_1 =>
  some z_1
noncomputable def hansomref04_part_l8 (s0 : (List UInt8)) (mark1 : Int) (n2 : Int) (from7 : Int) (i8 : Int) : Option (Lp (Int × Int × Int) ((List UInt8) ⊕ Unit)) :=
 if (decide (i8 ≤ (s0.length : Int))) then
  if (decide (i8 < (s0.length : Int))) then
   (idx s0 i8).bind fun z_1 =>
   if ((z_1.toNat : Int) != mark1) then
    some (.next (n2, from7, (IntKind.wrap .i64 (i8 + 1))))
   else
    if (n2 == 0) then
     (cutL s0 from7 i8).bind fun z_2 =>
     some (.out (.inl z_2))
    else
     some (.next ((IntKind.wrap .i64 (n2 - 1)), (IntKind.wrap .i64 (i8 + 1)), (IntKind.wrap .i64 (i8 + 1))))
  else
   if (n2 == 0) then
    (cutL s0 from7 i8).bind fun z_3 =>
    some (.out (.inl z_3))
   else
    some (.next ((IntKind.wrap .i64 (n2 - 1)), (IntKind.wrap .i64 (i8 + 1)), (IntKind.wrap .i64 (i8 + 1))))
 else
  some (.out (.inr ()))
/-- hansom/hansomref04.part -/
noncomputable def hansomref04_part (s_ : (List UInt8)) (mark_ : Int) (n_ : Int) : Option (List UInt8) :=
 (loopO (fun x : (Int × Int × Int) => hansomref04_part_l8 s_ mark_ x.1 x.2.1 x.2.2) (n_, 0, 0)).bind fun e_1 =>
 match e_1 with
 | .inl e_2 =>
  some e_2
 | .inr e_3 =>
  some ([] : List UInt8)
/-- hansom/hansomref04.Entry -/
noncomputable def hansomref04_Entry (op_ : Int) (reg_ : Int) : Option (List UInt8) :=
 (hansomref04_word ([65, 68, 68, 58, 69, 98, 58, 71, 98, 32, 65, 68, 68, 58, 69, 118, 58, 71, 118, 32, 65, 68, 68, 58, 71, 98, 58, 69, 98, 32, 65, 68, 68, 58, 71, 118, 58, 69, 118, 32, 65, 68, 68, 58, 65, 76, 58, 73, 98, 32, 65, 68, 68, 58, 65, 88, 58, 73, 118, 32, 80, 85, 83, 72, 58, 90, 115, 32, 80, 79, 80, 58, 90, 115, 32, 79, 82, 58, 69, 98, 58, 71, 98, 32, 79, 82, 58, 69, 118, 58, 71, 118, 32, 79, 82, 58, 71, 98, 58, 69, 98, 32, 79, 82, 58, 71, 118, 58, 69, 118, 32, 79, 82, 58, 65, 76, 58, 73, 98, 32, 79, 82, 58, 65, 88, 58, 73, 118, 32, 80, 85, 83, 72, 58, 90, 115, 32, 45, 32, 65, 68, 67, 58, 69, 98, 58, 71, 98, 32, 65, 68, 67, 58, 69, 118, 58, 71, 118, 32, 65, 68, 67, 58, 71, 98, 58, 69, 98, 32, 65, 68, 67, 58, 71, 118, 58, 69, 118, 32, 65, 68, 67, 58, 65, 76, 58, 73, 98, 32, 65, 68, 67, 58, 65, 88, 58, 73, 118, 32, 80, 85, 83, 72, 58, 90, 115, 32, 80, 79, 80, 58, 90, 115, 32, 83, 66, 66, 58, 69, 98, 58, 71, 98, 32, 83, 66, 66, 58, 69, 118, 58, 71, 118, 32, 83, 66, 66, 58, 71, 98, 58, 69, 98, 32, 83, 66, 66, 58, 71, 118, 58, 69, 118, 32, 83, 66, 66, 58, 65, 76, 58, 73, 98, 32, 83, 66, 66, 58, 65, 88, 58, 73, 118, 32, 80, 85, 83, 72, 58, 90, 115, 32, 80, 79, 80, 58, 90, 115, 32, 65, 78, 68, 58, 69, 98, 58, 71, 98, 32, 65, 78, 68, 58, 69, 118, 58, 71, 118, 32, 65, 78, 68, 58, 71, 98, 58, 69, 98, 32, 65, 78, 68, 58, 71, 118, 58, 69, 118, 32, 65, 78, 68, 58, 65, 76, 58, 73, 98, 32, 65, 78, 68, 58, 65, 88, 58, 73, 118, 32, 45, 32, 68, 65, 65, 32, 83, 85, 66, 58, 69, 98, 58, 71, 98, 32, 83, 85, 66, 58, 69, 118, 58, 71, 118, 32, 83, 85, 66, 58, 71, 98, 58, 69, 98, 32, 83, 85, 66, 58, 71, 118, 58, 69, 118, 32, 83, 85, 66, 58, 65, 76, 58, 73, 98, 32, 83, 85, 66, 58, 65, 88, 58, 73, 118, 32, 45, 32, 68, 65, 83, 32, 88, 79, 82, 58, 69, 98, 58, 71, 98, 32, 88, 79, 82, 58, 69, 118, 58, 71, 118, 32, 88, 79, 82, 58, 71, 98, 58, 69, 98, 32, 88, 79, 82, 58, 71, 118, 58, 69, 118, 32, 88, 79, 82, 58, 65, 76, 58, 73, 98, 32, 88, 79, 82, 58, 65, 88, 58, 73, 118, 32, 45, 32, 65, 65, 65, 32, 67, 77, 80, 58, 69, 98, 58, 71, 98, 32, 67, 77, 80, 58, 69, 118, 58, 71, 118, 32, 67, 77, 80, 58, 71, 98, 58, 69, 98, 32, 67, 77, 80, 58, 71, 118, 58, 69, 118, 32, 67, 77, 80, 58, 65, 76, 58, 73, 98, 32, 67, 77, 80, 58, 65, 88, 58, 73, 118, 32, 45, 32, 65, 65, 83, 32, 73, 78, 67, 58, 90, 118, 32, 73, 78, 67, 58, 90, 118, 32, 73, 78, 67, 58, 90, 118, 32, 73, 78, 67, 58, 90, 118, 32, 73, 78, 67, 58, 90, 118, 32, 73, 78, 67, 58, 90, 118, 32, 73, 78, 67, 58, 90, 118, 32, 73, 78, 67, 58, 90, 118, 32, 68, 69, 67, 58, 90, 118, 32, 68, 69, 67, 58, 90, 118, 32, 68, 69, 67, 58, 90, 118, 32, 68, 69, 67, 58, 90, 118, 32, 68, 69, 67, 58, 90, 118, 32, 68, 69, 67, 58, 90, 118, 32, 68, 69, 67, 58, 90, 118, 32, 68, 69, 67, 58, 90, 118, 32, 80, 85, 83, 72, 58, 90, 118, 32, 80, 85, 83, 72, 58, 90, 118, 32, 80, 85, 83, 72, 58, 90, 118, 32, 80, 85, 83, 72, 58, 90, 118, 32, 80, 85, 83, 72, 58, 90, 118, 32, 80, 85, 83, 72, 58, 90, 118, 32, 80, 85, 83, 72, 58, 90, 118, 32, 80, 85, 83, 72, 58, 90, 118, 32, 80, 79, 80, 58, 90, 118, 32, 80, 79, 80, 58, 90, 118, 32, 80, 79, 80, 58, 90, 118, 32, 80, 79, 80, 58, 90, 118, 32, 80, 79, 80, 58, 90, 118, 32, 80, 79, 80, 58, 90, 118, 32, 80, 79, 80, 58, 90, 118, 32, 80, 79, 80, 58, 90, 118, 32, 45, 32, 45, 32, 45, 32, 45, 32, 45, 32, 45, 32, 45, 32, 45, 32, 45, 32, 45, 32, 45, 32, 45, 32, 45, 32, 45, 32, 45, 32, 45, 32, 74, 79, 58, 74, 98, 32, 74, 78, 79, 58, 74, 98, 32, 74, 66, 58, 74, 98, 32, 74, 78, 66, 58, 74, 98, 32, 74, 90, 58, 74, 98, 32, 74, 78, 90, 58, 74, 98, 32, 74, 66, 69, 58, 74, 98, 32, 74, 65, 58, 74, 98, 32, 74, 83, 58, 74, 98, 32, 74, 78, 83, 58, 74, 98, 32, 74, 80, 58, 74, 98, 32, 74, 78, 80, 58, 74, 98, 32, 74, 76, 58, 74, 98, 32, 74, 71, 69, 58, 74, 98, 32, 74, 76, 69, 58, 74, 98, 32, 74, 71, 58, 74, 98, 32, 47, 65, 68, 68, 58, 69, 98, 58, 73, 98, 47, 79, 82, 58, 69, 98, 58, 73, 98, 47, 65, 68, 67, 58, 69, 98, 58, 73, 98, 47, 83, 66, 66, 58, 69, 98, 58, 73, 98, 47, 65, 78, 68, 58, 69, 98, 58, 73, 98, 47, 83, 85, 66, 58, 69, 98, 58, 73, 98, 47, 88, 79, 82, 58, 69, 98, 58, 73, 98, 47, 67, 77, 80, 58, 69, 98, 58, 73, 98, 32, 47, 65, 68, 68, 58, 69, 118, 58, 73, 118, 47, 79, 82, 58, 69, 118, 58, 73, 118, 47, 65, 68, 67, 58, 69, 118, 58, 73, 118, 47, 83, 66, 66, 58, 69, 118, 58, 73, 118, 47, 65, 78, 68, 58, 69, 118, 58, 73, 118, 47, 83, 85, 66, 58, 69, 118, 58, 73, 118, 47, 88, 79, 82, 58, 69, 118, 58, 73, 118, 47, 67, 77, 80, 58, 69, 118, 58, 73, 118, 32, 45, 32, 47, 65, 68, 68, 58, 69, 118, 58, 73, 115, 47, 45, 47, 65, 68, 67, 58, 69, 118, 58, 73, 115, 47, 83, 66, 66, 58, 69, 118, 58, 73, 115, 47, 45, 47, 83, 85, 66, 58, 69, 118, 58, 73, 115, 47, 45, 47, 67, 77, 80, 58, 69, 118, 58, 73, 115, 32, 84, 69, 83, 84, 58, 69, 98, 58, 71, 98, 32, 84, 69, 83, 84, 58, 69, 118, 58, 71, 118, 32, 88, 67, 72, 71, 58, 69, 98, 58, 71, 98, 32, 88, 67, 72, 71, 58, 69, 118, 58, 71, 118, 32, 77, 79, 86, 58, 69, 98, 58, 71, 98, 32, 77, 79, 86, 58, 69, 118, 58, 71, 118, 32, 77, 79, 86, 58, 71, 98, 58, 69, 98, 32, 77, 79, 86, 58, 71, 118, 58, 69, 118, 32, 47, 77, 79, 86, 58, 69, 118, 58, 83, 119, 47, 77, 79, 86, 58, 69, 118, 58, 83, 119, 47, 77, 79, 86, 58, 69, 118, 58, 83, 119, 47, 77, 79, 86, 58, 69, 118, 58, 83, 119, 47, 45, 47, 45, 47, 45, 47, 45, 32, 76, 69, 65, 58, 71, 118, 58, 77, 32, 47, 77, 79, 86, 58, 83, 119, 58, 69, 118, 47, 45, 47, 77, 79, 86, 58, 83, 119, 58, 69, 118, 47, 77, 79, 86, 58, 83, 119, 58, 69, 118, 47, 45, 47, 45, 47, 45, 47, 45, 32, 47, 80, 79, 80, 58, 69, 118, 47, 45, 47, 45, 47, 45, 47, 45, 47, 45, 47, 45, 47, 45, 32, 88, 67, 72, 71, 58, 65, 88, 58, 90, 118, 32, 88, 67, 72, 71, 58, 65, 88, 58, 90, 118, 32, 88, 67, 72, 71, 58, 65, 88, 58, 90, 118, 32, 88, 67, 72, 71, 58, 65, 88, 58, 90, 118, 32, 88, 67, 72, 71, 58, 65, 88, 58, 90, 118, 32, 88, 67, 72, 71, 58, 65, 88, 58, 90, 118, 32, 88, 67, 72, 71, 58, 65, 88, 58, 90, 118, 32, 88, 67, 72, 71, 58, 65, 88, 58, 90, 118, 32, 67, 66, 87, 32, 67, 87, 68, 32, 67, 65, 76, 76, 70, 58, 65, 112, 32, 87, 65, 73, 84, 32, 80, 85, 83, 72, 70, 32, 80, 79, 80, 70, 32, 83, 65, 72, 70, 32, 76, 65, 72, 70, 32, 77, 79, 86, 58, 65, 76, 58, 79, 98, 32, 77, 79, 86, 58, 65, 88, 58, 79, 118, 32, 77, 79, 86, 58, 79, 98, 58, 65, 76, 32, 77, 79, 86, 58, 79, 118, 58, 65, 88, 32, 77, 79, 86, 83, 66, 32, 77, 79, 86, 83, 87, 32, 67, 77, 80, 83, 66, 32, 67, 77, 80, 83, 87, 32, 84, 69, 83, 84, 58, 65, 76, 58, 73, 98, 32, 84, 69, 83, 84, 58, 65, 88, 58, 73, 118, 32, 83, 84, 79, 83, 66, 32, 83, 84, 79, 83, 87, 32, 76, 79, 68, 83, 66, 32, 76, 79, 68, 83, 87, 32, 83, 67, 65, 83, 66, 32, 83, 67, 65, 83, 87, 32, 77, 79, 86, 58, 90, 98, 58, 73, 98, 32, 77, 79, 86, 58, 90, 98, 58, 73, 98, 32, 77, 79, 86, 58, 90, 98, 58, 73, 98, 32, 77, 79, 86, 58, 90, 98, 58, 73, 98, 32, 77, 79, 86, 58, 90, 98, 58, 73, 98, 32, 77, 79, 86, 58, 90, 98, 58, 73, 98, 32, 77, 79, 86, 58, 90, 98, 58, 73, 98, 32, 77, 79, 86, 58, 90, 98, 58, 73, 98, 32, 77, 79, 86, 58, 90, 118, 58, 73, 118, 32, 77, 79, 86, 58, 90, 118, 58, 73, 118, 32, 77, 79, 86, 58, 90, 118, 58, 73, 118, 32, 77, 79, 86, 58, 90, 118, 58, 73, 118, 32, 77, 79, 86, 58, 90, 118, 58, 73, 118, 32, 77, 79, 86, 58, 90, 118, 58, 73, 118, 32, 77, 79, 86, 58, 90, 118, 58, 73, 118, 32, 77, 79, 86, 58, 90, 118, 58, 73, 118, 32, 45, 32, 45, 32, 82, 69, 84, 58, 73, 118, 32, 82, 69, 84, 32, 76, 69, 83, 58, 71, 118, 58, 77, 112, 32, 76, 68, 83, 58, 71, 118, 58, 77, 112, 32, 47, 77, 79, 86, 58, 69, 98, 58, 73, 98, 47, 45, 47, 45, 47, 45, 47, 45, 47, 45, 47, 45, 47, 45, 32, 47, 77, 79, 86, 58, 69, 118, 58, 73, 118, 47, 45, 47, 45, 47, 45, 47, 45, 47, 45, 47, 45, 47, 45, 32, 45, 32, 45, 32, 82, 69, 84, 70, 58, 73, 118, 32, 82, 69, 84, 70, 32, 73, 78, 84, 58, 84, 104, 114, 101, 101, 32, 73, 78, 84, 58, 73, 98, 32, 73, 78, 84, 79, 32, 73, 82, 69, 84, 32, 47, 82, 79, 76, 58, 69, 98, 58, 79, 110, 101, 47, 82, 79, 82, 58, 69, 98, 58, 79, 110, 101, 47, 82, 67, 76, 58, 69, 98, 58, 79, 110, 101, 47, 82, 67, 82, 58, 69, 98, 58, 79, 110, 101, 47, 83, 72, 76, 58, 69, 98, 58, 79, 110, 101, 47, 83, 72, 82, 58, 69, 98, 58, 79, 110, 101, 47, 45, 47, 83, 65, 82, 58, 69, 98, 58, 79, 110, 101, 32, 47, 82, 79, 76, 58, 69, 118, 58, 79, 110, 101, 47, 82, 79, 82, 58, 69, 118, 58, 79, 110, 101, 47, 82, 67, 76, 58, 69, 118, 58, 79, 110, 101, 47, 82, 67, 82, 58, 69, 118, 58, 79, 110, 101, 47, 83, 72, 76, 58, 69, 118, 58, 79, 110, 101, 47, 83, 72, 82, 58, 69, 118, 58, 79, 110, 101, 47, 45, 47, 83, 65, 82, 58, 69, 118, 58, 79, 110, 101, 32, 47, 82, 79, 76, 58, 69, 98, 58, 67, 76, 47, 82, 79, 82, 58, 69, 98, 58, 67, 76, 47, 82, 67, 76, 58, 69, 98, 58, 67, 76, 47, 82, 67, 82, 58, 69, 98, 58, 67, 76, 47, 83, 72, 76, 58, 69, 98, 58, 67, 76, 47, 83, 72, 82, 58, 69, 98, 58, 67, 76, 47, 45, 47, 83, 65, 82, 58, 69, 98, 58, 67, 76, 32, 47, 82, 79, 76, 58, 69, 118, 58, 67, 76, 47, 82, 79, 82, 58, 69, 118, 58, 67, 76, 47, 82, 67, 76, 58, 69, 118, 58, 67, 76, 47, 82, 67, 82, 58, 69, 118, 58, 67, 76, 47, 83, 72, 76, 58, 69, 118, 58, 67, 76, 47, 83, 72, 82, 58, 69, 118, 58, 67, 76, 47, 45, 47, 83, 65, 82, 58, 69, 118, 58, 67, 76, 32, 65, 65, 77, 58, 73, 98, 32, 65, 65, 68, 58, 73, 98, 32, 45, 32, 88, 76, 65, 84, 32, 69, 83, 67, 58, 69, 118, 32, 69, 83, 67, 58, 69, 118, 32, 69, 83, 67, 58, 69, 118, 32, 69, 83, 67, 58, 69, 118, 32, 69, 83, 67, 58, 69, 118, 32, 69, 83, 67, 58, 69, 118, 32, 69, 83, 67, 58, 69, 118, 32, 69, 83, 67, 58, 69, 118, 32, 76, 79, 79, 80, 78, 90, 58, 74, 98, 32, 76, 79, 79, 80, 90, 58, 74, 98, 32, 76, 79, 79, 80, 58, 74, 98, 32, 74, 67, 88, 90, 58, 74, 98, 32, 73, 78, 58, 65, 76, 58, 73, 98, 32, 73, 78, 58, 65, 88, 58, 73, 98, 32, 79, 85, 84, 58, 73, 98, 58, 65, 76, 32, 79, 85, 84, 58, 73, 98, 58, 65, 88, 32, 67, 65, 76, 76, 58, 74, 118, 32, 74, 77, 80, 58, 74, 118, 32, 74, 77, 80, 70, 58, 65, 112, 32, 74, 77, 80, 58, 74, 98, 32, 73, 78, 58, 65, 76, 58, 68, 88, 32, 73, 78, 58, 65, 88, 58, 68, 88, 32, 79, 85, 84, 58, 68, 88, 58, 65, 76, 32, 79, 85, 84, 58, 68, 88, 58, 65, 88, 32, 45, 32, 45, 32, 45, 32, 45, 32, 72, 76, 84, 32, 67, 77, 67, 32, 47, 84, 69, 83, 84, 58, 69, 98, 58, 73, 98, 47, 45, 47, 78, 79, 84, 58, 69, 98, 47, 78, 69, 71, 58, 69, 98, 47, 77, 85, 76, 58, 69, 98, 47, 73, 77, 85, 76, 58, 69, 98, 47, 68, 73, 86, 58, 69, 98, 47, 73, 68, 73, 86, 58, 69, 98, 32, 47, 84, 69, 83, 84, 58, 69, 118, 58, 73, 118, 47, 45, 47, 78, 79, 84, 58, 69, 118, 47, 78, 69, 71, 58, 69, 118, 47, 77, 85, 76, 58, 69, 118, 47, 73, 77, 85, 76, 58, 69, 118, 47, 68, 73, 86, 58, 69, 118, 47, 73, 68, 73, 86, 58, 69, 118, 32, 67, 76, 67, 32, 83, 84, 67, 32, 67, 76, 73, 32, 83, 84, 73, 32, 67, 76, 68, 32, 83, 84, 68, 32, 47, 73, 78, 67, 58, 69, 98, 47, 68, 69, 67, 58, 69, 98, 47, 45, 47, 45, 47, 45, 47, 45, 47, 45, 47, 45, 32, 47, 73, 78, 67, 58, 69, 118, 47, 68, 69, 67, 58, 69, 118, 47, 67, 65, 76, 76, 58, 69, 118, 47, 67, 65, 76, 76, 70, 58, 77, 112, 47, 74, 77, 80, 58, 69, 118, 47, 74, 77, 80, 70, 58, 77, 112, 47, 80, 85, 83, 72, 58, 69, 118, 47, 45, 32] : List UInt8) (IntKind.wrap .i64 op_)).bind fun r_1 =>
 if (decide ((r_1.length : Int) > 0)) then
  (idx r_1 0).bind fun z_1 =>
  if ((z_1.toNat : Int) == 47) then
   (hansomref04_part r_1 47 (IntKind.wrap .i64 ((bitsOp .and .i64 reg_ 7) + 1))).bind fun r_2 =>
   some r_2
  else
   some r_1
 else
  some r_1
noncomputable def hansomref04_find_l8 (s0 : (List UInt8)) (w1 : (List UInt8)) (n5 : Int) (from6 : Int) (i7 : Int) : Option (Lp (Int × Int × Int) (Int ⊕ Unit)) :=
 if (decide (i7 < (s0.length : Int))) then
  (idx s0 i7).bind fun z_1 =>
  if ((z_1.toNat : Int) != 32) then
   some (.next (n5, from6, (IntKind.wrap .i64 (i7 + 1))))
  else
   (cutL s0 from6 i7).bind fun z_2 =>
   if (z_2 == w1) then
    some (.out (.inl n5))
   else
    some (.next ((IntKind.wrap .i64 (n5 + 1)), (IntKind.wrap .i64 (i7 + 1)), (IntKind.wrap .i64 (i7 + 1))))
 else
  some (.out (.inr ()))
/-- hansom/hansomref04.find -/
noncomputable def hansomref04_find (s_ : (List UInt8)) (w_ : (List UInt8)) : Option Int :=
 (loopO (fun x : (Int × Int × Int) => hansomref04_find_l8 s_ w_ x.1 x.2.1 x.2.2) (1, 0, 0)).bind fun e_1 =>
 match e_1 with
 | .inl e_2 =>
  some e_2
 | .inr e_3 =>
  some 0
/-- hansom/hansomref04.Find -/
noncomputable def hansomref04_Find (s_ : (List UInt8)) : Option Int :=
 (hansomref04_find ([65, 68, 68, 32, 79, 82, 32, 65, 68, 67, 32, 83, 66, 66, 32, 65, 78, 68, 32, 83, 85, 66, 32, 88, 79, 82, 32, 67, 77, 80, 32, 80, 85, 83, 72, 32, 80, 79, 80, 32, 68, 65, 65, 32, 68, 65, 83, 32, 65, 65, 65, 32, 65, 65, 83, 32, 73, 78, 67, 32, 68, 69, 67, 32, 74, 79, 32, 74, 78, 79, 32, 74, 66, 32, 74, 78, 66, 32, 74, 90, 32, 74, 78, 90, 32, 74, 66, 69, 32, 74, 65, 32, 74, 83, 32, 74, 78, 83, 32, 74, 80, 32, 74, 78, 80, 32, 74, 76, 32, 74, 71, 69, 32, 74, 76, 69, 32, 74, 71, 32, 84, 69, 83, 84, 32, 88, 67, 72, 71, 32, 77, 79, 86, 32, 76, 69, 65, 32, 67, 66, 87, 32, 67, 87, 68, 32, 67, 65, 76, 76, 32, 67, 65, 76, 76, 70, 32, 87, 65, 73, 84, 32, 80, 85, 83, 72, 70, 32, 80, 79, 80, 70, 32, 83, 65, 72, 70, 32, 76, 65, 72, 70, 32, 77, 79, 86, 83, 66, 32, 77, 79, 86, 83, 87, 32, 67, 77, 80, 83, 66, 32, 67, 77, 80, 83, 87, 32, 83, 84, 79, 83, 66, 32, 83, 84, 79, 83, 87, 32, 76, 79, 68, 83, 66, 32, 76, 79, 68, 83, 87, 32, 83, 67, 65, 83, 66, 32, 83, 67, 65, 83, 87, 32, 82, 69, 84, 32, 82, 69, 84, 70, 32, 76, 69, 83, 32, 76, 68, 83, 32, 73, 78, 84, 32, 73, 78, 84, 79, 32, 73, 82, 69, 84, 32, 82, 79, 76, 32, 82, 79, 82, 32, 82, 67, 76, 32, 82, 67, 82, 32, 83, 72, 76, 32, 83, 72, 82, 32, 83, 65, 82, 32, 65, 65, 77, 32, 65, 65, 68, 32, 88, 76, 65, 84, 32, 69, 83, 67, 32, 76, 79, 79, 80, 78, 90, 32, 76, 79, 79, 80, 90, 32, 76, 79, 79, 80, 32, 74, 67, 88, 90, 32, 73, 78, 32, 79, 85, 84, 32, 74, 77, 80, 32, 74, 77, 80, 70, 32, 72, 76, 84, 32, 67, 77, 67, 32, 78, 79, 84, 32, 78, 69, 71, 32, 77, 85, 76, 32, 73, 77, 85, 76, 32, 68, 73, 86, 32, 73, 68, 73, 86, 32, 67, 76, 67, 32, 83, 84, 67, 32, 67, 76, 73, 32, 83, 84, 73, 32, 67, 76, 68, 32, 83, 84, 68, 32] : List UInt8) s_).bind fun r_1 =>
 some r_1
/-- hansom/hansomref04.second -/
noncomputable def hansomref04_second (k_ : Int) : Option Bool :=
 if (decide (k_ ≥ 1)) then
  if (decide (k_ ≤ 5)) then
   some true
  else
   if (k_ == 19) then
    some true
   else
    some (k_ == 20)
 else
  if (k_ == 19) then
   some true
  else
   some (k_ == 20)
/-- hansom/hansomref04.Row -/
noncomputable def hansomref04_Row (op_ : Int) (reg_ : Int) : Option (Row × Bool) :=
 (hansomref04_Entry op_ reg_).bind fun r_1 =>
 if (r_1 == ([45] : List UInt8)) then
  some (({ Name := 0, A := 0, B := 0, Mod := false } : Row), false)
 else
  if (r_1 == ([] : List UInt8)) then
   some (({ Name := 0, A := 0, B := 0, Mod := false } : Row), false)
  else
   (hansomref04_part r_1 58 0).bind fun r_2 =>
   (hansomref04_Find r_2).bind fun r_3 =>
   (hansomref04_part r_1 58 1).bind fun r_4 =>
   (hansomref04_find ([69, 98, 32, 69, 118, 32, 71, 98, 32, 71, 118, 32, 83, 119, 32, 73, 98, 32, 73, 118, 32, 73, 115, 32, 74, 98, 32, 74, 118, 32, 65, 112, 32, 79, 98, 32, 79, 118, 32, 65, 76, 32, 67, 76, 32, 65, 88, 32, 68, 88, 32, 79, 110, 101, 32, 77, 112, 32, 77, 32, 90, 98, 32, 90, 118, 32, 90, 115, 32, 84, 104, 114, 101, 101, 32] : List UInt8) r_4).bind fun r_5 =>
   (hansomref04_part r_1 58 2).bind fun r_6 =>
   (hansomref04_find ([69, 98, 32, 69, 118, 32, 71, 98, 32, 71, 118, 32, 83, 119, 32, 73, 98, 32, 73, 118, 32, 73, 115, 32, 74, 98, 32, 74, 118, 32, 65, 112, 32, 79, 98, 32, 79, 118, 32, 65, 76, 32, 67, 76, 32, 65, 88, 32, 68, 88, 32, 79, 110, 101, 32, 77, 112, 32, 77, 32, 90, 98, 32, 90, 118, 32, 90, 115, 32, 84, 104, 114, 101, 101, 32] : List UInt8) r_6).bind fun r_7 =>
   (hansomref04_second r_5).bind fun r_8 =>
   if r_8 then
    some (({ Name := r_3, A := r_5, B := r_7, Mod := true } : Row), true)
   else
    (hansomref04_second r_7).bind fun r_9 =>
    some (({ Name := r_3, A := r_5, B := r_7, Mod := r_9 } : Row), true)
/-- hansom/hansomref05.Row -/
noncomputable def hansomref05_Row (i_ : Inst) : Option (Row × Bool) :=
 (hansomref05_prefix i_.Op).bind fun r_1 =>
 if r_1 then
  some (({ Name := 0, A := 0, B := 0, Mod := false } : Row), false)
 else
  (hansomref04_Row i_.Op i_.Reg).bind fun r_2 =>
  some (r_2.1, r_2.2)
noncomputable def hansomref04_Bytes_j16 (t3 : Int) (t4 : Bool) : Option Int :=
 if t4 then
  some 1
 else
  if (t3 == 7) then
   some 2
  else
   if (t3 == 10) then
    some 2
   else
    if (t3 == 12) then
     some 2
    else
     if (t3 == 13) then
      some 2
     else
      if (t3 == 11) then
       some 4
      else
       some 0
/-- hansom/hansomref04.Bytes -/
noncomputable def hansomref04_Bytes (k_ : Int) : Option Int :=
 if (k_ == 6) then
  hansomref04_Bytes_j16 k_ true
 else
  if (k_ == 8) then
   hansomref04_Bytes_j16 k_ true
  else
   hansomref04_Bytes_j16 k_ (k_ == 9)
/-- hansom/hansomref04.Name -/
noncomputable def hansomref04_Name (n_ : Int) : Option (List UInt8) :=
 if (decide (n_ < 1)) then
  some ([63] : List UInt8)
 else
  if (decide (n_ > 95)) then
   some ([63] : List UInt8)
  else
   (hansomref04_word ([65, 68, 68, 32, 79, 82, 32, 65, 68, 67, 32, 83, 66, 66, 32, 65, 78, 68, 32, 83, 85, 66, 32, 88, 79, 82, 32, 67, 77, 80, 32, 80, 85, 83, 72, 32, 80, 79, 80, 32, 68, 65, 65, 32, 68, 65, 83, 32, 65, 65, 65, 32, 65, 65, 83, 32, 73, 78, 67, 32, 68, 69, 67, 32, 74, 79, 32, 74, 78, 79, 32, 74, 66, 32, 74, 78, 66, 32, 74, 90, 32, 74, 78, 90, 32, 74, 66, 69, 32, 74, 65, 32, 74, 83, 32, 74, 78, 83, 32, 74, 80, 32, 74, 78, 80, 32, 74, 76, 32, 74, 71, 69, 32, 74, 76, 69, 32, 74, 71, 32, 84, 69, 83, 84, 32, 88, 67, 72, 71, 32, 77, 79, 86, 32, 76, 69, 65, 32, 67, 66, 87, 32, 67, 87, 68, 32, 67, 65, 76, 76, 32, 67, 65, 76, 76, 70, 32, 87, 65, 73, 84, 32, 80, 85, 83, 72, 70, 32, 80, 79, 80, 70, 32, 83, 65, 72, 70, 32, 76, 65, 72, 70, 32, 77, 79, 86, 83, 66, 32, 77, 79, 86, 83, 87, 32, 67, 77, 80, 83, 66, 32, 67, 77, 80, 83, 87, 32, 83, 84, 79, 83, 66, 32, 83, 84, 79, 83, 87, 32, 76, 79, 68, 83, 66, 32, 76, 79, 68, 83, 87, 32, 83, 67, 65, 83, 66, 32, 83, 67, 65, 83, 87, 32, 82, 69, 84, 32, 82, 69, 84, 70, 32, 76, 69, 83, 32, 76, 68, 83, 32, 73, 78, 84, 32, 73, 78, 84, 79, 32, 73, 82, 69, 84, 32, 82, 79, 76, 32, 82, 79, 82, 32, 82, 67, 76, 32, 82, 67, 82, 32, 83, 72, 76, 32, 83, 72, 82, 32, 83, 65, 82, 32, 65, 65, 77, 32, 65, 65, 68, 32, 88, 76, 65, 84, 32, 69, 83, 67, 32, 76, 79, 79, 80, 78, 90, 32, 76, 79, 79, 80, 90, 32, 76, 79, 79, 80, 32, 74, 67, 88, 90, 32, 73, 78, 32, 79, 85, 84, 32, 74, 77, 80, 32, 74, 77, 80, 70, 32, 72, 76, 84, 32, 67, 77, 67, 32, 78, 79, 84, 32, 78, 69, 71, 32, 77, 85, 76, 32, 73, 77, 85, 76, 32, 68, 73, 86, 32, 73, 68, 73, 86, 32, 67, 76, 67, 32, 83, 84, 67, 32, 67, 76, 73, 32, 83, 84, 73, 32, 67, 76, 68, 32, 83, 84, 68, 32] : List UInt8) (IntKind.wrap .i64 (n_ - 1))).bind fun r_1 =>
   some r_1
noncomputable def hansomref04_Repeats_j28 (t4 : (List UInt8)) (t5 : Bool) : Option Int :=
 if t5 then
  some 1
 else
  if (t4 == ([67, 77, 80, 83, 66] : List UInt8)) then
   some 2
  else
   if (t4 == ([67, 77, 80, 83, 87] : List UInt8)) then
    some 2
   else
    if (t4 == ([83, 67, 65, 83, 66] : List UInt8)) then
     some 2
    else
     if (t4 == ([83, 67, 65, 83, 87] : List UInt8)) then
      some 2
     else
      some 0
/-- hansom/hansomref04.Repeats -/
noncomputable def hansomref04_Repeats (n_ : Int) : Option Int :=
 (hansomref04_Name n_).bind fun r_1 =>
 if (r_1 == ([77, 79, 86, 83, 66] : List UInt8)) then
  hansomref04_Repeats_j28 r_1 true
 else
  if (r_1 == ([77, 79, 86, 83, 87] : List UInt8)) then
   hansomref04_Repeats_j28 r_1 true
  else
   if (r_1 == ([83, 84, 79, 83, 66] : List UInt8)) then
    hansomref04_Repeats_j28 r_1 true
   else
    if (r_1 == ([83, 84, 79, 83, 87] : List UInt8)) then
     hansomref04_Repeats_j28 r_1 true
    else
     if (r_1 == ([76, 79, 68, 83, 66] : List UInt8)) then
      hansomref04_Repeats_j28 r_1 true
     else
      hansomref04_Repeats_j28 r_1 (r_1 == ([76, 79, 68, 83, 87] : List UInt8))
/-- hansom/hansomref01.Fits -/
noncomputable def hansomref01_Fits (w_ : Int) : Option Bool :=
 if (decide (w_ < 128)) then
  some true
 else
  some (decide (w_ ≥ 65408))
/-- hansom/hansomref05.Disps -/
noncomputable def hansomref05_Disps (mod_ : Int) (rm_ : Int) : Option Int :=
 if (mod_ == 1) then
  some 1
 else
  if (mod_ == 2) then
   some 2
  else
   if (mod_ == 0) then
    if (rm_ == 6) then
     some 2
    else
     some 0
   else
    some 0
noncomputable def hansomref05_May_j82 (i1 : Inst) (t155 : Int) (t181 : Bool) : Option Bool :=
 if t181 then
  (hansomref01_Fits i1.Imm).bind fun r_4 =>
  if r_4 then
   some (i1.Sel == 0)
  else
   some false
 else
  if (t155 == 7) then
   some (i1.Sel == 0)
  else
   if (t155 == 10) then
    some (i1.Sel == 0)
   else
    if (t155 == 12) then
     some (i1.Sel == 0)
    else
     if (t155 == 13) then
      some (i1.Sel == 0)
     else
      if (t155 == 11) then
       some true
      else
       if (i1.Imm == 0) then
        some (i1.Sel == 0)
       else
        some false
noncomputable def hansomref05_May_j66 (i1 : Inst) (r3 : Row) (k7 : Int) : Option Bool :=
 if (k7 == 6) then
  if (decide (i1.Imm < 256)) then
   if (i1.Sel == 0) then
    if (r3.Name != 70) then
     if (r3.Name != 71) then
      some true
     else
      some (i1.Imm == 10)
    else
     some (i1.Imm == 10)
   else
    some false
  else
   some false
 else
  if (k7 == 8) then
   hansomref05_May_j82 i1 k7 true
  else
   hansomref05_May_j82 i1 k7 (k7 == 9)
noncomputable def hansomref05_May_j58 (i1 : Inst) (r3 : Row) : Option Bool :=
 (hansomref04_Bytes r3.A).bind fun r_3 =>
 if (r_3 == 0) then
  hansomref05_May_j66 i1 r3 r3.B
 else
  hansomref05_May_j66 i1 r3 r3.A
noncomputable def hansomref05_May_j49 (i1 : Inst) (r3 : Row) : Option Bool :=
 (hansomref05_Disps i1.Mod i1.RM).bind fun r_5 =>
 if (r_5 == 0) then
  if (i1.Disp != 0) then
   some false
  else
   if (r_5 == 1) then
    (hansomref01_Fits i1.Disp).bind fun r_6 =>
    if (!r_6) then
     some false
    else
     hansomref05_May_j58 i1 r3
   else
    hansomref05_May_j58 i1 r3
 else
  if (r_5 == 1) then
   (hansomref01_Fits i1.Disp).bind fun r_7 =>
   if (!r_7) then
    some false
   else
    hansomref05_May_j58 i1 r3
  else
   hansomref05_May_j58 i1 r3
noncomputable def hansomref05_May_j22 (i1 : Inst) (r3 : Row) : Option Bool :=
 if (!r3.Mod) then
  if (i1.Mod != 0) then
   some false
  else
   if (i1.Reg != 0) then
    some false
   else
    if (i1.RM != 0) then
     some false
    else
     if (i1.Disp != 0) then
      some false
     else
      hansomref05_May_j58 i1 r3
 else
  if (decide (i1.Mod < 0)) then
   some false
  else
   if (decide (i1.Mod > 3)) then
    some false
   else
    if (decide (i1.Reg < 0)) then
     some false
    else
     if (decide (i1.Reg > 7)) then
      some false
     else
      if (decide (i1.RM < 0)) then
       some false
      else
       if (decide (i1.RM > 7)) then
        some false
       else
        if (i1.Mod == 3) then
         if (r3.A == 19) then
          some false
         else
          if (r3.A == 20) then
           some false
          else
           if (r3.B == 19) then
            some false
           else
            if (r3.B == 20) then
             some false
            else
             hansomref05_May_j49 i1 r3
        else
         hansomref05_May_j49 i1 r3
/-- hansom/hansomref05.May -/
noncomputable def hansomref05_May (i_ : Inst) : Option Bool :=
 (hansomref05_Row i_).bind fun r_1 =>
 if (!r_1.2) then
  some false
 else
  if (decide (i_.Seg < 0)) then
   some false
  else
   if (decide (i_.Seg > 4)) then
    some false
   else
    (hansomref04_Repeats r_1.1.Name).bind fun r_2 =>
    if (decide (i_.Rep < 0)) then
     some false
    else
     if (decide (i_.Rep > 2)) then
      some false
     else
      if (i_.Rep == 1) then
       if (decide (r_2 < 2)) then
        some false
       else
        if (i_.Rep == 2) then
         if (decide (r_2 < 1)) then
          some false
         else
          hansomref05_May_j22 i_ r_1.1
        else
         hansomref05_May_j22 i_ r_1.1
      else
       if (i_.Rep == 2) then
        if (decide (r_2 < 1)) then
         some false
        else
         hansomref05_May_j22 i_ r_1.1
       else
        hansomref05_May_j22 i_ r_1.1
/-- hansom/hansomref01.Sign -/
noncomputable def hansomref01_Sign (b_ : Int) : Option Int :=
 if (decide (b_ < 128)) then
  some (IntKind.wrap .u16 b_)
 else
  some (IntKind.wrap .u16 (65280 + (IntKind.wrap .u16 b_)))
noncomputable def hansomref05_Near_j100 (x1 : Inst) (i2 : Inst) : Option Inst :=
 if (decide ((bitsOp .and .i64 x1.Seg 7) ≤ 4)) then
  (hansomref05_May ({ i2 with Seg := (bitsOp .and .i64 x1.Seg 7) } : Inst)).bind fun r_4 =>
  if (!r_4) then
   some ({ Lock := false, Rep := 0, Seg := 0, Op := 144, Mod := 0, Reg := 0, RM := 0, Disp := 0, Imm := 0, Sel := 0 } : Inst)
  else
   some ({ i2 with Seg := (bitsOp .and .i64 x1.Seg 7) } : Inst)
 else
  (hansomref05_May i2).bind fun r_5 =>
  if (!r_5) then
   some ({ Lock := false, Rep := 0, Seg := 0, Op := 144, Mod := 0, Reg := 0, RM := 0, Disp := 0, Imm := 0, Sel := 0 } : Inst)
  else
   some i2
noncomputable def hansomref05_Near_j86 (x1 : Inst) (i2 : Inst) (r3 : Row) : Option Inst :=
 (hansomref04_Repeats r3.Name).bind fun r_3 =>
 if (decide (r_3 > 0)) then
  if (decide ((bitsOp .and .i64 x1.Rep 3) > 0)) then
   if (r_3 == 2) then
    if ((bitsOp .and .i64 x1.Rep 1) == 1) then
     hansomref05_Near_j100 x1 ({ i2 with Rep := 1 } : Inst)
    else
     hansomref05_Near_j100 x1 ({ i2 with Rep := 2 } : Inst)
   else
    hansomref05_Near_j100 x1 ({ i2 with Rep := 2 } : Inst)
  else
   hansomref05_Near_j100 x1 i2
 else
  hansomref05_Near_j100 x1 i2
noncomputable def hansomref05_Near_j79 (x1 : Inst) (i2 : Inst) (r3 : Row) (t61 : Int) (t86 : Bool) : Option Inst :=
 if t86 then
  hansomref05_Near_j86 x1 ({ i2 with Imm := x1.Imm } : Inst) r3
 else
  if (t61 == 11) then
   hansomref05_Near_j86 x1 ({ i2 with Imm := x1.Imm, Sel := x1.Sel } : Inst) r3
  else
   hansomref05_Near_j86 x1 i2 r3
noncomputable def hansomref05_Near_j63 (x1 : Inst) (i2 : Inst) (r3 : Row) (t61 : Int) (t77 : Bool) : Option Inst :=
 if t77 then
  (hansomref01_Sign (IntKind.wrap .u8 (Int.tmod x1.Imm 256))).bind fun r_6 =>
  hansomref05_Near_j86 x1 ({ i2 with Imm := r_6 } : Inst) r3
 else
  if (t61 == 7) then
   hansomref05_Near_j79 x1 i2 r3 t61 true
  else
   if (t61 == 10) then
    hansomref05_Near_j79 x1 i2 r3 t61 true
   else
    if (t61 == 12) then
     hansomref05_Near_j79 x1 i2 r3 t61 true
    else
     hansomref05_Near_j79 x1 i2 r3 t61 (t61 == 13)
noncomputable def hansomref05_Near_j43 (x1 : Inst) (i2 : Inst) (r3 : Row) (k5 : Int) : Option Inst :=
 if (k5 == 6) then
  if (r3.Name == 70) then
   hansomref05_Near_j86 x1 ({ i2 with Imm := 10 } : Inst) r3
  else
   if (r3.Name == 71) then
    hansomref05_Near_j86 x1 ({ i2 with Imm := 10 } : Inst) r3
   else
    hansomref05_Near_j86 x1 ({ i2 with Imm := (Int.tmod x1.Imm 256) } : Inst) r3
 else
  if (k5 == 8) then
   hansomref05_Near_j63 x1 i2 r3 k5 true
  else
   hansomref05_Near_j63 x1 i2 r3 k5 (k5 == 9)
noncomputable def hansomref05_Near_j35 (x1 : Inst) (i2 : Inst) (r3 : Row) : Option Inst :=
 (hansomref04_Bytes r3.A).bind fun r_2 =>
 if (r_2 == 0) then
  hansomref05_Near_j43 x1 i2 r3 r3.B
 else
  hansomref05_Near_j43 x1 i2 r3 r3.A
/-- hansom/hansomref05.Near -/
noncomputable def hansomref05_Near (x_ : Inst) : Option Inst :=
 (hansomref05_Row ({ x_ with Rep := 0, Seg := 0, Mod := 0, Reg := (bitsOp .and .i64 x_.Reg 7), RM := 0, Disp := 0, Imm := 0, Sel := 0 } : Inst)).bind fun r_1 =>
 if (!r_1.2) then
  some ({ Lock := false, Rep := 0, Seg := 0, Op := 144, Mod := 0, Reg := 0, RM := 0, Disp := 0, Imm := 0, Sel := 0 } : Inst)
 else
  if (!r_1.1.Mod) then
   hansomref05_Near_j35 x_ ({ x_ with Rep := 0, Seg := 0, Mod := 0, Reg := 0, RM := 0, Disp := 0, Imm := 0, Sel := 0 } : Inst) r_1.1
  else
   (hansomref05_Disps (bitsOp .and .i64 x_.Mod 3) (bitsOp .and .i64 x_.RM 7)).bind fun r_7 =>
   if (r_7 == 1) then
    (hansomref01_Sign (IntKind.wrap .u8 (Int.tmod x_.Disp 256))).bind fun r_8 =>
    hansomref05_Near_j35 x_ ({ x_ with Rep := 0, Seg := 0, Mod := (bitsOp .and .i64 x_.Mod 3), Reg := (bitsOp .and .i64 x_.Reg 7), RM := (bitsOp .and .i64 x_.RM 7), Disp := r_8, Imm := 0, Sel := 0 } : Inst) r_1.1
   else
    if (r_7 == 2) then
     hansomref05_Near_j35 x_ ({ x_ with Rep := 0, Seg := 0, Mod := (bitsOp .and .i64 x_.Mod 3), Reg := (bitsOp .and .i64 x_.Reg 7), RM := (bitsOp .and .i64 x_.RM 7), Imm := 0, Sel := 0 } : Inst) r_1.1
    else
     hansomref05_Near_j35 x_ ({ x_ with Rep := 0, Seg := 0, Mod := (bitsOp .and .i64 x_.Mod 3), Reg := (bitsOp .and .i64 x_.Reg 7), RM := (bitsOp .and .i64 x_.RM 7), Disp := 0, Imm := 0, Sel := 0 } : Inst) r_1.1
/-- hansom/isa.Prefix -/
noncomputable def isa_Prefix (b_ : Int) : Option Bool :=
 if (b_ == 38) then
  some true
 else
  if (b_ == 46) then
   some true
  else
   if (b_ == 54) then
    some true
   else
    if (b_ == 62) then
     some true
    else
     if (b_ == 240) then
      some true
     else
      if (b_ == 242) then
       some true
      else
       if (b_ == 243) then
        some true
       else
        some false
/-- hansom/isa.mod -/
noncomputable def isa_mod (name_ : Int) (a_ : Int) (b_ : Int) : Option (Row × Bool) :=
 some (({ Name := name_, A := a_, B := b_, Mod := true } : Row), true)
/-- hansom/isa.row -/
noncomputable def isa_row (name_ : Int) (a_ : Int) (b_ : Int) : Option (Row × Bool) :=
 some (({ Name := name_, A := a_, B := b_, Mod := false } : Row), true)
/-- hansom/isa.bad -/
noncomputable def isa_bad  : Option (Row × Bool) :=
 some (({ Name := 0, A := 0, B := 0, Mod := false } : Row), false)
noncomputable def isa_sums_j77 (b_2 : Row) (t47 : Int) (t56 : Bool) : Option (Row × Bool) :=
 if t56 then
  (isa_row 10 23 0).bind fun r_8 =>
  some (r_8.1, r_8.2)
 else
  if (t47 == 39) then
   (isa_row 11 0 0).bind fun r_9 =>
   some (r_9.1, r_9.2)
  else
   if (t47 == 47) then
    (isa_row 12 0 0).bind fun r_10 =>
    some (r_10.1, r_10.2)
   else
    if (t47 == 55) then
     (isa_row 13 0 0).bind fun r_11 =>
     some (r_11.1, r_11.2)
    else
     if (t47 == 63) then
      (isa_row 14 0 0).bind fun r_12 =>
      some (r_12.1, r_12.2)
     else
      (isa_bad).bind fun r_13 =>
      some (r_13.1, r_13.2)
noncomputable def isa_sums_j63 (b_2 : Row) (t47 : Int) (t48 : Bool) : Option (Row × Bool) :=
 if t48 then
  (isa_row 9 23 0).bind fun r_7 =>
  some (r_7.1, r_7.2)
 else
  if (t47 == 7) then
   isa_sums_j77 b_2 t47 true
  else
   if (t47 == 23) then
    isa_sums_j77 b_2 t47 true
   else
    isa_sums_j77 b_2 t47 (t47 == 31)
/-- hansom/isa.sums -/
noncomputable def isa_sums (op_ : Int) : Option (Row × Bool) :=
 if ((bitsOp .and .u8 op_ 7) == 0) then
  (isa_mod (IntKind.wrap .i64 (1 + (IntKind.wrap .i64 (shrI .u8 op_ 3)))) 1 3).bind fun r_1 =>
  some (r_1.1, r_1.2)
 else
  if ((bitsOp .and .u8 op_ 7) == 1) then
   (isa_mod (IntKind.wrap .i64 (1 + (IntKind.wrap .i64 (shrI .u8 op_ 3)))) 2 4).bind fun r_2 =>
   some (r_2.1, r_2.2)
  else
   if ((bitsOp .and .u8 op_ 7) == 2) then
    (isa_mod (IntKind.wrap .i64 (1 + (IntKind.wrap .i64 (shrI .u8 op_ 3)))) 3 1).bind fun r_3 =>
    some (r_3.1, r_3.2)
   else
    if ((bitsOp .and .u8 op_ 7) == 3) then
     (isa_mod (IntKind.wrap .i64 (1 + (IntKind.wrap .i64 (shrI .u8 op_ 3)))) 4 2).bind fun r_4 =>
     some (r_4.1, r_4.2)
    else
     if ((bitsOp .and .u8 op_ 7) == 4) then
      (isa_row (IntKind.wrap .i64 (1 + (IntKind.wrap .i64 (shrI .u8 op_ 3)))) 14 6).bind fun r_5 =>
      some (r_5.1, r_5.2)
     else
      if ((bitsOp .and .u8 op_ 7) == 5) then
       (isa_row (IntKind.wrap .i64 (1 + (IntKind.wrap .i64 (shrI .u8 op_ 3)))) 16 7).bind fun r_6 =>
       some (r_6.1, r_6.2)
      else
       if (op_ == 6) then
        isa_sums_j63 ({ Name := 0, A := 0, B := 0, Mod := false } : Row) op_ true
       else
        if (op_ == 14) then
         isa_sums_j63 ({ Name := 0, A := 0, B := 0, Mod := false } : Row) op_ true
        else
         if (op_ == 22) then
          isa_sums_j63 ({ Name := 0, A := 0, B := 0, Mod := false } : Row) op_ true
         else
          isa_sums_j63 ({ Name := 0, A := 0, B := 0, Mod := false } : Row) op_ (op_ == 30)
/-- hansom/isa.moves -/
noncomputable def isa_moves (op_ : Int) (reg_ : Int) : Option (Row × Bool) :=
 if (op_ == 128) then
  (isa_mod (IntKind.wrap .i64 (1 + reg_)) 1 6).bind fun r_1 =>
  some (r_1.1, r_1.2)
 else
  if (op_ == 129) then
   (isa_mod (IntKind.wrap .i64 (1 + reg_)) 2 7).bind fun r_2 =>
   some (r_2.1, r_2.2)
  else
   if (op_ == 131) then
    if (reg_ == 1) then
     (isa_bad).bind fun r_3 =>
     some (r_3.1, r_3.2)
    else
     if (reg_ == 4) then
      (isa_bad).bind fun r_4 =>
      some (r_4.1, r_4.2)
     else
      if (reg_ == 6) then
       (isa_bad).bind fun r_5 =>
       some (r_5.1, r_5.2)
      else
       (isa_mod (IntKind.wrap .i64 (1 + reg_)) 2 8).bind fun r_6 =>
       some (r_6.1, r_6.2)
   else
    if (op_ == 132) then
     (isa_mod 33 1 3).bind fun r_7 =>
     some (r_7.1, r_7.2)
    else
     if (op_ == 133) then
      (isa_mod 33 2 4).bind fun r_8 =>
      some (r_8.1, r_8.2)
     else
      if (op_ == 134) then
       (isa_mod 34 1 3).bind fun r_9 =>
       some (r_9.1, r_9.2)
      else
       if (op_ == 135) then
        (isa_mod 34 2 4).bind fun r_10 =>
        some (r_10.1, r_10.2)
       else
        if (op_ == 136) then
         (isa_mod 35 1 3).bind fun r_11 =>
         some (r_11.1, r_11.2)
        else
         if (op_ == 137) then
          (isa_mod 35 2 4).bind fun r_12 =>
          some (r_12.1, r_12.2)
         else
          if (op_ == 138) then
           (isa_mod 35 3 1).bind fun r_13 =>
           some (r_13.1, r_13.2)
          else
           if (op_ == 139) then
            (isa_mod 35 4 2).bind fun r_14 =>
            some (r_14.1, r_14.2)
           else
            if (op_ == 140) then
             if (decide (reg_ < 4)) then
              (isa_mod 35 2 5).bind fun r_15 =>
              some (r_15.1, r_15.2)
             else
              (isa_bad).bind fun r_16 =>
              some (r_16.1, r_16.2)
            else
             if (op_ == 141) then
              (isa_mod 36 4 20).bind fun r_17 =>
              some (r_17.1, r_17.2)
             else
              if (op_ == 142) then
               if (decide (reg_ < 4)) then
                if (reg_ != 1) then
                 (isa_mod 35 5 2).bind fun r_18 =>
                 some (r_18.1, r_18.2)
                else
                 (isa_bad).bind fun r_19 =>
                 some (r_19.1, r_19.2)
               else
                (isa_bad).bind fun r_20 =>
                some (r_20.1, r_20.2)
              else
               if (op_ == 143) then
                if (reg_ == 0) then
                 (isa_mod 10 2 0).bind fun r_21 =>
                 some (r_21.1, r_21.2)
                else
                 (isa_bad).bind fun r_22 =>
                 some (r_22.1, r_22.2)
               else
                (isa_bad).bind fun r_23 =>
                some (r_23.1, r_23.2)
/-- hansom/isa.words -/
noncomputable def isa_words (op_ : Int) : Option (Row × Bool) :=
 if (decide (op_ < 152)) then
  (isa_row 34 16 22).bind fun r_1 =>
  some (r_1.1, r_1.2)
 else
  if (op_ == 154) then
   (isa_row 40 11 0).bind fun r_2 =>
   some (r_2.1, r_2.2)
  else
   (idx ([37, 38, 0, 41, 42, 43, 44, 45] : List Int) (IntKind.wrap .u8 (op_ - 152))).bind fun z_1 =>
   (isa_row z_1 0 0).bind fun r_3 =>
   some (r_3.1, r_3.2)
/-- hansom/isa.texts -/
noncomputable def isa_texts (op_ : Int) : Option (Row × Bool) :=
 if (op_ == 160) then
  (isa_row 35 14 12).bind fun r_1 =>
  some (r_1.1, r_1.2)
 else
  if (op_ == 161) then
   (isa_row 35 16 13).bind fun r_2 =>
   some (r_2.1, r_2.2)
  else
   if (op_ == 162) then
    (isa_row 35 12 14).bind fun r_3 =>
    some (r_3.1, r_3.2)
   else
    if (op_ == 163) then
     (isa_row 35 13 16).bind fun r_4 =>
     some (r_4.1, r_4.2)
    else
     if (op_ == 168) then
      (isa_row 33 14 6).bind fun r_5 =>
      some (r_5.1, r_5.2)
     else
      if (op_ == 169) then
       (isa_row 33 16 7).bind fun r_6 =>
       some (r_6.1, r_6.2)
      else
       if (decide (op_ < 168)) then
        (isa_row (IntKind.wrap .i64 (46 + (IntKind.wrap .i64 (IntKind.wrap .u8 (op_ - 164))))) 0 0).bind fun r_7 =>
        some (r_7.1, r_7.2)
       else
        (isa_row (IntKind.wrap .i64 (50 + (IntKind.wrap .i64 (IntKind.wrap .u8 (op_ - 170))))) 0 0).bind fun r_8 =>
        some (r_8.1, r_8.2)
/-- hansom/isa.backs -/
noncomputable def isa_backs (op_ : Int) (reg_ : Int) : Option (Row × Bool) :=
 if (op_ == 194) then
  (isa_row 56 7 0).bind fun r_1 =>
  some (r_1.1, r_1.2)
 else
  if (op_ == 195) then
   (isa_row 56 0 0).bind fun r_2 =>
   some (r_2.1, r_2.2)
  else
   if (op_ == 196) then
    (isa_mod 58 4 19).bind fun r_3 =>
    some (r_3.1, r_3.2)
   else
    if (op_ == 197) then
     (isa_mod 59 4 19).bind fun r_4 =>
     some (r_4.1, r_4.2)
    else
     if (op_ == 198) then
      if (reg_ == 0) then
       (isa_mod 35 1 6).bind fun r_5 =>
       some (r_5.1, r_5.2)
      else
       (isa_bad).bind fun r_6 =>
       some (r_6.1, r_6.2)
     else
      if (op_ == 199) then
       if (reg_ == 0) then
        (isa_mod 35 2 7).bind fun r_7 =>
        some (r_7.1, r_7.2)
       else
        (isa_bad).bind fun r_8 =>
        some (r_8.1, r_8.2)
      else
       if (op_ == 202) then
        (isa_row 57 7 0).bind fun r_9 =>
        some (r_9.1, r_9.2)
       else
        if (op_ == 203) then
         (isa_row 57 0 0).bind fun r_10 =>
         some (r_10.1, r_10.2)
        else
         if (op_ == 204) then
          (isa_row 60 24 0).bind fun r_11 =>
          some (r_11.1, r_11.2)
         else
          if (op_ == 205) then
           (isa_row 60 6 0).bind fun r_12 =>
           some (r_12.1, r_12.2)
          else
           if (op_ == 206) then
            (isa_row 61 0 0).bind fun r_13 =>
            some (r_13.1, r_13.2)
           else
            if (op_ == 207) then
             (isa_row 62 0 0).bind fun r_14 =>
             some (r_14.1, r_14.2)
            else
             (isa_bad).bind fun r_15 =>
             some (r_15.1, r_15.2)
/-- hansom/isa.turns -/
noncomputable def isa_turns (op_ : Int) (reg_ : Int) : Option (Row × Bool) :=
 if (decide (op_ < 212)) then
  if (reg_ == 6) then
   (isa_bad).bind fun r_1 =>
   some (r_1.1, r_1.2)
  else
   (idx ([63, 64, 65, 66, 67, 68, 0, 69] : List Int) reg_).bind fun z_1 =>
   if ((bitsOp .and .u8 op_ 1) == 1) then
    if ((bitsOp .and .u8 op_ 2) != 0) then
     (isa_mod z_1 2 15).bind fun r_2 =>
     some (r_2.1, r_2.2)
    else
     (isa_mod z_1 2 18).bind fun r_3 =>
     some (r_3.1, r_3.2)
   else
    if ((bitsOp .and .u8 op_ 2) != 0) then
     (isa_mod z_1 1 15).bind fun r_4 =>
     some (r_4.1, r_4.2)
    else
     (isa_mod z_1 1 18).bind fun r_5 =>
     some (r_5.1, r_5.2)
 else
  if (op_ == 212) then
   (isa_row 70 6 0).bind fun r_6 =>
   some (r_6.1, r_6.2)
  else
   if (op_ == 213) then
    (isa_row 71 6 0).bind fun r_7 =>
    some (r_7.1, r_7.2)
   else
    if (op_ == 215) then
     (isa_row 72 0 0).bind fun r_8 =>
     some (r_8.1, r_8.2)
    else
     if (decide (op_ ≥ 216)) then
      (isa_mod 73 2 0).bind fun r_9 =>
      some (r_9.1, r_9.2)
     else
      (isa_bad).bind fun r_10 =>
      some (r_10.1, r_10.2)
noncomputable def isa_goes_j20 (b_2 : Row) (op0 : Int) (t4 : Int) (t5 : Bool) : Option (Row × Bool) :=
 if t5 then
  (isa_row (IntKind.wrap .i64 (74 + (IntKind.wrap .i64 (IntKind.wrap .u8 (op0 - 224))))) 9 0).bind fun r_1 =>
  some (r_1.1, r_1.2)
 else
  if (t4 == 228) then
   (isa_row 78 14 6).bind fun r_2 =>
   some (r_2.1, r_2.2)
  else
   if (t4 == 229) then
    (isa_row 78 16 6).bind fun r_3 =>
    some (r_3.1, r_3.2)
   else
    if (t4 == 230) then
     (isa_row 79 6 14).bind fun r_4 =>
     some (r_4.1, r_4.2)
    else
     if (t4 == 231) then
      (isa_row 79 6 16).bind fun r_5 =>
      some (r_5.1, r_5.2)
     else
      if (t4 == 232) then
       (isa_row 39 10 0).bind fun r_6 =>
       some (r_6.1, r_6.2)
      else
       if (t4 == 233) then
        (isa_row 80 10 0).bind fun r_7 =>
        some (r_7.1, r_7.2)
       else
        if (t4 == 234) then
         (isa_row 81 11 0).bind fun r_8 =>
         some (r_8.1, r_8.2)
        else
         if (t4 == 235) then
          (isa_row 80 9 0).bind fun r_9 =>
          some (r_9.1, r_9.2)
         else
          if (t4 == 236) then
           (isa_row 78 14 17).bind fun r_10 =>
           some (r_10.1, r_10.2)
          else
           if (t4 == 237) then
            (isa_row 78 16 17).bind fun r_11 =>
            some (r_11.1, r_11.2)
           else
            if (t4 == 238) then
             (isa_row 79 17 14).bind fun r_12 =>
             some (r_12.1, r_12.2)
            else
             (isa_row 79 17 16).bind fun r_13 =>
             some (r_13.1, r_13.2)
/-- hansom/isa.goes -/
noncomputable def isa_goes (op_ : Int) : Option (Row × Bool) :=
 if (op_ == 224) then
  isa_goes_j20 ({ Name := 0, A := 0, B := 0, Mod := false } : Row) op_ op_ true
 else
  if (op_ == 225) then
   isa_goes_j20 ({ Name := 0, A := 0, B := 0, Mod := false } : Row) op_ op_ true
  else
   if (op_ == 226) then
    isa_goes_j20 ({ Name := 0, A := 0, B := 0, Mod := false } : Row) op_ op_ true
   else
    isa_goes_j20 ({ Name := 0, A := 0, B := 0, Mod := false } : Row) op_ op_ (op_ == 227)
noncomputable def isa_rest_j37 (b_4 : Row) (op0 : Int) (reg1 : Int) (e6 : Int) (i7 : Int) : Option (Row × Bool) :=
 if (decide (op0 < 248)) then
  if (reg1 == 0) then
   (isa_mod 33 e6 i7).bind fun r_5 =>
   some (r_5.1, r_5.2)
  else
   if (reg1 == 1) then
    (isa_bad).bind fun r_6 =>
    some (r_6.1, r_6.2)
   else
    (isa_mod (IntKind.wrap .i64 ((IntKind.wrap .i64 (84 + reg1)) - 2)) e6 0).bind fun r_7 =>
    some (r_7.1, r_7.2)
 else
  if (decide (reg1 < 2)) then
   (isa_mod (IntKind.wrap .i64 (15 + reg1)) e6 0).bind fun r_8 =>
   some (r_8.1, r_8.2)
  else
   if (op0 == 254) then
    (isa_bad).bind fun r_9 =>
    some (r_9.1, r_9.2)
   else
    if (reg1 == 7) then
     (isa_bad).bind fun r_10 =>
     some (r_10.1, r_10.2)
    else
     (idx ([39, 40, 80, 81, 9] : List Int) (IntKind.wrap .i64 (reg1 - 2))).bind fun z_1 =>
     if (reg1 == 3) then
      (isa_mod z_1 19 0).bind fun r_11 =>
      some (r_11.1, r_11.2)
     else
      if (reg1 == 5) then
       (isa_mod z_1 19 0).bind fun r_12 =>
       some (r_12.1, r_12.2)
      else
       (isa_mod z_1 e6 0).bind fun r_13 =>
       some (r_13.1, r_13.2)
noncomputable def isa_rest_j18 (b_4 : Row) (op0 : Int) (reg1 : Int) (t21 : Bool) : Option (Row × Bool) :=
 if t21 then
  (isa_row (IntKind.wrap .i64 (90 + (IntKind.wrap .i64 (IntKind.wrap .u8 (op0 - 248))))) 0 0).bind fun r_3 =>
  some (r_3.1, r_3.2)
 else
  if (decide (op0 < 246)) then
   (isa_bad).bind fun r_4 =>
   some (r_4.1, r_4.2)
  else
   if ((bitsOp .and .u8 op0 1) == 1) then
    isa_rest_j37 b_4 op0 reg1 2 7
   else
    isa_rest_j37 b_4 op0 reg1 1 6
/-- hansom/isa.rest -/
noncomputable def isa_rest (op_ : Int) (reg_ : Int) : Option (Row × Bool) :=
 if (op_ == 244) then
  (isa_row 82 0 0).bind fun r_1 =>
  some (r_1.1, r_1.2)
 else
  if (op_ == 245) then
   (isa_row 83 0 0).bind fun r_2 =>
   some (r_2.1, r_2.2)
  else
   if (decide (op_ ≥ 248)) then
    isa_rest_j18 ({ Name := 0, A := 0, B := 0, Mod := false } : Row) op_ reg_ (decide (op_ < 254))
   else
    isa_rest_j18 ({ Name := 0, A := 0, B := 0, Mod := false } : Row) op_ reg_ false
/-- hansom/isa.Of -/
noncomputable def isa_Of (op_ : Int) (reg_ : Int) : Option (Row × Bool) :=
 if (decide (op_ < 64)) then
  (isa_sums op_).bind fun r_1 =>
  some (r_1.1, r_1.2)
 else
  if (decide (op_ < 96)) then
   (idx ([15, 16, 9, 10] : List Int) (shrI .u8 (IntKind.wrap .u8 (op_ - 64)) 3)).bind fun z_1 =>
   (isa_row z_1 22 0).bind fun r_2 =>
   some (r_2.1, r_2.2)
  else
   if (decide (op_ < 112)) then
    (isa_bad).bind fun r_3 =>
    some (r_3.1, r_3.2)
   else
    if (decide (op_ < 128)) then
     (isa_row (IntKind.wrap .i64 (17 + (IntKind.wrap .i64 (IntKind.wrap .u8 (op_ - 112))))) 9 0).bind fun r_4 =>
     some (r_4.1, r_4.2)
    else
     if (decide (op_ < 144)) then
      (isa_moves op_ (bitsOp .and .i64 reg_ 7)).bind fun r_5 =>
      some (r_5.1, r_5.2)
     else
      if (decide (op_ < 160)) then
       (isa_words op_).bind fun r_6 =>
       some (r_6.1, r_6.2)
      else
       if (decide (op_ < 176)) then
        (isa_texts op_).bind fun r_7 =>
        some (r_7.1, r_7.2)
       else
        if (decide (op_ < 184)) then
         (isa_row 35 21 6).bind fun r_8 =>
         some (r_8.1, r_8.2)
        else
         if (decide (op_ < 192)) then
          (isa_row 35 22 7).bind fun r_9 =>
          some (r_9.1, r_9.2)
         else
          if (decide (op_ < 208)) then
           (isa_backs op_ (bitsOp .and .i64 reg_ 7)).bind fun r_10 =>
           some (r_10.1, r_10.2)
          else
           if (decide (op_ < 224)) then
            (isa_turns op_ (bitsOp .and .i64 reg_ 7)).bind fun r_11 =>
            some (r_11.1, r_11.2)
           else
            if (decide (op_ < 240)) then
             (isa_goes op_).bind fun r_12 =>
             some (r_12.1, r_12.2)
            else
             (isa_rest op_ (bitsOp .and .i64 reg_ 7)).bind fun r_13 =>
             some (r_13.1, r_13.2)
/-- hansom/inst.Row -/
noncomputable def inst_Row (i_ : Inst) : Option (Row × Bool) :=
 (isa_Prefix i_.Op).bind fun r_1 =>
 if r_1 then
  some (({ Name := 0, A := 0, B := 0, Mod := false } : Row), false)
 else
  (isa_Of i_.Op i_.Reg).bind fun r_2 =>
  some (r_2.1, r_2.2)
/-- hansom/inst.Disps -/
noncomputable def inst_Disps (mod_ : Int) (rm_ : Int) : Option Int :=
 if (mod_ == 1) then
  some 1
 else
  if (mod_ == 2) then
   some 2
  else
   if (mod_ == 0) then
    if (rm_ == 6) then
     some 2
    else
     some 0
   else
    some 0
/-- hansom/bits.Low -/
noncomputable def bits_Low (w_ : Int) : Option Int :=
 some (IntKind.wrap .u8 w_)
/-- hansom/bits.Sign -/
noncomputable def bits_Sign (b_ : Int) : Option Int :=
 some (IntKind.wrap .u16 (IntKind.wrap .i16 (IntKind.wrap .i8 b_)))
/-- hansom/bits.Fits -/
noncomputable def bits_Fits (w_ : Int) : Option Bool :=
 (bits_Low w_).bind fun r_1 =>
 (bits_Sign r_1).bind fun r_2 =>
 some (r_2 == w_)
noncomputable def inst_second_j26 (i2 : Inst) : Option Bool :=
 (inst_Disps i2.Mod i2.RM).bind fun r_1 =>
 if (r_1 == 0) then
  some (i2.Disp == 0)
 else
  if (r_1 == 1) then
   (bits_Fits i2.Disp).bind fun r_2 =>
   some r_2
  else
   some true
/-- hansom/inst.second -/
noncomputable def inst_second (i_ : Inst) (r_ : Row) : Option Bool :=
 if (!r_.Mod) then
  if (i_.Mod == 0) then
   if (i_.Reg == 0) then
    if (i_.RM == 0) then
     some (i_.Disp == 0)
    else
     some false
   else
    some false
  else
   some false
 else
  if (decide (i_.Mod < 0)) then
   some false
  else
   if (decide (i_.Mod > 3)) then
    some false
   else
    if (decide (i_.Reg < 0)) then
     some false
    else
     if (decide (i_.Reg > 7)) then
      some false
     else
      if (decide (i_.RM < 0)) then
       some false
      else
       if (decide (i_.RM > 7)) then
        some false
       else
        if (i_.Mod == 3) then
         if (r_.A == 19) then
          some false
         else
          if (r_.B == 19) then
           some false
          else
           if (r_.B == 20) then
            some false
           else
            inst_second_j26 i_
        else
         inst_second_j26 i_
noncomputable def inst_behind_j32 (i2 : Inst) (r3 : Row) (t11 : (A2 Int)) (t12 : Int) (t15 : Int) (t41 : Bool) : Option (Lp Int (Bool ⊕ Unit)) :=
 if t41 then
  (bits_Fits i2.Imm).bind fun r_1 =>
  if r_1 then
   some (.out (.inl (i2.Sel == 0)))
  else
   some (.out (.inl false))
 else
  if (t15 == 7) then
   some (.out (.inl (i2.Sel == 0)))
  else
   if (t15 == 10) then
    some (.out (.inl (i2.Sel == 0)))
   else
    if (t15 == 12) then
     some (.out (.inl (i2.Sel == 0)))
    else
     if (t15 == 13) then
      some (.out (.inl (i2.Sel == 0)))
     else
      if (t15 == 11) then
       some (.out (.inl true))
      else
       some (.next (IntKind.wrap .i64 (t12 + 1)))
noncomputable def inst_behind_l6 (i2 : Inst) (r3 : Row) (t11 : (A2 Int)) (t12 : Int) : Option (Lp Int (Bool ⊕ Unit)) :=
 if (decide (t12 < 2)) then
  (idx t11.l t12).bind fun z_1 =>
  if (z_1 == 6) then
   if (decide (i2.Imm < 256)) then
    if (i2.Sel == 0) then
     if (r3.Name != 70) then
      if (r3.Name != 71) then
       some (.out (.inl true))
      else
       some (.out (.inl (i2.Imm == 10)))
     else
      some (.out (.inl (i2.Imm == 10)))
    else
     some (.out (.inl false))
   else
    some (.out (.inl false))
  else
   if (z_1 == 8) then
    inst_behind_j32 i2 r3 t11 t12 z_1 true
   else
    inst_behind_j32 i2 r3 t11 t12 z_1 (z_1 == 9)
 else
  some (.out (.inr ()))
/-- hansom/inst.behind -/
noncomputable def inst_behind (i_ : Inst) (r_ : Row) : Option Bool :=
 (loopO (fun x : Int => inst_behind_l6 i_ r_ ({ a0 := r_.A, a1 := r_.B } : (A2 Int)) x) 0).bind fun e_1 =>
 match e_1 with
 | .inl e_2 =>
  some e_2
 | .inr e_3 =>
  if (i_.Imm == 0) then
   some (i_.Sel == 0)
  else
   some false
noncomputable def isa_Repeats_j28 (t3 : Int) (t4 : Bool) : Option Int :=
 if t4 then
  some 1
 else
  if (t3 == 48) then
   some 2
  else
   if (t3 == 49) then
    some 2
   else
    if (t3 == 54) then
     some 2
    else
     if (t3 == 55) then
      some 2
     else
      some 0
/-- hansom/isa.Repeats -/
noncomputable def isa_Repeats (name_ : Int) : Option Int :=
 if (name_ == 46) then
  isa_Repeats_j28 name_ true
 else
  if (name_ == 47) then
   isa_Repeats_j28 name_ true
  else
   if (name_ == 50) then
    isa_Repeats_j28 name_ true
   else
    if (name_ == 51) then
     isa_Repeats_j28 name_ true
    else
     if (name_ == 52) then
      isa_Repeats_j28 name_ true
     else
      isa_Repeats_j28 name_ (name_ == 53)
/-- hansom/inst.prefixes -/
noncomputable def inst_prefixes (i_ : Inst) (r_ : Row) : Option Bool :=
 (isa_Repeats r_.Name).bind fun r_1 =>
 if (i_.Rep == 0) then
  if (decide (i_.Seg ≥ 0)) then
   some (decide (i_.Seg ≤ 4))
  else
   some false
 else
  if (i_.Rep == 1) then
   if (decide (r_1 < 2)) then
    some false
   else
    if (decide (i_.Seg ≥ 0)) then
     some (decide (i_.Seg ≤ 4))
    else
     some false
  else
   if (i_.Rep == 2) then
    if (decide (r_1 < 1)) then
     some false
    else
     if (decide (i_.Seg ≥ 0)) then
      some (decide (i_.Seg ≤ 4))
     else
      some false
   else
    some false
/-- hansom/inst.May -/
noncomputable def inst_May (i_ : Inst) : Option Bool :=
 (inst_Row i_).bind fun r_1 =>
 if r_1.2 then
  (inst_second i_ r_1.1).bind fun r_2 =>
  if r_2 then
   (inst_behind i_ r_1.1).bind fun r_3 =>
   if r_3 then
    (inst_prefixes i_ r_1.1).bind fun r_4 =>
    some r_4
   else
    some false
  else
   some false
 else
  some false
/-- hansom/disp.nth -/
noncomputable def disp_nth (all_ : (List UInt8)) (n_ : Int) : Option (List UInt8) :=
 (strings_Fields all_).bind fun r_1 =>
 if (decide (n_ < 0)) then
  some ([63] : List UInt8)
 else
  if (decide (n_ ≥ (r_1.length : Int))) then
   some ([63] : List UInt8)
  else
   (idx r_1 n_).bind fun z_1 =>
   some z_1
/-- hansom/disp.Name -/
noncomputable def disp_Name (n_ : Int) : Option (List UInt8) :=
 (disp_nth ([65, 68, 68, 32, 79, 82, 32, 65, 68, 67, 32, 83, 66, 66, 32, 65, 78, 68, 32, 83, 85, 66, 32, 88, 79, 82, 32, 67, 77, 80, 32, 80, 85, 83, 72, 32, 80, 79, 80, 32, 68, 65, 65, 32, 68, 65, 83, 32, 65, 65, 65, 32, 65, 65, 83, 32, 73, 78, 67, 32, 68, 69, 67, 32, 74, 79, 32, 74, 78, 79, 32, 74, 66, 32, 74, 78, 66, 32, 74, 90, 32, 74, 78, 90, 32, 74, 66, 69, 32, 74, 65, 32, 74, 83, 32, 74, 78, 83, 32, 74, 80, 32, 74, 78, 80, 32, 74, 76, 32, 74, 71, 69, 32, 74, 76, 69, 32, 74, 71, 32, 84, 69, 83, 84, 32, 88, 67, 72, 71, 32, 77, 79, 86, 32, 76, 69, 65, 32, 67, 66, 87, 32, 67, 87, 68, 32, 67, 65, 76, 76, 32, 67, 65, 76, 76, 70, 32, 87, 65, 73, 84, 32, 80, 85, 83, 72, 70, 32, 80, 79, 80, 70, 32, 83, 65, 72, 70, 32, 76, 65, 72, 70, 32, 77, 79, 86, 83, 66, 32, 77, 79, 86, 83, 87, 32, 67, 77, 80, 83, 66, 32, 67, 77, 80, 83, 87, 32, 83, 84, 79, 83, 66, 32, 83, 84, 79, 83, 87, 32, 76, 79, 68, 83, 66, 32, 76, 79, 68, 83, 87, 32, 83, 67, 65, 83, 66, 32, 83, 67, 65, 83, 87, 32, 82, 69, 84, 32, 82, 69, 84, 70, 32, 76, 69, 83, 32, 76, 68, 83, 32, 73, 78, 84, 32, 73, 78, 84, 79, 32, 73, 82, 69, 84, 32, 82, 79, 76, 32, 82, 79, 82, 32, 82, 67, 76, 32, 82, 67, 82, 32, 83, 72, 76, 32, 83, 72, 82, 32, 83, 65, 82, 32, 65, 65, 77, 32, 65, 65, 68, 32, 88, 76, 65, 84, 32, 69, 83, 67, 32, 76, 79, 79, 80, 78, 90, 32, 76, 79, 79, 80, 90, 32, 76, 79, 79, 80, 32, 74, 67, 88, 90, 32, 73, 78, 32, 79, 85, 84, 32, 74, 77, 80, 32, 74, 77, 80, 70, 32, 72, 76, 84, 32, 67, 77, 67, 32, 78, 79, 84, 32, 78, 69, 71, 32, 77, 85, 76, 32, 73, 77, 85, 76, 32, 68, 73, 86, 32, 73, 68, 73, 86, 32, 67, 76, 67, 32, 83, 84, 67, 32, 67, 76, 73, 32, 83, 84, 73, 32, 67, 76, 68, 32, 83, 84, 68] : List UInt8) (IntKind.wrap .i64 (n_ - 1))).bind fun r_1 =>
 some r_1
/-- hansom/disp.Byte -/
noncomputable def disp_Byte (n_ : Int) : Option (List UInt8) :=
 (disp_nth ([65, 76, 32, 67, 76, 32, 68, 76, 32, 66, 76, 32, 65, 72, 32, 67, 72, 32, 68, 72, 32, 66, 72] : List UInt8) n_).bind fun r_1 =>
 some r_1
/-- hansom/disp.Seg -/
noncomputable def disp_Seg (n_ : Int) : Option (List UInt8) :=
 (disp_nth ([69, 83, 32, 67, 83, 32, 83, 83, 32, 68, 83] : List UInt8) n_).bind fun r_1 =>
 some r_1
/-- hansom/disp.base -/
noncomputable def disp_base (rm_ : Int) : Option (List UInt8) :=
 (disp_nth ([66, 88, 43, 83, 73, 32, 66, 88, 43, 68, 73, 32, 66, 80, 43, 83, 73, 32, 66, 80, 43, 68, 73, 32, 83, 73, 32, 68, 73, 32, 66, 80, 32, 66, 88] : List UInt8) rm_).bind fun r_1 =>
 some r_1
noncomputable def bits_Digits_l10 (b_11 : (List Int)) (n0 : Int) (many1 : Int) (t13 : Int) (t14 : Int) : Option (Lp ((List Int) × Int × Int) (List Int)) :=
 if (decide (t14 < t13)) then
  (idx ([48, 49, 50, 51, 52, 53, 54, 55, 56, 57, 65, 66, 67, 68, 69, 70] : List UInt8) (bitsOp .and .u32 n0 15)).bind fun z_2 =>
  (idx b_11 (IntKind.wrap .i64 ((IntKind.wrap .i64 (many1 - 1)) - t14))).bind fun z_3 =>
  some (.next ((List.set b_11 ((IntKind.wrap .i64 ((IntKind.wrap .i64 (many1 - 1)) - t14))).toNat (z_2.toNat : Int)), (shrI .u32 n0 4), (IntKind.wrap .i64 (t14 + 1))))
 else
  some (.out b_11)
/-- hansom/bits.Digits -/
noncomputable def bits_Digits (n_ : Int) (many_ : Int) : Option (List UInt8) :=
 (mk 1 0 (mnI (mxI many_ 1) 8)).bind fun z_1 =>
 (loopO (fun x : ((List Int) × Int × Int) => bits_Digits_l10 x.1 x.2.1 (mnI (mxI many_ 1) 8) (z_1.length : Int) x.2.2) (z_1, n_, 0)).bind fun e_1 =>
 some (b2s e_1)
noncomputable def disp_place_j10 (i1 : Inst) (s3 : (List UInt8)) : Option (List UInt8) :=
 (inst_Disps i1.Mod i1.RM).bind fun r_2 =>
 if (r_2 == 0) then
  (catS s3 ([91] : List UInt8)).bind fun z_2 =>
  (disp_base i1.RM).bind fun r_3 =>
  (catS z_2 r_3).bind fun z_3 =>
  (catS z_3 ([93] : List UInt8)).bind fun z_4 =>
  some z_4
 else
  if (r_2 == 1) then
   if (decide (i1.Disp ≥ 32768)) then
    (catS s3 ([91] : List UInt8)).bind fun z_5 =>
    (disp_base i1.RM).bind fun r_4 =>
    (catS z_5 r_4).bind fun z_6 =>
    (catS z_6 ([45] : List UInt8)).bind fun z_7 =>
    (bits_Digits (IntKind.wrap .u32 (IntKind.wrap .u16 (0 - i1.Disp))) 2).bind fun r_5 =>
    (catS z_7 r_5).bind fun z_8 =>
    (catS z_8 ([93] : List UInt8)).bind fun z_9 =>
    some z_9
   else
    (catS s3 ([91] : List UInt8)).bind fun z_10 =>
    (disp_base i1.RM).bind fun r_6 =>
    (catS z_10 r_6).bind fun z_11 =>
    (catS z_11 ([43] : List UInt8)).bind fun z_12 =>
    (bits_Digits (IntKind.wrap .u32 i1.Disp) 2).bind fun r_7 =>
    (catS z_12 r_7).bind fun z_13 =>
    (catS z_13 ([93] : List UInt8)).bind fun z_14 =>
    some z_14
  else
   if (i1.Mod == 0) then
    (catS s3 ([91] : List UInt8)).bind fun z_15 =>
    (bits_Digits (IntKind.wrap .u32 i1.Disp) 4).bind fun r_8 =>
    (catS z_15 r_8).bind fun z_16 =>
    (catS z_16 ([93] : List UInt8)).bind fun z_17 =>
    some z_17
   else
    (catS s3 ([91] : List UInt8)).bind fun z_18 =>
    (disp_base i1.RM).bind fun r_9 =>
    (catS z_18 r_9).bind fun z_19 =>
    (catS z_19 ([43] : List UInt8)).bind fun z_20 =>
    (bits_Digits (IntKind.wrap .u32 i1.Disp) 4).bind fun r_10 =>
    (catS z_20 r_10).bind fun z_21 =>
    (catS z_21 ([93] : List UInt8)).bind fun z_22 =>
    some z_22
/-- hansom/disp.place -/
noncomputable def disp_place (i_ : Inst) : Option (List UInt8) :=
 if (decide (i_.Seg > 0)) then
  (disp_Seg (IntKind.wrap .i64 (i_.Seg - 1))).bind fun r_1 =>
  (catS r_1 ([58] : List UInt8)).bind fun z_1 =>
  disp_place_j10 i_ z_1
 else
  disp_place_j10 i_ ([] : List UInt8)
/-- hansom/disp.Reg -/
noncomputable def disp_Reg (n_ : Int) : Option (List UInt8) :=
 (disp_nth ([65, 88, 32, 67, 88, 32, 68, 88, 32, 66, 88, 32, 83, 80, 32, 66, 80, 32, 83, 73, 32, 68, 73] : List UInt8) n_).bind fun r_1 =>
 some r_1
noncomputable def disp_other_j20 (i2 : Inst) (ahead5 : (List UInt8)) (t14 : Int) (t15 : Bool) : Option (List UInt8) :=
 if t15 then
  if (decide (i2.Imm ≥ 32768)) then
   (bits_Digits (IntKind.wrap .u32 (IntKind.wrap .u16 (0 - i2.Imm))) 4).bind fun r_2 =>
   (catS ([45] : List UInt8) r_2).bind fun z_2 =>
   some z_2
  else
   (bits_Digits (IntKind.wrap .u32 i2.Imm) 4).bind fun r_3 =>
   (catS ([43] : List UInt8) r_3).bind fun z_3 =>
   some z_3
 else
  if (t14 == 11) then
   (bits_Digits (IntKind.wrap .u32 i2.Sel) 4).bind fun r_4 =>
   (catS r_4 ([58] : List UInt8)).bind fun z_4 =>
   (bits_Digits (IntKind.wrap .u32 i2.Imm) 4).bind fun r_5 =>
   (catS z_4 r_5).bind fun z_5 =>
   some z_5
  else
   if (t14 == 12) then
    (catS ([66, 89, 84, 69, 32] : List UInt8) ahead5).bind fun z_6 =>
    (catS z_6 ([91] : List UInt8)).bind fun z_7 =>
    (bits_Digits (IntKind.wrap .u32 i2.Imm) 4).bind fun r_6 =>
    (catS z_7 r_6).bind fun z_8 =>
    (catS z_8 ([93] : List UInt8)).bind fun z_9 =>
    some z_9
   else
    if (t14 == 13) then
     (catS ([87, 79, 82, 68, 32] : List UInt8) ahead5).bind fun z_10 =>
     (catS z_10 ([91] : List UInt8)).bind fun z_11 =>
     (bits_Digits (IntKind.wrap .u32 i2.Imm) 4).bind fun r_7 =>
     (catS z_11 r_7).bind fun z_12 =>
     (catS z_12 ([93] : List UInt8)).bind fun z_13 =>
     some z_13
    else
     if (t14 == 14) then
      some ([65, 76] : List UInt8)
     else
      if (t14 == 15) then
       some ([67, 76] : List UInt8)
      else
       if (t14 == 16) then
        some ([65, 88] : List UInt8)
       else
        if (t14 == 17) then
         some ([68, 88] : List UInt8)
        else
         if (t14 == 18) then
          some ([49] : List UInt8)
         else
          if (t14 == 24) then
           some ([51] : List UInt8)
          else
           if (t14 == 21) then
            (disp_Byte (IntKind.wrap .i64 (bitsOp .and .u8 i2.Op 7))).bind fun r_8 =>
            some r_8
           else
            if (t14 == 22) then
             (disp_Reg (IntKind.wrap .i64 (bitsOp .and .u8 i2.Op 7))).bind fun r_9 =>
             some r_9
            else
             if (t14 == 23) then
              (disp_Seg (IntKind.wrap .i64 (bitsOp .and .u8 (shrI .u8 i2.Op 3) 3))).bind fun r_10 =>
              some r_10
             else
              some ([] : List UInt8)
noncomputable def disp_other_j10 (i2 : Inst) (op1 : Int) (ahead5 : (List UInt8)) : Option (List UInt8) :=
 if (op1 == 9) then
  disp_other_j20 i2 ahead5 op1 true
 else
  disp_other_j20 i2 ahead5 op1 (op1 == 10)
/-- hansom/disp.other -/
noncomputable def disp_other (i_ : Inst) (op_ : Int) : Option (List UInt8) :=
 if (decide (i_.Seg > 0)) then
  (disp_Seg (IntKind.wrap .i64 (i_.Seg - 1))).bind fun r_1 =>
  (catS r_1 ([58] : List UInt8)).bind fun z_1 =>
  disp_other_j10 i_ op_ z_1
 else
  disp_other_j10 i_ op_ ([] : List UInt8)
/-- hansom/disp.operand -/
noncomputable def disp_operand (i_ : Inst) (op_ : Int) : Option (List UInt8) :=
 if (op_ == 1) then
  if (i_.Mod == 3) then
   (disp_Byte i_.RM).bind fun r_1 =>
   some r_1
  else
   (disp_place i_).bind fun r_2 =>
   (catS ([66, 89, 84, 69, 32] : List UInt8) r_2).bind fun z_1 =>
   some z_1
 else
  if (op_ == 2) then
   if (i_.Mod == 3) then
    (disp_Reg i_.RM).bind fun r_3 =>
    some r_3
   else
    (disp_place i_).bind fun r_4 =>
    (catS ([87, 79, 82, 68, 32] : List UInt8) r_4).bind fun z_2 =>
    some z_2
  else
   if (op_ == 19) then
    (disp_place i_).bind fun r_5 =>
    (catS ([70, 65, 82, 32] : List UInt8) r_5).bind fun z_3 =>
    some z_3
   else
    if (op_ == 20) then
     (disp_place i_).bind fun r_6 =>
     some r_6
    else
     if (op_ == 3) then
      (disp_Byte i_.Reg).bind fun r_7 =>
      some r_7
     else
      if (op_ == 4) then
       (disp_Reg i_.Reg).bind fun r_8 =>
       some r_8
      else
       if (op_ == 5) then
        (disp_Seg i_.Reg).bind fun r_9 =>
        some r_9
       else
        if (op_ == 6) then
         (bits_Digits (IntKind.wrap .u32 i_.Imm) 2).bind fun r_10 =>
         some r_10
        else
         if (op_ == 7) then
          (bits_Digits (IntKind.wrap .u32 i_.Imm) 4).bind fun r_11 =>
          some r_11
         else
          if (op_ == 8) then
           (bits_Digits (IntKind.wrap .u32 i_.Imm) 4).bind fun r_12 =>
           some r_12
          else
           (disp_other i_ op_).bind fun r_13 =>
           some r_13
noncomputable def disp_Text_j28 (i1 : Inst) (r3 : Row) (s5 : (List UInt8)) : Option (List UInt8) :=
 (disp_operand i1 r3.B).bind fun r_5 =>
 if (r_5 != ([] : List UInt8)) then
  (catS ([44] : List UInt8) r_5).bind fun z_6 =>
  (catS s5 z_6).bind fun z_7 =>
  some z_7
 else
  some s5
noncomputable def disp_Text_j20 (i1 : Inst) (r3 : Row) (s5 : (List UInt8)) : Option (List UInt8) :=
 (disp_operand i1 r3.A).bind fun r_4 =>
 if (r_4 != ([] : List UInt8)) then
  (catS ([32] : List UInt8) r_4).bind fun z_4 =>
  (catS s5 z_4).bind fun z_5 =>
  disp_Text_j28 i1 r3 z_5
 else
  disp_Text_j28 i1 r3 s5
/-- hansom/disp.Text -/
noncomputable def disp_Text (i_ : Inst) : Option (List UInt8) :=
 (inst_May i_).bind fun r_1 =>
 if (!r_1) then
  some ([63] : List UInt8)
 else
  (inst_Row i_).bind fun r_2 =>
  (idx ({ a0 := ([] : List UInt8), a1 := ([82, 69, 80, 78, 69, 32] : List UInt8), a2 := ([82, 69, 80, 32] : List UInt8) } : (A3 (List UInt8))).l i_.Rep).bind fun z_1 =>
  (disp_Name r_2.1.Name).bind fun r_3 =>
  (catS z_1 r_3).bind fun z_2 =>
  if i_.Lock then
   (catS ([76, 79, 67, 75, 32] : List UInt8) z_2).bind fun z_3 =>
   disp_Text_j20 ({ i_ with Lock := true } : Inst) r_2.1 z_3
  else
   disp_Text_j20 ({ i_ with Lock := false } : Inst) r_2.1 z_2
noncomputable def disp_Find_l6 (s0 : (List UInt8)) (t5 : (List (List UInt8))) (t6 : Int) (t7 : Int) : Option (Lp Int (Int ⊕ Unit)) :=
 if (decide (t7 < t6)) then
  (idx t5 t7).bind fun z_1 =>
  if (z_1 == s0) then
   some (.out (.inl (IntKind.wrap .i64 (t7 + 1))))
  else
   some (.next (IntKind.wrap .i64 (t7 + 1)))
 else
  some (.out (.inr ()))
/-- hansom/disp.Find -/
noncomputable def disp_Find (s_ : (List UInt8)) : Option Int :=
 (strings_Fields ([65, 68, 68, 32, 79, 82, 32, 65, 68, 67, 32, 83, 66, 66, 32, 65, 78, 68, 32, 83, 85, 66, 32, 88, 79, 82, 32, 67, 77, 80, 32, 80, 85, 83, 72, 32, 80, 79, 80, 32, 68, 65, 65, 32, 68, 65, 83, 32, 65, 65, 65, 32, 65, 65, 83, 32, 73, 78, 67, 32, 68, 69, 67, 32, 74, 79, 32, 74, 78, 79, 32, 74, 66, 32, 74, 78, 66, 32, 74, 90, 32, 74, 78, 90, 32, 74, 66, 69, 32, 74, 65, 32, 74, 83, 32, 74, 78, 83, 32, 74, 80, 32, 74, 78, 80, 32, 74, 76, 32, 74, 71, 69, 32, 74, 76, 69, 32, 74, 71, 32, 84, 69, 83, 84, 32, 88, 67, 72, 71, 32, 77, 79, 86, 32, 76, 69, 65, 32, 67, 66, 87, 32, 67, 87, 68, 32, 67, 65, 76, 76, 32, 67, 65, 76, 76, 70, 32, 87, 65, 73, 84, 32, 80, 85, 83, 72, 70, 32, 80, 79, 80, 70, 32, 83, 65, 72, 70, 32, 76, 65, 72, 70, 32, 77, 79, 86, 83, 66, 32, 77, 79, 86, 83, 87, 32, 67, 77, 80, 83, 66, 32, 67, 77, 80, 83, 87, 32, 83, 84, 79, 83, 66, 32, 83, 84, 79, 83, 87, 32, 76, 79, 68, 83, 66, 32, 76, 79, 68, 83, 87, 32, 83, 67, 65, 83, 66, 32, 83, 67, 65, 83, 87, 32, 82, 69, 84, 32, 82, 69, 84, 70, 32, 76, 69, 83, 32, 76, 68, 83, 32, 73, 78, 84, 32, 73, 78, 84, 79, 32, 73, 82, 69, 84, 32, 82, 79, 76, 32, 82, 79, 82, 32, 82, 67, 76, 32, 82, 67, 82, 32, 83, 72, 76, 32, 83, 72, 82, 32, 83, 65, 82, 32, 65, 65, 77, 32, 65, 65, 68, 32, 88, 76, 65, 84, 32, 69, 83, 67, 32, 76, 79, 79, 80, 78, 90, 32, 76, 79, 79, 80, 90, 32, 76, 79, 79, 80, 32, 74, 67, 88, 90, 32, 73, 78, 32, 79, 85, 84, 32, 74, 77, 80, 32, 74, 77, 80, 70, 32, 72, 76, 84, 32, 67, 77, 67, 32, 78, 79, 84, 32, 78, 69, 71, 32, 77, 85, 76, 32, 73, 77, 85, 76, 32, 68, 73, 86, 32, 73, 68, 73, 86, 32, 67, 76, 67, 32, 83, 84, 67, 32, 67, 76, 73, 32, 83, 84, 73, 32, 67, 76, 68, 32, 83, 84, 68] : List UInt8)).bind fun r_1 =>
 (loopO (fun x : Int => disp_Find_l6 s_ r_1 (r_1.length : Int) x) 0).bind fun e_1 =>
 match e_1 with
 | .inl e_2 =>
  some e_2
 | .inr e_3 =>
  some 0
/-- hansom/hansomlaw17.awake -/
noncomputable def hansomlaw17_awake  : Option Bool :=
 (disp_Text ({ Lock := false, Rep := 0, Seg := 0, Op := 144, Mod := 0, Reg := 0, RM := 0, Disp := 0, Imm := 0, Sel := 0 } : Inst)).bind fun r_1 =>
 if (r_1 == ([88, 67, 72, 71, 32, 65, 88, 44, 65, 88] : List UInt8)) then
  (disp_Find ([83, 84, 68] : List UInt8)).bind fun r_2 =>
  if (r_2 == 95) then
   (disp_Name 32).bind fun r_3 =>
   some (r_3 == ([74, 71] : List UInt8))
  else
   some false
 else
  some false
/-- hansom/hansomref17.of -/
noncomputable def hansomref17_of (l_ : (List (List UInt8))) (n_ : Int) : Option (List UInt8) :=
 if (decide (n_ < 0)) then
  some ([63] : List UInt8)
 else
  if (decide (n_ ≥ (l_.length : Int))) then
   some ([63] : List UInt8)
  else
   (idx l_ n_).bind fun z_1 =>
   some z_1
/-- hansom/hansomref17.Seg -/
noncomputable def hansomref17_Seg (n_ : Int) : Option (List UInt8) :=
 (hansomref17_of ([([69, 83] : List UInt8), ([67, 83] : List UInt8), ([83, 83] : List UInt8), ([68, 83] : List UInt8)] : List (List UInt8)) n_).bind fun r_1 =>
 some r_1
/-- hansom/hansomref17.Byte -/
noncomputable def hansomref17_Byte (n_ : Int) : Option (List UInt8) :=
 (hansomref17_of ([([65, 76] : List UInt8), ([67, 76] : List UInt8), ([68, 76] : List UInt8), ([66, 76] : List UInt8), ([65, 72] : List UInt8), ([67, 72] : List UInt8), ([68, 72] : List UInt8), ([66, 72] : List UInt8)] : List (List UInt8)) n_).bind fun r_1 =>
 some r_1
noncomputable def hansomref01_Hex_l8 (n0 : Int) (many1 : Int) (s5 : (List UInt8)) (i6 : Int) : Option (Lp (Int × (List UInt8) × Int) (List UInt8)) :=
 if (decide (i6 < many1)) then
  if (decide ((Int.tmod n0 16) < 10)) then
   (catS (b2s ([(IntKind.wrap .u8 (IntKind.wrap .u32 (48 + (Int.tmod n0 16))))] : List Int)) s5).bind fun z_1 =>
   some (.next ((IntKind.wrap .u32 (Int.tdiv n0 16)), z_1, (IntKind.wrap .i64 (i6 + 1))))
  else
   (catS (b2s ([(IntKind.wrap .u8 (IntKind.wrap .u32 ((IntKind.wrap .u32 (65 + (Int.tmod n0 16))) - 10)))] : List Int)) s5).bind fun z_2 =>
   some (.next ((IntKind.wrap .u32 (Int.tdiv n0 16)), z_2, (IntKind.wrap .i64 (i6 + 1))))
 else
  some (.out s5)
/-- hansom/hansomref01.Hex -/
noncomputable def hansomref01_Hex (n_ : Int) (many_ : Int) : Option (List UInt8) :=
 (loopO (fun x : (Int × (List UInt8) × Int) => hansomref01_Hex_l8 x.1 many_ x.2.1 x.2.2) (n_, ([] : List UInt8), 0)).bind fun e_1 =>
 some e_1
noncomputable def hansomref17_place_j10 (i1 : Inst) (s3 : (List UInt8)) : Option (List UInt8) :=
 (hansomref17_of ([([66, 88, 43, 83, 73] : List UInt8), ([66, 88, 43, 68, 73] : List UInt8), ([66, 80, 43, 83, 73] : List UInt8), ([66, 80, 43, 68, 73] : List UInt8), ([83, 73] : List UInt8), ([68, 73] : List UInt8), ([66, 80] : List UInt8), ([66, 88] : List UInt8)] : List (List UInt8)) i1.RM).bind fun r_2 =>
 (hansomref05_Disps i1.Mod i1.RM).bind fun r_3 =>
 if (r_3 == 0) then
  (catS s3 ([91] : List UInt8)).bind fun z_2 =>
  (catS z_2 r_2).bind fun z_3 =>
  (catS z_3 ([93] : List UInt8)).bind fun z_4 =>
  some z_4
 else
  if (r_3 == 1) then
   if (decide ((IntKind.wrap .u32 i1.Disp) > 32767)) then
    (catS s3 ([91] : List UInt8)).bind fun z_5 =>
    (catS z_5 r_2).bind fun z_6 =>
    (catS z_6 ([45] : List UInt8)).bind fun z_7 =>
    (hansomref01_Hex (IntKind.wrap .u32 (65536 - (IntKind.wrap .u32 i1.Disp))) 2).bind fun r_4 =>
    (catS z_7 r_4).bind fun z_8 =>
    (catS z_8 ([93] : List UInt8)).bind fun z_9 =>
    some z_9
   else
    (catS s3 ([91] : List UInt8)).bind fun z_10 =>
    (catS z_10 r_2).bind fun z_11 =>
    (catS z_11 ([43] : List UInt8)).bind fun z_12 =>
    (hansomref01_Hex (IntKind.wrap .u32 i1.Disp) 2).bind fun r_5 =>
    (catS z_12 r_5).bind fun z_13 =>
    (catS z_13 ([93] : List UInt8)).bind fun z_14 =>
    some z_14
  else
   if (i1.Mod == 0) then
    (catS s3 ([91] : List UInt8)).bind fun z_15 =>
    (hansomref01_Hex (IntKind.wrap .u32 i1.Disp) 4).bind fun r_6 =>
    (catS z_15 r_6).bind fun z_16 =>
    (catS z_16 ([93] : List UInt8)).bind fun z_17 =>
    some z_17
   else
    (catS s3 ([91] : List UInt8)).bind fun z_18 =>
    (catS z_18 r_2).bind fun z_19 =>
    (catS z_19 ([43] : List UInt8)).bind fun z_20 =>
    (hansomref01_Hex (IntKind.wrap .u32 i1.Disp) 4).bind fun r_7 =>
    (catS z_20 r_7).bind fun z_21 =>
    (catS z_21 ([93] : List UInt8)).bind fun z_22 =>
    some z_22
/-- hansom/hansomref17.place -/
noncomputable def hansomref17_place (i_ : Inst) : Option (List UInt8) :=
 if (decide (i_.Seg > 0)) then
  (hansomref17_Seg (IntKind.wrap .i64 (i_.Seg - 1))).bind fun r_1 =>
  (catS r_1 ([58] : List UInt8)).bind fun z_1 =>
  hansomref17_place_j10 i_ z_1
 else
  hansomref17_place_j10 i_ ([] : List UInt8)
/-- hansom/hansomref17.Reg -/
noncomputable def hansomref17_Reg (n_ : Int) : Option (List UInt8) :=
 (hansomref17_of ([([65, 88] : List UInt8), ([67, 88] : List UInt8), ([68, 88] : List UInt8), ([66, 88] : List UInt8), ([83, 80] : List UInt8), ([66, 80] : List UInt8), ([83, 73] : List UInt8), ([68, 73] : List UInt8)] : List (List UInt8)) n_).bind fun r_1 =>
 some r_1
noncomputable def hansomref17_operand_j82 (i2 : Inst) (k1 : Int) (s5 : (List UInt8)) (n6 : Int) (t18 : Int) (t65 : Bool) : Option (List UInt8) :=
 if t65 then
  if (decide (n6 > 32767)) then
   (hansomref01_Hex (IntKind.wrap .u32 (65536 - n6)) 4).bind fun r_11 =>
   (catS ([45] : List UInt8) r_11).bind fun z_4 =>
   some z_4
  else
   (hansomref01_Hex n6 4).bind fun r_12 =>
   (catS ([43] : List UInt8) r_12).bind fun z_5 =>
   some z_5
 else
  if (t18 == 11) then
   (hansomref01_Hex (IntKind.wrap .u32 i2.Sel) 4).bind fun r_13 =>
   (catS r_13 ([58] : List UInt8)).bind fun z_6 =>
   (hansomref01_Hex n6 4).bind fun r_14 =>
   (catS z_6 r_14).bind fun z_7 =>
   some z_7
  else
   if (t18 == 12) then
    (catS ([66, 89, 84, 69, 32] : List UInt8) s5).bind fun z_8 =>
    (catS z_8 ([91] : List UInt8)).bind fun z_9 =>
    (hansomref01_Hex n6 4).bind fun r_15 =>
    (catS z_9 r_15).bind fun z_10 =>
    (catS z_10 ([93] : List UInt8)).bind fun z_11 =>
    some z_11
   else
    if (t18 == 13) then
     (catS ([87, 79, 82, 68, 32] : List UInt8) s5).bind fun z_12 =>
     (catS z_12 ([91] : List UInt8)).bind fun z_13 =>
     (hansomref01_Hex n6 4).bind fun r_16 =>
     (catS z_13 r_16).bind fun z_14 =>
     (catS z_14 ([93] : List UInt8)).bind fun z_15 =>
     some z_15
    else
     if (t18 == 19) then
      (hansomref17_place i2).bind fun r_17 =>
      (catS ([70, 65, 82, 32] : List UInt8) r_17).bind fun z_16 =>
      some z_16
     else
      if (t18 == 20) then
       (hansomref17_place i2).bind fun r_18 =>
       some r_18
      else
       if (t18 == 21) then
        (hansomref17_Byte (IntKind.wrap .i64 (Int.tmod i2.Op 8))).bind fun r_19 =>
        some r_19
       else
        if (t18 == 22) then
         (hansomref17_Reg (IntKind.wrap .i64 (Int.tmod i2.Op 8))).bind fun r_20 =>
         some r_20
        else
         if (t18 == 23) then
          (hansomref17_Seg (IntKind.wrap .i64 (Int.tmod (IntKind.wrap .u8 (Int.tdiv i2.Op 8)) 4))).bind fun r_21 =>
          some r_21
         else
          (hansomref17_of ([([65, 76] : List UInt8), ([67, 76] : List UInt8), ([65, 88] : List UInt8), ([68, 88] : List UInt8), ([49] : List UInt8)] : List (List UInt8)) (IntKind.wrap .i64 (k1 - 14))).bind fun r_22 =>
          some r_22
noncomputable def hansomref17_operand_j72 (i2 : Inst) (k1 : Int) (s5 : (List UInt8)) (n6 : Int) (t18 : Int) (t60 : Bool) : Option (List UInt8) :=
 if t60 then
  (hansomref01_Hex n6 4).bind fun r_10 =>
  some r_10
 else
  if (t18 == 9) then
   hansomref17_operand_j82 i2 k1 s5 n6 t18 true
  else
   hansomref17_operand_j82 i2 k1 s5 n6 t18 (t18 == 10)
noncomputable def hansomref17_operand_j10 (i2 : Inst) (k1 : Int) (s5 : (List UInt8)) (n6 : Int) : Option (List UInt8) :=
 if (k1 == 1) then
  if (i2.Mod == 3) then
   (hansomref17_Byte i2.RM).bind fun r_2 =>
   some r_2
  else
   (hansomref17_place i2).bind fun r_3 =>
   (catS ([66, 89, 84, 69, 32] : List UInt8) r_3).bind fun z_2 =>
   some z_2
 else
  if (k1 == 2) then
   if (i2.Mod == 3) then
    (hansomref17_Reg i2.RM).bind fun r_4 =>
    some r_4
   else
    (hansomref17_place i2).bind fun r_5 =>
    (catS ([87, 79, 82, 68, 32] : List UInt8) r_5).bind fun z_3 =>
    some z_3
  else
   if (k1 == 3) then
    (hansomref17_Byte i2.Reg).bind fun r_6 =>
    some r_6
   else
    if (k1 == 4) then
     (hansomref17_Reg i2.Reg).bind fun r_7 =>
     some r_7
    else
     if (k1 == 5) then
      (hansomref17_Seg i2.Reg).bind fun r_8 =>
      some r_8
     else
      if (k1 == 6) then
       (hansomref01_Hex n6 2).bind fun r_9 =>
       some r_9
      else
       if (k1 == 7) then
        hansomref17_operand_j72 i2 k1 s5 n6 k1 true
       else
        hansomref17_operand_j72 i2 k1 s5 n6 k1 (k1 == 8)
/-- hansom/hansomref17.operand -/
noncomputable def hansomref17_operand (i_ : Inst) (k_ : Int) : Option (List UInt8) :=
 if (decide (i_.Seg > 0)) then
  (hansomref17_Seg (IntKind.wrap .i64 (i_.Seg - 1))).bind fun r_1 =>
  (catS r_1 ([58] : List UInt8)).bind fun z_1 =>
  hansomref17_operand_j10 i_ k_ z_1 (IntKind.wrap .u32 i_.Imm)
 else
  hansomref17_operand_j10 i_ k_ ([] : List UInt8) (IntKind.wrap .u32 i_.Imm)
noncomputable def hansomref17_Text_l30 (i1 : Inst) (s5 : (List UInt8)) (t35 : (List Int)) (t36 : Int) (t37 : Int) : Option (Lp ((List UInt8) × Int) (List UInt8)) :=
 if (decide (t37 < t36)) then
  (idx t35 t37).bind fun z_4 =>
  if (z_4 == 0) then
   some (.next (s5, (IntKind.wrap .i64 (t37 + 1))))
  else
   (hansomref17_operand i1 z_4).bind fun r_3 =>
   if (z_4 == 24) then
    if (t37 == 0) then
     (catS ([32] : List UInt8) ([51] : List UInt8)).bind fun z_5 =>
     (catS s5 z_5).bind fun z_6 =>
     some (.next (z_6, (IntKind.wrap .i64 (t37 + 1))))
    else
     (catS ([44] : List UInt8) ([51] : List UInt8)).bind fun z_7 =>
     (catS s5 z_7).bind fun z_8 =>
     some (.next (z_8, (IntKind.wrap .i64 (t37 + 1))))
   else
    if (t37 == 0) then
     (catS ([32] : List UInt8) r_3).bind fun z_9 =>
     (catS s5 z_9).bind fun z_10 =>
     some (.next (z_10, (IntKind.wrap .i64 (t37 + 1))))
    else
     (catS ([44] : List UInt8) r_3).bind fun z_11 =>
     (catS s5 z_11).bind fun z_12 =>
     some (.next (z_12, (IntKind.wrap .i64 (t37 + 1))))
 else
  some (.out s5)
noncomputable def hansomref17_Text_j24 (i1 : Inst) (r3 : Row) (s5 : (List UInt8)) : Option (List UInt8) :=
 (hansomref04_Name r3.Name).bind fun r_2 =>
 (catS s5 r_2).bind fun z_3 =>
 (loopO (fun x : ((List UInt8) × Int) => hansomref17_Text_l30 i1 x.1 ([r3.A, r3.B] : List Int) (([r3.A, r3.B] : List Int).length : Int) x.2) (z_3, 0)).bind fun e_1 =>
 some e_1
noncomputable def hansomref17_Text_j18 (i1 : Inst) (r3 : Row) (s5 : (List UInt8)) : Option (List UInt8) :=
 if (i1.Rep == 2) then
  (catS s5 ([82, 69, 80, 32] : List UInt8)).bind fun z_2 =>
  hansomref17_Text_j24 i1 r3 z_2
 else
  hansomref17_Text_j24 i1 r3 s5
noncomputable def hansomref17_Text_j12 (i1 : Inst) (r3 : Row) (s5 : (List UInt8)) : Option (List UInt8) :=
 if (i1.Rep == 1) then
  (catS s5 ([82, 69, 80, 78, 69, 32] : List UInt8)).bind fun z_1 =>
  hansomref17_Text_j18 i1 r3 z_1
 else
  hansomref17_Text_j18 i1 r3 s5
/-- hansom/hansomref17.Text -/
noncomputable def hansomref17_Text (i_ : Inst) : Option (List UInt8) :=
 (hansomref05_Row i_).bind fun r_1 =>
 if i_.Lock then
  hansomref17_Text_j12 ({ i_ with Lock := true } : Inst) r_1.1 ([76, 79, 67, 75, 32] : List UInt8)
 else
  hansomref17_Text_j12 ({ i_ with Lock := false } : Inst) r_1.1 ([] : List UInt8)
/-- hansom/hansomlaw17.DispOwn -/
noncomputable def hansomlaw17_DispOwn (x_ : Inst) (y_ : Inst) : Option Bool :=
 (hansomref05_Near x_).bind fun r_1 =>
 (hansomref05_Near y_).bind fun r_2 =>
 (hansomref05_Near ({ r_2 with Op := r_1.Op } : Inst)).bind fun r_3 =>
 if (r_3.Op != r_1.Op) then
  (hansomlaw17_awake).bind fun r_4 =>
  some r_4
 else
  if (decide (r_1.Seg > 0)) then
   (hansomlaw17_awake).bind fun r_5 =>
   some r_5
  else
   if (decide (r_3.Seg > 0)) then
    (hansomlaw17_awake).bind fun r_6 =>
    some r_6
   else
    (hansomlaw17_awake).bind fun r_7 =>
    if r_7 then
     (disp_Text r_1).bind fun r_8 =>
     (disp_Text r_3).bind fun r_9 =>
     (hansomref17_Text r_1).bind fun r_10 =>
     (hansomref17_Text r_3).bind fun r_11 =>
     some ((r_8 == r_9) == (r_10 == r_11))
    else
     some false
end Go.Es.Dso
