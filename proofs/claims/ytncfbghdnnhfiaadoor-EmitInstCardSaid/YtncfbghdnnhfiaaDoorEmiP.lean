/- What the functions that the law EmitInst reaches answer, in plain Lean. No condition. -/
import Derived.Test.YtncfbghdnnhfiaaDoorEsD
set_option linter.unusedVariables false
set_option linter.unusedSimpArgs false
set_option maxRecDepth 100000
set_option maxHeartbeats 4000000
namespace Go.Es.Emi
structure Inst where
  Lock : Bool
  Rep : Int
  Seg : Int
  Op : Int
  Mod : Int
  Reg : Int
  RM : Int
  Disp : Int
  Imm : Int
  Sel : Int
  deriving DecidableEq, Inhabited
def Inst.cs (x : Inst) : List D := [.bool x.Lock, .int .i64 x.Rep, .int .i64 x.Seg, .int .u8 x.Op, .int .i64 x.Mod, .int .i64 x.Reg, .int .i64 x.RM, .int .u16 x.Disp, .int .u16 x.Imm, .int .u16 x.Sel]
def Inst.d (x : Inst) : D := .agg (Inst.cs x)
structure Row where
  Name : Int
  A : Int
  B : Int
  Mod : Bool
  deriving DecidableEq, Inhabited
def Row.cs (x : Row) : List D := [.int .i64 x.Name, .int .i64 x.A, .int .i64 x.B, .bool x.Mod]
def Row.d (x : Row) : D := .agg (Row.cs x)
structure api_Value where
  N : Int
  From : Int
  Which : Int
  Type_ : Int
  Wants : Int
  Known : Bool
  deriving DecidableEq, Inhabited
def api_Value.cs (x : api_Value) : List D := [.int .i64 x.N, .int .i64 x.From, .int .i64 x.Which, .int .i64 x.Type_, .int .i64 x.Wants, .bool x.Known]
def api_Value.d (x : api_Value) : D := .agg (api_Value.cs x)
structure Choice where
  I : Inst
  Disp : api_Value
  Imm : api_Value
  HasD : Bool
  HasI : Bool
  Jumps : Bool
  deriving DecidableEq, Inhabited
def Choice.cs (x : Choice) : List D := [.bool x.I.Lock, .int .i64 x.I.Rep, .int .i64 x.I.Seg, .int .u8 x.I.Op, .int .i64 x.I.Mod, .int .i64 x.I.Reg, .int .i64 x.I.RM, .int .u16 x.I.Disp, .int .u16 x.I.Imm, .int .u16 x.I.Sel, .int .i64 x.Disp.N, .int .i64 x.Disp.From, .int .i64 x.Disp.Which, .int .i64 x.Disp.Type_, .int .i64 x.Disp.Wants, .bool x.Disp.Known, .int .i64 x.Imm.N, .int .i64 x.Imm.From, .int .i64 x.Imm.Which, .int .i64 x.Imm.Type_, .int .i64 x.Imm.Wants, .bool x.Imm.Known, .bool x.HasD, .bool x.HasI, .bool x.Jumps]
def Choice.d (x : Choice) : D := .agg (Choice.cs x)
structure Fixup where
  At : Int
  Loc : Int
  Self : Bool
  Frame : Int
  FrameN : Int
  Target : Int
  N : Int
  Disp : Int
  deriving DecidableEq, Inhabited
def Fixup.cs (x : Fixup) : List D := [.int .i64 x.At, .int .i64 x.Loc, .bool x.Self, .int .i64 x.Frame, .int .i64 x.FrameN, .int .i64 x.Target, .int .i64 x.N, .int .u16 x.Disp]
def Fixup.d (x : Fixup) : D := .agg (Fixup.cs x)
def Inst.wf (x : Inst) : Prop := (fun _ => True) x.Lock ∧ wfI .i64 x.Rep ∧ wfI .i64 x.Seg ∧ wfI .u8 x.Op ∧ wfI .i64 x.Mod ∧ wfI .i64 x.Reg ∧ wfI .i64 x.RM ∧ wfI .u16 x.Disp ∧ wfI .u16 x.Imm ∧ wfI .u16 x.Sel
def Row.wf (x : Row) : Prop := wfI .i64 x.Name ∧ wfI .i64 x.A ∧ wfI .i64 x.B ∧ (fun _ => True) x.Mod
def api_Value.wf (x : api_Value) : Prop := wfI .i64 x.N ∧ wfI .i64 x.From ∧ wfI .i64 x.Which ∧ wfI .i64 x.Type_ ∧ wfI .i64 x.Wants ∧ (fun _ => True) x.Known
def Choice.wf (x : Choice) : Prop := Inst.wf x.I ∧ api_Value.wf x.Disp ∧ api_Value.wf x.Imm ∧ (fun _ => True) x.HasD ∧ (fun _ => True) x.HasI ∧ (fun _ => True) x.Jumps
def Fixup.wf (x : Fixup) : Prop := wfI .i64 x.At ∧ wfI .i64 x.Loc ∧ (fun _ => True) x.Self ∧ wfI .i64 x.Frame ∧ wfI .i64 x.FrameN ∧ wfI .i64 x.Target ∧ wfI .i64 x.N ∧ wfI .u16 x.Disp
/-- hansom/hansomref05.prefix -/
noncomputable def hansomref05_prefix (b_ : Int) : Option Bool :=
  if (b_ == 38) then
    some true
  else
    if (b_ == 46) then
      some true
    else
      if (b_ == 54) then
        some true
      else
        if (b_ == 62) then
          some true
        else
          if (b_ == 240) then
            some true
          else
            if (b_ == 242) then
              some true
            else
              some (b_ == 243)
noncomputable def hansomref04_word_l19 (s0 : (List UInt8)) (n1 : Int) (at5 : Int) (k6 : Int) : Option (Lp Int Int) :=
  if (decide (at5 < (s0.length : Int))) then
    (idx s0 at5).bind fun z_1 =>
    if ((z_1.toNat : Int) != 32) then
      some (.next (IntKind.wrap .i64 (at5 + 1)))
    else
      some (.out at5)
  else
    some (.out at5)
noncomputable def hansomref04_word_l8 (s0 : (List UInt8)) (n1 : Int) (at5 : Int) (k6 : Int) : Option (Lp (Int × Int) Int) :=
  if (decide (k6 < n1)) then
    if (decide (at5 < (s0.length : Int))) then
      (loopO (fun x : Int => hansomref04_word_l19 s0 n1 x k6) at5).bind fun e_1 =>
      some (.next ((IntKind.wrap .i64 (e_1 + 1)), (IntKind.wrap .i64 (k6 + 1))))
    else
      some (.out at5)
  else
    some (.out at5)
noncomputable def hansomref04_word_l34 (s0 : (List UInt8)) (at5 : Int) (end7 : Int) : Option (Lp Int Int) :=
  if (decide (end7 < (s0.length : Int))) then
    (idx s0 end7).bind fun z_1 =>
    if ((z_1.toNat : Int) != 32) then
      some (.next (IntKind.wrap .i64 (end7 + 1)))
    else
      some (.out end7)
  else
    some (.out end7)
/-- hansom/hansomref04.word -/
noncomputable def hansomref04_word (s_ : (List UInt8)) (n_ : Int) : Option (List UInt8) :=
  (loopO (fun x : (Int × Int) => hansomref04_word_l8 s_ n_ x.1 x.2) (0, 0)).bind fun e_1 =>
  (loopO (fun x : Int => hansomref04_word_l34 s_ e_1 x) e_1).bind fun e_2 =>
  if (decide (e_1 ≥ (s_.length : Int))) then
    some ([] : List UInt8)
  else
    (cutL s_ e_1 e_2).bind fun z_1 =>
    some z_1
noncomputable def hansomref04_part_l8 (s0 : (List UInt8)) (mark1 : Int) (n2 : Int) (from7 : Int) (i8 : Int) : Option (Lp (Int × Int × Int) ((List UInt8) ⊕ Unit)) :=
  if (decide (i8 ≤ (s0.length : Int))) then
    if (decide (i8 < (s0.length : Int))) then
      (idx s0 i8).bind fun z_1 =>
      if ((z_1.toNat : Int) != mark1) then
        some (.next (n2, from7, (IntKind.wrap .i64 (i8 + 1))))
      else
        if (n2 == 0) then
          (cutL s0 from7 i8).bind fun z_2 =>
          some (.out (.inl z_2))
        else
          some (.next ((IntKind.wrap .i64 (n2 - 1)), (IntKind.wrap .i64 (i8 + 1)), (IntKind.wrap .i64 (i8 + 1))))
    else
      if (n2 == 0) then
        (cutL s0 from7 i8).bind fun z_3 =>
        some (.out (.inl z_3))
      else
        some (.next ((IntKind.wrap .i64 (n2 - 1)), (IntKind.wrap .i64 (i8 + 1)), (IntKind.wrap .i64 (i8 + 1))))
  else
    some (.out (.inr ()))
/-- hansom/hansomref04.part -/
noncomputable def hansomref04_part (s_ : (List UInt8)) (mark_ : Int) (n_ : Int) : Option (List UInt8) :=
  (loopO (fun x : (Int × Int × Int) => hansomref04_part_l8 s_ mark_ x.1 x.2.1 x.2.2) (n_, 0, 0)).bind fun e_1 =>
  match e_1 with
  | .inl e_2 =>
    some e_2
  | .inr e_3 =>
    some ([] : List UInt8)
/-- hansom/hansomref04.Entry -/
noncomputable def hansomref04_Entry (op_ : Int) (reg_ : Int) : Option (List UInt8) :=
  (hansomref04_word ([65, 68, 68, 58, 69, 98, 58, 71, 98, 32, 65, 68, 68, 58, 69, 118, 58, 71, 118, 32, 65, 68, 68, 58, 71, 98, 58, 69, 98, 32, 65, 68, 68, 58, 71, 118, 58, 69, 118, 32, 65, 68, 68, 58, 65, 76, 58, 73, 98, 32, 65, 68, 68, 58, 65, 88, 58, 73, 118, 32, 80, 85, 83, 72, 58, 90, 115, 32, 80, 79, 80, 58, 90, 115, 32, 79, 82, 58, 69, 98, 58, 71, 98, 32, 79, 82, 58, 69, 118, 58, 71, 118, 32, 79, 82, 58, 71, 98, 58, 69, 98, 32, 79, 82, 58, 71, 118, 58, 69, 118, 32, 79, 82, 58, 65, 76, 58, 73, 98, 32, 79, 82, 58, 65, 88, 58, 73, 118, 32, 80, 85, 83, 72, 58, 90, 115, 32, 45, 32, 65, 68, 67, 58, 69, 98, 58, 71, 98, 32, 65, 68, 67, 58, 69, 118, 58, 71, 118, 32, 65, 68, 67, 58, 71, 98, 58, 69, 98, 32, 65, 68, 67, 58, 71, 118, 58, 69, 118, 32, 65, 68, 67, 58, 65, 76, 58, 73, 98, 32, 65, 68, 67, 58, 65, 88, 58, 73, 118, 32, 80, 85, 83, 72, 58, 90, 115, 32, 80, 79, 80, 58, 90, 115, 32, 83, 66, 66, 58, 69, 98, 58, 71, 98, 32, 83, 66, 66, 58, 69, 118, 58, 71, 118, 32, 83, 66, 66, 58, 71, 98, 58, 69, 98, 32, 83, 66, 66, 58, 71, 118, 58, 69, 118, 32, 83, 66, 66, 58, 65, 76, 58, 73, 98, 32, 83, 66, 66, 58, 65, 88, 58, 73, 118, 32, 80, 85, 83, 72, 58, 90, 115, 32, 80, 79, 80, 58, 90, 115, 32, 65, 78, 68, 58, 69, 98, 58, 71, 98, 32, 65, 78, 68, 58, 69, 118, 58, 71, 118, 32, 65, 78, 68, 58, 71, 98, 58, 69, 98, 32, 65, 78, 68, 58, 71, 118, 58, 69, 118, 32, 65, 78, 68, 58, 65, 76, 58, 73, 98, 32, 65, 78, 68, 58, 65, 88, 58, 73, 118, 32, 45, 32, 68, 65, 65, 32, 83, 85, 66, 58, 69, 98, 58, 71, 98, 32, 83, 85, 66, 58, 69, 118, 58, 71, 118, 32, 83, 85, 66, 58, 71, 98, 58, 69, 98, 32, 83, 85, 66, 58, 71, 118, 58, 69, 118, 32, 83, 85, 66, 58, 65, 76, 58, 73, 98, 32, 83, 85, 66, 58, 65, 88, 58, 73, 118, 32, 45, 32, 68, 65, 83, 32, 88, 79, 82, 58, 69, 98, 58, 71, 98, 32, 88, 79, 82, 58, 69, 118, 58, 71, 118, 32, 88, 79, 82, 58, 71, 98, 58, 69, 98, 32, 88, 79, 82, 58, 71, 118, 58, 69, 118, 32, 88, 79, 82, 58, 65, 76, 58, 73, 98, 32, 88, 79, 82, 58, 65, 88, 58, 73, 118, 32, 45, 32, 65, 65, 65, 32, 67, 77, 80, 58, 69, 98, 58, 71, 98, 32, 67, 77, 80, 58, 69, 118, 58, 71, 118, 32, 67, 77, 80, 58, 71, 98, 58, 69, 98, 32, 67, 77, 80, 58, 71, 118, 58, 69, 118, 32, 67, 77, 80, 58, 65, 76, 58, 73, 98, 32, 67, 77, 80, 58, 65, 88, 58, 73, 118, 32, 45, 32, 65, 65, 83, 32, 73, 78, 67, 58, 90, 118, 32, 73, 78, 67, 58, 90, 118, 32, 73, 78, 67, 58, 90, 118, 32, 73, 78, 67, 58, 90, 118, 32, 73, 78, 67, 58, 90, 118, 32, 73, 78, 67, 58, 90, 118, 32, 73, 78, 67, 58, 90, 118, 32, 73, 78, 67, 58, 90, 118, 32, 68, 69, 67, 58, 90, 118, 32, 68, 69, 67, 58, 90, 118, 32, 68, 69, 67, 58, 90, 118, 32, 68, 69, 67, 58, 90, 118, 32, 68, 69, 67, 58, 90, 118, 32, 68, 69, 67, 58, 90, 118, 32, 68, 69, 67, 58, 90, 118, 32, 68, 69, 67, 58, 90, 118, 32, 80, 85, 83, 72, 58, 90, 118, 32, 80, 85, 83, 72, 58, 90, 118, 32, 80, 85, 83, 72, 58, 90, 118, 32, 80, 85, 83, 72, 58, 90, 118, 32, 80, 85, 83, 72, 58, 90, 118, 32, 80, 85, 83, 72, 58, 90, 118, 32, 80, 85, 83, 72, 58, 90, 118, 32, 80, 85, 83, 72, 58, 90, 118, 32, 80, 79, 80, 58, 90, 118, 32, 80, 79, 80, 58, 90, 118, 32, 80, 79, 80, 58, 90, 118, 32, 80, 79, 80, 58, 90, 118, 32, 80, 79, 80, 58, 90, 118, 32, 80, 79, 80, 58, 90, 118, 32, 80, 79, 80, 58, 90, 118, 32, 80, 79, 80, 58, 90, 118, 32, 45, 32, 45, 32, 45, 32, 45, 32, 45, 32, 45, 32, 45, 32, 45, 32, 45, 32, 45, 32, 45, 32, 45, 32, 45, 32, 45, 32, 45, 32, 45, 32, 74, 79, 58, 74, 98, 32, 74, 78, 79, 58, 74, 98, 32, 74, 66, 58, 74, 98, 32, 74, 78, 66, 58, 74, 98, 32, 74, 90, 58, 74, 98, 32, 74, 78, 90, 58, 74, 98, 32, 74, 66, 69, 58, 74, 98, 32, 74, 65, 58, 74, 98, 32, 74, 83, 58, 74, 98, 32, 74, 78, 83, 58, 74, 98, 32, 74, 80, 58, 74, 98, 32, 74, 78, 80, 58, 74, 98, 32, 74, 76, 58, 74, 98, 32, 74, 71, 69, 58, 74, 98, 32, 74, 76, 69, 58, 74, 98, 32, 74, 71, 58, 74, 98, 32, 47, 65, 68, 68, 58, 69, 98, 58, 73, 98, 47, 79, 82, 58, 69, 98, 58, 73, 98, 47, 65, 68, 67, 58, 69, 98, 58, 73, 98, 47, 83, 66, 66, 58, 69, 98, 58, 73, 98, 47, 65, 78, 68, 58, 69, 98, 58, 73, 98, 47, 83, 85, 66, 58, 69, 98, 58, 73, 98, 47, 88, 79, 82, 58, 69, 98, 58, 73, 98, 47, 67, 77, 80, 58, 69, 98, 58, 73, 98, 32, 47, 65, 68, 68, 58, 69, 118, 58, 73, 118, 47, 79, 82, 58, 69, 118, 58, 73, 118, 47, 65, 68, 67, 58, 69, 118, 58, 73, 118, 47, 83, 66, 66, 58, 69, 118, 58, 73, 118, 47, 65, 78, 68, 58, 69, 118, 58, 73, 118, 47, 83, 85, 66, 58, 69, 118, 58, 73, 118, 47, 88, 79, 82, 58, 69, 118, 58, 73, 118, 47, 67, 77, 80, 58, 69, 118, 58, 73, 118, 32, 45, 32, 47, 65, 68, 68, 58, 69, 118, 58, 73, 115, 47, 45, 47, 65, 68, 67, 58, 69, 118, 58, 73, 115, 47, 83, 66, 66, 58, 69, 118, 58, 73, 115, 47, 45, 47, 83, 85, 66, 58, 69, 118, 58, 73, 115, 47, 45, 47, 67, 77, 80, 58, 69, 118, 58, 73, 115, 32, 84, 69, 83, 84, 58, 69, 98, 58, 71, 98, 32, 84, 69, 83, 84, 58, 69, 118, 58, 71, 118, 32, 88, 67, 72, 71, 58, 69, 98, 58, 71, 98, 32, 88, 67, 72, 71, 58, 69, 118, 58, 71, 118, 32, 77, 79, 86, 58, 69, 98, 58, 71, 98, 32, 77, 79, 86, 58, 69, 118, 58, 71, 118, 32, 77, 79, 86, 58, 71, 98, 58, 69, 98, 32, 77, 79, 86, 58, 71, 118, 58, 69, 118, 32, 47, 77, 79, 86, 58, 69, 118, 58, 83, 119, 47, 77, 79, 86, 58, 69, 118, 58, 83, 119, 47, 77, 79, 86, 58, 69, 118, 58, 83, 119, 47, 77, 79, 86, 58, 69, 118, 58, 83, 119, 47, 45, 47, 45, 47, 45, 47, 45, 32, 76, 69, 65, 58, 71, 118, 58, 77, 32, 47, 77, 79, 86, 58, 83, 119, 58, 69, 118, 47, 45, 47, 77, 79, 86, 58, 83, 119, 58, 69, 118, 47, 77, 79, 86, 58, 83, 119, 58, 69, 118, 47, 45, 47, 45, 47, 45, 47, 45, 32, 47, 80, 79, 80, 58, 69, 118, 47, 45, 47, 45, 47, 45, 47, 45, 47, 45, 47, 45, 47, 45, 32, 88, 67, 72, 71, 58, 65, 88, 58, 90, 118, 32, 88, 67, 72, 71, 58, 65, 88, 58, 90, 118, 32, 88, 67, 72, 71, 58, 65, 88, 58, 90, 118, 32, 88, 67, 72, 71, 58, 65, 88, 58, 90, 118, 32, 88, 67, 72, 71, 58, 65, 88, 58, 90, 118, 32, 88, 67, 72, 71, 58, 65, 88, 58, 90, 118, 32, 88, 67, 72, 71, 58, 65, 88, 58, 90, 118, 32, 88, 67, 72, 71, 58, 65, 88, 58, 90, 118, 32, 67, 66, 87, 32, 67, 87, 68, 32, 67, 65, 76, 76, 70, 58, 65, 112, 32, 87, 65, 73, 84, 32, 80, 85, 83, 72, 70, 32, 80, 79, 80, 70, 32, 83, 65, 72, 70, 32, 76, 65, 72, 70, 32, 77, 79, 86, 58, 65, 76, 58, 79, 98, 32, 77, 79, 86, 58, 65, 88, 58, 79, 118, 32, 77, 79, 86, 58, 79, 98, 58, 65, 76, 32, 77, 79, 86, 58, 79, 118, 58, 65, 88, 32, 77, 79, 86, 83, 66, 32, 77, 79, 86, 83, 87, 32, 67, 77, 80, 83, 66, 32, 67, 77, 80, 83, 87, 32, 84, 69, 83, 84, 58, 65, 76, 58, 73, 98, 32, 84, 69, 83, 84, 58, 65, 88, 58, 73, 118, 32, 83, 84, 79, 83, 66, 32, 83, 84, 79, 83, 87, 32, 76, 79, 68, 83, 66, 32, 76, 79, 68, 83, 87, 32, 83, 67, 65, 83, 66, 32, 83, 67, 65, 83, 87, 32, 77, 79, 86, 58, 90, 98, 58, 73, 98, 32, 77, 79, 86, 58, 90, 98, 58, 73, 98, 32, 77, 79, 86, 58, 90, 98, 58, 73, 98, 32, 77, 79, 86, 58, 90, 98, 58, 73, 98, 32, 77, 79, 86, 58, 90, 98, 58, 73, 98, 32, 77, 79, 86, 58, 90, 98, 58, 73, 98, 32, 77, 79, 86, 58, 90, 98, 58, 73, 98, 32, 77, 79, 86, 58, 90, 98, 58, 73, 98, 32, 77, 79, 86, 58, 90, 118, 58, 73, 118, 32, 77, 79, 86, 58, 90, 118, 58, 73, 118, 32, 77, 79, 86, 58, 90, 118, 58, 73, 118, 32, 77, 79, 86, 58, 90, 118, 58, 73, 118, 32, 77, 79, 86, 58, 90, 118, 58, 73, 118, 32, 77, 79, 86, 58, 90, 118, 58, 73, 118, 32, 77, 79, 86, 58, 90, 118, 58, 73, 118, 32, 77, 79, 86, 58, 90, 118, 58, 73, 118, 32, 45, 32, 45, 32, 82, 69, 84, 58, 73, 118, 32, 82, 69, 84, 32, 76, 69, 83, 58, 71, 118, 58, 77, 112, 32, 76, 68, 83, 58, 71, 118, 58, 77, 112, 32, 47, 77, 79, 86, 58, 69, 98, 58, 73, 98, 47, 45, 47, 45, 47, 45, 47, 45, 47, 45, 47, 45, 47, 45, 32, 47, 77, 79, 86, 58, 69, 118, 58, 73, 118, 47, 45, 47, 45, 47, 45, 47, 45, 47, 45, 47, 45, 47, 45, 32, 45, 32, 45, 32, 82, 69, 84, 70, 58, 73, 118, 32, 82, 69, 84, 70, 32, 73, 78, 84, 58, 84, 104, 114, 101, 101, 32, 73, 78, 84, 58, 73, 98, 32, 73, 78, 84, 79, 32, 73, 82, 69, 84, 32, 47, 82, 79, 76, 58, 69, 98, 58, 79, 110, 101, 47, 82, 79, 82, 58, 69, 98, 58, 79, 110, 101, 47, 82, 67, 76, 58, 69, 98, 58, 79, 110, 101, 47, 82, 67, 82, 58, 69, 98, 58, 79, 110, 101, 47, 83, 72, 76, 58, 69, 98, 58, 79, 110, 101, 47, 83, 72, 82, 58, 69, 98, 58, 79, 110, 101, 47, 45, 47, 83, 65, 82, 58, 69, 98, 58, 79, 110, 101, 32, 47, 82, 79, 76, 58, 69, 118, 58, 79, 110, 101, 47, 82, 79, 82, 58, 69, 118, 58, 79, 110, 101, 47, 82, 67, 76, 58, 69, 118, 58, 79, 110, 101, 47, 82, 67, 82, 58, 69, 118, 58, 79, 110, 101, 47, 83, 72, 76, 58, 69, 118, 58, 79, 110, 101, 47, 83, 72, 82, 58, 69, 118, 58, 79, 110, 101, 47, 45, 47, 83, 65, 82, 58, 69, 118, 58, 79, 110, 101, 32, 47, 82, 79, 76, 58, 69, 98, 58, 67, 76, 47, 82, 79, 82, 58, 69, 98, 58, 67, 76, 47, 82, 67, 76, 58, 69, 98, 58, 67, 76, 47, 82, 67, 82, 58, 69, 98, 58, 67, 76, 47, 83, 72, 76, 58, 69, 98, 58, 67, 76, 47, 83, 72, 82, 58, 69, 98, 58, 67, 76, 47, 45, 47, 83, 65, 82, 58, 69, 98, 58, 67, 76, 32, 47, 82, 79, 76, 58, 69, 118, 58, 67, 76, 47, 82, 79, 82, 58, 69, 118, 58, 67, 76, 47, 82, 67, 76, 58, 69, 118, 58, 67, 76, 47, 82, 67, 82, 58, 69, 118, 58, 67, 76, 47, 83, 72, 76, 58, 69, 118, 58, 67, 76, 47, 83, 72, 82, 58, 69, 118, 58, 67, 76, 47, 45, 47, 83, 65, 82, 58, 69, 118, 58, 67, 76, 32, 65, 65, 77, 58, 73, 98, 32, 65, 65, 68, 58, 73, 98, 32, 45, 32, 88, 76, 65, 84, 32, 69, 83, 67, 58, 69, 118, 32, 69, 83, 67, 58, 69, 118, 32, 69, 83, 67, 58, 69, 118, 32, 69, 83, 67, 58, 69, 118, 32, 69, 83, 67, 58, 69, 118, 32, 69, 83, 67, 58, 69, 118, 32, 69, 83, 67, 58, 69, 118, 32, 69, 83, 67, 58, 69, 118, 32, 76, 79, 79, 80, 78, 90, 58, 74, 98, 32, 76, 79, 79, 80, 90, 58, 74, 98, 32, 76, 79, 79, 80, 58, 74, 98, 32, 74, 67, 88, 90, 58, 74, 98, 32, 73, 78, 58, 65, 76, 58, 73, 98, 32, 73, 78, 58, 65, 88, 58, 73, 98, 32, 79, 85, 84, 58, 73, 98, 58, 65, 76, 32, 79, 85, 84, 58, 73, 98, 58, 65, 88, 32, 67, 65, 76, 76, 58, 74, 118, 32, 74, 77, 80, 58, 74, 118, 32, 74, 77, 80, 70, 58, 65, 112, 32, 74, 77, 80, 58, 74, 98, 32, 73, 78, 58, 65, 76, 58, 68, 88, 32, 73, 78, 58, 65, 88, 58, 68, 88, 32, 79, 85, 84, 58, 68, 88, 58, 65, 76, 32, 79, 85, 84, 58, 68, 88, 58, 65, 88, 32, 45, 32, 45, 32, 45, 32, 45, 32, 72, 76, 84, 32, 67, 77, 67, 32, 47, 84, 69, 83, 84, 58, 69, 98, 58, 73, 98, 47, 45, 47, 78, 79, 84, 58, 69, 98, 47, 78, 69, 71, 58, 69, 98, 47, 77, 85, 76, 58, 69, 98, 47, 73, 77, 85, 76, 58, 69, 98, 47, 68, 73, 86, 58, 69, 98, 47, 73, 68, 73, 86, 58, 69, 98, 32, 47, 84, 69, 83, 84, 58, 69, 118, 58, 73, 118, 47, 45, 47, 78, 79, 84, 58, 69, 118, 47, 78, 69, 71, 58, 69, 118, 47, 77, 85, 76, 58, 69, 118, 47, 73, 77, 85, 76, 58, 69, 118, 47, 68, 73, 86, 58, 69, 118, 47, 73, 68, 73, 86, 58, 69, 118, 32, 67, 76, 67, 32, 83, 84, 67, 32, 67, 76, 73, 32, 83, 84, 73, 32, 67, 76, 68, 32, 83, 84, 68, 32, 47, 73, 78, 67, 58, 69, 98, 47, 68, 69, 67, 58, 69, 98, 47, 45, 47, 45, 47, 45, 47, 45, 47, 45, 47, 45, 32, 47, 73, 78, 67, 58, 69, 118, 47, 68, 69, 67, 58, 69, 118, 47, 67, 65, 76, 76, 58, 69, 118, 47, 67, 65, 76, 76, 70, 58, 77, 112, 47, 74, 77, 80, 58, 69, 118, 47, 74, 77, 80, 70, 58, 77, 112, 47, 80, 85, 83, 72, 58, 69, 118, 47, 45, 32] : List UInt8) (IntKind.wrap .i64 op_)).bind fun r_1 =>
  if (decide ((r_1.length : Int) > 0)) then
    (idx r_1 0).bind fun z_1 =>
    if ((z_1.toNat : Int) == 47) then
      (hansomref04_part r_1 47 (IntKind.wrap .i64 ((bitsOp .and .i64 reg_ 7) + 1))).bind fun r_2 =>
      some r_2
    else
      some r_1
  else
    some r_1
noncomputable def hansomref04_find_l8 (s0 : (List UInt8)) (w1 : (List UInt8)) (n5 : Int) (from6 : Int) (i7 : Int) : Option (Lp (Int × Int × Int) (Int ⊕ Unit)) :=
  if (decide (i7 < (s0.length : Int))) then
    (idx s0 i7).bind fun z_1 =>
    if ((z_1.toNat : Int) != 32) then
      some (.next (n5, from6, (IntKind.wrap .i64 (i7 + 1))))
    else
      (cutL s0 from6 i7).bind fun z_2 =>
      if (z_2 == w1) then
        some (.out (.inl n5))
      else
        some (.next ((IntKind.wrap .i64 (n5 + 1)), (IntKind.wrap .i64 (i7 + 1)), (IntKind.wrap .i64 (i7 + 1))))
  else
    some (.out (.inr ()))
/-- hansom/hansomref04.find -/
noncomputable def hansomref04_find (s_ : (List UInt8)) (w_ : (List UInt8)) : Option Int :=
  (loopO (fun x : (Int × Int × Int) => hansomref04_find_l8 s_ w_ x.1 x.2.1 x.2.2) (1, 0, 0)).bind fun e_1 =>
  match e_1 with
  | .inl e_2 =>
    some e_2
  | .inr e_3 =>
    some 0
/-- hansom/hansomref04.Find -/
noncomputable def hansomref04_Find (s_ : (List UInt8)) : Option Int :=
  (hansomref04_find ([65, 68, 68, 32, 79, 82, 32, 65, 68, 67, 32, 83, 66, 66, 32, 65, 78, 68, 32, 83, 85, 66, 32, 88, 79, 82, 32, 67, 77, 80, 32, 80, 85, 83, 72, 32, 80, 79, 80, 32, 68, 65, 65, 32, 68, 65, 83, 32, 65, 65, 65, 32, 65, 65, 83, 32, 73, 78, 67, 32, 68, 69, 67, 32, 74, 79, 32, 74, 78, 79, 32, 74, 66, 32, 74, 78, 66, 32, 74, 90, 32, 74, 78, 90, 32, 74, 66, 69, 32, 74, 65, 32, 74, 83, 32, 74, 78, 83, 32, 74, 80, 32, 74, 78, 80, 32, 74, 76, 32, 74, 71, 69, 32, 74, 76, 69, 32, 74, 71, 32, 84, 69, 83, 84, 32, 88, 67, 72, 71, 32, 77, 79, 86, 32, 76, 69, 65, 32, 67, 66, 87, 32, 67, 87, 68, 32, 67, 65, 76, 76, 32, 67, 65, 76, 76, 70, 32, 87, 65, 73, 84, 32, 80, 85, 83, 72, 70, 32, 80, 79, 80, 70, 32, 83, 65, 72, 70, 32, 76, 65, 72, 70, 32, 77, 79, 86, 83, 66, 32, 77, 79, 86, 83, 87, 32, 67, 77, 80, 83, 66, 32, 67, 77, 80, 83, 87, 32, 83, 84, 79, 83, 66, 32, 83, 84, 79, 83, 87, 32, 76, 79, 68, 83, 66, 32, 76, 79, 68, 83, 87, 32, 83, 67, 65, 83, 66, 32, 83, 67, 65, 83, 87, 32, 82, 69, 84, 32, 82, 69, 84, 70, 32, 76, 69, 83, 32, 76, 68, 83, 32, 73, 78, 84, 32, 73, 78, 84, 79, 32, 73, 82, 69, 84, 32, 82, 79, 76, 32, 82, 79, 82, 32, 82, 67, 76, 32, 82, 67, 82, 32, 83, 72, 76, 32, 83, 72, 82, 32, 83, 65, 82, 32, 65, 65, 77, 32, 65, 65, 68, 32, 88, 76, 65, 84, 32, 69, 83, 67, 32, 76, 79, 79, 80, 78, 90, 32, 76, 79, 79, 80, 90, 32, 76, 79, 79, 80, 32, 74, 67, 88, 90, 32, 73, 78, 32, 79, 85, 84, 32, 74, 77, 80, 32, 74, 77, 80, 70, 32, 72, 76, 84, 32, 67, 77, 67, 32, 78, 79, 84, 32, 78, 69, 71, 32, 77, 85, 76, 32, 73, 77, 85, 76, 32, 68, 73, 86, 32, 73, 68, 73, 86, 32, 67, 76, 67, 32, 83, 84, 67, 32, 67, 76, 73, 32, 83, 84, 73, 32, 67, 76, 68, 32, 83, 84, 68, 32] : List UInt8) s_).bind fun r_1 =>
  some r_1
/-- hansom/hansomref04.second -/
noncomputable def hansomref04_second (k_ : Int) : Option Bool :=
  if (decide (k_ ≥ 1)) then
    if (decide (k_ ≤ 5)) then
      some true
    else
      if (k_ == 19) then
        some true
      else
        some (k_ == 20)
  else
    if (k_ == 19) then
      some true
    else
      some (k_ == 20)
/-- hansom/hansomref04.Row -/
noncomputable def hansomref04_Row (op_ : Int) (reg_ : Int) : Option (Row × Bool) :=
  (hansomref04_Entry op_ reg_).bind fun r_1 =>
  if (r_1 == ([45] : List UInt8)) then
    some (({ Name := 0, A := 0, B := 0, Mod := false } : Row), false)
  else
    if (r_1 == ([] : List UInt8)) then
      some (({ Name := 0, A := 0, B := 0, Mod := false } : Row), false)
    else
      (hansomref04_part r_1 58 0).bind fun r_2 =>
      (hansomref04_Find r_2).bind fun r_3 =>
      (hansomref04_part r_1 58 1).bind fun r_4 =>
      (hansomref04_find ([69, 98, 32, 69, 118, 32, 71, 98, 32, 71, 118, 32, 83, 119, 32, 73, 98, 32, 73, 118, 32, 73, 115, 32, 74, 98, 32, 74, 118, 32, 65, 112, 32, 79, 98, 32, 79, 118, 32, 65, 76, 32, 67, 76, 32, 65, 88, 32, 68, 88, 32, 79, 110, 101, 32, 77, 112, 32, 77, 32, 90, 98, 32, 90, 118, 32, 90, 115, 32, 84, 104, 114, 101, 101, 32] : List UInt8) r_4).bind fun r_5 =>
      (hansomref04_part r_1 58 2).bind fun r_6 =>
      (hansomref04_find ([69, 98, 32, 69, 118, 32, 71, 98, 32, 71, 118, 32, 83, 119, 32, 73, 98, 32, 73, 118, 32, 73, 115, 32, 74, 98, 32, 74, 118, 32, 65, 112, 32, 79, 98, 32, 79, 118, 32, 65, 76, 32, 67, 76, 32, 65, 88, 32, 68, 88, 32, 79, 110, 101, 32, 77, 112, 32, 77, 32, 90, 98, 32, 90, 118, 32, 90, 115, 32, 84, 104, 114, 101, 101, 32] : List UInt8) r_6).bind fun r_7 =>
      (hansomref04_second r_5).bind fun r_8 =>
      if r_8 then
        some (({ Name := r_3, A := r_5, B := r_7, Mod := true } : Row), true)
      else
        (hansomref04_second r_7).bind fun r_9 =>
        some (({ Name := r_3, A := r_5, B := r_7, Mod := r_9 } : Row), true)
/-- hansom/hansomref05.Row -/
noncomputable def hansomref05_Row (i_ : Inst) : Option (Row × Bool) :=
  (hansomref05_prefix i_.Op).bind fun r_1 =>
  if r_1 then
    some (({ Name := 0, A := 0, B := 0, Mod := false } : Row), false)
  else
    (hansomref04_Row i_.Op i_.Reg).bind fun r_2 =>
    some (r_2.1, r_2.2)
noncomputable def hansomref04_Bytes_j16 (t3 : Int) (t4 : Bool) : Option Int :=
  if t4 then
    some 1
  else
    if (t3 == 7) then
      some 2
    else
      if (t3 == 10) then
        some 2
      else
        if (t3 == 12) then
          some 2
        else
          if (t3 == 13) then
            some 2
          else
            if (t3 == 11) then
              some 4
            else
              some 0
/-- hansom/hansomref04.Bytes -/
noncomputable def hansomref04_Bytes (k_ : Int) : Option Int :=
  if (k_ == 6) then
    hansomref04_Bytes_j16 k_ true
  else
    if (k_ == 8) then
      hansomref04_Bytes_j16 k_ true
    else
      hansomref04_Bytes_j16 k_ (k_ == 9)
/-- hansom/hansomref04.Name -/
noncomputable def hansomref04_Name (n_ : Int) : Option (List UInt8) :=
  if (decide (n_ < 1)) then
    some ([63] : List UInt8)
  else
    if (decide (n_ > 95)) then
      some ([63] : List UInt8)
    else
      (hansomref04_word ([65, 68, 68, 32, 79, 82, 32, 65, 68, 67, 32, 83, 66, 66, 32, 65, 78, 68, 32, 83, 85, 66, 32, 88, 79, 82, 32, 67, 77, 80, 32, 80, 85, 83, 72, 32, 80, 79, 80, 32, 68, 65, 65, 32, 68, 65, 83, 32, 65, 65, 65, 32, 65, 65, 83, 32, 73, 78, 67, 32, 68, 69, 67, 32, 74, 79, 32, 74, 78, 79, 32, 74, 66, 32, 74, 78, 66, 32, 74, 90, 32, 74, 78, 90, 32, 74, 66, 69, 32, 74, 65, 32, 74, 83, 32, 74, 78, 83, 32, 74, 80, 32, 74, 78, 80, 32, 74, 76, 32, 74, 71, 69, 32, 74, 76, 69, 32, 74, 71, 32, 84, 69, 83, 84, 32, 88, 67, 72, 71, 32, 77, 79, 86, 32, 76, 69, 65, 32, 67, 66, 87, 32, 67, 87, 68, 32, 67, 65, 76, 76, 32, 67, 65, 76, 76, 70, 32, 87, 65, 73, 84, 32, 80, 85, 83, 72, 70, 32, 80, 79, 80, 70, 32, 83, 65, 72, 70, 32, 76, 65, 72, 70, 32, 77, 79, 86, 83, 66, 32, 77, 79, 86, 83, 87, 32, 67, 77, 80, 83, 66, 32, 67, 77, 80, 83, 87, 32, 83, 84, 79, 83, 66, 32, 83, 84, 79, 83, 87, 32, 76, 79, 68, 83, 66, 32, 76, 79, 68, 83, 87, 32, 83, 67, 65, 83, 66, 32, 83, 67, 65, 83, 87, 32, 82, 69, 84, 32, 82, 69, 84, 70, 32, 76, 69, 83, 32, 76, 68, 83, 32, 73, 78, 84, 32, 73, 78, 84, 79, 32, 73, 82, 69, 84, 32, 82, 79, 76, 32, 82, 79, 82, 32, 82, 67, 76, 32, 82, 67, 82, 32, 83, 72, 76, 32, 83, 72, 82, 32, 83, 65, 82, 32, 65, 65, 77, 32, 65, 65, 68, 32, 88, 76, 65, 84, 32, 69, 83, 67, 32, 76, 79, 79, 80, 78, 90, 32, 76, 79, 79, 80, 90, 32, 76, 79, 79, 80, 32, 74, 67, 88, 90, 32, 73, 78, 32, 79, 85, 84, 32, 74, 77, 80, 32, 74, 77, 80, 70, 32, 72, 76, 84, 32, 67, 77, 67, 32, 78, 79, 84, 32, 78, 69, 71, 32, 77, 85, 76, 32, 73, 77, 85, 76, 32, 68, 73, 86, 32, 73, 68, 73, 86, 32, 67, 76, 67, 32, 83, 84, 67, 32, 67, 76, 73, 32, 83, 84, 73, 32, 67, 76, 68, 32, 83, 84, 68, 32] : List UInt8) (IntKind.wrap .i64 (n_ - 1))).bind fun r_1 =>
      some r_1
noncomputable def hansomref04_Repeats_j28 (t4 : (List UInt8)) (t5 : Bool) : Option Int :=
  if t5 then
    some 1
  else
    if (t4 == ([67, 77, 80, 83, 66] : List UInt8)) then
      some 2
    else
      if (t4 == ([67, 77, 80, 83, 87] : List UInt8)) then
        some 2
      else
        if (t4 == ([83, 67, 65, 83, 66] : List UInt8)) then
          some 2
        else
          if (t4 == ([83, 67, 65, 83, 87] : List UInt8)) then
            some 2
          else
            some 0
/-- hansom/hansomref04.Repeats -/
noncomputable def hansomref04_Repeats (n_ : Int) : Option Int :=
  (hansomref04_Name n_).bind fun r_1 =>
  if (r_1 == ([77, 79, 86, 83, 66] : List UInt8)) then
    hansomref04_Repeats_j28 r_1 true
  else
    if (r_1 == ([77, 79, 86, 83, 87] : List UInt8)) then
      hansomref04_Repeats_j28 r_1 true
    else
      if (r_1 == ([83, 84, 79, 83, 66] : List UInt8)) then
        hansomref04_Repeats_j28 r_1 true
      else
        if (r_1 == ([83, 84, 79, 83, 87] : List UInt8)) then
          hansomref04_Repeats_j28 r_1 true
        else
          if (r_1 == ([76, 79, 68, 83, 66] : List UInt8)) then
            hansomref04_Repeats_j28 r_1 true
          else
            hansomref04_Repeats_j28 r_1 (r_1 == ([76, 79, 68, 83, 87] : List UInt8))
/-- hansom/hansomref01.Fits -/
noncomputable def hansomref01_Fits (w_ : Int) : Option Bool :=
  if (decide (w_ < 128)) then
    some true
  else
    some (decide (w_ ≥ 65408))
/-- hansom/hansomref05.Disps -/
noncomputable def hansomref05_Disps (mod_ : Int) (rm_ : Int) : Option Int :=
  if (mod_ == 1) then
    some 1
  else
    if (mod_ == 2) then
      some 2
    else
      if (mod_ == 0) then
        if (rm_ == 6) then
          some 2
        else
          some 0
      else
        some 0
noncomputable def hansomref05_May_j82 (i1 : Inst) (t155 : Int) (t181 : Bool) : Option Bool :=
  if t181 then
    (hansomref01_Fits i1.Imm).bind fun r_4 =>
    if r_4 then
      some (i1.Sel == 0)
    else
      some false
  else
    if (t155 == 7) then
      some (i1.Sel == 0)
    else
      if (t155 == 10) then
        some (i1.Sel == 0)
      else
        if (t155 == 12) then
          some (i1.Sel == 0)
        else
          if (t155 == 13) then
            some (i1.Sel == 0)
          else
            if (t155 == 11) then
              some true
            else
              if (i1.Imm == 0) then
                some (i1.Sel == 0)
              else
                some false
noncomputable def hansomref05_May_j66 (i1 : Inst) (r3 : Row) (k7 : Int) : Option Bool :=
  if (k7 == 6) then
    if (decide (i1.Imm < 256)) then
      if (i1.Sel == 0) then
        if (r3.Name != 70) then
          if (r3.Name != 71) then
            some true
          else
            some (i1.Imm == 10)
        else
          some (i1.Imm == 10)
      else
        some false
    else
      some false
  else
    if (k7 == 8) then
      hansomref05_May_j82 i1 k7 true
    else
      hansomref05_May_j82 i1 k7 (k7 == 9)
noncomputable def hansomref05_May_j58 (i1 : Inst) (r3 : Row) : Option Bool :=
  (hansomref04_Bytes r3.A).bind fun r_3 =>
  if (r_3 == 0) then
    hansomref05_May_j66 i1 r3 r3.B
  else
    hansomref05_May_j66 i1 r3 r3.A
noncomputable def hansomref05_May_j49 (i1 : Inst) (r3 : Row) : Option Bool :=
  (hansomref05_Disps i1.Mod i1.RM).bind fun r_5 =>
  if (r_5 == 0) then
    if (i1.Disp != 0) then
      some false
    else
      if (r_5 == 1) then
        (hansomref01_Fits i1.Disp).bind fun r_6 =>
        if (!r_6) then
          some false
        else
          hansomref05_May_j58 i1 r3
      else
        hansomref05_May_j58 i1 r3
  else
    if (r_5 == 1) then
      (hansomref01_Fits i1.Disp).bind fun r_7 =>
      if (!r_7) then
        some false
      else
        hansomref05_May_j58 i1 r3
    else
      hansomref05_May_j58 i1 r3
noncomputable def hansomref05_May_j22 (i1 : Inst) (r3 : Row) : Option Bool :=
  if (!r3.Mod) then
    if (i1.Mod != 0) then
      some false
    else
      if (i1.Reg != 0) then
        some false
      else
        if (i1.RM != 0) then
          some false
        else
          if (i1.Disp != 0) then
            some false
          else
            hansomref05_May_j58 i1 r3
  else
    if (decide (i1.Mod < 0)) then
      some false
    else
      if (decide (i1.Mod > 3)) then
        some false
      else
        if (decide (i1.Reg < 0)) then
          some false
        else
          if (decide (i1.Reg > 7)) then
            some false
          else
            if (decide (i1.RM < 0)) then
              some false
            else
              if (decide (i1.RM > 7)) then
                some false
              else
                if (i1.Mod == 3) then
                  if (r3.A == 19) then
                    some false
                  else
                    if (r3.A == 20) then
                      some false
                    else
                      if (r3.B == 19) then
                        some false
                      else
                        if (r3.B == 20) then
                          some false
                        else
                          hansomref05_May_j49 i1 r3
                else
                  hansomref05_May_j49 i1 r3
/-- hansom/hansomref05.May -/
noncomputable def hansomref05_May (i_ : Inst) : Option Bool :=
  (hansomref05_Row i_).bind fun r_1 =>
  if (!r_1.2) then
    some false
  else
    if (decide (i_.Seg < 0)) then
      some false
    else
      if (decide (i_.Seg > 4)) then
        some false
      else
        (hansomref04_Repeats r_1.1.Name).bind fun r_2 =>
        if (decide (i_.Rep < 0)) then
          some false
        else
          if (decide (i_.Rep > 2)) then
            some false
          else
            if (i_.Rep == 1) then
              if (decide (r_2 < 2)) then
                some false
              else
                if (i_.Rep == 2) then
                  if (decide (r_2 < 1)) then
                    some false
                  else
                    hansomref05_May_j22 i_ r_1.1
                else
                  hansomref05_May_j22 i_ r_1.1
            else
              if (i_.Rep == 2) then
                if (decide (r_2 < 1)) then
                  some false
                else
                  hansomref05_May_j22 i_ r_1.1
              else
                hansomref05_May_j22 i_ r_1.1
/-- hansom/hansomref01.Sign -/
noncomputable def hansomref01_Sign (b_ : Int) : Option Int :=
  if (decide (b_ < 128)) then
    some (IntKind.wrap .u16 b_)
  else
    some (IntKind.wrap .u16 (65280 + (IntKind.wrap .u16 b_)))
noncomputable def hansomref05_Near_j100 (x1 : Inst) (i2 : Inst) : Option Inst :=
  if (decide ((bitsOp .and .i64 x1.Seg 7) ≤ 4)) then
    (hansomref05_May ({ i2 with Seg := (bitsOp .and .i64 x1.Seg 7) } : Inst)).bind fun r_4 =>
    if (!r_4) then
      some ({ Lock := false, Rep := 0, Seg := 0, Op := 144, Mod := 0, Reg := 0, RM := 0, Disp := 0, Imm := 0, Sel := 0 } : Inst)
    else
      some ({ i2 with Seg := (bitsOp .and .i64 x1.Seg 7) } : Inst)
  else
    (hansomref05_May i2).bind fun r_5 =>
    if (!r_5) then
      some ({ Lock := false, Rep := 0, Seg := 0, Op := 144, Mod := 0, Reg := 0, RM := 0, Disp := 0, Imm := 0, Sel := 0 } : Inst)
    else
      some i2
noncomputable def hansomref05_Near_j86 (x1 : Inst) (i2 : Inst) (r3 : Row) : Option Inst :=
  (hansomref04_Repeats r3.Name).bind fun r_3 =>
  if (decide (r_3 > 0)) then
    if (decide ((bitsOp .and .i64 x1.Rep 3) > 0)) then
      if (r_3 == 2) then
        if ((bitsOp .and .i64 x1.Rep 1) == 1) then
          hansomref05_Near_j100 x1 ({ i2 with Rep := 1 } : Inst)
        else
          hansomref05_Near_j100 x1 ({ i2 with Rep := 2 } : Inst)
      else
        hansomref05_Near_j100 x1 ({ i2 with Rep := 2 } : Inst)
    else
      hansomref05_Near_j100 x1 i2
  else
    hansomref05_Near_j100 x1 i2
noncomputable def hansomref05_Near_j79 (x1 : Inst) (i2 : Inst) (r3 : Row) (t61 : Int) (t86 : Bool) : Option Inst :=
  if t86 then
    hansomref05_Near_j86 x1 ({ i2 with Imm := x1.Imm } : Inst) r3
  else
    if (t61 == 11) then
      hansomref05_Near_j86 x1 ({ i2 with Imm := x1.Imm, Sel := x1.Sel } : Inst) r3
    else
      hansomref05_Near_j86 x1 i2 r3
noncomputable def hansomref05_Near_j63 (x1 : Inst) (i2 : Inst) (r3 : Row) (t61 : Int) (t77 : Bool) : Option Inst :=
  if t77 then
    (hansomref01_Sign (IntKind.wrap .u8 (Int.tmod x1.Imm 256))).bind fun r_6 =>
    hansomref05_Near_j86 x1 ({ i2 with Imm := r_6 } : Inst) r3
  else
    if (t61 == 7) then
      hansomref05_Near_j79 x1 i2 r3 t61 true
    else
      if (t61 == 10) then
        hansomref05_Near_j79 x1 i2 r3 t61 true
      else
        if (t61 == 12) then
          hansomref05_Near_j79 x1 i2 r3 t61 true
        else
          hansomref05_Near_j79 x1 i2 r3 t61 (t61 == 13)
noncomputable def hansomref05_Near_j43 (x1 : Inst) (i2 : Inst) (r3 : Row) (k5 : Int) : Option Inst :=
  if (k5 == 6) then
    if (r3.Name == 70) then
      hansomref05_Near_j86 x1 ({ i2 with Imm := 10 } : Inst) r3
    else
      if (r3.Name == 71) then
        hansomref05_Near_j86 x1 ({ i2 with Imm := 10 } : Inst) r3
      else
        hansomref05_Near_j86 x1 ({ i2 with Imm := (Int.tmod x1.Imm 256) } : Inst) r3
  else
    if (k5 == 8) then
      hansomref05_Near_j63 x1 i2 r3 k5 true
    else
      hansomref05_Near_j63 x1 i2 r3 k5 (k5 == 9)
noncomputable def hansomref05_Near_j35 (x1 : Inst) (i2 : Inst) (r3 : Row) : Option Inst :=
  (hansomref04_Bytes r3.A).bind fun r_2 =>
  if (r_2 == 0) then
    hansomref05_Near_j43 x1 i2 r3 r3.B
  else
    hansomref05_Near_j43 x1 i2 r3 r3.A
/-- hansom/hansomref05.Near -/
noncomputable def hansomref05_Near (x_ : Inst) : Option Inst :=
  (hansomref05_Row ({ x_ with Rep := 0, Seg := 0, Mod := 0, Reg := (bitsOp .and .i64 x_.Reg 7), RM := 0, Disp := 0, Imm := 0, Sel := 0 } : Inst)).bind fun r_1 =>
  if (!r_1.2) then
    some ({ Lock := false, Rep := 0, Seg := 0, Op := 144, Mod := 0, Reg := 0, RM := 0, Disp := 0, Imm := 0, Sel := 0 } : Inst)
  else
    if (!r_1.1.Mod) then
      hansomref05_Near_j35 x_ ({ x_ with Rep := 0, Seg := 0, Mod := 0, Reg := 0, RM := 0, Disp := 0, Imm := 0, Sel := 0 } : Inst) r_1.1
    else
      (hansomref05_Disps (bitsOp .and .i64 x_.Mod 3) (bitsOp .and .i64 x_.RM 7)).bind fun r_7 =>
      if (r_7 == 1) then
        (hansomref01_Sign (IntKind.wrap .u8 (Int.tmod x_.Disp 256))).bind fun r_8 =>
        hansomref05_Near_j35 x_ ({ x_ with Rep := 0, Seg := 0, Mod := (bitsOp .and .i64 x_.Mod 3), Reg := (bitsOp .and .i64 x_.Reg 7), RM := (bitsOp .and .i64 x_.RM 7), Disp := r_8, Imm := 0, Sel := 0 } : Inst) r_1.1
      else
        if (r_7 == 2) then
          hansomref05_Near_j35 x_ ({ x_ with Rep := 0, Seg := 0, Mod := (bitsOp .and .i64 x_.Mod 3), Reg := (bitsOp .and .i64 x_.Reg 7), RM := (bitsOp .and .i64 x_.RM 7), Imm := 0, Sel := 0 } : Inst) r_1.1
        else
          hansomref05_Near_j35 x_ ({ x_ with Rep := 0, Seg := 0, Mod := (bitsOp .and .i64 x_.Mod 3), Reg := (bitsOp .and .i64 x_.Reg 7), RM := (bitsOp .and .i64 x_.RM 7), Disp := 0, Imm := 0, Sel := 0 } : Inst) r_1.1
/-- hansom/hansomref05.two -/
noncomputable def hansomref05_two (w_ : Int) : Option (List Int) :=
  some ([(IntKind.wrap .u8 (Int.tmod w_ 256)), (IntKind.wrap .u8 (IntKind.wrap .u16 (Int.tdiv w_ 256)))] : List Int)
/-- hansom/hansomref05.Imms -/
noncomputable def hansomref05_Imms (r_ : Row) : Option Int :=
  (hansomref04_Bytes r_.A).bind fun r_1 =>
  (hansomref04_Bytes r_.B).bind fun r_2 =>
  some (IntKind.wrap .i64 (r_1 + r_2))
noncomputable def hansomref05_Put_j46 (i1 : Inst) (b_12 : (List Int)) (n6 : Int) (t73 : Int) (t74 : Bool) : Option (List Int) :=
  if t74 then
    (hansomref05_two i1.Imm).bind fun r_5 =>
    (cutL r_5 0 n6).bind fun z_8 =>
    (grow 1 b_12 z_8).bind fun z_9 =>
    some z_9
  else
    if (t73 == 4) then
      (hansomref05_two i1.Imm).bind fun r_6 =>
      (grow 1 b_12 r_6).bind fun z_10 =>
      (hansomref05_two i1.Sel).bind fun r_7 =>
      (grow 1 z_10 r_7).bind fun z_11 =>
      some z_11
    else
      some b_12
noncomputable def hansomref05_Put_j34 (i1 : Inst) (r3 : Row) (b_12 : (List Int)) : Option (List Int) :=
  (hansomref05_Imms r3).bind fun r_4 =>
  if (r_4 == 1) then
    hansomref05_Put_j46 i1 b_12 r_4 r_4 true
  else
    hansomref05_Put_j46 i1 b_12 r_4 r_4 (r_4 == 2)
noncomputable def hansomref05_Put_j24 (i1 : Inst) (r3 : Row) (b_12 : (List Int)) : Option (List Int) :=
  (grow 1 b_12 ([i1.Op] : List Int)).bind fun z_4 =>
  if r3.Mod then
    (grow 1 z_4 ([(IntKind.wrap .u8 (IntKind.wrap .i64 ((IntKind.wrap .i64 ((IntKind.wrap .i64 (64 * i1.Mod)) + (IntKind.wrap .i64 (8 * i1.Reg)))) + i1.RM)))] : List Int)).bind fun z_5 =>
    (hansomref05_two i1.Disp).bind fun r_2 =>
    (hansomref05_Disps i1.Mod i1.RM).bind fun r_3 =>
    (cutL r_2 0 r_3).bind fun z_6 =>
    (grow 1 z_5 z_6).bind fun z_7 =>
    hansomref05_Put_j34 i1 r3 z_7
  else
    hansomref05_Put_j34 i1 r3 z_4
noncomputable def hansomref05_Put_j18 (i1 : Inst) (r3 : Row) (b_12 : (List Int)) : Option (List Int) :=
  if (decide (i1.Seg > 0)) then
    (grow 1 b_12 ([(IntKind.wrap .u8 (IntKind.wrap .i64 (30 + (IntKind.wrap .i64 (8 * i1.Seg)))))] : List Int)).bind fun z_3 =>
    hansomref05_Put_j24 i1 r3 z_3
  else
    hansomref05_Put_j24 i1 r3 b_12
noncomputable def hansomref05_Put_j12 (i1 : Inst) (r3 : Row) (b_12 : (List Int)) : Option (List Int) :=
  if (decide (i1.Rep > 0)) then
    (grow 1 b_12 ([(IntKind.wrap .u8 (IntKind.wrap .i64 (241 + i1.Rep)))] : List Int)).bind fun z_2 =>
    hansomref05_Put_j18 i1 r3 z_2
  else
    hansomref05_Put_j18 i1 r3 b_12
/-- hansom/hansomref05.Put -/
noncomputable def hansomref05_Put (i_ : Inst) : Option (List Int) :=
  (hansomref05_Row i_).bind fun r_1 =>
  if i_.Lock then
    (grow 1 ([] : List Int) ([240] : List Int)).bind fun z_1 =>
    hansomref05_Put_j12 ({ i_ with Lock := true } : Inst) r_1.1 z_1
  else
    hansomref05_Put_j12 ({ i_ with Lock := false } : Inst) r_1.1 ([] : List Int)
/-- hansom/isa.Prefix -/
noncomputable def isa_Prefix (b_ : Int) : Option Bool :=
  if (b_ == 38) then
    some true
  else
    if (b_ == 46) then
      some true
    else
      if (b_ == 54) then
        some true
      else
        if (b_ == 62) then
          some true
        else
          if (b_ == 240) then
            some true
          else
            if (b_ == 242) then
              some true
            else
              if (b_ == 243) then
                some true
              else
                some false
/-- hansom/isa.mod -/
noncomputable def isa_mod (name_ : Int) (a_ : Int) (b_ : Int) : Option (Row × Bool) :=
  some (({ Name := name_, A := a_, B := b_, Mod := true } : Row), true)
/-- hansom/isa.row -/
noncomputable def isa_row (name_ : Int) (a_ : Int) (b_ : Int) : Option (Row × Bool) :=
  some (({ Name := name_, A := a_, B := b_, Mod := false } : Row), true)
/-- hansom/isa.bad -/
noncomputable def isa_bad  : Option (Row × Bool) :=
  some (({ Name := 0, A := 0, B := 0, Mod := false } : Row), false)
noncomputable def isa_sums_j77 (b_2 : Row) (t47 : Int) (t56 : Bool) : Option (Row × Bool) :=
  if t56 then
    (isa_row 10 23 0).bind fun r_8 =>
    some (r_8.1, r_8.2)
  else
    if (t47 == 39) then
      (isa_row 11 0 0).bind fun r_9 =>
      some (r_9.1, r_9.2)
    else
      if (t47 == 47) then
        (isa_row 12 0 0).bind fun r_10 =>
        some (r_10.1, r_10.2)
      else
        if (t47 == 55) then
          (isa_row 13 0 0).bind fun r_11 =>
          some (r_11.1, r_11.2)
        else
          if (t47 == 63) then
            (isa_row 14 0 0).bind fun r_12 =>
            some (r_12.1, r_12.2)
          else
            (isa_bad).bind fun r_13 =>
            some (r_13.1, r_13.2)
noncomputable def isa_sums_j63 (b_2 : Row) (t47 : Int) (t48 : Bool) : Option (Row × Bool) :=
  if t48 then
    (isa_row 9 23 0).bind fun r_7 =>
    some (r_7.1, r_7.2)
  else
    if (t47 == 7) then
      isa_sums_j77 b_2 t47 true
    else
      if (t47 == 23) then
        isa_sums_j77 b_2 t47 true
      else
        isa_sums_j77 b_2 t47 (t47 == 31)
/-- hansom/isa.sums -/
noncomputable def isa_sums (op_ : Int) : Option (Row × Bool) :=
  if ((bitsOp .and .u8 op_ 7) == 0) then
    (isa_mod (IntKind.wrap .i64 (1 + (IntKind.wrap .i64 (shrI .u8 op_ 3)))) 1 3).bind fun r_1 =>
    some (r_1.1, r_1.2)
  else
    if ((bitsOp .and .u8 op_ 7) == 1) then
      (isa_mod (IntKind.wrap .i64 (1 + (IntKind.wrap .i64 (shrI .u8 op_ 3)))) 2 4).bind fun r_2 =>
      some (r_2.1, r_2.2)
    else
      if ((bitsOp .and .u8 op_ 7) == 2) then
        (isa_mod (IntKind.wrap .i64 (1 + (IntKind.wrap .i64 (shrI .u8 op_ 3)))) 3 1).bind fun r_3 =>
        some (r_3.1, r_3.2)
      else
        if ((bitsOp .and .u8 op_ 7) == 3) then
          (isa_mod (IntKind.wrap .i64 (1 + (IntKind.wrap .i64 (shrI .u8 op_ 3)))) 4 2).bind fun r_4 =>
          some (r_4.1, r_4.2)
        else
          if ((bitsOp .and .u8 op_ 7) == 4) then
            (isa_row (IntKind.wrap .i64 (1 + (IntKind.wrap .i64 (shrI .u8 op_ 3)))) 14 6).bind fun r_5 =>
            some (r_5.1, r_5.2)
          else
            if ((bitsOp .and .u8 op_ 7) == 5) then
              (isa_row (IntKind.wrap .i64 (1 + (IntKind.wrap .i64 (shrI .u8 op_ 3)))) 16 7).bind fun r_6 =>
              some (r_6.1, r_6.2)
            else
              if (op_ == 6) then
                isa_sums_j63 ({ Name := 0, A := 0, B := 0, Mod := false } : Row) op_ true
              else
                if (op_ == 14) then
                  isa_sums_j63 ({ Name := 0, A := 0, B := 0, Mod := false } : Row) op_ true
                else
                  if (op_ == 22) then
                    isa_sums_j63 ({ Name := 0, A := 0, B := 0, Mod := false } : Row) op_ true
                  else
                    isa_sums_j63 ({ Name := 0, A := 0, B := 0, Mod := false } : Row) op_ (op_ == 30)
/-- hansom/isa.moves -/
noncomputable def isa_moves (op_ : Int) (reg_ : Int) : Option (Row × Bool) :=
  if (op_ == 128) then
    (isa_mod (IntKind.wrap .i64 (1 + reg_)) 1 6).bind fun r_1 =>
    some (r_1.1, r_1.2)
  else
    if (op_ == 129) then
      (isa_mod (IntKind.wrap .i64 (1 + reg_)) 2 7).bind fun r_2 =>
      some (r_2.1, r_2.2)
    else
      if (op_ == 131) then
        if (reg_ == 1) then
          (isa_bad).bind fun r_3 =>
          some (r_3.1, r_3.2)
        else
          if (reg_ == 4) then
            (isa_bad).bind fun r_4 =>
            some (r_4.1, r_4.2)
          else
            if (reg_ == 6) then
              (isa_bad).bind fun r_5 =>
              some (r_5.1, r_5.2)
            else
              (isa_mod (IntKind.wrap .i64 (1 + reg_)) 2 8).bind fun r_6 =>
              some (r_6.1, r_6.2)
      else
        if (op_ == 132) then
          (isa_mod 33 1 3).bind fun r_7 =>
          some (r_7.1, r_7.2)
        else
          if (op_ == 133) then
            (isa_mod 33 2 4).bind fun r_8 =>
            some (r_8.1, r_8.2)
          else
            if (op_ == 134) then
              (isa_mod 34 1 3).bind fun r_9 =>
              some (r_9.1, r_9.2)
            else
              if (op_ == 135) then
                (isa_mod 34 2 4).bind fun r_10 =>
                some (r_10.1, r_10.2)
              else
                if (op_ == 136) then
                  (isa_mod 35 1 3).bind fun r_11 =>
                  some (r_11.1, r_11.2)
                else
                  if (op_ == 137) then
                    (isa_mod 35 2 4).bind fun r_12 =>
                    some (r_12.1, r_12.2)
                  else
                    if (op_ == 138) then
                      (isa_mod 35 3 1).bind fun r_13 =>
                      some (r_13.1, r_13.2)
                    else
                      if (op_ == 139) then
                        (isa_mod 35 4 2).bind fun r_14 =>
                        some (r_14.1, r_14.2)
                      else
                        if (op_ == 140) then
                          if (decide (reg_ < 4)) then
                            (isa_mod 35 2 5).bind fun r_15 =>
                            some (r_15.1, r_15.2)
                          else
                            (isa_bad).bind fun r_16 =>
                            some (r_16.1, r_16.2)
                        else
                          if (op_ == 141) then
                            (isa_mod 36 4 20).bind fun r_17 =>
                            some (r_17.1, r_17.2)
                          else
                            if (op_ == 142) then
                              if (decide (reg_ < 4)) then
                                if (reg_ != 1) then
                                  (isa_mod 35 5 2).bind fun r_18 =>
                                  some (r_18.1, r_18.2)
                                else
                                  (isa_bad).bind fun r_19 =>
                                  some (r_19.1, r_19.2)
                              else
                                (isa_bad).bind fun r_20 =>
                                some (r_20.1, r_20.2)
                            else
                              if (op_ == 143) then
                                if (reg_ == 0) then
                                  (isa_mod 10 2 0).bind fun r_21 =>
                                  some (r_21.1, r_21.2)
                                else
                                  (isa_bad).bind fun r_22 =>
                                  some (r_22.1, r_22.2)
                              else
                                (isa_bad).bind fun r_23 =>
                                some (r_23.1, r_23.2)
/-- hansom/isa.words -/
noncomputable def isa_words (op_ : Int) : Option (Row × Bool) :=
  if (decide (op_ < 152)) then
    (isa_row 34 16 22).bind fun r_1 =>
    some (r_1.1, r_1.2)
  else
    if (op_ == 154) then
      (isa_row 40 11 0).bind fun r_2 =>
      some (r_2.1, r_2.2)
    else
      (idx ([37, 38, 0, 41, 42, 43, 44, 45] : List Int) (IntKind.wrap .u8 (op_ - 152))).bind fun z_1 =>
      (isa_row z_1 0 0).bind fun r_3 =>
      some (r_3.1, r_3.2)
/-- hansom/isa.texts -/
noncomputable def isa_texts (op_ : Int) : Option (Row × Bool) :=
  if (op_ == 160) then
    (isa_row 35 14 12).bind fun r_1 =>
    some (r_1.1, r_1.2)
  else
    if (op_ == 161) then
      (isa_row 35 16 13).bind fun r_2 =>
      some (r_2.1, r_2.2)
    else
      if (op_ == 162) then
        (isa_row 35 12 14).bind fun r_3 =>
        some (r_3.1, r_3.2)
      else
        if (op_ == 163) then
          (isa_row 35 13 16).bind fun r_4 =>
          some (r_4.1, r_4.2)
        else
          if (op_ == 168) then
            (isa_row 33 14 6).bind fun r_5 =>
            some (r_5.1, r_5.2)
          else
            if (op_ == 169) then
              (isa_row 33 16 7).bind fun r_6 =>
              some (r_6.1, r_6.2)
            else
              if (decide (op_ < 168)) then
                (isa_row (IntKind.wrap .i64 (46 + (IntKind.wrap .i64 (IntKind.wrap .u8 (op_ - 164))))) 0 0).bind fun r_7 =>
                some (r_7.1, r_7.2)
              else
                (isa_row (IntKind.wrap .i64 (50 + (IntKind.wrap .i64 (IntKind.wrap .u8 (op_ - 170))))) 0 0).bind fun r_8 =>
                some (r_8.1, r_8.2)
/-- hansom/isa.backs -/
noncomputable def isa_backs (op_ : Int) (reg_ : Int) : Option (Row × Bool) :=
  if (op_ == 194) then
    (isa_row 56 7 0).bind fun r_1 =>
    some (r_1.1, r_1.2)
  else
    if (op_ == 195) then
      (isa_row 56 0 0).bind fun r_2 =>
      some (r_2.1, r_2.2)
    else
      if (op_ == 196) then
        (isa_mod 58 4 19).bind fun r_3 =>
        some (r_3.1, r_3.2)
      else
        if (op_ == 197) then
          (isa_mod 59 4 19).bind fun r_4 =>
          some (r_4.1, r_4.2)
        else
          if (op_ == 198) then
            if (reg_ == 0) then
              (isa_mod 35 1 6).bind fun r_5 =>
              some (r_5.1, r_5.2)
            else
              (isa_bad).bind fun r_6 =>
              some (r_6.1, r_6.2)
          else
            if (op_ == 199) then
              if (reg_ == 0) then
                (isa_mod 35 2 7).bind fun r_7 =>
                some (r_7.1, r_7.2)
              else
                (isa_bad).bind fun r_8 =>
                some (r_8.1, r_8.2)
            else
              if (op_ == 202) then
                (isa_row 57 7 0).bind fun r_9 =>
                some (r_9.1, r_9.2)
              else
                if (op_ == 203) then
                  (isa_row 57 0 0).bind fun r_10 =>
                  some (r_10.1, r_10.2)
                else
                  if (op_ == 204) then
                    (isa_row 60 24 0).bind fun r_11 =>
                    some (r_11.1, r_11.2)
                  else
                    if (op_ == 205) then
                      (isa_row 60 6 0).bind fun r_12 =>
                      some (r_12.1, r_12.2)
                    else
                      if (op_ == 206) then
                        (isa_row 61 0 0).bind fun r_13 =>
                        some (r_13.1, r_13.2)
                      else
                        if (op_ == 207) then
                          (isa_row 62 0 0).bind fun r_14 =>
                          some (r_14.1, r_14.2)
                        else
                          (isa_bad).bind fun r_15 =>
                          some (r_15.1, r_15.2)
/-- hansom/isa.turns -/
noncomputable def isa_turns (op_ : Int) (reg_ : Int) : Option (Row × Bool) :=
  if (decide (op_ < 212)) then
    if (reg_ == 6) then
      (isa_bad).bind fun r_1 =>
      some (r_1.1, r_1.2)
    else
      (idx ([63, 64, 65, 66, 67, 68, 0, 69] : List Int) reg_).bind fun z_1 =>
      if ((bitsOp .and .u8 op_ 1) == 1) then
        if ((bitsOp .and .u8 op_ 2) != 0) then
          (isa_mod z_1 2 15).bind fun r_2 =>
          some (r_2.1, r_2.2)
        else
          (isa_mod z_1 2 18).bind fun r_3 =>
          some (r_3.1, r_3.2)
      else
        if ((bitsOp .and .u8 op_ 2) != 0) then
          (isa_mod z_1 1 15).bind fun r_4 =>
          some (r_4.1, r_4.2)
        else
          (isa_mod z_1 1 18).bind fun r_5 =>
          some (r_5.1, r_5.2)
  else
    if (op_ == 212) then
      (isa_row 70 6 0).bind fun r_6 =>
      some (r_6.1, r_6.2)
    else
      if (op_ == 213) then
        (isa_row 71 6 0).bind fun r_7 =>
        some (r_7.1, r_7.2)
      else
        if (op_ == 215) then
          (isa_row 72 0 0).bind fun r_8 =>
          some (r_8.1, r_8.2)
        else
          if (decide (op_ ≥ 216)) then
            (isa_mod 73 2 0).bind fun r_9 =>
            some (r_9.1, r_9.2)
          else
            (isa_bad).bind fun r_10 =>
            some (r_10.1, r_10.2)
noncomputable def isa_goes_j20 (b_2 : Row) (op0 : Int) (t4 : Int) (t5 : Bool) : Option (Row × Bool) :=
  if t5 then
    (isa_row (IntKind.wrap .i64 (74 + (IntKind.wrap .i64 (IntKind.wrap .u8 (op0 - 224))))) 9 0).bind fun r_1 =>
    some (r_1.1, r_1.2)
  else
    if (t4 == 228) then
      (isa_row 78 14 6).bind fun r_2 =>
      some (r_2.1, r_2.2)
    else
      if (t4 == 229) then
        (isa_row 78 16 6).bind fun r_3 =>
        some (r_3.1, r_3.2)
      else
        if (t4 == 230) then
          (isa_row 79 6 14).bind fun r_4 =>
          some (r_4.1, r_4.2)
        else
          if (t4 == 231) then
            (isa_row 79 6 16).bind fun r_5 =>
            some (r_5.1, r_5.2)
          else
            if (t4 == 232) then
              (isa_row 39 10 0).bind fun r_6 =>
              some (r_6.1, r_6.2)
            else
              if (t4 == 233) then
                (isa_row 80 10 0).bind fun r_7 =>
                some (r_7.1, r_7.2)
              else
                if (t4 == 234) then
                  (isa_row 81 11 0).bind fun r_8 =>
                  some (r_8.1, r_8.2)
                else
                  if (t4 == 235) then
                    (isa_row 80 9 0).bind fun r_9 =>
                    some (r_9.1, r_9.2)
                  else
                    if (t4 == 236) then
                      (isa_row 78 14 17).bind fun r_10 =>
                      some (r_10.1, r_10.2)
                    else
                      if (t4 == 237) then
                        (isa_row 78 16 17).bind fun r_11 =>
                        some (r_11.1, r_11.2)
                      else
                        if (t4 == 238) then
                          (isa_row 79 17 14).bind fun r_12 =>
                          some (r_12.1, r_12.2)
                        else
                          (isa_row 79 17 16).bind fun r_13 =>
                          some (r_13.1, r_13.2)
/-- hansom/isa.goes -/
noncomputable def isa_goes (op_ : Int) : Option (Row × Bool) :=
  if (op_ == 224) then
    isa_goes_j20 ({ Name := 0, A := 0, B := 0, Mod := false } : Row) op_ op_ true
  else
    if (op_ == 225) then
      isa_goes_j20 ({ Name := 0, A := 0, B := 0, Mod := false } : Row) op_ op_ true
    else
      if (op_ == 226) then
        isa_goes_j20 ({ Name := 0, A := 0, B := 0, Mod := false } : Row) op_ op_ true
      else
        isa_goes_j20 ({ Name := 0, A := 0, B := 0, Mod := false } : Row) op_ op_ (op_ == 227)
noncomputable def isa_rest_j37 (b_4 : Row) (op0 : Int) (reg1 : Int) (e6 : Int) (i7 : Int) : Option (Row × Bool) :=
  if (decide (op0 < 248)) then
    if (reg1 == 0) then
      (isa_mod 33 e6 i7).bind fun r_5 =>
      some (r_5.1, r_5.2)
    else
      if (reg1 == 1) then
        (isa_bad).bind fun r_6 =>
        some (r_6.1, r_6.2)
      else
        (isa_mod (IntKind.wrap .i64 ((IntKind.wrap .i64 (84 + reg1)) - 2)) e6 0).bind fun r_7 =>
        some (r_7.1, r_7.2)
  else
    if (decide (reg1 < 2)) then
      (isa_mod (IntKind.wrap .i64 (15 + reg1)) e6 0).bind fun r_8 =>
      some (r_8.1, r_8.2)
    else
      if (op0 == 254) then
        (isa_bad).bind fun r_9 =>
        some (r_9.1, r_9.2)
      else
        if (reg1 == 7) then
          (isa_bad).bind fun r_10 =>
          some (r_10.1, r_10.2)
        else
          (idx ([39, 40, 80, 81, 9] : List Int) (IntKind.wrap .i64 (reg1 - 2))).bind fun z_1 =>
          if (reg1 == 3) then
            (isa_mod z_1 19 0).bind fun r_11 =>
            some (r_11.1, r_11.2)
          else
            if (reg1 == 5) then
              (isa_mod z_1 19 0).bind fun r_12 =>
              some (r_12.1, r_12.2)
            else
              (isa_mod z_1 e6 0).bind fun r_13 =>
              some (r_13.1, r_13.2)
noncomputable def isa_rest_j18 (b_4 : Row) (op0 : Int) (reg1 : Int) (t21 : Bool) : Option (Row × Bool) :=
  if t21 then
    (isa_row (IntKind.wrap .i64 (90 + (IntKind.wrap .i64 (IntKind.wrap .u8 (op0 - 248))))) 0 0).bind fun r_3 =>
    some (r_3.1, r_3.2)
  else
    if (decide (op0 < 246)) then
      (isa_bad).bind fun r_4 =>
      some (r_4.1, r_4.2)
    else
      if ((bitsOp .and .u8 op0 1) == 1) then
        isa_rest_j37 b_4 op0 reg1 2 7
      else
        isa_rest_j37 b_4 op0 reg1 1 6
/-- hansom/isa.rest -/
noncomputable def isa_rest (op_ : Int) (reg_ : Int) : Option (Row × Bool) :=
  if (op_ == 244) then
    (isa_row 82 0 0).bind fun r_1 =>
    some (r_1.1, r_1.2)
  else
    if (op_ == 245) then
      (isa_row 83 0 0).bind fun r_2 =>
      some (r_2.1, r_2.2)
    else
      if (decide (op_ ≥ 248)) then
        isa_rest_j18 ({ Name := 0, A := 0, B := 0, Mod := false } : Row) op_ reg_ (decide (op_ < 254))
      else
        isa_rest_j18 ({ Name := 0, A := 0, B := 0, Mod := false } : Row) op_ reg_ false
/-- hansom/isa.Of -/
noncomputable def isa_Of (op_ : Int) (reg_ : Int) : Option (Row × Bool) :=
  if (decide (op_ < 64)) then
    (isa_sums op_).bind fun r_1 =>
    some (r_1.1, r_1.2)
  else
    if (decide (op_ < 96)) then
      (idx ([15, 16, 9, 10] : List Int) (shrI .u8 (IntKind.wrap .u8 (op_ - 64)) 3)).bind fun z_1 =>
      (isa_row z_1 22 0).bind fun r_2 =>
      some (r_2.1, r_2.2)
    else
      if (decide (op_ < 112)) then
        (isa_bad).bind fun r_3 =>
        some (r_3.1, r_3.2)
      else
        if (decide (op_ < 128)) then
          (isa_row (IntKind.wrap .i64 (17 + (IntKind.wrap .i64 (IntKind.wrap .u8 (op_ - 112))))) 9 0).bind fun r_4 =>
          some (r_4.1, r_4.2)
        else
          if (decide (op_ < 144)) then
            (isa_moves op_ (bitsOp .and .i64 reg_ 7)).bind fun r_5 =>
            some (r_5.1, r_5.2)
          else
            if (decide (op_ < 160)) then
              (isa_words op_).bind fun r_6 =>
              some (r_6.1, r_6.2)
            else
              if (decide (op_ < 176)) then
                (isa_texts op_).bind fun r_7 =>
                some (r_7.1, r_7.2)
              else
                if (decide (op_ < 184)) then
                  (isa_row 35 21 6).bind fun r_8 =>
                  some (r_8.1, r_8.2)
                else
                  if (decide (op_ < 192)) then
                    (isa_row 35 22 7).bind fun r_9 =>
                    some (r_9.1, r_9.2)
                  else
                    if (decide (op_ < 208)) then
                      (isa_backs op_ (bitsOp .and .i64 reg_ 7)).bind fun r_10 =>
                      some (r_10.1, r_10.2)
                    else
                      if (decide (op_ < 224)) then
                        (isa_turns op_ (bitsOp .and .i64 reg_ 7)).bind fun r_11 =>
                        some (r_11.1, r_11.2)
                      else
                        if (decide (op_ < 240)) then
                          (isa_goes op_).bind fun r_12 =>
                          some (r_12.1, r_12.2)
                        else
                          (isa_rest op_ (bitsOp .and .i64 reg_ 7)).bind fun r_13 =>
                          some (r_13.1, r_13.2)
/-- hansom/inst.Row -/
noncomputable def inst_Row (i_ : Inst) : Option (Row × Bool) :=
  (isa_Prefix i_.Op).bind fun r_1 =>
  if r_1 then
    some (({ Name := 0, A := 0, B := 0, Mod := false } : Row), false)
  else
    (isa_Of i_.Op i_.Reg).bind fun r_2 =>
    some (r_2.1, r_2.2)
/-- hansom/inst.Disps -/
noncomputable def inst_Disps (mod_ : Int) (rm_ : Int) : Option Int :=
  if (mod_ == 1) then
    some 1
  else
    if (mod_ == 2) then
      some 2
    else
      if (mod_ == 0) then
        if (rm_ == 6) then
          some 2
        else
          some 0
      else
        some 0
/-- hansom/bits.Low -/
noncomputable def bits_Low (w_ : Int) : Option Int :=
  some (IntKind.wrap .u8 w_)
/-- hansom/bits.Sign -/
noncomputable def bits_Sign (b_ : Int) : Option Int :=
  some (IntKind.wrap .u16 (IntKind.wrap .i16 (IntKind.wrap .i8 b_)))
/-- hansom/bits.Fits -/
noncomputable def bits_Fits (w_ : Int) : Option Bool :=
  (bits_Low w_).bind fun r_1 =>
  (bits_Sign r_1).bind fun r_2 =>
  some (r_2 == w_)
noncomputable def inst_second_j26 (i2 : Inst) : Option Bool :=
  (inst_Disps i2.Mod i2.RM).bind fun r_1 =>
  if (r_1 == 0) then
    some (i2.Disp == 0)
  else
    if (r_1 == 1) then
      (bits_Fits i2.Disp).bind fun r_2 =>
      some r_2
    else
      some true
/-- hansom/inst.second -/
noncomputable def inst_second (i_ : Inst) (r_ : Row) : Option Bool :=
  if (!r_.Mod) then
    if (i_.Mod == 0) then
      if (i_.Reg == 0) then
        if (i_.RM == 0) then
          some (i_.Disp == 0)
        else
          some false
      else
        some false
    else
      some false
  else
    if (decide (i_.Mod < 0)) then
      some false
    else
      if (decide (i_.Mod > 3)) then
        some false
      else
        if (decide (i_.Reg < 0)) then
          some false
        else
          if (decide (i_.Reg > 7)) then
            some false
          else
            if (decide (i_.RM < 0)) then
              some false
            else
              if (decide (i_.RM > 7)) then
                some false
              else
                if (i_.Mod == 3) then
                  if (r_.A == 19) then
                    some false
                  else
                    if (r_.B == 19) then
                      some false
                    else
                      if (r_.B == 20) then
                        some false
                      else
                        inst_second_j26 i_
                else
                  inst_second_j26 i_
noncomputable def inst_behind_j32 (i2 : Inst) (r3 : Row) (t11 : (A2 Int)) (t12 : Int) (t15 : Int) (t41 : Bool) : Option (Lp Int (Bool ⊕ Unit)) :=
  if t41 then
    (bits_Fits i2.Imm).bind fun r_1 =>
    if r_1 then
      some (.out (.inl (i2.Sel == 0)))
    else
      some (.out (.inl false))
  else
    if (t15 == 7) then
      some (.out (.inl (i2.Sel == 0)))
    else
      if (t15 == 10) then
        some (.out (.inl (i2.Sel == 0)))
      else
        if (t15 == 12) then
          some (.out (.inl (i2.Sel == 0)))
        else
          if (t15 == 13) then
            some (.out (.inl (i2.Sel == 0)))
          else
            if (t15 == 11) then
              some (.out (.inl true))
            else
              some (.next (IntKind.wrap .i64 (t12 + 1)))
noncomputable def inst_behind_l6 (i2 : Inst) (r3 : Row) (t11 : (A2 Int)) (t12 : Int) : Option (Lp Int (Bool ⊕ Unit)) :=
  if (decide (t12 < 2)) then
    (idx t11.l t12).bind fun z_1 =>
    if (z_1 == 6) then
      if (decide (i2.Imm < 256)) then
        if (i2.Sel == 0) then
          if (r3.Name != 70) then
            if (r3.Name != 71) then
              some (.out (.inl true))
            else
              some (.out (.inl (i2.Imm == 10)))
          else
            some (.out (.inl (i2.Imm == 10)))
        else
          some (.out (.inl false))
      else
        some (.out (.inl false))
    else
      if (z_1 == 8) then
        inst_behind_j32 i2 r3 t11 t12 z_1 true
      else
        inst_behind_j32 i2 r3 t11 t12 z_1 (z_1 == 9)
  else
    some (.out (.inr ()))
/-- hansom/inst.behind -/
noncomputable def inst_behind (i_ : Inst) (r_ : Row) : Option Bool :=
  (loopO (fun x : Int => inst_behind_l6 i_ r_ ({ a0 := r_.A, a1 := r_.B } : (A2 Int)) x) 0).bind fun e_1 =>
  match e_1 with
  | .inl e_2 =>
    some e_2
  | .inr e_3 =>
    if (i_.Imm == 0) then
      some (i_.Sel == 0)
    else
      some false
noncomputable def isa_Repeats_j28 (t3 : Int) (t4 : Bool) : Option Int :=
  if t4 then
    some 1
  else
    if (t3 == 48) then
      some 2
    else
      if (t3 == 49) then
        some 2
      else
        if (t3 == 54) then
          some 2
        else
          if (t3 == 55) then
            some 2
          else
            some 0
/-- hansom/isa.Repeats -/
noncomputable def isa_Repeats (name_ : Int) : Option Int :=
  if (name_ == 46) then
    isa_Repeats_j28 name_ true
  else
    if (name_ == 47) then
      isa_Repeats_j28 name_ true
    else
      if (name_ == 50) then
        isa_Repeats_j28 name_ true
      else
        if (name_ == 51) then
          isa_Repeats_j28 name_ true
        else
          if (name_ == 52) then
            isa_Repeats_j28 name_ true
          else
            isa_Repeats_j28 name_ (name_ == 53)
/-- hansom/inst.prefixes -/
noncomputable def inst_prefixes (i_ : Inst) (r_ : Row) : Option Bool :=
  (isa_Repeats r_.Name).bind fun r_1 =>
  if (i_.Rep == 0) then
    if (decide (i_.Seg ≥ 0)) then
      some (decide (i_.Seg ≤ 4))
    else
      some false
  else
    if (i_.Rep == 1) then
      if (decide (r_1 < 2)) then
        some false
      else
        if (decide (i_.Seg ≥ 0)) then
          some (decide (i_.Seg ≤ 4))
        else
          some false
    else
      if (i_.Rep == 2) then
        if (decide (r_1 < 1)) then
          some false
        else
          if (decide (i_.Seg ≥ 0)) then
            some (decide (i_.Seg ≤ 4))
          else
            some false
      else
        some false
/-- hansom/inst.May -/
noncomputable def inst_May (i_ : Inst) : Option Bool :=
  (inst_Row i_).bind fun r_1 =>
  if r_1.2 then
    (inst_second i_ r_1.1).bind fun r_2 =>
    if r_2 then
      (inst_behind i_ r_1.1).bind fun r_3 =>
      if r_3 then
        (inst_prefixes i_ r_1.1).bind fun r_4 =>
        some r_4
      else
        some false
    else
      some false
  else
    some false
noncomputable def isa_Immediate_j16 (t3 : Int) (t4 : Bool) : Option Int :=
  if t4 then
    some 1
  else
    if (t3 == 7) then
      some 2
    else
      if (t3 == 10) then
        some 2
      else
        if (t3 == 12) then
          some 2
        else
          if (t3 == 13) then
            some 2
          else
            if (t3 == 11) then
              some 4
            else
              some 0
/-- hansom/isa.Immediate -/
noncomputable def isa_Immediate (op_ : Int) : Option Int :=
  if (op_ == 6) then
    isa_Immediate_j16 op_ true
  else
    if (op_ == 8) then
      isa_Immediate_j16 op_ true
    else
      isa_Immediate_j16 op_ (op_ == 9)
/-- hansom/inst.Imms -/
noncomputable def inst_Imms (r_ : Row) : Option Int :=
  (isa_Immediate r_.A).bind fun r_1 =>
  (isa_Immediate r_.B).bind fun r_2 =>
  some (IntKind.wrap .i64 (r_1 + r_2))
noncomputable def inst_Len_j26 (i1 : Inst) (r3 : Row) (n5 : Int) : Option Int :=
  if (decide (i1.Seg > 0)) then
    if r3.Mod then
      (inst_Disps i1.Mod i1.RM).bind fun r_4 =>
      some (IntKind.wrap .i64 ((IntKind.wrap .i64 (n5 + 1)) + (IntKind.wrap .i64 (1 + r_4))))
    else
      some (IntKind.wrap .i64 (n5 + 1))
  else
    if r3.Mod then
      (inst_Disps i1.Mod i1.RM).bind fun r_5 =>
      some (IntKind.wrap .i64 (n5 + (IntKind.wrap .i64 (1 + r_5))))
    else
      some n5
noncomputable def inst_Len_j20 (i1 : Inst) (r3 : Row) (n5 : Int) : Option Int :=
  if (decide (i1.Rep > 0)) then
    inst_Len_j26 i1 r3 (IntKind.wrap .i64 (n5 + 1))
  else
    inst_Len_j26 i1 r3 n5
/-- hansom/inst.Len -/
noncomputable def inst_Len (i_ : Inst) : Option Int :=
  (inst_May i_).bind fun r_1 =>
  if (!r_1) then
    some 0
  else
    (inst_Row i_).bind fun r_2 =>
    (inst_Imms r_2.1).bind fun r_3 =>
    if i_.Lock then
      inst_Len_j20 ({ i_ with Lock := true } : Inst) r_2.1 (IntKind.wrap .i64 ((IntKind.wrap .i64 (1 + r_3)) + 1))
    else
      inst_Len_j20 ({ i_ with Lock := false } : Inst) r_2.1 (IntKind.wrap .i64 (1 + r_3))
/-- hansom/inst.Tail -/
noncomputable def inst_Tail (i_ : Inst) : Option Int :=
  (inst_Row i_).bind fun r_1 =>
  if (!r_1.2) then
    some 0
  else
    (inst_May i_).bind fun r_2 =>
    if (!r_2) then
      some 0
    else
      (inst_Len i_).bind fun r_3 =>
      (inst_Imms r_1.1).bind fun r_4 =>
      some (IntKind.wrap .i64 (r_3 - r_4))
/-- hansom/value.Plain -/
noncomputable def value_Plain (v_ : api_Value) : Option Bool :=
  if (v_.From == 0) then
    some (v_.Wants == 0)
  else
    some false
/-- hansom/emit.By -/
noncomputable def emit_By (from_ : Int) : Option Int :=
  if (from_ == 2) then
    some 1
  else
    if (from_ == 3) then
      some 2
    else
      some 0
/-- hansom/emit.Fix -/
noncomputable def emit_Fix (at_ : Int) (loc_ : Int) (v_ : api_Value) (from_ : Int) (which_ : Int) : Option Fixup :=
  (emit_By v_.From).bind fun r_1 =>
  (emit_By from_).bind fun r_2 =>
  if (from_ == 0) then
    some ({ At := at_, Loc := loc_, Self := false, Frame := 5, FrameN := 0, Target := r_1, N := v_.Which, Disp := (IntKind.wrap .u16 v_.N) } : Fixup)
  else
    some ({ At := at_, Loc := loc_, Self := false, Frame := r_2, FrameN := which_, Target := r_1, N := v_.Which, Disp := (IntKind.wrap .u16 v_.N) } : Fixup)
noncomputable def code_ahead_j10 (i1 : Inst) (out3 : (List Int)) : Option (List Int) :=
  if (decide (i1.Rep > 0)) then
    (grow 1 out3 ([(IntKind.wrap .u8 (IntKind.wrap .i64 (241 + i1.Rep)))] : List Int)).bind fun z_2 =>
    if (decide (i1.Seg > 0)) then
      (idx ([0, 38, 46, 54, 62] : List Int) i1.Seg).bind fun z_3 =>
      (grow 1 z_2 ([z_3] : List Int)).bind fun z_4 =>
      some z_4
    else
      some z_2
  else
    if (decide (i1.Seg > 0)) then
      (idx ([0, 38, 46, 54, 62] : List Int) i1.Seg).bind fun z_5 =>
      (grow 1 out3 ([z_5] : List Int)).bind fun z_6 =>
      some z_6
    else
      some out3
/-- hansom/code.ahead -/
noncomputable def code_ahead (i_ : Inst) : Option (List Int) :=
  if i_.Lock then
    (grow 1 ([] : List Int) ([240] : List Int)).bind fun z_1 =>
    code_ahead_j10 i_ z_1
  else
    code_ahead_j10 i_ ([] : List Int)
/-- hansom/bits.High -/
noncomputable def bits_High (w_ : Int) : Option Int :=
  some (IntKind.wrap .u8 (shrI .u16 w_ 8))
noncomputable def code_Put_j33 (i1 : Inst) (r4 : Row) (b_16 : (List Int)) : Option ((List Int) × Int) :=
  (inst_Imms r4).bind fun r_6 =>
  if (r_6 == 1) then
    (bits_Low i1.Imm).bind fun r_7 =>
    (grow 1 b_16 ([r_7] : List Int)).bind fun z_4 =>
    some (z_4, 0)
  else
    if (r_6 == 2) then
      (bits_Low i1.Imm).bind fun r_8 =>
      (bits_High i1.Imm).bind fun r_9 =>
      (grow 1 b_16 ([r_8, r_9] : List Int)).bind fun z_5 =>
      some (z_5, 0)
    else
      if (r_6 == 4) then
        (bits_Low i1.Imm).bind fun r_10 =>
        (bits_High i1.Imm).bind fun r_11 =>
        (bits_Low i1.Sel).bind fun r_12 =>
        (bits_High i1.Sel).bind fun r_13 =>
        (grow 1 b_16 ([r_10, r_11, r_12, r_13] : List Int)).bind fun z_6 =>
        some (z_6, 0)
      else
        some (b_16, 0)
/-- hansom/code.Put -/
noncomputable def code_Put (i_ : Inst) : Option ((List Int) × Int) :=
  (inst_May i_).bind fun r_1 =>
  if (!r_1) then
    some (([] : List Int), 1)
  else
    (inst_Row i_).bind fun r_2 =>
    (code_ahead i_).bind fun r_3 =>
    (grow 1 r_3 ([i_.Op] : List Int)).bind fun z_1 =>
    if r_2.1.Mod then
      (grow 1 z_1 ([(IntKind.wrap .u8 (bitsOp .or .i64 (bitsOp .or .i64 (shlI .i64 i_.Mod 6) (shlI .i64 i_.Reg 3)) i_.RM))] : List Int)).bind fun z_2 =>
      (inst_Disps i_.Mod i_.RM).bind fun r_4 =>
      if (r_4 == 1) then
        (bits_Low i_.Disp).bind fun r_5 =>
        (grow 1 z_2 ([r_5] : List Int)).bind fun z_3 =>
        code_Put_j33 i_ ({ r_2.1 with Mod := true } : Row) z_3
      else
        if (r_4 == 2) then
          (bits_Low i_.Disp).bind fun r_14 =>
          (bits_High i_.Disp).bind fun r_15 =>
          (grow 1 z_2 ([r_14, r_15] : List Int)).bind fun z_7 =>
          code_Put_j33 i_ ({ r_2.1 with Mod := true } : Row) z_7
        else
          code_Put_j33 i_ ({ r_2.1 with Mod := true } : Row) z_2
    else
      code_Put_j33 i_ ({ r_2.1 with Mod := false } : Row) z_1
/-- hansom/emit.imm -/
noncomputable def emit_imm (c_ : Choice) (r_ : Row) (tail_ : Int) (from_ : Int) (which_ : Int) : Option Fixup :=
  if (c_.Imm.Wants == 2) then
    (emit_Fix tail_ 2 c_.Imm 0 0).bind fun r_1 =>
    some r_1
  else
    if (r_.A == 12) then
      (emit_Fix tail_ 1 c_.Imm from_ which_).bind fun r_2 =>
      some r_2
    else
      if (r_.A == 13) then
        (emit_Fix tail_ 1 c_.Imm from_ which_).bind fun r_3 =>
        some r_3
      else
        if (r_.B == 12) then
          (emit_Fix tail_ 1 c_.Imm from_ which_).bind fun r_4 =>
          some r_4
        else
          if (r_.B == 13) then
            (emit_Fix tail_ 1 c_.Imm from_ which_).bind fun r_5 =>
            some r_5
          else
            (emit_Fix tail_ 1 c_.Imm 0 0).bind fun r_6 =>
            some r_6
noncomputable def emit_Inst_j49 (c5 : Choice) (i13 : Inst) (r16 : Row) (out15 : (List Fixup)) (seg1 : Int) (d20 : Int) : Option ((List Int) × (List Fixup) × Bool) :=
  if (c5.Imm.From == 1) then
    if (c5.Imm.Which != seg1) then
      some (([] : List Int), ([] : List Fixup), false)
    else
      (inst_Imms r16).bind fun r_9 =>
      if (r_9 == 1) then
        if (decide (d20 < (-128))) then
          some (([] : List Int), ([] : List Fixup), false)
        else
          if (decide (d20 > 127)) then
            some (([] : List Int), ([] : List Fixup), false)
          else
            (code_Put ({ i13 with Imm := (IntKind.wrap .u16 d20) } : Inst)).bind fun r_10 =>
            some (r_10.1, out15, (r_10.2 == 0))
      else
        (code_Put ({ i13 with Imm := (IntKind.wrap .u16 d20) } : Inst)).bind fun r_11 =>
        some (r_11.1, out15, (r_11.2 == 0))
  else
    (inst_Imms r16).bind fun r_12 =>
    if (r_12 == 1) then
      if (decide (d20 < (-128))) then
        some (([] : List Int), ([] : List Fixup), false)
      else
        if (decide (d20 > 127)) then
          some (([] : List Int), ([] : List Fixup), false)
        else
          (code_Put ({ i13 with Imm := (IntKind.wrap .u16 d20) } : Inst)).bind fun r_13 =>
          some (r_13.1, out15, (r_13.2 == 0))
    else
      (code_Put ({ i13 with Imm := (IntKind.wrap .u16 d20) } : Inst)).bind fun r_14 =>
      some (r_14.1, out15, (r_14.2 == 0))
noncomputable def emit_Inst_j60 (c5 : Choice) (i13 : Inst) (r16 : Row) (out15 : (List Fixup)) (from3 : Int) (which4 : Int) (tail18 : Int) (t115 : Bool) : Option ((List Int) × (List Fixup) × Bool) :=
  if t115 then
    (emit_Fix tail18 3 c5.Imm 0 0).bind fun r_15 =>
    (grow 64 out15 ([r_15] : List Fixup)).bind fun z_3 =>
    (code_Put i13).bind fun r_16 =>
    some (r_16.1, z_3, (r_16.2 == 0))
  else
    if c5.HasI then
      (value_Plain c5.Imm).bind fun r_17 =>
      if (!r_17) then
        (emit_imm c5 r16 tail18 from3 which4).bind fun r_18 =>
        (grow 64 out15 ([r_18] : List Fixup)).bind fun z_4 =>
        (code_Put ({ i13 with Imm := 0 } : Inst)).bind fun r_19 =>
        some (r_19.1, z_4, (r_19.2 == 0))
      else
        (code_Put i13).bind fun r_20 =>
        some (r_20.1, out15, (r_20.2 == 0))
    else
      (code_Put i13).bind fun r_21 =>
      some (r_21.1, out15, (r_21.2 == 0))
noncomputable def emit_Inst_j24 (c5 : Choice) (i13 : Inst) (r16 : Row) (out15 : (List Fixup)) (seg1 : Int) (off2 : Int) (from3 : Int) (which4 : Int) (n14 : Int) (tail18 : Int) (t53 : Bool) : Option ((List Int) × (List Fixup) × Bool) :=
  if t53 then
    (emit_Fix tail18 1 c5.Imm 0 0).bind fun r_6 =>
    (grow 64 out15 ([({ r_6 with Self := true } : Fixup)] : List Fixup)).bind fun z_2 =>
    (inst_Imms r16).bind fun r_7 =>
    if (r_7 != 2) then
      some (([] : List Int), ([] : List Fixup), false)
    else
      (code_Put i13).bind fun r_8 =>
      some (r_8.1, z_2, (r_8.2 == 0))
  else
    if c5.Jumps then
      if (!c5.Imm.Known) then
        emit_Inst_j49 c5 i13 r16 out15 seg1 0
      else
        emit_Inst_j49 c5 i13 r16 out15 seg1 (IntKind.wrap .i64 ((IntKind.wrap .i64 (c5.Imm.N - off2)) - n14))
    else
      if c5.HasI then
        emit_Inst_j60 c5 i13 r16 out15 from3 which4 tail18 (r16.A == 11)
      else
        emit_Inst_j60 c5 i13 r16 out15 from3 which4 tail18 false
noncomputable def emit_Inst_j20 (c5 : Choice) (i13 : Inst) (r16 : Row) (out15 : (List Fixup)) (seg1 : Int) (off2 : Int) (from3 : Int) (which4 : Int) (n14 : Int) (tail18 : Int) : Option ((List Int) × (List Fixup) × Bool) :=
  if c5.Jumps then
    emit_Inst_j24 c5 i13 r16 out15 seg1 off2 from3 which4 n14 tail18 (c5.Imm.From == 3)
  else
    emit_Inst_j24 c5 i13 r16 out15 seg1 off2 from3 which4 n14 tail18 false
/-- hansom/emit.Inst -/
noncomputable def emit_Inst (c_ : Choice) (seg_ : Int) (off_ : Int) (from_ : Int) (which_ : Int) : Option ((List Int) × (List Fixup) × Bool) :=
  (inst_Len c_.I).bind fun r_1 =>
  (inst_Row c_.I).bind fun r_2 =>
  (inst_Tail c_.I).bind fun r_3 =>
  if c_.HasD then
    (value_Plain c_.Disp).bind fun r_4 =>
    if (!r_4) then
      (emit_Fix (IntKind.wrap .i64 (r_3 - 2)) 1 c_.Disp from_ which_).bind fun r_5 =>
      (grow 64 ([] : List Fixup) ([r_5] : List Fixup)).bind fun z_1 =>
      emit_Inst_j20 c_ ({ c_.I with Disp := 0 } : Inst) r_2.1 z_1 seg_ off_ from_ which_ r_1 r_3
    else
      emit_Inst_j20 c_ c_.I r_2.1 ([] : List Fixup) seg_ off_ from_ which_ r_1 r_3
  else
    emit_Inst_j20 c_ c_.I r_2.1 ([] : List Fixup) seg_ off_ from_ which_ r_1 r_3
/-- hansom/emit.Word -/
noncomputable def emit_Word (v_ : api_Value) : Option ((List Int) × (List Fixup)) :=
  (value_Plain v_).bind fun r_1 =>
  if r_1 then
    (bits_Low (IntKind.wrap .u16 v_.N)).bind fun r_2 =>
    (bits_High (IntKind.wrap .u16 v_.N)).bind fun r_3 =>
    some (([r_2, r_3] : List Int), ([] : List Fixup))
  else
    if (v_.Wants == 2) then
      (mk 1 0 2).bind fun z_1 =>
      (emit_Fix 0 2 v_ 0 0).bind fun r_4 =>
      some (z_1, ([r_4] : List Fixup))
    else
      (mk 1 0 2).bind fun z_2 =>
      (emit_Fix 0 1 v_ 0 0).bind fun r_5 =>
      some (z_2, ([r_5] : List Fixup))
/-- hansom/hansomlaw37.awake -/
noncomputable def hansomlaw37_awake  : Option Bool :=
  (emit_Word ({ N := 4660, From := 0, Which := 0, Type_ := 0, Wants := 0, Known := true } : api_Value)).bind fun r_1 =>
  (emit_Word ({ N := 0, From := 3, Which := 2, Type_ := 0, Wants := 1, Known := false } : api_Value)).bind fun r_2 =>
  if ((b2s r_1.1) == ([52, 18] : List UInt8)) then
    if ((r_1.2.length : Int) == 0) then
      if ((r_2.2.length : Int) == 1) then
        (idx r_2.2 0).bind fun z_1 =>
        if (z_1.Target == 2) then
          (idx r_2.2 0).bind fun z_2 =>
          some (z_2.Frame == 5)
        else
          some false
      else
        some false
    else
      some false
  else
    some false
noncomputable def hansomlaw37_EmitInst_j55 (r8 : Row) (c12 : Choice) (b10 : (List Int)) (tail17 : Int) (off18 : Int) : Option Bool :=
  (emit_Inst ({ I := c12.I, Disp := c12.Disp, Imm := ({ c12.Imm with Which := 2 } : api_Value), HasD := c12.HasD, HasI := c12.HasI, Jumps := c12.Jumps } : Choice) 1 off18 0 0).bind fun r_9 =>
  (emit_Inst ({ I := c12.I, Disp := c12.Disp, Imm := ({ N := 0, From := 3, Which := 3, Type_ := 0, Wants := 0, Known := true } : api_Value), HasD := c12.HasD, HasI := c12.HasI, Jumps := c12.Jumps } : Choice) 1 off18 0 0).bind fun r_10 =>
  (hansomlaw37_awake).bind fun r_11 =>
  if r_11 then
    if (!r_9.2.2) then
      if (r_10.2.2 == (r8.A == 10)) then
        if (!r_10.2.2) then
          some true
        else
          if ((r_10.2.1.length : Int) == 1) then
            (idx r_10.2.1 0).bind fun z_3 =>
            if z_3.Self then
              (idx r_10.2.1 0).bind fun z_4 =>
              if (z_4.At == tail17) then
                (idx r_10.2.1 0).bind fun z_5 =>
                if (z_5.Loc == 1) then
                  (idx r_10.2.1 0).bind fun z_6 =>
                  if (z_6.N == 3) then
                    some ((r_10.1.length : Int) == (b10.length : Int))
                  else
                    some false
                else
                  some false
              else
                some false
            else
              some false
          else
            some false
      else
        some false
    else
      some false
  else
    some false
noncomputable def hansomlaw37_EmitInst_j47 (r8 : Row) (c12 : Choice) (b10 : (List Int)) (imms16 : Int) (tail17 : Int) (off18 : Int) (far19 : Int) (y20 : (List Int)) (g21 : (List Fixup)) (fits22 : Bool) : Option Bool :=
  if (!fits22) then
    some false
  else
    if ((g21.length : Int) != 0) then
      some false
    else
      if ((y20.length : Int) != (b10.length : Int)) then
        some false
      else
        (idx y20 tail17).bind fun z_1 =>
        if (z_1 != (IntKind.wrap .u8 far19)) then
          some false
        else
          if (imms16 == 2) then
            (idx y20 (IntKind.wrap .i64 (tail17 + 1))).bind fun z_2 =>
            if (z_2 != (IntKind.wrap .u8 (shrI .i64 far19 8))) then
              some false
            else
              hansomlaw37_EmitInst_j55 r8 c12 b10 tail17 off18
          else
            hansomlaw37_EmitInst_j55 r8 c12 b10 tail17 off18
noncomputable def hansomlaw37_EmitInst_j93 (n2 : Int) (tail17 : Int) (y32 : (List Int)) (g33 : (List Fixup)) (fits34 : Bool) (loc35 : Int) : Option Bool :=
  (hansomlaw37_awake).bind fun r_16 =>
  if r_16 then
    if fits34 then
      (idx y32 tail17).bind fun z_10 =>
      if (z_10 == 0) then
        (idx y32 (IntKind.wrap .i64 (tail17 + 1))).bind fun z_11 =>
        if (z_11 == 0) then
          if ((g33.length : Int) == 1) then
            (idx g33 0).bind fun z_12 =>
            some (z_12.At == tail17 && (z_12.Loc == loc35 && (z_12.Self == false && (z_12.Frame == 5 && (z_12.FrameN == 0 && (z_12.Target == 0 && (z_12.N == 2 && (z_12.Disp == (IntKind.wrap .u16 n2) && true))))))))
          else
            some false
        else
          some false
      else
        some false
    else
      some false
  else
    some false
noncomputable def hansomlaw37_EmitInst_j78 (d11 : api_Value) (c12 : Choice) (n2 : Int) (tail17 : Int) (off18 : Int) (t316 : Bool) : Option Bool :=
  if t316 then
    (emit_Inst ({ I := c12.I, Disp := c12.Disp, Imm := ({ d11 with Wants := (IntKind.wrap .i64 (1 + (bitsOp .and .i64 (shrI .i64 n2 16) 1))) } : api_Value), HasD := c12.HasD, HasI := true, Jumps := c12.Jumps } : Choice) 1 off18 0 0).bind fun r_15 =>
    if ((IntKind.wrap .i64 (1 + (bitsOp .and .i64 (shrI .i64 n2 16) 1))) == 2) then
      hansomlaw37_EmitInst_j93 n2 tail17 r_15.1 r_15.2.1 r_15.2.2 2
    else
      hansomlaw37_EmitInst_j93 n2 tail17 r_15.1 r_15.2.1 r_15.2.2 1
  else
    (hansomlaw37_awake).bind fun r_17 =>
    some r_17
noncomputable def hansomlaw37_EmitInst_j68 (r8 : Row) (d11 : api_Value) (c12 : Choice) (n2 : Int) (b10 : (List Int)) (tail17 : Int) (off18 : Int) (t252 : Bool) : Option Bool :=
  if t252 then
    (emit_Inst ({ c12 with Disp := d11, HasD := true } : Choice) 1 off18 2 4).bind fun r_13 =>
    (hansomlaw37_awake).bind fun r_14 =>
    if r_14 then
      if r_13.2.2 then
        if ((r_13.1.length : Int) == (b10.length : Int)) then
          (idx r_13.1 (IntKind.wrap .i64 (tail17 - 1))).bind fun z_7 =>
          if (z_7 == 0) then
            (idx r_13.1 (IntKind.wrap .i64 (tail17 - 2))).bind fun z_8 =>
            if (z_8 == 0) then
              if ((r_13.2.1.length : Int) == 1) then
                (idx r_13.2.1 0).bind fun z_9 =>
                some (z_9.At == (IntKind.wrap .i64 (tail17 - 2)) && (z_9.Loc == 1 && (z_9.Self == false && (z_9.Frame == 1 && (z_9.FrameN == 4 && (z_9.Target == 0 && (z_9.N == 2 && (z_9.Disp == (IntKind.wrap .u16 n2) && true))))))))
              else
                some false
            else
              some false
          else
            some false
        else
          some false
      else
        some false
    else
      some false
  else
    if (r8.A == 7) then
      hansomlaw37_EmitInst_j78 d11 c12 n2 tail17 off18 true
    else
      hansomlaw37_EmitInst_j78 d11 c12 n2 tail17 off18 (r8.B == 7)
noncomputable def hansomlaw37_EmitInst_j32 (i7 : Inst) (r8 : Row) (d11 : api_Value) (c12 : Choice) (n2 : Int) (b10 : (List Int)) (imms16 : Int) (tail17 : Int) (off18 : Int) (t86 : Bool) : Option Bool :=
  if t86 then
    (emit_Inst ({ I := c12.I, Disp := c12.Disp, Imm := ({ N := (IntKind.wrap .i64 ((IntKind.wrap .i64 (off18 + (bitsOp .and .i64 n2 1023))) - 512)), From := 1, Which := 1, Type_ := 0, Wants := 0, Known := true } : api_Value), HasD := c12.HasD, HasI := true, Jumps := true } : Choice) 1 off18 0 0).bind fun r_6 =>
    if (r8.A == 9) then
      if (decide ((IntKind.wrap .i64 ((IntKind.wrap .i64 ((IntKind.wrap .i64 ((IntKind.wrap .i64 (off18 + (bitsOp .and .i64 n2 1023))) - 512)) - off18)) - (b10.length : Int))) < (-128))) then
        (hansomlaw37_awake).bind fun r_7 =>
        if r_7 then
          if (!r_6.2.2) then
            some ((r_6.1.length : Int) == 0)
          else
            some false
        else
          some false
      else
        if (decide ((IntKind.wrap .i64 ((IntKind.wrap .i64 ((IntKind.wrap .i64 ((IntKind.wrap .i64 (off18 + (bitsOp .and .i64 n2 1023))) - 512)) - off18)) - (b10.length : Int))) > 127)) then
          (hansomlaw37_awake).bind fun r_8 =>
          if r_8 then
            if (!r_6.2.2) then
              some ((r_6.1.length : Int) == 0)
            else
              some false
          else
            some false
        else
          hansomlaw37_EmitInst_j47 r8 ({ I := c12.I, Disp := c12.Disp, Imm := ({ N := (IntKind.wrap .i64 ((IntKind.wrap .i64 (off18 + (bitsOp .and .i64 n2 1023))) - 512)), From := 1, Which := 1, Type_ := 0, Wants := 0, Known := true } : api_Value), HasD := c12.HasD, HasI := true, Jumps := true } : Choice) b10 imms16 tail17 off18 (IntKind.wrap .i64 ((IntKind.wrap .i64 ((IntKind.wrap .i64 ((IntKind.wrap .i64 (off18 + (bitsOp .and .i64 n2 1023))) - 512)) - off18)) - (b10.length : Int))) r_6.1 r_6.2.1 r_6.2.2
    else
      hansomlaw37_EmitInst_j47 r8 ({ I := c12.I, Disp := c12.Disp, Imm := ({ N := (IntKind.wrap .i64 ((IntKind.wrap .i64 (off18 + (bitsOp .and .i64 n2 1023))) - 512)), From := 1, Which := 1, Type_ := 0, Wants := 0, Known := true } : api_Value), HasD := c12.HasD, HasI := true, Jumps := true } : Choice) b10 imms16 tail17 off18 (IntKind.wrap .i64 ((IntKind.wrap .i64 ((IntKind.wrap .i64 ((IntKind.wrap .i64 (off18 + (bitsOp .and .i64 n2 1023))) - 512)) - off18)) - (b10.length : Int))) r_6.1 r_6.2.1 r_6.2.2
  else
    if r8.Mod then
      (hansomref05_Disps i7.Mod i7.RM).bind fun r_12 =>
      hansomlaw37_EmitInst_j68 r8 d11 c12 n2 b10 tail17 off18 (r_12 == 2)
    else
      hansomlaw37_EmitInst_j68 r8 d11 c12 n2 b10 tail17 off18 false
/-- hansom/hansomlaw37.EmitInst -/
noncomputable def hansomlaw37_EmitInst (x_ : Inst) (at_ : Int) (n_ : Int) : Option Bool :=
  (hansomref05_Near x_).bind fun r_1 =>
  (hansomref05_Row r_1).bind fun r_2 =>
  (hansomref05_Put r_1).bind fun r_3 =>
  (emit_Inst ({ I := r_1, Disp := ({ N := (IntKind.wrap .i64 r_1.Disp), From := 0, Which := 0, Type_ := 0, Wants := 0, Known := true } : api_Value), Imm := ({ N := (IntKind.wrap .i64 r_1.Imm), From := 0, Which := 0, Type_ := 0, Wants := 0, Known := true } : api_Value), HasD := false, HasI := false, Jumps := false } : Choice) 1 0 0 0).bind fun r_4 =>
  if (!r_4.2.2) then
    some false
  else
    if ((b2s r_4.1) != (b2s r_3)) then
      some false
    else
      if ((r_4.2.1.length : Int) != 0) then
        some false
      else
        (hansomref05_Imms r_2.1).bind fun r_5 =>
        if (r_2.1.A == 9) then
          hansomlaw37_EmitInst_j32 r_1 r_2.1 ({ N := (bitsOp .and .i64 n_ 65535), From := 1, Which := 2, Type_ := 0, Wants := 0, Known := true } : api_Value) ({ I := r_1, Disp := ({ N := (IntKind.wrap .i64 r_1.Disp), From := 0, Which := 0, Type_ := 0, Wants := 0, Known := true } : api_Value), Imm := ({ N := (IntKind.wrap .i64 r_1.Imm), From := 0, Which := 0, Type_ := 0, Wants := 0, Known := true } : api_Value), HasD := false, HasI := false, Jumps := false } : Choice) n_ r_3 r_5 (IntKind.wrap .i64 ((r_3.length : Int) - r_5)) (bitsOp .and .i64 at_ 16383) true
        else
          hansomlaw37_EmitInst_j32 r_1 r_2.1 ({ N := (bitsOp .and .i64 n_ 65535), From := 1, Which := 2, Type_ := 0, Wants := 0, Known := true } : api_Value) ({ I := r_1, Disp := ({ N := (IntKind.wrap .i64 r_1.Disp), From := 0, Which := 0, Type_ := 0, Wants := 0, Known := true } : api_Value), Imm := ({ N := (IntKind.wrap .i64 r_1.Imm), From := 0, Which := 0, Type_ := 0, Wants := 0, Known := true } : api_Value), HasD := false, HasI := false, Jumps := false } : Choice) n_ r_3 r_5 (IntKind.wrap .i64 ((r_3.length : Int) - r_5)) (bitsOp .and .i64 at_ 16383) (r_2.1.A == 10)
end Go.Es.Emi
