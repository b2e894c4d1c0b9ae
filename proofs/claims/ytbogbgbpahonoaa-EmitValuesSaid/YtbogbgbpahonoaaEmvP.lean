/- What the functions that the law EmitValues reaches answer, in plain Lean. No condition. -/
import Derived.Test.YtbogbgbpahonoaaEsD
set_option linter.unusedVariables false
set_option linter.unusedSimpArgs false
set_option maxRecDepth 100000
set_option maxHeartbeats 4000000
namespace Go.Es.Emv
structure api_Value where
  N : Int
  From : Int
  Which : Int
  Type_ : Int
  Wants : Int
  Known : Bool
  deriving DecidableEq, Inhabited
def api_Value.cs (x : api_Value) : List D := [.int .i64 x.N, .int .i64 x.From, .int .i64 x.Which, .int .i64 x.Type_, .int .i64 x.Wants, .bool x.Known]
def api_Value.d (x : api_Value) : D := .agg (api_Value.cs x)
structure Fixup where
  At : Int
  Loc : Int
  Self : Bool
  Frame : Int
  FrameN : Int
  Target : Int
  N : Int
  Disp : Int
  deriving DecidableEq, Inhabited
def Fixup.cs (x : Fixup) : List D := [.int .i64 x.At, .int .i64 x.Loc, .bool x.Self, .int .i64 x.Frame, .int .i64 x.FrameN, .int .i64 x.Target, .int .i64 x.N, .int .u16 x.Disp]
def Fixup.d (x : Fixup) : D := .agg (Fixup.cs x)
def api_Value.wf (x : api_Value) : Prop := wfI .i64 x.N ∧ wfI .i64 x.From ∧ wfI .i64 x.Which ∧ wfI .i64 x.Type_ ∧ wfI .i64 x.Wants ∧ (fun _ => True) x.Known
def Fixup.wf (x : Fixup) : Prop := wfI .i64 x.At ∧ wfI .i64 x.Loc ∧ (fun _ => True) x.Self ∧ wfI .i64 x.Frame ∧ wfI .i64 x.FrameN ∧ wfI .i64 x.Target ∧ wfI .i64 x.N ∧ wfI .u16 x.Disp
/-- hansom/value.Plain -/
noncomputable def value_Plain (v_ : api_Value) : Option Bool :=
  if (v_.From == 0) then
    some (v_.Wants == 0)
  else
    some false
/-- hansom/bits.Low -/
noncomputable def bits_Low (w_ : Int) : Option Int :=
  some (IntKind.wrap .u8 w_)
/-- hansom/bits.High -/
noncomputable def bits_High (w_ : Int) : Option Int :=
  some (IntKind.wrap .u8 (shrI .u16 w_ 8))
/-- hansom/emit.By -/
noncomputable def emit_By (from_ : Int) : Option Int :=
  if (from_ == 2) then
    some 1
  else
    if (from_ == 3) then
      some 2
    else
      some 0
/-- hansom/emit.Fix -/
noncomputable def emit_Fix (at_ : Int) (loc_ : Int) (v_ : api_Value) (from_ : Int) (which_ : Int) : Option Fixup :=
  (emit_By v_.From).bind fun r_1 =>
  (emit_By from_).bind fun r_2 =>
  if (from_ == 0) then
    some ({ At := at_, Loc := loc_, Self := false, Frame := 5, FrameN := 0, Target := r_1, N := v_.Which, Disp := (IntKind.wrap .u16 v_.N) } : Fixup)
  else
    some ({ At := at_, Loc := loc_, Self := false, Frame := r_2, FrameN := which_, Target := r_1, N := v_.Which, Disp := (IntKind.wrap .u16 v_.N) } : Fixup)
/-- hansom/emit.Word -/
noncomputable def emit_Word (v_ : api_Value) : Option ((List Int) × (List Fixup)) :=
  (value_Plain v_).bind fun r_1 =>
  if r_1 then
    (bits_Low (IntKind.wrap .u16 v_.N)).bind fun r_2 =>
    (bits_High (IntKind.wrap .u16 v_.N)).bind fun r_3 =>
    some (([r_2, r_3] : List Int), ([] : List Fixup))
  else
    if (v_.Wants == 2) then
      (mk 1 0 2).bind fun z_1 =>
      (emit_Fix 0 2 v_ 0 0).bind fun r_4 =>
      some (z_1, ([r_4] : List Fixup))
    else
      (mk 1 0 2).bind fun z_2 =>
      (emit_Fix 0 1 v_ 0 0).bind fun r_5 =>
      some (z_2, ([r_5] : List Fixup))
/-- hansom/emit.Long -/
noncomputable def emit_Long (v_ : api_Value) : Option ((List Int) × (List Fixup)) :=
  (value_Plain v_).bind fun r_1 =>
  if r_1 then
    some (([(IntKind.wrap .u8 (IntKind.wrap .u32 v_.N)), (IntKind.wrap .u8 (shrI .u32 (IntKind.wrap .u32 v_.N) 8)), (IntKind.wrap .u8 (shrI .u32 (IntKind.wrap .u32 v_.N) 16)), (IntKind.wrap .u8 (shrI .u32 (IntKind.wrap .u32 v_.N) 24))] : List Int), ([] : List Fixup))
  else
    (mk 1 0 4).bind fun z_1 =>
    (emit_Fix 0 3 v_ 0 0).bind fun r_2 =>
    some (z_1, ([r_2] : List Fixup))
/-- hansom/hansomlaw37.awake -/
noncomputable def hansomlaw37_awake  : Option Bool :=
  (emit_Word ({ N := 4660, From := 0, Which := 0, Type_ := 0, Wants := 0, Known := true } : api_Value)).bind fun r_1 =>
  (emit_Word ({ N := 0, From := 3, Which := 2, Type_ := 0, Wants := 1, Known := false } : api_Value)).bind fun r_2 =>
  if ((b2s r_1.1) == ([52, 18] : List UInt8)) then
    if ((r_1.2.length : Int) == 0) then
      if ((r_2.2.length : Int) == 1) then
        (idx r_2.2 0).bind fun z_1 =>
        if (z_1.Target == 2) then
          (idx r_2.2 0).bind fun z_2 =>
          some (z_2.Frame == 5)
        else
          some false
      else
        some false
    else
      some false
  else
    some false
noncomputable def hansomlaw37_EmitValues_j65 (x7 : api_Value) (b9 : (List Int)) (f10 : (List Fixup)) (c11 : (List Int)) (g12 : (List Fixup)) (loc17 : Int) : Option Bool :=
  (hansomlaw37_awake).bind fun r_6 =>
  if r_6 then
    if ((b2s b9) == ([0, 0] : List UInt8)) then
      if ((f10.length : Int) == 1) then
        (idx f10 0).bind fun z_3 =>
        (emit_Fix 0 loc17 x7 0 0).bind fun r_7 =>
        if (z_3.At == r_7.At && (z_3.Loc == r_7.Loc && (z_3.Self == r_7.Self && (z_3.Frame == r_7.Frame && (z_3.FrameN == r_7.FrameN && (z_3.Target == r_7.Target && (z_3.N == r_7.N && (z_3.Disp == r_7.Disp && true)))))))) then
          if ((b2s c11) == ([0, 0, 0, 0] : List UInt8)) then
            if ((g12.length : Int) == 1) then
              (idx g12 0).bind fun z_4 =>
              (emit_Fix 0 3 x7 0 0).bind fun r_8 =>
              some (z_4.At == r_8.At && (z_4.Loc == r_8.Loc && (z_4.Self == r_8.Self && (z_4.Frame == r_8.Frame && (z_4.FrameN == r_8.FrameN && (z_4.Target == r_8.Target && (z_4.N == r_8.N && (z_4.Disp == r_8.Disp && true))))))))
            else
              some false
          else
            some false
        else
          some false
      else
        some false
    else
      some false
  else
    some false
noncomputable def hansomlaw37_EmitValues_j41 (x7 : api_Value) (h14 : Fixup) (n8 : Int) (b9 : (List Int)) (f10 : (List Fixup)) (c11 : (List Int)) (g12 : (List Fixup)) (by13 : (List Int)) (frame15 : Int) (fn16 : Int) : Option Bool :=
  (idx by13 x7.From).bind fun z_1 =>
  if (!(h14.At == 3 && (h14.Loc == 0 && (h14.Self == false && (h14.Frame == frame15 && (h14.FrameN == fn16 && (h14.Target == z_1 && (h14.N == x7.Which && (h14.Disp == (IntKind.wrap .u16 x7.N) && true))))))))) then
    some false
  else
    (emit_By x7.From).bind fun r_4 =>
    (idx by13 x7.From).bind fun z_2 =>
    if (r_4 != z_2) then
      some false
    else
      if (x7.From == 0) then
        (hansomlaw37_awake).bind fun r_5 =>
        if r_5 then
          if ((b2s b9) == (b2s ([(IntKind.wrap .u8 n8), (IntKind.wrap .u8 (shrI .u32 n8 8))] : List Int))) then
            if ((f10.length : Int) == 0) then
              if ((b2s c11) == (b2s ([(IntKind.wrap .u8 n8), (IntKind.wrap .u8 (shrI .u32 n8 8)), (IntKind.wrap .u8 (shrI .u32 n8 16)), (IntKind.wrap .u8 (shrI .u32 n8 24))] : List Int))) then
                some ((g12.length : Int) == 0)
              else
                some false
            else
              some false
          else
            some false
        else
          some false
      else
        if (x7.Wants == 2) then
          hansomlaw37_EmitValues_j65 x7 b9 f10 c11 g12 2
        else
          hansomlaw37_EmitValues_j65 x7 b9 f10 c11 g12 1
noncomputable def hansomlaw37_EmitValues_j12 (x7 : api_Value) (from1 : Int) (which2 : Int) : Option Bool :=
  (emit_Word x7).bind fun r_1 =>
  (emit_Long x7).bind fun r_2 =>
  (emit_Fix 3 0 x7 from1 which2).bind fun r_3 =>
  if (from1 == 0) then
    hansomlaw37_EmitValues_j41 x7 r_3 (IntKind.wrap .u32 x7.N) r_1.1 r_1.2 r_2.1 r_2.2 ([0, 0, 1, 2] : List Int) 5 0
  else
    if (from1 == 2) then
      hansomlaw37_EmitValues_j41 x7 r_3 (IntKind.wrap .u32 x7.N) r_1.1 r_1.2 r_2.1 r_2.2 ([0, 0, 1, 2] : List Int) 1 which2
    else
      if (from1 == 3) then
        hansomlaw37_EmitValues_j41 x7 r_3 (IntKind.wrap .u32 x7.N) r_1.1 r_1.2 r_2.1 r_2.2 ([0, 0, 1, 2] : List Int) 2 which2
      else
        hansomlaw37_EmitValues_j41 x7 r_3 (IntKind.wrap .u32 x7.N) r_1.1 r_1.2 r_2.1 r_2.2 ([0, 0, 1, 2] : List Int) 0 which2
/-- hansom/hansomlaw37.EmitValues -/
noncomputable def hansomlaw37_EmitValues (v_ : api_Value) (from_ : Int) (which_ : Int) : Option Bool :=
  if ((bitsOp .and .i64 v_.From 3) == 0) then
    hansomlaw37_EmitValues_j12 ({ N := v_.N, From := (bitsOp .and .i64 v_.From 3), Which := v_.Which, Type_ := v_.Type_, Wants := 0, Known := v_.Known } : api_Value) from_ which_
  else
    hansomlaw37_EmitValues_j12 ({ N := v_.N, From := (bitsOp .and .i64 v_.From 3), Which := v_.Which, Type_ := v_.Type_, Wants := (Int.tmod (bitsOp .and .i64 v_.Wants 255) 3), Known := v_.Known } : api_Value) from_ which_
end Go.Es.Emv
