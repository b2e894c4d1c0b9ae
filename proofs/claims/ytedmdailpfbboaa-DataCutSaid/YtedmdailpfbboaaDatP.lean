/- What the functions that the law DataBack, DataAny, DataCut reaches answer, in plain Lean. No condition. -/
import Derived.Test.YtedmdailpfbboaaEsD
set_option linter.unusedVariables false
set_option linter.unusedSimpArgs false
set_option maxRecDepth 100000
set_option maxHeartbeats 4000000
namespace Go.Es.Dat
structure Fixup where
  At : Int
  Loc : Int
  Self : Bool
  Frame : Int
  FrameN : Int
  Target : Int
  N : Int
  Disp : Int
  deriving DecidableEq, Inhabited
def Fixup.cs (x : Fixup) : List D := [.int .i64 x.At, .int .i64 x.Loc, .bool x.Self, .int .i64 x.Frame, .int .i64 x.FrameN, .int .i64 x.Target, .int .i64 x.N, .int .u16 x.Disp]
def Fixup.d (x : Fixup) : D := .agg (Fixup.cs x)
structure Data where
  Seg : Int
  Off : Int
  Bytes : (List Int)
  Fixups : (List Fixup)
  deriving DecidableEq, Inhabited
def Data.cs (x : Data) : List D := [.int .i64 x.Seg, .int .u16 x.Off, .sl (List.map (D.int .u8) x.Bytes), .sl (List.map Fixup.d x.Fixups)]
def Data.d (x : Data) : D := .agg (Data.cs x)
structure Record where
  Kind : Int
  Body : (List Int)
  deriving DecidableEq, Inhabited
def Record.cs (x : Record) : List D := [.int .u8 x.Kind, .sl (List.map (D.int .u8) x.Body)]
def Record.d (x : Record) : D := .agg (Record.cs x)
structure Source where
  b : (List Int)
  e : Int
  deriving DecidableEq, Inhabited
def Source.cs (x : Source) : List D := [.sl (List.map (D.int .u8) x.b), .int .i64 x.e]
def Source.d (x : Source) : D := .agg (Source.cs x)
def Fixup.wf (x : Fixup) : Prop := wfI .i64 x.At ∧ wfI .i64 x.Loc ∧ (fun _ => True) x.Self ∧ wfI .i64 x.Frame ∧ wfI .i64 x.FrameN ∧ wfI .i64 x.Target ∧ wfI .i64 x.N ∧ wfI .u16 x.Disp
def Data.wf (x : Data) : Prop := wfI .i64 x.Seg ∧ wfI .u16 x.Off ∧ wfL (wfI .u8) x.Bytes ∧ wfL Fixup.wf x.Fixups
def Record.wf (x : Record) : Prop := wfI .u8 x.Kind ∧ wfL (wfI .u8) x.Body
def Source.wf (x : Source) : Prop := wfL (wfI .u8) x.b ∧ wfI .i64 x.e
/-- hansom/data.May -/
noncomputable def data_May (d_ : Data) : Option Bool :=
  if (decide (d_.Seg ≥ 1)) then
    if (decide (d_.Seg ≤ 32767)) then
      if (decide ((d_.Bytes.length : Int) ≥ 1)) then
        if (decide ((d_.Bytes.length : Int) ≤ 1024)) then
          some (decide ((IntKind.wrap .i64 d_.Off) ≤ (IntKind.wrap .i64 (65536 - (d_.Bytes.length : Int)))))
        else
          some false
      else
        some false
    else
      some false
  else
    some false
/-- hansom/index.Put -/
noncomputable def index_Put (n_ : Int) : Option (List Int) :=
  if (decide (n_ < 0)) then
    some ([0] : List Int)
  else
    if (decide (n_ > 32767)) then
      some ([0] : List Int)
    else
      if (decide (n_ < 128)) then
        some ([(IntKind.wrap .u8 n_)] : List Int)
      else
        some ([(bitsOp .or .u8 (IntKind.wrap .u8 (shrI .i64 n_ 8)) 128), (IntKind.wrap .u8 n_)] : List Int)
/-- hansom/bits.Low -/
noncomputable def bits_Low (w_ : Int) : Option Int :=
  some (IntKind.wrap .u8 w_)
/-- hansom/bits.High -/
noncomputable def bits_High (w_ : Int) : Option Int :=
  some (IntKind.wrap .u8 (shrI .u16 w_ 8))
/-- hansom/index.Two -/
noncomputable def index_Two (w_ : Int) : Option (List Int) :=
  (bits_Low w_).bind fun r_1 =>
  (bits_High w_).bind fun r_2 =>
  some ([r_1, r_2] : List Int)
/-- hansom/data.Put -/
noncomputable def data_Put (d_ : Data) : Option (Record × Bool) :=
  (data_May d_).bind fun r_1 =>
  if (!r_1) then
    some (({ Kind := 0, Body := ([] : List Int) } : Record), false)
  else
    (index_Put d_.Seg).bind fun r_2 =>
    (index_Two d_.Off).bind fun r_3 =>
    (grow 1 r_2 r_3).bind fun z_1 =>
    (grow 1 z_1 d_.Bytes).bind fun z_2 =>
    some (({ Kind := 160, Body := z_2 } : Record), true)
/-- hansom/index.From -/
noncomputable def index_From (b_ : (List Int)) : Option Source :=
  (grow 1 [] b_).bind fun z_1 =>
  some ({ b := z_1, e := 0 } : Source)
/-- (*hansom/index.Source).Wrong -/
noncomputable def index_Source_Wrong (s_ : Source) (e_ : Int) : Option Source :=
  if (s_.e == 0) then
    if (e_ != 0) then
      some ({ b := ([] : List Int), e := e_ } : Source)
    else
      some s_
  else
    some s_
/-- (*hansom/index.Source).Take -/
noncomputable def index_Source_Take (s_ : Source) (n_ : Int) : Option ((List Int) × Source) :=
  if (decide (n_ < 0)) then
    (index_Source_Wrong s_ 2).bind fun r_1 =>
    some (([] : List Int), r_1)
  else
    if (decide (n_ > (s_.b.length : Int))) then
      (index_Source_Wrong s_ 2).bind fun r_2 =>
      some (([] : List Int), r_2)
    else
      (cut3 s_.b 0 n_ n_).bind fun z_1 =>
      (cutL s_.b n_ (s_.b.length : Int)).bind fun z_2 =>
      some (z_1, ({ b := z_2, e := s_.e } : Source))
/-- (*hansom/index.Source).Byte -/
noncomputable def index_Source_Byte (s_ : Source) : Option (Int × Source) :=
  (index_Source_Take s_ 1).bind fun r_1 =>
  if ((r_1.1.length : Int) == 1) then
    (idx r_1.1 0).bind fun z_1 =>
    some (z_1, r_1.2)
  else
    some (0, r_1.2)
/-- (*hansom/index.Source).Err -/
noncomputable def index_Source_Err (s_ : Source) : Option Int :=
  some s_.e
/-- (*hansom/index.Source).Index -/
noncomputable def index_Source_Index (s_ : Source) : Option (Int × Source) :=
  (index_Source_Byte s_).bind fun r_1 =>
  if (decide ((IntKind.wrap .i64 r_1.1) < 128)) then
    some ((IntKind.wrap .i64 r_1.1), r_1.2)
  else
    (index_Source_Byte r_1.2).bind fun r_2 =>
    (index_Source_Err r_2.2).bind fun r_3 =>
    if (r_3 != 0) then
      some (0, r_2.2)
    else
      some ((bitsOp .or .i64 (shlI .i64 (bitsOp .and .i64 (IntKind.wrap .i64 r_1.1) 127) 8) (IntKind.wrap .i64 r_2.1)), r_2.2)
/-- hansom/bits.Word -/
noncomputable def bits_Word (low_ : Int) (high_ : Int) : Option Int :=
  some (bitsOp .or .u16 (IntKind.wrap .u16 low_) (shlI .u16 (IntKind.wrap .u16 high_) 8))
/-- (*hansom/index.Source).Word -/
noncomputable def index_Source_Word (s_ : Source) : Option (Int × Source) :=
  (index_Source_Take s_ 2).bind fun r_1 =>
  if ((r_1.1.length : Int) == 2) then
    (idx r_1.1 0).bind fun z_1 =>
    (idx r_1.1 1).bind fun z_2 =>
    (bits_Word z_1 z_2).bind fun r_2 =>
    some (r_2, r_1.2)
  else
    some (0, r_1.2)
/-- (*hansom/index.Source).Left -/
noncomputable def index_Source_Left (s_ : Source) : Option Int :=
  some (s_.b.length : Int)
/-- slices.Clone[[]byte,byte] -/
noncomputable def slices_Clone_Lbyte (s_ : List Int) : Option (List Int) := grow 1 [] s_
/-- (*hansom/index.Source).End -/
noncomputable def index_Source_End (s_ : Source) : Option (Int × Source) :=
  (index_Source_Left s_).bind fun r_1 =>
  if (decide (r_1 > 0)) then
    (index_Source_Wrong s_ 3).bind fun r_2 =>
    (index_Source_Err r_2).bind fun r_3 =>
    some (r_3, r_2)
  else
    (index_Source_Err s_).bind fun r_4 =>
    some (r_4, s_)
/-- hansom/data.Get -/
noncomputable def data_Get (b_ : (List Int)) : Option (Data × Int) :=
  (index_From b_).bind fun r_1 =>
  (index_Source_Index r_1).bind fun r_2 =>
  (index_Source_Word r_2.2).bind fun r_3 =>
  (index_Source_Left r_3.2).bind fun r_4 =>
  (index_Source_Take r_3.2 r_4).bind fun r_5 =>
  (slices_Clone_Lbyte r_5.1).bind fun r_6 =>
  (index_Source_Err r_5.2).bind fun r_7 =>
  if (r_7 == 0) then
    (data_May ({ Seg := r_2.1, Off := r_3.1, Bytes := r_6, Fixups := ([] : List Fixup) } : Data)).bind fun r_8 =>
    if (!r_8) then
      (index_Source_Wrong r_5.2 3).bind fun r_9 =>
      (index_Source_End r_9).bind fun r_10 =>
      if (r_10.1 != 0) then
        some (({ Seg := 0, Off := 0, Bytes := ([] : List Int), Fixups := ([] : List Fixup) } : Data), r_10.1)
      else
        some (({ Seg := r_2.1, Off := r_3.1, Bytes := r_6, Fixups := ([] : List Fixup) } : Data), 0)
    else
      (index_Source_End r_5.2).bind fun r_11 =>
      if (r_11.1 != 0) then
        some (({ Seg := 0, Off := 0, Bytes := ([] : List Int), Fixups := ([] : List Fixup) } : Data), r_11.1)
      else
        some (({ Seg := r_2.1, Off := r_3.1, Bytes := r_6, Fixups := ([] : List Fixup) } : Data), 0)
  else
    (index_Source_End r_5.2).bind fun r_12 =>
    if (r_12.1 != 0) then
      some (({ Seg := 0, Off := 0, Bytes := ([] : List Int), Fixups := ([] : List Fixup) } : Data), r_12.1)
    else
      some (({ Seg := r_2.1, Off := r_3.1, Bytes := r_6, Fixups := ([] : List Fixup) } : Data), 0)
/-- hansom/hansomlaw23.awake -/
noncomputable def hansomlaw23_awake  : Option Bool :=
  (data_Put ({ Seg := 1, Off := 5, Bytes := ([7] : List Int), Fixups := ([] : List Fixup) } : Data)).bind fun r_1 =>
  (data_Get r_1.1.Body).bind fun r_2 =>
  if r_1.2 then
    if (r_2.2 == 0) then
      if (r_2.1.Off == 5) then
        if ((r_2.1.Bytes.length : Int) == 1) then
          (data_May ({ Seg := 1, Off := 0, Bytes := ([] : List Int), Fixups := ([] : List Fixup) } : Data)).bind fun r_3 =>
          some (!r_3)
        else
          some false
      else
        some false
    else
      some false
  else
    some false
noncomputable def hansomref18_Index_j8 (n0 : Int) : Option (List UInt8) :=
  if (decide (n0 < 128)) then
    some (b2s ([(IntKind.wrap .u8 n0)] : List Int))
  else
    some (b2s ([(IntKind.wrap .u8 (IntKind.wrap .i64 ((IntKind.wrap .i64 (Int.tdiv n0 256)) + 128))), (IntKind.wrap .u8 (Int.tmod n0 256))] : List Int))
/-- hansom/hansomref18.Index -/
noncomputable def hansomref18_Index (n_ : Int) : Option (List UInt8) :=
  if (decide (n_ < 0)) then
    hansomref18_Index_j8 0
  else
    if (decide (n_ > 32767)) then
      hansomref18_Index_j8 0
    else
      hansomref18_Index_j8 n_
noncomputable def hansomref18_Bytes_l8 (n0 : Int) (many1 : Int) (s5 : (List UInt8)) (i6 : Int) : Option (Lp (Int × (List UInt8) × Int) (List UInt8)) :=
  if (decide (i6 < many1)) then
    (catS s5 (b2s ([(IntKind.wrap .u8 (Int.tmod n0 256))] : List Int))).bind fun z_1 =>
    some (.next ((IntKind.wrap .u64 (Int.tdiv n0 256)), z_1, (IntKind.wrap .i64 (i6 + 1))))
  else
    some (.out s5)
/-- hansom/hansomref18.Bytes -/
noncomputable def hansomref18_Bytes (n_ : Int) (many_ : Int) : Option (List UInt8) :=
  (loopO (fun x : (Int × (List UInt8) × Int) => hansomref18_Bytes_l8 x.1 many_ x.2.1 x.2.2) (n_, ([] : List UInt8), 0)).bind fun e_1 =>
  some e_1
noncomputable def hansomlaw23_DataBack_j21 (x5_0 : Int) (x5_1 : Int) (x5_2 : (List Int)) (may7 : Bool) : Option Bool :=
  (data_Put ({ Seg := x5_0, Off := x5_1, Bytes := x5_2, Fixups := ([] : List Fixup) } : Data)).bind fun r_1 =>
  (hansomlaw23_awake).bind fun r_2 =>
  if (!r_2) then
    some false
  else
    (data_May ({ Seg := x5_0, Off := x5_1, Bytes := x5_2, Fixups := ([] : List Fixup) } : Data)).bind fun r_3 =>
    if (r_3 != may7) then
      some false
    else
      if (r_1.2 != may7) then
        some false
      else
        if (!may7) then
          some ((r_1.1.Body.length : Int) == 0)
        else
          (data_Get r_1.1.Body).bind fun r_4 =>
          (hansomref18_Index x5_0).bind fun r_5 =>
          (hansomref18_Bytes (IntKind.wrap .u64 x5_1) 2).bind fun r_6 =>
          (catS r_5 r_6).bind fun z_2 =>
          (catS z_2 (b2s x5_2)).bind fun z_3 =>
          if ((b2s r_1.1.Body) == z_3) then
            if (r_1.1.Kind == 160) then
              if (r_4.2 == 0) then
                if (r_4.1.Seg == x5_0) then
                  if (r_4.1.Off == x5_1) then
                    if ((b2s r_4.1.Bytes) == (b2s x5_2)) then
                      some ((r_4.1.Fixups.length : Int) == 0)
                    else
                      some false
                  else
                    some false
                else
                  some false
              else
                some false
            else
              some false
          else
            some false
noncomputable def hansomlaw23_DataBack_j17 (x5_0 : Int) (x5_1 : Int) (x5_2 : (List Int)) : Option Bool :=
  if (decide (x5_0 ≥ 1)) then
    if (decide (x5_0 ≤ 32767)) then
      if (decide ((x5_2.length : Int) ≥ 1)) then
        if (decide ((x5_2.length : Int) ≤ 1024)) then
          hansomlaw23_DataBack_j21 x5_0 x5_1 x5_2 (decide ((IntKind.wrap .i64 ((IntKind.wrap .i64 x5_1) + (x5_2.length : Int))) ≤ 65536))
        else
          hansomlaw23_DataBack_j21 x5_0 x5_1 x5_2 false
      else
        hansomlaw23_DataBack_j21 x5_0 x5_1 x5_2 false
    else
      hansomlaw23_DataBack_j21 x5_0 x5_1 x5_2 false
  else
    hansomlaw23_DataBack_j21 x5_0 x5_1 x5_2 false
/-- hansom/hansomlaw23.DataBack -/
noncomputable def hansomlaw23_DataBack (d_ : Data) (odd_ : Int) : Option Bool :=
  (cutL d_.Bytes 0 (mnI (d_.Bytes.length : Int) 60)).bind fun z_1 =>
  if ((bitsOp .and .i64 odd_ 7) == 0) then
    hansomlaw23_DataBack_j17 d_.Seg d_.Off z_1
  else
    if ((bitsOp .and .i64 odd_ 7) == 1) then
      (mk 1 0 (IntKind.wrap .i64 (1020 + (bitsOp .and .i64 (shrI .i64 odd_ 3) 7)))).bind fun z_4 =>
      hansomlaw23_DataBack_j17 (bitsOp .or .i64 (bitsOp .and .i64 d_.Seg 32767) 1) d_.Off z_4
    else
      hansomlaw23_DataBack_j17 (bitsOp .or .i64 (bitsOp .and .i64 d_.Seg 32767) 1) d_.Off z_1
/-- hansom/hansomlaw23.DataAny -/
noncomputable def hansomlaw23_DataAny (b_ : (List Int)) : Option Bool :=
  (cutL b_ 0 (mnI (b_.length : Int) 40)).bind fun z_1 =>
  (data_Get z_1).bind fun r_1 =>
  if (r_1.2 != 0) then
    (hansomlaw23_awake).bind fun r_2 =>
    if r_2 then
      if ((r_1.1.Bytes.length : Int) == 0) then
        if (r_1.2 == 2) then
          some true
        else
          some (r_1.2 == 3)
      else
        some false
    else
      some false
  else
    (hansomlaw23_awake).bind fun r_3 =>
    if r_3 then
      (data_May r_1.1).bind fun r_4 =>
      if r_4 then
        some (decide ((r_1.1.Bytes.length : Int) ≤ (IntKind.wrap .i64 ((z_1.length : Int) - 3))))
      else
        some false
    else
      some false
noncomputable def data_Cut_l6 (out7 : (List Data)) (seg0 : Int) (off1 : Int) (b2 : (List Int)) : Option (Lp ((List Data) × Int × (List Int)) (List Data)) :=
  if (decide ((b2.length : Int) > 0)) then
    (cutL b2 0 (mnI (b2.length : Int) 1024)).bind fun z_1 =>
    (slices_Clone_Lbyte z_1).bind fun r_1 =>
    (grow 64 out7 ([({ Seg := seg0, Off := off1, Bytes := r_1, Fixups := ([] : List Fixup) } : Data)] : List Data)).bind fun z_2 =>
    (cutL b2 (mnI (b2.length : Int) 1024) (b2.length : Int)).bind fun z_3 =>
    some (.next (z_2, (IntKind.wrap .u16 (off1 + (IntKind.wrap .u16 (mnI (b2.length : Int) 1024)))), z_3))
  else
    some (.out out7)
/-- hansom/data.Cut -/
noncomputable def data_Cut (seg_ : Int) (off_ : Int) (b_ : (List Int)) : Option (List Data) :=
  (loopO (fun x : ((List Data) × Int × (List Int)) => data_Cut_l6 x.1 seg_ x.2.1 x.2.2) (([] : List Data), off_, b_)).bind fun e_1 =>
  some e_1
noncomputable def hansomlaw23_DataCut_l10 (b_18 : (List Int)) (off1 : Int) (b2 : (List Int)) (s7 : Int) (i9 : Int) : Option (Lp ((List Int) × Int) (List Int)) :=
  if (decide (i9 < 3000)) then
    if (decide (i9 < (b2.length : Int))) then
      (idx b2 i9).bind fun z_1 =>
      (grow 1 b_18 ([z_1] : List Int)).bind fun z_2 =>
      some (.next (z_2, (IntKind.wrap .i64 (i9 + 1))))
    else
      (grow 1 b_18 ([(IntKind.wrap .u8 i9)] : List Int)).bind fun z_3 =>
      some (.next (z_3, (IntKind.wrap .i64 (i9 + 1))))
  else
    some (.out b_18)
noncomputable def hansomlaw23_DataCut_l39 (off1 : Int) (s7 : Int) (x8 : (List Int)) (at11 : Int) (l12 : (List Data)) (i13 : Int) : Option (Lp (Int × Int) (Bool ⊕ Int)) :=
  if (decide (i13 < (l12.length : Int))) then
    (idx l12 i13).bind fun z_2 =>
    (idx l12 i13).bind fun z_3 =>
    (data_May z_3).bind fun r_2 =>
    if (!r_2) then
      some (.out (.inl false))
    else
      (idx l12 i13).bind fun z_4 =>
      if (z_4.Seg != s7) then
        some (.out (.inl false))
      else
        (idx l12 i13).bind fun z_5 =>
        if ((IntKind.wrap .i64 z_5.Off) != (IntKind.wrap .i64 ((IntKind.wrap .i64 (bitsOp .and .u16 off1 4095)) + at11))) then
          some (.out (.inl false))
        else
          if (decide ((IntKind.wrap .i64 (at11 + (z_2.Bytes.length : Int))) > (x8.length : Int))) then
            some (.out (.inl false))
          else
            (idx l12 i13).bind fun z_6 =>
            (cutL x8 at11 (IntKind.wrap .i64 (at11 + (z_2.Bytes.length : Int)))).bind fun z_7 =>
            if ((b2s z_6.Bytes) != (b2s z_7)) then
              some (.out (.inl false))
            else
              if (decide (i13 < (IntKind.wrap .i64 ((l12.length : Int) - 1)))) then
                if ((z_2.Bytes.length : Int) != 1024) then
                  some (.out (.inl false))
                else
                  some (.next ((IntKind.wrap .i64 (at11 + (z_2.Bytes.length : Int))), (IntKind.wrap .i64 (i13 + 1))))
              else
                some (.next ((IntKind.wrap .i64 (at11 + (z_2.Bytes.length : Int))), (IntKind.wrap .i64 (i13 + 1))))
  else
    some (.out (.inr at11))
/-- hansom/hansomlaw23.DataCut -/
noncomputable def hansomlaw23_DataCut (seg_ : Int) (off_ : Int) (b_ : (List Int)) : Option Bool :=
  (loopO (fun x : ((List Int) × Int) => hansomlaw23_DataCut_l10 x.1 off_ b_ (IntKind.wrap .i64 ((bitsOp .and .i64 seg_ 63) + 1)) x.2) (([] : List Int), 0)).bind fun e_1 =>
  (cutL e_1 0 (Int.tmod (IntKind.wrap .i64 off_) 3001)).bind fun z_1 =>
  (data_Cut (IntKind.wrap .i64 ((bitsOp .and .i64 seg_ 63) + 1)) (bitsOp .and .u16 off_ 4095) z_1).bind fun r_1 =>
  (loopO (fun x : (Int × Int) => hansomlaw23_DataCut_l39 off_ (IntKind.wrap .i64 ((bitsOp .and .i64 seg_ 63) + 1)) z_1 x.1 r_1 x.2) (0, 0)).bind fun e_2 =>
  match e_2 with
  | .inl e_3 =>
    some e_3
  | .inr e_4 =>
    (hansomlaw23_awake).bind fun r_2 =>
    if r_2 then
      some (e_4 == (z_1.length : Int))
    else
      some false
end Go.Es.Dat
