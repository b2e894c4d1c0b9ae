/- What the functions that the law SegsDef, SegsAny, SegsGroup reaches answer, in plain Lean. No condition. -/
import Derived.Test.YtedmdailpfbboaaEsD
set_option linter.unusedVariables false
set_option linter.unusedSimpArgs false
set_option maxRecDepth 100000
set_option maxHeartbeats 4000000
namespace Go.Es.Seg
structure SegDef where
  Align : Int
  Combine : Int
  Frame : Int
  Offset : Int
  Len : Int
  Name : Int
  Class : Int
  Overlay : Int
  deriving DecidableEq, Inhabited
def SegDef.cs (x : SegDef) : List D := [.int .i64 x.Align, .int .i64 x.Combine, .int .u16 x.Frame, .int .u8 x.Offset, .int .i64 x.Len, .int .i64 x.Name, .int .i64 x.Class, .int .i64 x.Overlay]
def SegDef.d (x : SegDef) : D := .agg (SegDef.cs x)
structure Record where
  Kind : Int
  Body : (List Int)
  deriving DecidableEq, Inhabited
def Record.cs (x : Record) : List D := [.int .u8 x.Kind, .sl (List.map (D.int .u8) x.Body)]
def Record.d (x : Record) : D := .agg (Record.cs x)
structure Source where
  b : (List Int)
  e : Int
  deriving DecidableEq, Inhabited
def Source.cs (x : Source) : List D := [.sl (List.map (D.int .u8) x.b), .int .i64 x.e]
def Source.d (x : Source) : D := .agg (Source.cs x)
structure GrpDef where
  Name : Int
  Segs : (List Int)
  deriving DecidableEq, Inhabited
def GrpDef.cs (x : GrpDef) : List D := [.int .i64 x.Name, .sl (List.map (D.int .i64) x.Segs)]
def GrpDef.d (x : GrpDef) : D := .agg (GrpDef.cs x)
def SegDef.wf (x : SegDef) : Prop := wfI .i64 x.Align ∧ wfI .i64 x.Combine ∧ wfI .u16 x.Frame ∧ wfI .u8 x.Offset ∧ wfI .i64 x.Len ∧ wfI .i64 x.Name ∧ wfI .i64 x.Class ∧ wfI .i64 x.Overlay
def Record.wf (x : Record) : Prop := wfI .u8 x.Kind ∧ wfL (wfI .u8) x.Body
def Source.wf (x : Source) : Prop := wfL (wfI .u8) x.b ∧ wfI .i64 x.e
def GrpDef.wf (x : GrpDef) : Prop := wfI .i64 x.Name ∧ wfL (wfI .i64) x.Segs
noncomputable def hansomlaw21_near_j10 (s2 : SegDef) (b_4 : SegDef) (x5 : SegDef) (odd1 : Int) : Option SegDef :=
  if ((bitsOp .and .i64 odd1 15) == 0) then
    some ({ Align := s2.Align, Combine := x5.Combine, Frame := x5.Frame, Offset := x5.Offset, Len := x5.Len, Name := x5.Name, Class := x5.Class, Overlay := x5.Overlay } : SegDef)
  else
    if ((bitsOp .and .i64 odd1 15) == 1) then
      some ({ Align := x5.Align, Combine := s2.Combine, Frame := x5.Frame, Offset := x5.Offset, Len := x5.Len, Name := x5.Name, Class := x5.Class, Overlay := x5.Overlay } : SegDef)
    else
      if ((bitsOp .and .i64 odd1 15) == 2) then
        some ({ Align := x5.Align, Combine := x5.Combine, Frame := x5.Frame, Offset := x5.Offset, Len := s2.Len, Name := x5.Name, Class := x5.Class, Overlay := x5.Overlay } : SegDef)
      else
        if ((bitsOp .and .i64 odd1 15) == 3) then
          some ({ Align := x5.Align, Combine := x5.Combine, Frame := x5.Frame, Offset := x5.Offset, Len := x5.Len, Name := s2.Name, Class := x5.Class, Overlay := x5.Overlay } : SegDef)
        else
          if ((bitsOp .and .i64 odd1 15) == 4) then
            some ({ Align := x5.Align, Combine := x5.Combine, Frame := s2.Frame, Offset := s2.Offset, Len := x5.Len, Name := x5.Name, Class := x5.Class, Overlay := x5.Overlay } : SegDef)
          else
            if ((bitsOp .and .i64 odd1 15) == 5) then
              some ({ Align := x5.Align, Combine := x5.Combine, Frame := x5.Frame, Offset := x5.Offset, Len := 65536, Name := x5.Name, Class := x5.Class, Overlay := x5.Overlay } : SegDef)
            else
              some x5
/-- hansom/hansomlaw21.near -/
noncomputable def hansomlaw21_near (s_ : SegDef) (odd_ : Int) : Option SegDef :=
  (idx ([0, 2, 5, 6] : List Int) (bitsOp .and .i64 s_.Combine 3)).bind fun z_1 =>
  if ((Int.tmod (bitsOp .and .i64 s_.Align 255) 5) == 0) then
    hansomlaw21_near_j10 s_ ({ Align := 0, Combine := 0, Frame := 0, Offset := 0, Len := 0, Name := 0, Class := 0, Overlay := 0 } : SegDef) ({ Align := (Int.tmod (bitsOp .and .i64 s_.Align 255) 5), Combine := z_1, Frame := s_.Frame, Offset := s_.Offset, Len := (Int.tmod (bitsOp .and .i64 s_.Len 131071) 65537), Name := (bitsOp .and .i64 s_.Name 32767), Class := (bitsOp .and .i64 s_.Class 255), Overlay := (bitsOp .and .i64 s_.Overlay 255) } : SegDef) odd_
  else
    hansomlaw21_near_j10 s_ ({ Align := 0, Combine := 0, Frame := 0, Offset := 0, Len := 0, Name := 0, Class := 0, Overlay := 0 } : SegDef) ({ Align := (Int.tmod (bitsOp .and .i64 s_.Align 255) 5), Combine := z_1, Frame := 0, Offset := 0, Len := (Int.tmod (bitsOp .and .i64 s_.Len 131071) 65537), Name := (bitsOp .and .i64 s_.Name 32767), Class := (bitsOp .and .i64 s_.Class 255), Overlay := (bitsOp .and .i64 s_.Overlay 255) } : SegDef) odd_
noncomputable def segs_May_l30 (t60 : (A3 Int)) (t61 : Int) : Option (Lp Int (Bool ⊕ Unit)) :=
  if (decide (t61 < 3)) then
    (idx t60.l t61).bind fun z_1 =>
    if (decide (z_1 < 0)) then
      some (.out (.inl false))
    else
      if (decide (z_1 > 32767)) then
        some (.out (.inl false))
      else
        some (.next (IntKind.wrap .i64 (t61 + 1)))
  else
    some (.out (.inr ()))
noncomputable def segs_May_j26 (s1 : SegDef) : Option Bool :=
  (loopO (fun x : Int => segs_May_l30 ({ a0 := s1.Name, a1 := s1.Class, a2 := s1.Overlay } : (A3 Int)) x) 0).bind fun e_1 =>
  match e_1 with
  | .inl e_2 =>
    some e_2
  | .inr e_3 =>
    some true
noncomputable def segs_May_j18 (s1 : SegDef) : Option Bool :=
  if (s1.Align != 0) then
    if (s1.Frame != 0) then
      some false
    else
      if (s1.Offset != 0) then
        some false
      else
        segs_May_j26 s1
  else
    segs_May_j26 s1
/-- hansom/segs.May -/
noncomputable def segs_May (s_ : SegDef) : Option Bool :=
  if (decide (s_.Align < 0)) then
    some false
  else
    if (decide (s_.Align > 4)) then
      some false
    else
      if (decide (s_.Len < 0)) then
        some false
      else
        if (decide (s_.Len > 65536)) then
          some false
        else
          if (s_.Combine != 0) then
            if (s_.Combine != 2) then
              if (s_.Combine != 5) then
                if (s_.Combine != 6) then
                  some false
                else
                  segs_May_j18 s_
              else
                segs_May_j18 s_
            else
              segs_May_j18 s_
          else
            segs_May_j18 s_
/-- hansom/bits.Low -/
noncomputable def bits_Low (w_ : Int) : Option Int :=
  some (IntKind.wrap .u8 w_)
/-- hansom/bits.High -/
noncomputable def bits_High (w_ : Int) : Option Int :=
  some (IntKind.wrap .u8 (shrI .u16 w_ 8))
/-- hansom/index.Two -/
noncomputable def index_Two (w_ : Int) : Option (List Int) :=
  (bits_Low w_).bind fun r_1 =>
  (bits_High w_).bind fun r_2 =>
  some ([r_1, r_2] : List Int)
/-- hansom/index.Put -/
noncomputable def index_Put (n_ : Int) : Option (List Int) :=
  if (decide (n_ < 0)) then
    some ([0] : List Int)
  else
    if (decide (n_ > 32767)) then
      some ([0] : List Int)
    else
      if (decide (n_ < 128)) then
        some ([(IntKind.wrap .u8 n_)] : List Int)
      else
        some ([(bitsOp .or .u8 (IntKind.wrap .u8 (shrI .i64 n_ 8)) 128), (IntKind.wrap .u8 n_)] : List Int)
noncomputable def segs_Segment_l32 (b_26 : (List Int)) (b_2_0 : Int) (t51 : (A3 Int)) (t52 : Int) : Option (Lp ((List Int) × Int) (List Int)) :=
  if (decide (t52 < 3)) then
    (idx t51.l t52).bind fun z_4 =>
    (index_Put z_4).bind fun r_4 =>
    (grow 1 b_26 r_4).bind fun z_5 =>
    some (.next (z_5, (IntKind.wrap .i64 (t52 + 1))))
  else
    some (.out b_26)
noncomputable def segs_Segment_j26 (s1 : SegDef) (b_26 : (List Int)) (b_2_0 : Int) : Option (Record × Bool) :=
  (index_Two (IntKind.wrap .u16 s1.Len)).bind fun r_3 =>
  (grow 1 b_26 r_3).bind fun z_3 =>
  (loopO (fun x : ((List Int) × Int) => segs_Segment_l32 x.1 b_2_0 ({ a0 := s1.Name, a1 := s1.Class, a2 := s1.Overlay } : (A3 Int)) x.2) (z_3, 0)).bind fun e_1 =>
  some (({ Kind := 152, Body := e_1 } : Record), true)
noncomputable def segs_Segment_j18 (s1 : SegDef) (b_2_0 : Int) (first4 : Int) : Option (Record × Bool) :=
  if (s1.Align == 0) then
    (index_Two s1.Frame).bind fun r_2 =>
    (grow 1 ([first4] : List Int) r_2).bind fun z_1 =>
    (grow 1 z_1 ([s1.Offset] : List Int)).bind fun z_2 =>
    segs_Segment_j26 s1 z_2 b_2_0
  else
    segs_Segment_j26 s1 ([first4] : List Int) b_2_0
/-- hansom/segs.Segment -/
noncomputable def segs_Segment (s_ : SegDef) : Option (Record × Bool) :=
  (segs_May s_).bind fun r_1 =>
  if (!r_1) then
    some (({ Kind := 0, Body := ([] : List Int) } : Record), false)
  else
    if (s_.Len == 65536) then
      segs_Segment_j18 s_ 0 (bitsOp .or .u8 (IntKind.wrap .u8 (bitsOp .or .i64 (shlI .i64 s_.Align 5) (shlI .i64 s_.Combine 2))) 2)
    else
      segs_Segment_j18 s_ 0 (IntKind.wrap .u8 (bitsOp .or .i64 (shlI .i64 s_.Align 5) (shlI .i64 s_.Combine 2)))
/-- hansom/index.From -/
noncomputable def index_From (b_ : (List Int)) : Option Source :=
  (grow 1 [] b_).bind fun z_1 =>
  some ({ b := z_1, e := 0 } : Source)
/-- (*hansom/index.Source).Wrong -/
noncomputable def index_Source_Wrong (s_ : Source) (e_ : Int) : Option Source :=
  if (s_.e == 0) then
    if (e_ != 0) then
      some ({ b := ([] : List Int), e := e_ } : Source)
    else
      some s_
  else
    some s_
/-- (*hansom/index.Source).Take -/
noncomputable def index_Source_Take (s_ : Source) (n_ : Int) : Option ((List Int) × Source) :=
  if (decide (n_ < 0)) then
    (index_Source_Wrong s_ 2).bind fun r_1 =>
    some (([] : List Int), r_1)
  else
    if (decide (n_ > (s_.b.length : Int))) then
      (index_Source_Wrong s_ 2).bind fun r_2 =>
      some (([] : List Int), r_2)
    else
      (cut3 s_.b 0 n_ n_).bind fun z_1 =>
      (cutL s_.b n_ (s_.b.length : Int)).bind fun z_2 =>
      some (z_1, ({ b := z_2, e := s_.e } : Source))
/-- (*hansom/index.Source).Byte -/
noncomputable def index_Source_Byte (s_ : Source) : Option (Int × Source) :=
  (index_Source_Take s_ 1).bind fun r_1 =>
  if ((r_1.1.length : Int) == 1) then
    (idx r_1.1 0).bind fun z_1 =>
    some (z_1, r_1.2)
  else
    some (0, r_1.2)
/-- hansom/bits.Word -/
noncomputable def bits_Word (low_ : Int) (high_ : Int) : Option Int :=
  some (bitsOp .or .u16 (IntKind.wrap .u16 low_) (shlI .u16 (IntKind.wrap .u16 high_) 8))
/-- (*hansom/index.Source).Word -/
noncomputable def index_Source_Word (s_ : Source) : Option (Int × Source) :=
  (index_Source_Take s_ 2).bind fun r_1 =>
  if ((r_1.1.length : Int) == 2) then
    (idx r_1.1 0).bind fun z_1 =>
    (idx r_1.1 1).bind fun z_2 =>
    (bits_Word z_1 z_2).bind fun r_2 =>
    some (r_2, r_1.2)
  else
    some (0, r_1.2)
/-- (*hansom/index.Source).Err -/
noncomputable def index_Source_Err (s_ : Source) : Option Int :=
  some s_.e
/-- (*hansom/index.Source).Index -/
noncomputable def index_Source_Index (s_ : Source) : Option (Int × Source) :=
  (index_Source_Byte s_).bind fun r_1 =>
  if (decide ((IntKind.wrap .i64 r_1.1) < 128)) then
    some ((IntKind.wrap .i64 r_1.1), r_1.2)
  else
    (index_Source_Byte r_1.2).bind fun r_2 =>
    (index_Source_Err r_2.2).bind fun r_3 =>
    if (r_3 != 0) then
      some (0, r_2.2)
    else
      some ((bitsOp .or .i64 (shlI .i64 (bitsOp .and .i64 (IntKind.wrap .i64 r_1.1) 127) 8) (IntKind.wrap .i64 r_2.1)), r_2.2)
/-- (*hansom/index.Source).Left -/
noncomputable def index_Source_Left (s_ : Source) : Option Int :=
  some (s_.b.length : Int)
/-- (*hansom/index.Source).End -/
noncomputable def index_Source_End (s_ : Source) : Option (Int × Source) :=
  (index_Source_Left s_).bind fun r_1 =>
  if (decide (r_1 > 0)) then
    (index_Source_Wrong s_ 3).bind fun r_2 =>
    (index_Source_Err r_2).bind fun r_3 =>
    some (r_3, r_2)
  else
    (index_Source_Err s_).bind fun r_4 =>
    some (r_4, s_)
noncomputable def segs_Def_j28 (b_2 : SegDef) (d6 : SegDef) (b_9 : Source) (first5 : Int) : Option (SegDef × Int) :=
  (index_Source_Index b_9).bind fun r_7 =>
  (index_Source_Index r_7.2).bind fun r_8 =>
  (index_Source_Index r_8.2).bind fun r_9 =>
  if ((bitsOp .and .u8 first5 1) != 0) then
    (index_Source_Wrong r_9.2 3).bind fun r_10 =>
    (index_Source_End r_10).bind fun r_11 =>
    if (r_11.1 != 0) then
      some (({ Align := 0, Combine := 0, Frame := 0, Offset := 0, Len := 0, Name := 0, Class := 0, Overlay := 0 } : SegDef), r_11.1)
    else
      some (({ Align := d6.Align, Combine := d6.Combine, Frame := d6.Frame, Offset := d6.Offset, Len := d6.Len, Name := r_7.1, Class := r_8.1, Overlay := r_9.1 } : SegDef), 0)
  else
    (segs_May ({ Align := d6.Align, Combine := d6.Combine, Frame := d6.Frame, Offset := d6.Offset, Len := d6.Len, Name := r_7.1, Class := r_8.1, Overlay := r_9.1 } : SegDef)).bind fun r_12 =>
    if (!r_12) then
      (index_Source_Wrong r_9.2 3).bind fun r_13 =>
      (index_Source_End r_13).bind fun r_14 =>
      if (r_14.1 != 0) then
        some (({ Align := 0, Combine := 0, Frame := 0, Offset := 0, Len := 0, Name := 0, Class := 0, Overlay := 0 } : SegDef), r_14.1)
      else
        some (({ Align := d6.Align, Combine := d6.Combine, Frame := d6.Frame, Offset := d6.Offset, Len := d6.Len, Name := r_7.1, Class := r_8.1, Overlay := r_9.1 } : SegDef), 0)
    else
      (index_Source_End r_9.2).bind fun r_15 =>
      if (r_15.1 != 0) then
        some (({ Align := 0, Combine := 0, Frame := 0, Offset := 0, Len := 0, Name := 0, Class := 0, Overlay := 0 } : SegDef), r_15.1)
      else
        some (({ Align := d6.Align, Combine := d6.Combine, Frame := d6.Frame, Offset := d6.Offset, Len := d6.Len, Name := r_7.1, Class := r_8.1, Overlay := r_9.1 } : SegDef), 0)
noncomputable def segs_Def_j14 (b_2 : SegDef) (d6 : SegDef) (b_9 : Source) (first5 : Int) : Option (SegDef × Int) :=
  (index_Source_Word b_9).bind fun r_5 =>
  if ((bitsOp .and .u8 first5 2) != 0) then
    if ((IntKind.wrap .i64 r_5.1) != 0) then
      (index_Source_Wrong r_5.2 3).bind fun r_6 =>
      segs_Def_j28 b_2 ({ Align := d6.Align, Combine := d6.Combine, Frame := d6.Frame, Offset := d6.Offset, Len := 65536, Name := d6.Name, Class := d6.Class, Overlay := d6.Overlay } : SegDef) r_6 first5
    else
      segs_Def_j28 b_2 ({ Align := d6.Align, Combine := d6.Combine, Frame := d6.Frame, Offset := d6.Offset, Len := 65536, Name := d6.Name, Class := d6.Class, Overlay := d6.Overlay } : SegDef) r_5.2 first5
  else
    segs_Def_j28 b_2 ({ Align := d6.Align, Combine := d6.Combine, Frame := d6.Frame, Offset := d6.Offset, Len := (IntKind.wrap .i64 r_5.1), Name := d6.Name, Class := d6.Class, Overlay := d6.Overlay } : SegDef) r_5.2 first5
/-- hansom/segs.Def -/
noncomputable def segs_Def (b_ : (List Int)) : Option (SegDef × Int) :=
  (index_From b_).bind fun r_1 =>
  (index_Source_Byte r_1).bind fun r_2 =>
  if ((IntKind.wrap .i64 (shrI .u8 r_2.1 5)) == 0) then
    (index_Source_Word r_2.2).bind fun r_3 =>
    (index_Source_Byte r_3.2).bind fun r_4 =>
    segs_Def_j14 ({ Align := 0, Combine := 0, Frame := 0, Offset := 0, Len := 0, Name := 0, Class := 0, Overlay := 0 } : SegDef) ({ Align := (IntKind.wrap .i64 (shrI .u8 r_2.1 5)), Combine := (IntKind.wrap .i64 (bitsOp .and .u8 (shrI .u8 r_2.1 2) 7)), Frame := r_3.1, Offset := r_4.1, Len := 0, Name := 0, Class := 0, Overlay := 0 } : SegDef) r_4.2 r_2.1
  else
    segs_Def_j14 ({ Align := 0, Combine := 0, Frame := 0, Offset := 0, Len := 0, Name := 0, Class := 0, Overlay := 0 } : SegDef) ({ Align := (IntKind.wrap .i64 (shrI .u8 r_2.1 5)), Combine := (IntKind.wrap .i64 (bitsOp .and .u8 (shrI .u8 r_2.1 2) 7)), Frame := 0, Offset := 0, Len := 0, Name := 0, Class := 0, Overlay := 0 } : SegDef) r_2.2 r_2.1
/-- hansom/segs.Step -/
noncomputable def segs_Step (align_ : Int) : Option Int :=
  if (align_ == 2) then
    some 2
  else
    if (align_ == 3) then
      some 16
    else
      if (align_ == 4) then
        some 256
      else
        some 1
/-- hansom/hansomlaw21.awake -/
noncomputable def hansomlaw21_awake  : Option Bool :=
  (segs_Segment ({ Align := 3, Combine := 2, Frame := 0, Offset := 0, Len := 5, Name := 2, Class := 0, Overlay := 0 } : SegDef)).bind fun r_1 =>
  (segs_Def r_1.1.Body).bind fun r_2 =>
  if r_1.2 then
    if (r_2.2 == 0) then
      if (r_2.1.Len == 5) then
        if (r_2.1.Name == 2) then
          (segs_Step 4).bind fun r_3 =>
          some (r_3 == 256)
        else
          some false
      else
        some false
    else
      some false
  else
    some false
/-- hansom/hansomref21.index -/
noncomputable def hansomref21_index (n_ : Int) : Option Bool :=
  if (decide (n_ ≥ 0)) then
    some (decide (n_ ≤ 32767))
  else
    some false
noncomputable def hansomref21_May_j8 (s1 : SegDef) (in3 : Bool) (c4 : Bool) (at5 : Bool) : Option Bool :=
  if in3 then
    if c4 then
      if at5 then
        if (decide (s1.Align ≥ 0)) then
          if (decide (s1.Align ≤ 4)) then
            if (decide (s1.Len ≥ 0)) then
              some (decide (s1.Len ≤ 65536))
            else
              some false
          else
            some false
        else
          some false
      else
        some false
    else
      some false
  else
    some false
noncomputable def hansomref21_May_j6 (s1 : SegDef) (in3 : Bool) (c4 : Bool) : Option Bool :=
  if (s1.Align == 0) then
    hansomref21_May_j8 s1 in3 c4 true
  else
    if (s1.Frame == 0) then
      hansomref21_May_j8 s1 in3 c4 (s1.Offset == 0)
    else
      hansomref21_May_j8 s1 in3 c4 false
noncomputable def hansomref21_May_j4 (s1 : SegDef) (in3 : Bool) : Option Bool :=
  if (s1.Combine == 0) then
    hansomref21_May_j6 s1 in3 true
  else
    if (s1.Combine == 2) then
      hansomref21_May_j6 s1 in3 true
    else
      if (s1.Combine == 5) then
        hansomref21_May_j6 s1 in3 true
      else
        hansomref21_May_j6 s1 in3 (s1.Combine == 6)
/-- hansom/hansomref21.May -/
noncomputable def hansomref21_May (s_ : SegDef) : Option Bool :=
  (hansomref21_index s_.Name).bind fun r_1 =>
  if r_1 then
    (hansomref21_index s_.Class).bind fun r_2 =>
    if r_2 then
      (hansomref21_index s_.Overlay).bind fun r_3 =>
      hansomref21_May_j4 s_ r_3
    else
      hansomref21_May_j4 s_ false
  else
    hansomref21_May_j4 s_ false
noncomputable def hansomref18_Bytes_l8 (n0 : Int) (many1 : Int) (s5 : (List UInt8)) (i6 : Int) : Option (Lp (Int × (List UInt8) × Int) (List UInt8)) :=
  if (decide (i6 < many1)) then
    (catS s5 (b2s ([(IntKind.wrap .u8 (Int.tmod n0 256))] : List Int))).bind fun z_1 =>
    some (.next ((IntKind.wrap .u64 (Int.tdiv n0 256)), z_1, (IntKind.wrap .i64 (i6 + 1))))
  else
    some (.out s5)
/-- hansom/hansomref18.Bytes -/
noncomputable def hansomref18_Bytes (n_ : Int) (many_ : Int) : Option (List UInt8) :=
  (loopO (fun x : (Int × (List UInt8) × Int) => hansomref18_Bytes_l8 x.1 many_ x.2.1 x.2.2) (n_, ([] : List UInt8), 0)).bind fun e_1 =>
  some e_1
noncomputable def hansomref18_Index_j8 (n0 : Int) : Option (List UInt8) :=
  if (decide (n0 < 128)) then
    some (b2s ([(IntKind.wrap .u8 n0)] : List Int))
  else
    some (b2s ([(IntKind.wrap .u8 (IntKind.wrap .i64 ((IntKind.wrap .i64 (Int.tdiv n0 256)) + 128))), (IntKind.wrap .u8 (Int.tmod n0 256))] : List Int))
/-- hansom/hansomref18.Index -/
noncomputable def hansomref18_Index (n_ : Int) : Option (List UInt8) :=
  if (decide (n_ < 0)) then
    hansomref18_Index_j8 0
  else
    if (decide (n_ > 32767)) then
      hansomref18_Index_j8 0
    else
      hansomref18_Index_j8 n_
noncomputable def hansomref21_Segment_j18 (s1 : SegDef) (b4 : (List UInt8)) : Option (List UInt8) :=
  (hansomref18_Bytes (IntKind.wrap .u64 (Int.tmod s1.Len 65536)) 2).bind fun r_2 =>
  (catS b4 r_2).bind fun z_3 =>
  (hansomref18_Index s1.Name).bind fun r_3 =>
  (catS z_3 r_3).bind fun z_4 =>
  (hansomref18_Index s1.Class).bind fun r_4 =>
  (catS z_4 r_4).bind fun z_5 =>
  (hansomref18_Index s1.Overlay).bind fun r_5 =>
  (catS z_5 r_5).bind fun z_6 =>
  some z_6
noncomputable def hansomref21_Segment_j10 (s1 : SegDef) (first3 : Int) : Option (List UInt8) :=
  if (s1.Align == 0) then
    (hansomref18_Bytes (IntKind.wrap .u64 s1.Frame) 2).bind fun r_1 =>
    (catS r_1 (b2s ([s1.Offset] : List Int))).bind fun z_1 =>
    (catS (b2s ([(IntKind.wrap .u8 first3)] : List Int)) z_1).bind fun z_2 =>
    hansomref21_Segment_j18 s1 z_2
  else
    hansomref21_Segment_j18 s1 (b2s ([(IntKind.wrap .u8 first3)] : List Int))
/-- hansom/hansomref21.Segment -/
noncomputable def hansomref21_Segment (s_ : SegDef) : Option (List UInt8) :=
  if (s_.Len == 65536) then
    hansomref21_Segment_j10 s_ (IntKind.wrap .i64 ((IntKind.wrap .i64 ((IntKind.wrap .i64 (32 * s_.Align)) + (IntKind.wrap .i64 (4 * s_.Combine)))) + 2))
  else
    hansomref21_Segment_j10 s_ (IntKind.wrap .i64 ((IntKind.wrap .i64 (32 * s_.Align)) + (IntKind.wrap .i64 (4 * s_.Combine))))
/-- hansom/hansomlaw21.SegsDef -/
noncomputable def hansomlaw21_SegsDef (s_ : SegDef) (odd_ : Int) : Option Bool :=
  (hansomlaw21_near s_ odd_).bind fun r_1 =>
  (segs_Segment r_1).bind fun r_2 =>
  (hansomlaw21_awake).bind fun r_3 =>
  if (!r_3) then
    some false
  else
    (segs_May r_1).bind fun r_4 =>
    (hansomref21_May r_1).bind fun r_5 =>
    if (r_4 != r_5) then
      some false
    else
      (hansomref21_May r_1).bind fun r_6 =>
      if (r_2.2 != r_6) then
        some false
      else
        if (!r_2.2) then
          some ((r_2.1.Body.length : Int) == 0)
        else
          (segs_Def r_2.1.Body).bind fun r_7 =>
          (hansomref21_Segment r_1).bind fun r_8 =>
          if ((b2s r_2.1.Body) == r_8) then
            if (r_2.1.Kind == 152) then
              if (r_7.2 == 0) then
                some (r_7.1.Align == r_1.Align && (r_7.1.Combine == r_1.Combine && (r_7.1.Frame == r_1.Frame && (r_7.1.Offset == r_1.Offset && (r_7.1.Len == r_1.Len && (r_7.1.Name == r_1.Name && (r_7.1.Class == r_1.Class && (r_7.1.Overlay == r_1.Overlay && true))))))))
              else
                some false
            else
              some false
          else
            some false
noncomputable def hansomlaw21_SegsAny_j16 (y8 : (List Int)) : Option Bool :=
  (segs_Def y8).bind fun r_3 =>
  if (r_3.2 != 0) then
    (hansomlaw21_awake).bind fun r_4 =>
    if r_4 then
      if (r_3.1.Align == 0 && (r_3.1.Combine == 0 && (r_3.1.Frame == 0 && (r_3.1.Offset == 0 && (r_3.1.Len == 0 && (r_3.1.Name == 0 && (r_3.1.Class == 0 && (r_3.1.Overlay == 0 && true)))))))) then
        if (r_3.2 == 2) then
          some true
        else
          some (r_3.2 == 3)
      else
        some false
    else
      some false
  else
    (segs_Segment r_3.1).bind fun r_5 =>
    (segs_Def r_5.1.Body).bind fun r_6 =>
    (hansomlaw21_awake).bind fun r_7 =>
    if r_7 then
      (hansomref21_May r_3.1).bind fun r_8 =>
      if r_8 then
        if r_5.2 then
          if (r_6.2 == 0) then
            if (r_6.1.Align == r_3.1.Align && (r_6.1.Combine == r_3.1.Combine && (r_6.1.Frame == r_3.1.Frame && (r_6.1.Offset == r_3.1.Offset && (r_6.1.Len == r_3.1.Len && (r_6.1.Name == r_3.1.Name && (r_6.1.Class == r_3.1.Class && (r_6.1.Overlay == r_3.1.Overlay && true)))))))) then
              some (decide ((r_5.1.Body.length : Int) ≤ (y8.length : Int)))
            else
              some false
          else
            some false
        else
          some false
      else
        some false
    else
      some false
/-- hansom/hansomlaw21.SegsAny -/
noncomputable def hansomlaw21_SegsAny (s_ : SegDef) (at_ : Int) (b_ : (List Int)) : Option Bool :=
  (hansomlaw21_near s_ 6).bind fun r_1 =>
  (hansomref21_Segment r_1).bind fun r_2 =>
  (remI .i64 (bitsOp .and .i64 at_ 255) ((s2b r_2).length : Int)).bind fun z_1 =>
  (idx (s2b r_2) z_1).bind fun z_2 =>
  (shlO .u8 1 (IntKind.wrap .u64 (bitsOp .and .i64 (shrI .i64 at_ 8) 7))).bind fun z_3 =>
  (idx (s2b r_2) z_1).bind fun z_4 =>
  if ((bitsOp .and .i64 (shrI .i64 at_ 11) 3) == 0) then
    (cutL b_ 0 (mnI (b_.length : Int) 14)).bind fun z_5 =>
    hansomlaw21_SegsAny_j16 z_5
  else
    hansomlaw21_SegsAny_j16 (List.set (s2b r_2) (z_1).toNat (bitsOp .xor .u8 z_2 z_3))
noncomputable def segs_Group_l8 (b_8 : (List Int)) (b_2_0 : Int) (t10 : (List Int)) (t11 : Int) (t12 : Int) : Option (Lp ((List Int) × Int) (List Int)) :=
  if (decide (t12 < t11)) then
    (idx t10 t12).bind fun z_1 =>
    (grow 1 b_8 ([255] : List Int)).bind fun z_2 =>
    (index_Put z_1).bind fun r_2 =>
    (grow 1 z_2 r_2).bind fun z_3 =>
    some (.next (z_3, (IntKind.wrap .i64 (t12 + 1))))
  else
    some (.out b_8)
/-- hansom/segs.Group -/
noncomputable def segs_Group (g_ : GrpDef) : Option Record :=
  (index_Put g_.Name).bind fun r_1 =>
  (loopO (fun x : ((List Int) × Int) => segs_Group_l8 x.1 0 g_.Segs (g_.Segs.length : Int) x.2) (r_1, 0)).bind fun e_1 =>
  some ({ Kind := 154, Body := e_1 } : Record)
noncomputable def segs_Groups_l8 (g5 : GrpDef) (b_8 : Source) (b_2_0 : Int) : Option (Lp (GrpDef × Source) (GrpDef × Source)) :=
  (index_Source_Left b_8).bind fun r_3 =>
  if (decide (r_3 > 0)) then
    (index_Source_Byte b_8).bind fun r_4 =>
    if (r_4.1 != 255) then
      (index_Source_Wrong r_4.2 3).bind fun r_5 =>
      (index_Source_Index r_5).bind fun r_6 =>
      (grow 8 g5.Segs ([r_6.1] : List Int)).bind fun z_1 =>
      some (.next (({ Name := g5.Name, Segs := z_1 } : GrpDef), r_6.2))
    else
      (index_Source_Index r_4.2).bind fun r_7 =>
      (grow 8 g5.Segs ([r_7.1] : List Int)).bind fun z_2 =>
      some (.next (({ Name := g5.Name, Segs := z_2 } : GrpDef), r_7.2))
  else
    some (.out (g5, b_8))
/-- hansom/segs.Groups -/
noncomputable def segs_Groups (b_ : (List Int)) : Option (GrpDef × Int) :=
  (index_From b_).bind fun r_1 =>
  (index_Source_Index r_1).bind fun r_2 =>
  (loopO (fun x : (GrpDef × Source) => segs_Groups_l8 x.1 x.2 0) (({ Name := r_2.1, Segs := ([] : List Int) } : GrpDef), r_2.2)).bind fun e_1 =>
  (index_Source_Err e_1.2).bind fun r_3 =>
  if (r_3 != 0) then
    some (({ Name := 0, Segs := ([] : List Int) } : GrpDef), r_3)
  else
    some (e_1.1, 0)
noncomputable def hansomref21_Group_l8 (g1 : GrpDef) (b3 : (List UInt8)) (i4 : Int) : Option (Lp ((List UInt8) × Int) (List UInt8)) :=
  if (decide (i4 < (g1.Segs.length : Int))) then
    (idx g1.Segs i4).bind fun z_1 =>
    (hansomref18_Index z_1).bind fun r_2 =>
    (catS ([255] : List UInt8) r_2).bind fun z_2 =>
    (catS b3 z_2).bind fun z_3 =>
    some (.next (z_3, (IntKind.wrap .i64 (i4 + 1))))
  else
    some (.out b3)
/-- hansom/hansomref21.Group -/
noncomputable def hansomref21_Group (g_ : GrpDef) : Option (List UInt8) :=
  (hansomref18_Index g_.Name).bind fun r_1 =>
  (loopO (fun x : ((List UInt8) × Int) => hansomref21_Group_l8 g_ x.1 x.2) (r_1, 0)).bind fun e_1 =>
  some e_1
noncomputable def hansomlaw21_SegsGroup_l8 (g7 : GrpDef) (l1 : (List Int)) (at2 : Int) (i8 : Int) : Option (Lp (GrpDef × Int) GrpDef) :=
  if (decide (i8 < (l1.length : Int))) then
    if (decide (i8 < 12)) then
      (idx l1 i8).bind fun z_1 =>
      (grow 8 g7.Segs ([(bitsOp .and .i64 z_1 1023)] : List Int)).bind fun z_2 =>
      some (.next (({ Name := g7.Name, Segs := z_2 } : GrpDef), (IntKind.wrap .i64 (i8 + 1))))
    else
      some (.out g7)
  else
    some (.out g7)
noncomputable def hansomlaw21_SegsGroup_l35 (g7 : GrpDef) (r9 : Record) (h10 : GrpDef) (at2 : Int) (i12 : Int) : Option (Lp Int (Bool ⊕ Unit)) :=
  if (decide (i12 < (g7.Segs.length : Int))) then
    (idx h10.Segs i12).bind fun z_1 =>
    (idx g7.Segs i12).bind fun z_2 =>
    if (z_1 != z_2) then
      some (.out (.inl false))
    else
      some (.next (IntKind.wrap .i64 (i12 + 1)))
  else
    some (.out (.inr ()))
/-- hansom/hansomlaw21.SegsGroup -/
noncomputable def hansomlaw21_SegsGroup (name_ : Int) (l_ : (List Int)) (at_ : Int) : Option Bool :=
  (loopO (fun x : (GrpDef × Int) => hansomlaw21_SegsGroup_l8 x.1 l_ at_ x.2) (({ Name := (bitsOp .and .i64 name_ 32767), Segs := ([] : List Int) } : GrpDef), 0)).bind fun e_1 =>
  (segs_Group e_1).bind fun r_1 =>
  (segs_Groups r_1.Body).bind fun r_2 =>
  (hansomref21_Group e_1).bind fun r_3 =>
  if ((b2s r_1.Body) != r_3) then
    some false
  else
    if (r_1.Kind != 154) then
      some false
    else
      if (r_2.2 != 0) then
        some false
      else
        if (r_2.1.Name != e_1.Name) then
          some false
        else
          if ((r_2.1.Segs.length : Int) != (e_1.Segs.length : Int)) then
            some false
          else
            (loopO (fun x : Int => hansomlaw21_SegsGroup_l35 e_1 r_1 r_2.1 at_ x) 0).bind fun e_2 =>
            match e_2 with
            | .inl e_3 =>
              some e_3
            | .inr e_4 =>
              (grow 1 ([] : List Int) r_1.Body).bind fun z_1 =>
              (grow 1 z_1 ([(IntKind.wrap .u8 (bitsOp .and .i64 at_ 127)), 1] : List Int)).bind fun z_2 =>
              (segs_Groups z_2).bind fun r_4 =>
              (hansomlaw21_awake).bind fun r_5 =>
              if r_5 then
                if (r_4.2 == 3) then
                  (segs_Step (Int.tmod (bitsOp .and .i64 at_ 255) 5)).bind fun r_6 =>
                  (idx ([1, 1, 2, 16, 256] : List Int) (Int.tmod (bitsOp .and .i64 at_ 255) 5)).bind fun z_3 =>
                  if (r_6 == z_3) then
                    (segs_Step (IntKind.wrap .i64 (5 + (bitsOp .and .i64 at_ 7)))).bind fun r_7 =>
                    some (r_7 == 1)
                  else
                    some false
                else
                  some false
              else
                some false
end Go.Es.Seg
