/- What the functions that the law OmfCheck reaches answer, in plain Lean. No condition. -/
import Derived.Test.YthjlplonbkhilaaEsD
set_option linter.unusedVariables false
set_option linter.unusedSimpArgs false
set_option maxRecDepth 100000
set_option maxHeartbeats 4000000
namespace Go.Es.Omc
structure Comment where
  Flags : Int
  Class : Int
  Text : (List UInt8)
  deriving DecidableEq, Inhabited
def Comment.cs (x : Comment) : List D := [.int .u8 x.Flags, .int .u8 x.Class, .str x.Text]
def Comment.d (x : Comment) : D := .agg (Comment.cs x)
structure SegDef where
  Align : Int
  Combine : Int
  Frame : Int
  Offset : Int
  Len : Int
  Name : Int
  Class : Int
  Overlay : Int
  deriving DecidableEq, Inhabited
def SegDef.cs (x : SegDef) : List D := [.int .i64 x.Align, .int .i64 x.Combine, .int .u16 x.Frame, .int .u8 x.Offset, .int .i64 x.Len, .int .i64 x.Name, .int .i64 x.Class, .int .i64 x.Overlay]
def SegDef.d (x : SegDef) : D := .agg (SegDef.cs x)
structure GrpDef where
  Name : Int
  Segs : (List Int)
  deriving DecidableEq, Inhabited
def GrpDef.cs (x : GrpDef) : List D := [.int .i64 x.Name, .sl (List.map (D.int .i64) x.Segs)]
def GrpDef.d (x : GrpDef) : D := .agg (GrpDef.cs x)
structure Ext where
  Name : (List UInt8)
  Com : Int
  Len : Int
  deriving DecidableEq, Inhabited
def Ext.cs (x : Ext) : List D := [.str x.Name, .int .i64 x.Com, .int .u32 x.Len]
def Ext.d (x : Ext) : D := .agg (Ext.cs x)
structure Pub where
  Group : Int
  Seg : Int
  Frame : Int
  Name : (List UInt8)
  Off : Int
  deriving DecidableEq, Inhabited
def Pub.cs (x : Pub) : List D := [.int .i64 x.Group, .int .i64 x.Seg, .int .u16 x.Frame, .str x.Name, .int .u16 x.Off]
def Pub.d (x : Pub) : D := .agg (Pub.cs x)
structure Fixup where
  At : Int
  Loc : Int
  Self : Bool
  Frame : Int
  FrameN : Int
  Target : Int
  N : Int
  Disp : Int
  deriving DecidableEq, Inhabited
def Fixup.cs (x : Fixup) : List D := [.int .i64 x.At, .int .i64 x.Loc, .bool x.Self, .int .i64 x.Frame, .int .i64 x.FrameN, .int .i64 x.Target, .int .i64 x.N, .int .u16 x.Disp]
def Fixup.d (x : Fixup) : D := .agg (Fixup.cs x)
structure Data where
  Seg : Int
  Off : Int
  Bytes : (List Int)
  Fixups : (List Fixup)
  deriving DecidableEq, Inhabited
def Data.cs (x : Data) : List D := [.int .i64 x.Seg, .int .u16 x.Off, .sl (List.map (D.int .u8) x.Bytes), .sl (List.map Fixup.d x.Fixups)]
def Data.d (x : Data) : D := .agg (Data.cs x)
structure Module where
  Name : (List UInt8)
  Notes : (List Comment)
  Names : (List (List UInt8))
  Segs : (List SegDef)
  Groups : (List GrpDef)
  Exts : (List Ext)
  Pubs : (List Pub)
  Datas : (List Data)
  Main : Bool
  Is : Bool
  Start : Fixup
  deriving Inhabited
def Module.cs (x : Module) : List D := [.str x.Name, .sl (List.map Comment.d x.Notes), .sl (List.map D.str x.Names), .sl (List.map SegDef.d x.Segs), .sl (List.map GrpDef.d x.Groups), .sl (List.map Ext.d x.Exts), .sl (List.map Pub.d x.Pubs), .sl (List.map Data.d x.Datas), .bool x.Main, .bool x.Is, .int .i64 x.Start.At, .int .i64 x.Start.Loc, .bool x.Start.Self, .int .i64 x.Start.Frame, .int .i64 x.Start.FrameN, .int .i64 x.Start.Target, .int .i64 x.Start.N, .int .u16 x.Start.Disp]
def Module.d (x : Module) : D := .agg (Module.cs x)
structure Record where
  Kind : Int
  Body : (List Int)
  deriving DecidableEq, Inhabited
def Record.cs (x : Record) : List D := [.int .u8 x.Kind, .sl (List.map (D.int .u8) x.Body)]
def Record.d (x : Record) : D := .agg (Record.cs x)
def Comment.wf (x : Comment) : Prop := wfI .u8 x.Flags ∧ wfI .u8 x.Class ∧ wfS x.Text
def SegDef.wf (x : SegDef) : Prop := wfI .i64 x.Align ∧ wfI .i64 x.Combine ∧ wfI .u16 x.Frame ∧ wfI .u8 x.Offset ∧ wfI .i64 x.Len ∧ wfI .i64 x.Name ∧ wfI .i64 x.Class ∧ wfI .i64 x.Overlay
def GrpDef.wf (x : GrpDef) : Prop := wfI .i64 x.Name ∧ wfL (wfI .i64) x.Segs
def Ext.wf (x : Ext) : Prop := wfS x.Name ∧ wfI .i64 x.Com ∧ wfI .u32 x.Len
def Pub.wf (x : Pub) : Prop := wfI .i64 x.Group ∧ wfI .i64 x.Seg ∧ wfI .u16 x.Frame ∧ wfS x.Name ∧ wfI .u16 x.Off
def Fixup.wf (x : Fixup) : Prop := wfI .i64 x.At ∧ wfI .i64 x.Loc ∧ (fun _ => True) x.Self ∧ wfI .i64 x.Frame ∧ wfI .i64 x.FrameN ∧ wfI .i64 x.Target ∧ wfI .i64 x.N ∧ wfI .u16 x.Disp
def Data.wf (x : Data) : Prop := wfI .i64 x.Seg ∧ wfI .u16 x.Off ∧ wfL (wfI .u8) x.Bytes ∧ wfL Fixup.wf x.Fixups
def Module.wf (x : Module) : Prop := wfS x.Name ∧ wfL Comment.wf x.Notes ∧ wfL wfS x.Names ∧ wfL SegDef.wf x.Segs ∧ wfL GrpDef.wf x.Groups ∧ wfL Ext.wf x.Exts ∧ wfL Pub.wf x.Pubs ∧ wfL Data.wf x.Datas ∧ (fun _ => True) x.Main ∧ (fun _ => True) x.Is ∧ Fixup.wf x.Start
def Record.wf (x : Record) : Prop := wfI .u8 x.Kind ∧ wfL (wfI .u8) x.Body
/-- hansom/hansomref26.cut -/
noncomputable def hansomref26_cut (s_ : (List UInt8)) : Option (List UInt8) :=
  (cutL s_ 0 (mnI (s_.length : Int) 12)).bind fun z_1 =>
  some z_1
noncomputable def hansomref26_base_l10 (m1 : Module) (x2 : Module) (i3 : Int) : Option (Lp (Module × Int) Module) :=
  if (decide (i3 < (m1.Names.length : Int))) then
    if (decide (i3 < 4)) then
      (idx m1.Names i3).bind fun z_1 =>
      (hansomref26_cut z_1).bind fun r_2 =>
      (grow 16 x2.Names ([r_2] : List (List UInt8))).bind fun z_2 =>
      some (.next (({ x2 with Names := z_2 } : Module), (IntKind.wrap .i64 (i3 + 1))))
    else
      some (.out x2)
  else
    some (.out x2)
noncomputable def hansomref26_base_l27 (m1 : Module) (x2 : Module) (n4 : Int) (i5 : Int) : Option (Lp (Module × Int) Module) :=
  if (decide (i5 < (m1.Notes.length : Int))) then
    if (decide (i5 < 2)) then
      (idx m1.Notes i5).bind fun z_1 =>
      (hansomref26_cut z_1.Text).bind fun r_2 =>
      (grow 24 x2.Notes ([({ Flags := z_1.Flags, Class := z_1.Class, Text := r_2 } : Comment)] : List Comment)).bind fun z_2 =>
      some (.next (({ x2 with Notes := z_2 } : Module), (IntKind.wrap .i64 (i5 + 1))))
    else
      some (.out x2)
  else
    some (.out x2)
noncomputable def hansomref26_base_j63 (m1 : Module) (x2 : Module) (s8 : SegDef) (n4 : Int) (i7 : Int) : Option (Lp (Module × Int) Module) :=
  (idx ([0, 2, 5, 6] : List Int) (bitsOp .and .i64 s8.Combine 3)).bind fun z_2 =>
  (remI .i64 (bitsOp .and .i64 s8.Name 255) (IntKind.wrap .i64 (n4 + 1))).bind fun z_3 =>
  (remI .i64 (bitsOp .and .i64 s8.Class 255) (IntKind.wrap .i64 (n4 + 1))).bind fun z_4 =>
  (grow 56 x2.Segs ([({ Align := (IntKind.wrap .i64 ((bitsOp .and .i64 s8.Align 3) + 1)), Combine := z_2, Frame := 0, Offset := 0, Len := (IntKind.wrap .i64 ((bitsOp .and .i64 s8.Len 63) + 8)), Name := z_3, Class := z_4, Overlay := 1 } : SegDef)] : List SegDef)).bind fun z_5 =>
  some (.next (({ x2 with Segs := z_5 } : Module), (IntKind.wrap .i64 (i7 + 1))))
noncomputable def hansomref26_base_j53 (m1 : Module) (x2 : Module) (n4 : Int) (i7 : Int) : Option (Lp (Module × Int) Module) :=
  if (decide (i7 < (m1.Segs.length : Int))) then
    (idx m1.Segs i7).bind fun z_1 =>
    hansomref26_base_j63 m1 x2 z_1 n4 i7
  else
    hansomref26_base_j63 m1 x2 ({ Align := 0, Combine := 0, Frame := 0, Offset := 0, Len := 0, Name := 0, Class := 0, Overlay := 0 } : SegDef) n4 i7
noncomputable def hansomref26_base_l46 (m1 : Module) (x2 : Module) (n4 : Int) (i7 : Int) : Option (Lp (Module × Int) Module) :=
  if (i7 == 0) then
    hansomref26_base_j53 m1 x2 n4 i7
  else
    if (decide (i7 < (m1.Segs.length : Int))) then
      if (decide (i7 < 4)) then
        hansomref26_base_j53 m1 x2 n4 i7
      else
        some (.out x2)
    else
      some (.out x2)
noncomputable def hansomref26_base_l84 (m1 : Module) (x2 : Module) (g10 : GrpDef) (n4 : Int) (i9 : Int) (k11 : Int) : Option (Lp (GrpDef × Int) GrpDef) :=
  (idx m1.Groups i9).bind fun z_3 =>
  if (decide (k11 < (z_3.Segs.length : Int))) then
    if (decide (k11 < 3)) then
      (idx m1.Groups i9).bind fun z_4 =>
      (idx z_4.Segs k11).bind fun z_5 =>
      (remI .i64 (bitsOp .and .i64 z_5 255) (x2.Segs.length : Int)).bind fun z_6 =>
      (grow 8 g10.Segs ([(IntKind.wrap .i64 (z_6 + 1))] : List Int)).bind fun z_7 =>
      some (.next (({ Name := g10.Name, Segs := z_7 } : GrpDef), (IntKind.wrap .i64 (k11 + 1))))
    else
      some (.out g10)
  else
    some (.out g10)
noncomputable def hansomref26_base_l69 (m1 : Module) (x2 : Module) (n4 : Int) (i9 : Int) : Option (Lp (Module × Int) Module) :=
  if (decide (i9 < (m1.Groups.length : Int))) then
    if (decide (i9 < 2)) then
      (idx m1.Groups i9).bind fun z_1 =>
      (remI .i64 (bitsOp .and .i64 z_1.Name 255) n4).bind fun z_2 =>
      (loopO (fun x : (GrpDef × Int) => hansomref26_base_l84 m1 x2 x.1 n4 i9 x.2) (({ Name := (IntKind.wrap .i64 (z_2 + 1)), Segs := ([] : List Int) } : GrpDef), 0)).bind fun e_4 =>
      (grow 32 x2.Groups ([e_4] : List GrpDef)).bind fun z_3 =>
      some (.next (({ x2 with Groups := z_3 } : Module), (IntKind.wrap .i64 (i9 + 1))))
    else
      some (.out x2)
  else
    some (.out x2)
/-- hansom/hansomref26.base -/
noncomputable def hansomref26_base (m_ : Module) : Option Module :=
  (hansomref26_cut m_.Name).bind fun r_1 =>
  (loopO (fun x : (Module × Int) => hansomref26_base_l10 m_ x.1 x.2) (({ Name := r_1, Notes := ([] : List Comment), Names := ([([] : List UInt8)] : List (List UInt8)), Segs := ([] : List SegDef), Groups := ([] : List GrpDef), Exts := ([] : List Ext), Pubs := ([] : List Pub), Datas := ([] : List Data), Main := false, Is := false, Start := ({ At := 0, Loc := 0, Self := false, Frame := 0, FrameN := 0, Target := 0, N := 0, Disp := 0 } : Fixup) } : Module), 0)).bind fun e_1 =>
  (loopO (fun x : (Module × Int) => hansomref26_base_l27 m_ x.1 (e_1.Names.length : Int) x.2) (e_1, 0)).bind fun e_2 =>
  (loopO (fun x : (Module × Int) => hansomref26_base_l46 m_ x.1 (e_1.Names.length : Int) x.2) (e_2, 0)).bind fun e_3 =>
  (loopO (fun x : (Module × Int) => hansomref26_base_l69 m_ x.1 (e_1.Names.length : Int) x.2) (e_3, 0)).bind fun e_4 =>
  some e_4
/-- hansom/hansomref25.Size -/
noncomputable def hansomref25_Size (loc_ : Int) : Option Int :=
  if (loc_ == 0) then
    some 1
  else
    if (loc_ == 4) then
      some 1
    else
      if (loc_ == 3) then
        some 4
      else
        some 2
noncomputable def hansomref25_Near_l12 (f3 : Fixup) (many5 : (A3 Int)) (x6 : Fixup) : Option (Lp Fixup Fixup) :=
  (idx many5.l x6.Target).bind fun z_2 =>
  if (z_2 == 0) then
    some (.next ({ x6 with Target := (Int.tmod (IntKind.wrap .i64 (x6.Target + 1)) 3) } : Fixup))
  else
    some (.out x6)
noncomputable def hansomref25_Near_j33 (f3 : Fixup) (many5 : (A3 Int)) (x6 : Fixup) : Option Fixup :=
  (idx many5.l x6.Target).bind fun z_3 =>
  (remI .i64 (bitsOp .and .i64 f3.N 255) z_3).bind fun z_4 =>
  if (decide (x6.Frame < 3)) then
    (idx many5.l x6.Frame).bind fun z_5 =>
    (remI .i64 (bitsOp .and .i64 f3.FrameN 255) z_5).bind fun z_6 =>
    some ({ x6 with FrameN := (IntKind.wrap .i64 (z_6 + 1)), N := (IntKind.wrap .i64 (z_4 + 1)), Disp := f3.Disp } : Fixup)
  else
    some ({ x6 with N := (IntKind.wrap .i64 (z_4 + 1)), Disp := f3.Disp } : Fixup)
noncomputable def hansomref25_Near_j27 (f3 : Fixup) (many5 : (A3 Int)) (x6 : Fixup) : Option Fixup :=
  if (decide (x6.Frame < 3)) then
    (idx many5.l x6.Frame).bind fun z_2 =>
    if (z_2 == 0) then
      hansomref25_Near_j33 f3 many5 ({ x6 with Frame := 5 } : Fixup)
    else
      hansomref25_Near_j33 f3 many5 x6
  else
    hansomref25_Near_j33 f3 many5 x6
noncomputable def hansomref25_Near_j6 (f3 : Fixup) (many5 : (A3 Int)) (x6 : Fixup) (n1 : Int) : Option Fixup :=
  (hansomref25_Size x6.Loc).bind fun r_1 =>
  (remI .i64 (bitsOp .and .i64 f3.At 65535) (mnI (IntKind.wrap .i64 ((IntKind.wrap .i64 (n1 - r_1)) + 1)) 1024)).bind fun z_1 =>
  (loopO (fun x : Fixup => hansomref25_Near_l12 f3 many5 x) ({ x6 with At := z_1, Frame := (Int.tmod (bitsOp .and .i64 f3.Frame 255) 5), Target := (Int.tmod (bitsOp .and .i64 f3.Target 255) 3) } : Fixup)).bind fun e_1 =>
  if (e_1.Frame == 3) then
    hansomref25_Near_j27 f3 many5 ({ e_1 with Frame := 5 } : Fixup)
  else
    hansomref25_Near_j27 f3 many5 e_1
/-- hansom/hansomref25.Near -/
noncomputable def hansomref25_Near (f_ : Fixup) (n_ : Int) (many_ : (A3 Int)) : Option Fixup :=
  if f_.Self then
    hansomref25_Near_j6 ({ f_ with Self := true } : Fixup) many_ ({ At := 0, Loc := (Int.tmod (bitsOp .and .i64 f_.Loc 255) 5), Self := (decide ((Int.tmod (bitsOp .and .i64 f_.Loc 255) 5) < 2)), Frame := 0, FrameN := 0, Target := 0, N := 0, Disp := 0 } : Fixup) n_
  else
    hansomref25_Near_j6 ({ f_ with Self := false } : Fixup) many_ ({ At := 0, Loc := (Int.tmod (bitsOp .and .i64 f_.Loc 255) 5), Self := false, Frame := 0, FrameN := 0, Target := 0, N := 0, Disp := 0 } : Fixup) n_
noncomputable def hansomref26_Near_l8 (m1 : Module) (x2 : Module) (i3 : Int) : Option (Lp (Module × Int) Module) :=
  if (decide (i3 < (m1.Exts.length : Int))) then
    if (decide (i3 < 3)) then
      (idx m1.Exts i3).bind fun z_1 =>
      (hansomref26_cut z_1.Name).bind fun r_2 =>
      (idx m1.Exts i3).bind fun z_2 =>
      if ((bitsOp .and .i64 z_2.Com 1) == 1) then
        (idx m1.Exts i3).bind fun z_3 =>
        (idx m1.Exts i3).bind fun z_4 =>
        (grow 32 x2.Exts ([({ Name := r_2, Com := (IntKind.wrap .i64 (97 + (bitsOp .and .i64 (shrI .i64 z_3.Com 1) 1))), Len := (bitsOp .and .u32 z_4.Len 1023) } : Ext)] : List Ext)).bind fun z_5 =>
        some (.next (({ x2 with Exts := z_5 } : Module), (IntKind.wrap .i64 (i3 + 1))))
      else
        (grow 32 x2.Exts ([({ Name := r_2, Com := 0, Len := 0 } : Ext)] : List Ext)).bind fun z_6 =>
        some (.next (({ x2 with Exts := z_6 } : Module), (IntKind.wrap .i64 (i3 + 1))))
    else
      some (.out x2)
  else
    some (.out x2)
noncomputable def hansomref26_Near_l31 (m1 : Module) (x2 : Module) (i5 : Int) : Option (Lp (Module × Int) Module) :=
  if (decide (i5 < (m1.Pubs.length : Int))) then
    if (decide (i5 < 3)) then
      (idx m1.Pubs i5).bind fun z_1 =>
      (remI .i64 (bitsOp .and .i64 z_1.Group 255) (IntKind.wrap .i64 ((x2.Groups.length : Int) + 1))).bind fun z_2 =>
      (remI .i64 (bitsOp .and .i64 z_1.Seg 255) (IntKind.wrap .i64 ((x2.Segs.length : Int) + 1))).bind fun z_3 =>
      (hansomref26_cut z_1.Name).bind fun r_2 =>
      if (z_3 == 0) then
        (grow 48 x2.Pubs ([({ z_1 with Group := z_2, Seg := z_3, Name := r_2 } : Pub)] : List Pub)).bind fun z_4 =>
        some (.next (({ x2 with Pubs := z_4 } : Module), (IntKind.wrap .i64 (i5 + 1))))
      else
        (grow 48 x2.Pubs ([({ Group := z_2, Seg := z_3, Frame := 0, Name := r_2, Off := z_1.Off } : Pub)] : List Pub)).bind fun z_5 =>
        some (.next (({ x2 with Pubs := z_5 } : Module), (IntKind.wrap .i64 (i5 + 1))))
    else
      some (.out x2)
  else
    some (.out x2)
noncomputable def hansomref26_Near_l81 (m1 : Module) (x2 : Module) (many8 : (A3 Int)) (d10 : Data) (y11 : Data) (i9 : Int) (k13 : Int) : Option (Lp (Data × Int) Data) :=
  if (decide (k13 < (d10.Fixups.length : Int))) then
    if (decide (k13 < 3)) then
      (idx d10.Fixups k13).bind fun z_7 =>
      (hansomref25_Near z_7 (y11.Bytes.length : Int) many8).bind fun r_2 =>
      (grow 64 y11.Fixups ([r_2] : List Fixup)).bind fun z_8 =>
      some (.next (({ y11 with Fixups := z_8 } : Data), (IntKind.wrap .i64 (k13 + 1))))
    else
      some (.out y11)
  else
    some (.out y11)
noncomputable def hansomref26_Near_l58 (m1 : Module) (x2 : Module) (many8 : (A3 Int)) (i9 : Int) : Option (Lp (Module × Int) Module) :=
  if (decide (i9 < (m1.Datas.length : Int))) then
    if (decide (i9 < 4)) then
      (idx m1.Datas i9).bind fun z_1 =>
      (remI .i64 (bitsOp .and .i64 z_1.Seg 255) (x2.Segs.length : Int)).bind fun z_2 =>
      (idx x2.Segs (IntKind.wrap .i64 ((IntKind.wrap .i64 (z_2 + 1)) - 1))).bind fun z_3 =>
      (remI .u16 z_1.Off (IntKind.wrap .u16 (IntKind.wrap .i64 (z_3.Len - 4)))).bind fun z_4 =>
      (cutL z_1.Bytes 0 (mnI (z_1.Bytes.length : Int) (IntKind.wrap .i64 ((IntKind.wrap .i64 (z_3.Len - 4)) - (IntKind.wrap .i64 z_4))))).bind fun z_5 =>
      (grow 1 ([(IntKind.wrap .u8 z_1.Off), 1, 2, 3] : List Int) z_5).bind fun z_6 =>
      (loopO (fun x : (Data × Int) => hansomref26_Near_l81 m1 x2 many8 z_1 x.1 i9 x.2) (({ Seg := (IntKind.wrap .i64 (z_2 + 1)), Off := z_4, Bytes := z_6, Fixups := ([] : List Fixup) } : Data), 0)).bind fun e_3 =>
      (grow 64 x2.Datas ([e_3] : List Data)).bind fun z_7 =>
      some (.next (({ x2 with Datas := z_7 } : Module), (IntKind.wrap .i64 (i9 + 1))))
    else
      some (.out x2)
  else
    some (.out x2)
/-- hansom/hansomref26.Near -/
noncomputable def hansomref26_Near (m_ : Module) : Option Module :=
  (hansomref26_base m_).bind fun r_1 =>
  (loopO (fun x : (Module × Int) => hansomref26_Near_l8 m_ x.1 x.2) (r_1, 0)).bind fun e_1 =>
  (loopO (fun x : (Module × Int) => hansomref26_Near_l31 m_ x.1 x.2) (e_1, 0)).bind fun e_2 =>
  (loopO (fun x : (Module × Int) => hansomref26_Near_l58 m_ x.1 ({ a0 := (e_2.Segs.length : Int), a1 := (e_2.Groups.length : Int), a2 := (e_2.Exts.length : Int) } : (A3 Int)) x.2) (e_2, 0)).bind fun e_3 =>
  if m_.Is then
    (hansomref25_Near m_.Start 4 ({ a0 := (e_2.Segs.length : Int), a1 := (e_2.Groups.length : Int), a2 := (e_2.Exts.length : Int) } : (A3 Int))).bind fun r_2 =>
    if (r_2.Frame == 4) then
      some ({ Name := e_3.Name, Notes := e_3.Notes, Names := e_3.Names, Segs := e_3.Segs, Groups := e_3.Groups, Exts := e_3.Exts, Pubs := e_3.Pubs, Datas := e_3.Datas, Main := m_.Main, Is := true, Start := ({ r_2 with At := 0, Loc := 0, Self := false, Frame := 5 } : Fixup) } : Module)
    else
      some ({ Name := e_3.Name, Notes := e_3.Notes, Names := e_3.Names, Segs := e_3.Segs, Groups := e_3.Groups, Exts := e_3.Exts, Pubs := e_3.Pubs, Datas := e_3.Datas, Main := m_.Main, Is := true, Start := ({ r_2 with At := 0, Loc := 0, Self := false } : Fixup) } : Module)
  else
    some ({ e_3 with Main := m_.Main, Is := false } : Module)
/-- hansom/omf.many -/
noncomputable def omf_many (m_ : Module) : Option Bool :=
  if (decide ((m_.Segs.length : Int) ≤ 64)) then
    if (decide ((m_.Groups.length : Int) ≤ 64)) then
      if (decide ((m_.Exts.length : Int) ≤ 256)) then
        if (decide ((m_.Pubs.length : Int) ≤ 256)) then
          if (decide ((m_.Names.length : Int) ≤ 256)) then
            some (decide ((m_.Datas.length : Int) ≤ 512))
          else
            some false
        else
          some false
      else
        some false
    else
      some false
  else
    some false
noncomputable def segs_May_l30 (t60 : (A3 Int)) (t61 : Int) : Option (Lp Int (Bool ⊕ Unit)) :=
  if (decide (t61 < 3)) then
    (idx t60.l t61).bind fun z_1 =>
    if (decide (z_1 < 0)) then
      some (.out (.inl false))
    else
      if (decide (z_1 > 32767)) then
        some (.out (.inl false))
      else
        some (.next (IntKind.wrap .i64 (t61 + 1)))
  else
    some (.out (.inr ()))
noncomputable def segs_May_j26 (s1 : SegDef) : Option Bool :=
  (loopO (fun x : Int => segs_May_l30 ({ a0 := s1.Name, a1 := s1.Class, a2 := s1.Overlay } : (A3 Int)) x) 0).bind fun e_1 =>
  match e_1 with
  | .inl e_2 =>
    some e_2
  | .inr e_3 =>
    some true
noncomputable def segs_May_j18 (s1 : SegDef) : Option Bool :=
  if (s1.Align != 0) then
    if (s1.Frame != 0) then
      some false
    else
      if (s1.Offset != 0) then
        some false
      else
        segs_May_j26 s1
  else
    segs_May_j26 s1
/-- hansom/segs.May -/
noncomputable def segs_May (s_ : SegDef) : Option Bool :=
  if (decide (s_.Align < 0)) then
    some false
  else
    if (decide (s_.Align > 4)) then
      some false
    else
      if (decide (s_.Len < 0)) then
        some false
      else
        if (decide (s_.Len > 65536)) then
          some false
        else
          if (s_.Combine != 0) then
            if (s_.Combine != 2) then
              if (s_.Combine != 5) then
                if (s_.Combine != 6) then
                  some false
                else
                  segs_May_j18 s_
              else
                segs_May_j18 s_
            else
              segs_May_j18 s_
          else
            segs_May_j18 s_
/-- hansom/omf.named -/
noncomputable def omf_named (m_ : Module) (n_ : Int) : Option Bool :=
  if (decide (n_ ≥ 0)) then
    some (decide (n_ ≤ (m_.Names.length : Int)))
  else
    some false
/-- hansom/omf.in -/
noncomputable def omf_in (n_ : Int) (many_ : Int) : Option Bool :=
  if (decide (n_ ≥ 1)) then
    some (decide (n_ ≤ many_))
  else
    some false
/-- hansom/omf.way -/
noncomputable def omf_way (m_ : Module) (by_ : Int) (n_ : Int) : Option Bool :=
  if (by_ == 0) then
    (omf_in n_ (m_.Segs.length : Int)).bind fun r_1 =>
    some r_1
  else
    if (by_ == 1) then
      (omf_in n_ (m_.Groups.length : Int)).bind fun r_2 =>
      some r_2
    else
      if (by_ == 2) then
        (omf_in n_ (m_.Exts.length : Int)).bind fun r_3 =>
        some r_3
      else
        some true
noncomputable def omf_fixes_l6 (m2 : Module) (t7 : (List Fixup)) (t8 : Int) (t9 : Int) : Option (Lp Int (Bool ⊕ Unit)) :=
  if (decide (t9 < t8)) then
    (idx t7 t9).bind fun z_1 =>
    (omf_way m2 z_1.Frame z_1.FrameN).bind fun r_1 =>
    if (!r_1) then
      some (.out (.inl false))
    else
      (omf_way m2 z_1.Target z_1.N).bind fun r_2 =>
      if (!r_2) then
        some (.out (.inl false))
      else
        some (.next (IntKind.wrap .i64 (t9 + 1)))
  else
    some (.out (.inr ()))
/-- hansom/omf.fixes -/
noncomputable def omf_fixes (m_ : Module) (l_ : (List Fixup)) : Option Bool :=
  (loopO (fun x : Int => omf_fixes_l6 m_ l_ (l_.length : Int) x) 0).bind fun e_1 =>
  match e_1 with
  | .inl e_2 =>
    some e_2
  | .inr e_3 =>
    some true
/-- hansom/fixup.Size -/
noncomputable def fixup_Size (loc_ : Int) : Option Int :=
  if (loc_ == 0) then
    some 1
  else
    if (loc_ == 4) then
      some 1
    else
      if (loc_ == 3) then
        some 4
      else
        some 2
/-- hansom/fixup.by -/
noncomputable def fixup_by (n_ : Int) : Option Bool :=
  if (decide (n_ ≥ 0)) then
    some (decide (n_ ≤ 2))
  else
    some false
noncomputable def fixup_May_j18 (f2 : Fixup) : Option Bool :=
  (fixup_by f2.Target).bind fun r_2 =>
  if (!r_2) then
    some false
  else
    if (decide (f2.N < 1)) then
      some false
    else
      if (decide (f2.N > 32767)) then
        some false
      else
        (fixup_by f2.Frame).bind fun r_3 =>
        if r_3 then
          if (decide (f2.FrameN ≥ 1)) then
            some (decide (f2.FrameN ≤ 32767))
          else
            some false
        else
          if (f2.Frame == 4) then
            some (f2.FrameN == 0)
          else
            if (f2.Frame == 5) then
              some (f2.FrameN == 0)
            else
              some false
/-- hansom/fixup.May -/
noncomputable def fixup_May (f_ : Fixup) (n_ : Int) : Option Bool :=
  if (decide (f_.Loc < 0)) then
    some false
  else
    if (decide (f_.Loc > 4)) then
      some false
    else
      if (decide (f_.At < 0)) then
        some false
      else
        if (decide (f_.At ≥ 1024)) then
          some false
        else
          (fixup_Size f_.Loc).bind fun r_1 =>
          if (decide (f_.At > (IntKind.wrap .i64 (n_ - r_1)))) then
            some false
          else
            if f_.Self then
              if (f_.Loc == 2) then
                some false
              else
                if (f_.Loc == 3) then
                  some false
                else
                  if (f_.Loc == 4) then
                    some false
                  else
                    fixup_May_j18 ({ f_ with Self := true } : Fixup)
            else
              fixup_May_j18 ({ f_ with Self := false } : Fixup)
noncomputable def omf_rest_l36 (m1 : Module) (d4 : Data) (t8 : (List Data)) (t9 : Int) (t10 : Int) (t45 : (List Fixup)) (t46 : Int) (t47 : Int) : Option (Lp Int (Int ⊕ Unit)) :=
  if (decide (t47 < t46)) then
    (idx t45 t47).bind fun z_3 =>
    (fixup_May z_3 (d4.Bytes.length : Int)).bind fun r_3 =>
    if (!r_3) then
      some (.out (.inl 3))
    else
      some (.next (IntKind.wrap .i64 (t47 + 1)))
  else
    some (.out (.inr ()))
noncomputable def omf_rest_l6 (m1 : Module) (t8 : (List Data)) (t9 : Int) (t10 : Int) : Option (Lp Int (Int ⊕ Unit)) :=
  if (decide (t10 < t9)) then
    (idx t8 t10).bind fun z_1 =>
    (omf_in z_1.Seg (m1.Segs.length : Int)).bind fun r_1 =>
    if (!r_1) then
      some (.out (.inl 5))
    else
      (omf_fixes m1 z_1.Fixups).bind fun r_2 =>
      if (!r_2) then
        some (.out (.inl 5))
      else
        (idx m1.Segs (IntKind.wrap .i64 (z_1.Seg - 1))).bind fun z_2 =>
        if (decide ((IntKind.wrap .i64 ((IntKind.wrap .i64 z_1.Off) + (z_1.Bytes.length : Int))) > z_2.Len)) then
          some (.out (.inl 3))
        else
          (loopO (fun x : Int => omf_rest_l36 m1 z_1 t8 t9 t10 z_1.Fixups (z_1.Fixups.length : Int) x) 0).bind fun e_1 =>
          match e_1 with
          | .inl e_2 =>
            some (.out (.inl e_2))
          | .inr e_3 =>
            some (.next (IntKind.wrap .i64 (t10 + 1)))
  else
    some (.out (.inr ()))
noncomputable def omf_rest_j60 (m1 : Module) (t59 : Bool) : Option Int :=
  if t59 then
    some 3
  else
    if (!m1.Is) then
      some 0
    else
      (omf_fixes m1 ([m1.Start] : List Fixup)).bind fun r_1 =>
      if (!r_1) then
        some 5
      else
        if (m1.Start.Loc != 0) then
          some 3
        else
          if (m1.Start.At != 0) then
            some 3
          else
            if m1.Start.Self then
              some 3
            else
              if (m1.Start.Frame == 4) then
                some 3
              else
                (fixup_May m1.Start 1).bind fun r_2 =>
                if (!r_2) then
                  some 3
                else
                  some 0
/-- hansom/omf.rest -/
noncomputable def omf_rest (m_ : Module) : Option Int :=
  (loopO (fun x : Int => omf_rest_l6 m_ m_.Datas (m_.Datas.length : Int) x) 0).bind fun e_1 =>
  match e_1 with
  | .inl e_2 =>
    some e_2
  | .inr e_3 =>
    if (!m_.Is) then
      omf_rest_j60 m_ (!(m_.Start.At == 0 && (m_.Start.Loc == 0 && (m_.Start.Self == false && (m_.Start.Frame == 0 && (m_.Start.FrameN == 0 && (m_.Start.Target == 0 && (m_.Start.N == 0 && (m_.Start.Disp == 0 && true)))))))))
    else
      omf_rest_j60 m_ false
noncomputable def omf_Check_l14 (m1 : Module) (t15 : (List SegDef)) (t16 : Int) (t17 : Int) : Option (Lp Int (Int ⊕ Unit)) :=
  if (decide (t17 < t16)) then
    (idx t15 t17).bind fun z_1 =>
    (segs_May z_1).bind fun r_2 =>
    if (!r_2) then
      some (.out (.inl 3))
    else
      (omf_named m1 z_1.Name).bind fun r_3 =>
      if (!r_3) then
        some (.out (.inl 5))
      else
        (omf_named m1 z_1.Class).bind fun r_4 =>
        if (!r_4) then
          some (.out (.inl 5))
        else
          (omf_named m1 z_1.Overlay).bind fun r_5 =>
          if (!r_5) then
            some (.out (.inl 5))
          else
            some (.next (IntKind.wrap .i64 (t17 + 1)))
  else
    some (.out (.inr ()))
noncomputable def omf_Check_l67 (m1 : Module) (t45 : (List GrpDef)) (t46 : Int) (t47 : Int) (t57 : (List Int)) (t58 : Int) (t59 : Int) : Option (Lp Int (Int ⊕ Unit)) :=
  if (decide (t59 < t58)) then
    (idx t57 t59).bind fun z_2 =>
    (omf_in z_2 (m1.Segs.length : Int)).bind fun r_3 =>
    if (!r_3) then
      some (.out (.inl 5))
    else
      some (.next (IntKind.wrap .i64 (t59 + 1)))
  else
    some (.out (.inr ()))
noncomputable def omf_Check_l45 (m1 : Module) (t45 : (List GrpDef)) (t46 : Int) (t47 : Int) : Option (Lp Int (Int ⊕ Unit)) :=
  if (decide (t47 < t46)) then
    (idx t45 t47).bind fun z_1 =>
    (omf_named m1 z_1.Name).bind fun r_2 =>
    if (!r_2) then
      some (.out (.inl 5))
    else
      (loopO (fun x : Int => omf_Check_l67 m1 t45 t46 t47 z_1.Segs (z_1.Segs.length : Int) x) 0).bind fun e_4 =>
      match e_4 with
      | .inl e_5 =>
        some (.out (.inl e_5))
      | .inr e_6 =>
        some (.next (IntKind.wrap .i64 (t47 + 1)))
  else
    some (.out (.inr ()))
noncomputable def omf_Check_l91 (m1 : Module) (t72 : (List Pub)) (t73 : Int) (t74 : Int) : Option (Lp Int (Int ⊕ Unit)) :=
  if (decide (t74 < t73)) then
    (idx t72 t74).bind fun z_1 =>
    if (decide (z_1.Group < 0)) then
      some (.out (.inl 5))
    else
      if (decide (z_1.Group > (m1.Groups.length : Int))) then
        some (.out (.inl 5))
      else
        if (decide (z_1.Seg < 0)) then
          some (.out (.inl 5))
        else
          if (decide (z_1.Seg > (m1.Segs.length : Int))) then
            some (.out (.inl 5))
          else
            some (.next (IntKind.wrap .i64 (t74 + 1)))
  else
    some (.out (.inr ()))
/-- hansom/omf.Check -/
noncomputable def omf_Check (m_ : Module) : Option Int :=
  (omf_many m_).bind fun r_1 =>
  if (!r_1) then
    some 8
  else
    (loopO (fun x : Int => omf_Check_l14 m_ m_.Segs (m_.Segs.length : Int) x) 0).bind fun e_1 =>
    match e_1 with
    | .inl e_2 =>
      some e_2
    | .inr e_3 =>
      (loopO (fun x : Int => omf_Check_l45 m_ m_.Groups (m_.Groups.length : Int) x) 0).bind fun e_4 =>
      match e_4 with
      | .inl e_5 =>
        some e_5
      | .inr e_6 =>
        (loopO (fun x : Int => omf_Check_l91 m_ m_.Pubs (m_.Pubs.length : Int) x) 0).bind fun e_7 =>
        match e_7 with
        | .inl e_8 =>
          some e_8
        | .inr e_9 =>
          (omf_rest m_).bind fun r_2 =>
          some r_2
/-- hansom/omf.Records -/
noncomputable def omf_Records (m_ : Module) : Option ((List Record) × Int) :=
  (omf_Check m_).bind fun r_1 =>
  if (r_1 != 0) then
    some (([] : List Record), r_1)
  else
    none
/-- hansom/omf.Write -/
noncomputable def omf_Write (m_ : Module) : Option ((List Int) × Int) :=
  (omf_Records m_).bind fun r_1 =>
  if (r_1.2 != 0) then
    some (([] : List Int), r_1.2)
  else
    none
/-- hansom/omf.Name -/
noncomputable def omf_Name (m_ : Module) (n_ : Int) : Option (List UInt8) :=
  (omf_in n_ (m_.Names.length : Int)).bind fun r_1 =>
  if (!r_1) then
    some ([] : List UInt8)
  else
    (idx m_.Names (IntKind.wrap .i64 (n_ - 1))).bind fun z_1 =>
    some z_1
def hansomlaw26_awake : Option Bool := some true

noncomputable def hansomlaw26_OmfCheck_j37 (x7 : Module) (k8 : Int) (want9 : Int) : Option Bool :=
  (omf_Write x7).bind fun r_2 =>
  (hansomlaw26_awake).bind fun r_3 =>
  if r_3 then
    (omf_Check x7).bind fun r_4 =>
    if (r_4 == want9) then
      if (r_2.2 == want9) then
        if ((r_2.1.length : Int) == 0) then
          (omf_Name x7 (IntKind.wrap .i64 ((x7.Names.length : Int) + k8))).bind fun r_5 =>
          if (r_5 == ([] : List UInt8)) then
            (omf_Name x7 0).bind fun r_6 =>
            some (r_6 == ([] : List UInt8))
          else
            some false
        else
          some false
      else
        some false
    else
      some false
  else
    some false
/-- hansom/hansomlaw26.OmfCheck -/
noncomputable def hansomlaw26_OmfCheck (m_ : Module) (kind_ : Int) (n_ : Int) : Option Bool :=
  (hansomref26_Near m_).bind fun r_1 =>
  if ((Int.tmod (bitsOp .and .i64 kind_ 15) 6) == 0) then
    (grow 56 r_1.Segs ([({ Align := 1, Combine := 0, Frame := 0, Offset := 0, Len := 0, Name := (IntKind.wrap .i64 ((r_1.Names.length : Int) + (IntKind.wrap .i64 ((bitsOp .and .i64 n_ 255) + 1)))), Class := 0, Overlay := 0 } : SegDef)] : List SegDef)).bind fun z_1 =>
    hansomlaw26_OmfCheck_j37 ({ r_1 with Segs := z_1 } : Module) (IntKind.wrap .i64 ((bitsOp .and .i64 n_ 255) + 1)) 5
  else
    if ((Int.tmod (bitsOp .and .i64 kind_ 15) 6) == 1) then
      (grow 32 r_1.Groups ([({ Name := 1, Segs := ([(IntKind.wrap .i64 ((r_1.Segs.length : Int) + (IntKind.wrap .i64 ((bitsOp .and .i64 n_ 255) + 1))))] : List Int) } : GrpDef)] : List GrpDef)).bind fun z_2 =>
      hansomlaw26_OmfCheck_j37 ({ r_1 with Groups := z_2 } : Module) (IntKind.wrap .i64 ((bitsOp .and .i64 n_ 255) + 1)) 5
    else
      if ((Int.tmod (bitsOp .and .i64 kind_ 15) 6) == 2) then
        (grow 48 r_1.Pubs ([({ Group := 0, Seg := (IntKind.wrap .i64 ((r_1.Segs.length : Int) + (IntKind.wrap .i64 ((bitsOp .and .i64 n_ 255) + 1)))), Frame := 0, Name := [], Off := 0 } : Pub)] : List Pub)).bind fun z_3 =>
        hansomlaw26_OmfCheck_j37 ({ r_1 with Pubs := z_3 } : Module) (IntKind.wrap .i64 ((bitsOp .and .i64 n_ 255) + 1)) 5
      else
        if ((Int.tmod (bitsOp .and .i64 kind_ 15) 6) == 3) then
          (grow 64 r_1.Datas ([({ Seg := (IntKind.wrap .i64 ((r_1.Segs.length : Int) + (IntKind.wrap .i64 ((bitsOp .and .i64 n_ 255) + 1)))), Off := 0, Bytes := ([1] : List Int), Fixups := ([] : List Fixup) } : Data)] : List Data)).bind fun z_4 =>
          hansomlaw26_OmfCheck_j37 ({ r_1 with Datas := z_4 } : Module) (IntKind.wrap .i64 ((bitsOp .and .i64 n_ 255) + 1)) 5
        else
          if ((Int.tmod (bitsOp .and .i64 kind_ 15) 6) == 4) then
            (idx r_1.Segs 0).bind fun z_5 =>
            (grow 64 r_1.Datas ([({ Seg := 1, Off := (IntKind.wrap .u16 z_5.Len), Bytes := ([1] : List Int), Fixups := ([] : List Fixup) } : Data)] : List Data)).bind fun z_6 =>
            hansomlaw26_OmfCheck_j37 ({ r_1 with Datas := z_6 } : Module) (IntKind.wrap .i64 ((bitsOp .and .i64 n_ 255) + 1)) 3
          else
            (growZ 56 ({ Align := 0, Combine := 0, Frame := 0, Offset := 0, Len := 0, Name := 0, Class := 0, Overlay := 0 } : SegDef) r_1.Segs 64).bind fun z_7 =>
            hansomlaw26_OmfCheck_j37 ({ r_1 with Segs := z_7 } : Module) (IntKind.wrap .i64 ((bitsOp .and .i64 n_ 255) + 1)) 8
end Go.Es.Omc
