/- What the functions that the law PoolNames reaches answer, in plain Lean. No condition. -/
import Derived.Test.YtikbjljifgadmaaEsD
set_option linter.unusedVariables false
set_option linter.unusedSimpArgs false
set_option maxRecDepth 100000
set_option maxHeartbeats 4000000
namespace Go.Es.Pln
structure Fixup where
  At : Int
  Loc : Int
  Self : Bool
  Frame : Int
  FrameN : Int
  Target : Int
  N : Int
  Disp : Int
  deriving DecidableEq, Inhabited
def Fixup.cs (x : Fixup) : List D := [.int .i64 x.At, .int .i64 x.Loc, .bool x.Self, .int .i64 x.Frame, .int .i64 x.FrameN, .int .i64 x.Target, .int .i64 x.N, .int .u16 x.Disp]
def Fixup.d (x : Fixup) : D := .agg (Fixup.cs x)
structure Comment where
  Flags : Int
  Class : Int
  Text : (List UInt8)
  deriving DecidableEq, Inhabited
def Comment.cs (x : Comment) : List D := [.int .u8 x.Flags, .int .u8 x.Class, .str x.Text]
def Comment.d (x : Comment) : D := .agg (Comment.cs x)
structure SegDef where
  Align : Int
  Combine : Int
  Frame : Int
  Offset : Int
  Len : Int
  Name : Int
  Class : Int
  Overlay : Int
  deriving DecidableEq, Inhabited
def SegDef.cs (x : SegDef) : List D := [.int .i64 x.Align, .int .i64 x.Combine, .int .u16 x.Frame, .int .u8 x.Offset, .int .i64 x.Len, .int .i64 x.Name, .int .i64 x.Class, .int .i64 x.Overlay]
def SegDef.d (x : SegDef) : D := .agg (SegDef.cs x)
structure GrpDef where
  Name : Int
  Segs : (List Int)
  deriving DecidableEq, Inhabited
def GrpDef.cs (x : GrpDef) : List D := [.int .i64 x.Name, .sl (List.map (D.int .i64) x.Segs)]
def GrpDef.d (x : GrpDef) : D := .agg (GrpDef.cs x)
structure Ext where
  Name : (List UInt8)
  Com : Int
  Len : Int
  deriving DecidableEq, Inhabited
def Ext.cs (x : Ext) : List D := [.str x.Name, .int .i64 x.Com, .int .u32 x.Len]
def Ext.d (x : Ext) : D := .agg (Ext.cs x)
structure Pub where
  Group : Int
  Seg : Int
  Frame : Int
  Name : (List UInt8)
  Off : Int
  deriving DecidableEq, Inhabited
def Pub.cs (x : Pub) : List D := [.int .i64 x.Group, .int .i64 x.Seg, .int .u16 x.Frame, .str x.Name, .int .u16 x.Off]
def Pub.d (x : Pub) : D := .agg (Pub.cs x)
structure Data where
  Seg : Int
  Off : Int
  Bytes : (List Int)
  Fixups : (List Fixup)
  deriving DecidableEq, Inhabited
def Data.cs (x : Data) : List D := [.int .i64 x.Seg, .int .u16 x.Off, .sl (List.map (D.int .u8) x.Bytes), .sl (List.map Fixup.d x.Fixups)]
def Data.d (x : Data) : D := .agg (Data.cs x)
structure Module where
  Name : (List UInt8)
  Notes : (List Comment)
  Names : (List (List UInt8))
  Segs : (List SegDef)
  Groups : (List GrpDef)
  Exts : (List Ext)
  Pubs : (List Pub)
  Datas : (List Data)
  Main : Bool
  Is : Bool
  Start : Fixup
  deriving Inhabited
def Module.cs (x : Module) : List D := [.str x.Name, .sl (List.map Comment.d x.Notes), .sl (List.map D.str x.Names), .sl (List.map SegDef.d x.Segs), .sl (List.map GrpDef.d x.Groups), .sl (List.map Ext.d x.Exts), .sl (List.map Pub.d x.Pubs), .sl (List.map Data.d x.Datas), .bool x.Main, .bool x.Is, .int .i64 x.Start.At, .int .i64 x.Start.Loc, .bool x.Start.Self, .int .i64 x.Start.Frame, .int .i64 x.Start.FrameN, .int .i64 x.Start.Target, .int .i64 x.Start.N, .int .u16 x.Start.Disp]
def Module.d (x : Module) : D := .agg (Module.cs x)
structure Given where
  Mod : Int
  N : Int
  Com : Bool
  deriving DecidableEq, Inhabited
def Given.cs (x : Given) : List D := [.int .i64 x.Mod, .int .i64 x.N, .bool x.Com]
def Given.d (x : Given) : D := .agg (Given.cs x)
def Fixup.wf (x : Fixup) : Prop := wfI .i64 x.At ∧ wfI .i64 x.Loc ∧ (fun _ => True) x.Self ∧ wfI .i64 x.Frame ∧ wfI .i64 x.FrameN ∧ wfI .i64 x.Target ∧ wfI .i64 x.N ∧ wfI .u16 x.Disp
def Comment.wf (x : Comment) : Prop := wfI .u8 x.Flags ∧ wfI .u8 x.Class ∧ wfS x.Text
def SegDef.wf (x : SegDef) : Prop := wfI .i64 x.Align ∧ wfI .i64 x.Combine ∧ wfI .u16 x.Frame ∧ wfI .u8 x.Offset ∧ wfI .i64 x.Len ∧ wfI .i64 x.Name ∧ wfI .i64 x.Class ∧ wfI .i64 x.Overlay
def GrpDef.wf (x : GrpDef) : Prop := wfI .i64 x.Name ∧ wfL (wfI .i64) x.Segs
def Ext.wf (x : Ext) : Prop := wfS x.Name ∧ wfI .i64 x.Com ∧ wfI .u32 x.Len
def Pub.wf (x : Pub) : Prop := wfI .i64 x.Group ∧ wfI .i64 x.Seg ∧ wfI .u16 x.Frame ∧ wfS x.Name ∧ wfI .u16 x.Off
def Data.wf (x : Data) : Prop := wfI .i64 x.Seg ∧ wfI .u16 x.Off ∧ wfL (wfI .u8) x.Bytes ∧ wfL Fixup.wf x.Fixups
def Module.wf (x : Module) : Prop := wfS x.Name ∧ wfL Comment.wf x.Notes ∧ wfL wfS x.Names ∧ wfL SegDef.wf x.Segs ∧ wfL GrpDef.wf x.Groups ∧ wfL Ext.wf x.Exts ∧ wfL Pub.wf x.Pubs ∧ wfL Data.wf x.Datas ∧ (fun _ => True) x.Main ∧ (fun _ => True) x.Is ∧ Fixup.wf x.Start
def Given.wf (x : Given) : Prop := wfI .i64 x.Mod ∧ wfI .i64 x.N ∧ (fun _ => True) x.Com
/-- hansom/hansomlaw39.awake -/
noncomputable def hansomlaw39_awake : Option Bool := some true
/-- hansom/hansomlaw39.name -/
noncomputable def hansomlaw39_name (n_ : Int) : Option (List UInt8) :=
  some (b2s ([(IntKind.wrap .u8 (IntKind.wrap .i64 (65 + (bitsOp .and .i64 n_ 7))))] : List Int))
/-- hansom/hansomref26.cut -/
noncomputable def hansomref26_cut (s_ : (List UInt8)) : Option (List UInt8) :=
  (cutL s_ 0 (mnI (s_.length : Int) 12)).bind fun z_1 =>
  some z_1
noncomputable def hansomref26_base_l10 (m1 : Module) (x2 : Module) (i3 : Int) : Option (Lp (Module × Int) Module) :=
  if (decide (i3 < (m1.Names.length : Int))) then
    if (decide (i3 < 4)) then
      (idx m1.Names i3).bind fun z_1 =>
      (hansomref26_cut z_1).bind fun r_2 =>
      (grow 16 x2.Names ([r_2] : List (List UInt8))).bind fun z_2 =>
      some (.next (({ x2 with Names := z_2 } : Module), (IntKind.wrap .i64 (i3 + 1))))
    else
      some (.out x2)
  else
    some (.out x2)
noncomputable def hansomref26_base_l27 (m1 : Module) (x2 : Module) (n4 : Int) (i5 : Int) : Option (Lp (Module × Int) Module) :=
  if (decide (i5 < (m1.Notes.length : Int))) then
    if (decide (i5 < 2)) then
      (idx m1.Notes i5).bind fun z_1 =>
      (hansomref26_cut z_1.Text).bind fun r_2 =>
      (grow 24 x2.Notes ([({ Flags := z_1.Flags, Class := z_1.Class, Text := r_2 } : Comment)] : List Comment)).bind fun z_2 =>
      some (.next (({ x2 with Notes := z_2 } : Module), (IntKind.wrap .i64 (i5 + 1))))
    else
      some (.out x2)
  else
    some (.out x2)
noncomputable def hansomref26_base_j63 (m1 : Module) (x2 : Module) (s8 : SegDef) (n4 : Int) (i7 : Int) : Option (Lp (Module × Int) Module) :=
  (idx ([0, 2, 5, 6] : List Int) (bitsOp .and .i64 s8.Combine 3)).bind fun z_2 =>
  (remI .i64 (bitsOp .and .i64 s8.Name 255) (IntKind.wrap .i64 (n4 + 1))).bind fun z_3 =>
  (remI .i64 (bitsOp .and .i64 s8.Class 255) (IntKind.wrap .i64 (n4 + 1))).bind fun z_4 =>
  (grow 56 x2.Segs ([({ Align := (IntKind.wrap .i64 ((bitsOp .and .i64 s8.Align 3) + 1)), Combine := z_2, Frame := 0, Offset := 0, Len := (IntKind.wrap .i64 ((bitsOp .and .i64 s8.Len 63) + 8)), Name := z_3, Class := z_4, Overlay := 1 } : SegDef)] : List SegDef)).bind fun z_5 =>
  some (.next (({ x2 with Segs := z_5 } : Module), (IntKind.wrap .i64 (i7 + 1))))
noncomputable def hansomref26_base_j53 (m1 : Module) (x2 : Module) (n4 : Int) (i7 : Int) : Option (Lp (Module × Int) Module) :=
  if (decide (i7 < (m1.Segs.length : Int))) then
    (idx m1.Segs i7).bind fun z_1 =>
    hansomref26_base_j63 m1 x2 z_1 n4 i7
  else
    hansomref26_base_j63 m1 x2 ({ Align := 0, Combine := 0, Frame := 0, Offset := 0, Len := 0, Name := 0, Class := 0, Overlay := 0 } : SegDef) n4 i7
noncomputable def hansomref26_base_l46 (m1 : Module) (x2 : Module) (n4 : Int) (i7 : Int) : Option (Lp (Module × Int) Module) :=
  if (i7 == 0) then
    hansomref26_base_j53 m1 x2 n4 i7
  else
    if (decide (i7 < (m1.Segs.length : Int))) then
      if (decide (i7 < 4)) then
        hansomref26_base_j53 m1 x2 n4 i7
      else
        some (.out x2)
    else
      some (.out x2)
noncomputable def hansomref26_base_l84 (m1 : Module) (x2 : Module) (g10 : GrpDef) (n4 : Int) (i9 : Int) (k11 : Int) : Option (Lp (GrpDef × Int) GrpDef) :=
  (idx m1.Groups i9).bind fun z_3 =>
  if (decide (k11 < (z_3.Segs.length : Int))) then
    if (decide (k11 < 3)) then
      (idx m1.Groups i9).bind fun z_4 =>
      (idx z_4.Segs k11).bind fun z_5 =>
      (remI .i64 (bitsOp .and .i64 z_5 255) (x2.Segs.length : Int)).bind fun z_6 =>
      (grow 8 g10.Segs ([(IntKind.wrap .i64 (z_6 + 1))] : List Int)).bind fun z_7 =>
      some (.next (({ Name := g10.Name, Segs := z_7 } : GrpDef), (IntKind.wrap .i64 (k11 + 1))))
    else
      some (.out g10)
  else
    some (.out g10)
noncomputable def hansomref26_base_l69 (m1 : Module) (x2 : Module) (n4 : Int) (i9 : Int) : Option (Lp (Module × Int) Module) :=
  if (decide (i9 < (m1.Groups.length : Int))) then
    if (decide (i9 < 2)) then
      (idx m1.Groups i9).bind fun z_1 =>
      (remI .i64 (bitsOp .and .i64 z_1.Name 255) n4).bind fun z_2 =>
      (loopO (fun x : (GrpDef × Int) => hansomref26_base_l84 m1 x2 x.1 n4 i9 x.2) (({ Name := (IntKind.wrap .i64 (z_2 + 1)), Segs := ([] : List Int) } : GrpDef), 0)).bind fun e_4 =>
      (grow 32 x2.Groups ([e_4] : List GrpDef)).bind fun z_3 =>
      some (.next (({ x2 with Groups := z_3 } : Module), (IntKind.wrap .i64 (i9 + 1))))
    else
      some (.out x2)
  else
    some (.out x2)
/-- hansom/hansomref26.base -/
noncomputable def hansomref26_base (m_ : Module) : Option Module :=
  (hansomref26_cut m_.Name).bind fun r_1 =>
  (loopO (fun x : (Module × Int) => hansomref26_base_l10 m_ x.1 x.2) (({ Name := r_1, Notes := ([] : List Comment), Names := ([([] : List UInt8)] : List (List UInt8)), Segs := ([] : List SegDef), Groups := ([] : List GrpDef), Exts := ([] : List Ext), Pubs := ([] : List Pub), Datas := ([] : List Data), Main := false, Is := false, Start := ({ At := 0, Loc := 0, Self := false, Frame := 0, FrameN := 0, Target := 0, N := 0, Disp := 0 } : Fixup) } : Module), 0)).bind fun e_1 =>
  (loopO (fun x : (Module × Int) => hansomref26_base_l27 m_ x.1 (e_1.Names.length : Int) x.2) (e_1, 0)).bind fun e_2 =>
  (loopO (fun x : (Module × Int) => hansomref26_base_l46 m_ x.1 (e_1.Names.length : Int) x.2) (e_2, 0)).bind fun e_3 =>
  (loopO (fun x : (Module × Int) => hansomref26_base_l69 m_ x.1 (e_1.Names.length : Int) x.2) (e_3, 0)).bind fun e_4 =>
  some e_4
/-- hansom/hansomref25.Size -/
noncomputable def hansomref25_Size (loc_ : Int) : Option Int :=
  if (loc_ == 0) then
    some 1
  else
    if (loc_ == 4) then
      some 1
    else
      if (loc_ == 3) then
        some 4
      else
        some 2
noncomputable def hansomref25_Near_l12 (f3 : Fixup) (many5 : (A3 Int)) (x6 : Fixup) : Option (Lp Fixup Fixup) :=
  (idx many5.l x6.Target).bind fun z_2 =>
  if (z_2 == 0) then
    some (.next ({ x6 with Target := (Int.tmod (IntKind.wrap .i64 (x6.Target + 1)) 3) } : Fixup))
  else
    some (.out x6)
noncomputable def hansomref25_Near_j33 (f3 : Fixup) (many5 : (A3 Int)) (x6 : Fixup) : Option Fixup :=
  (idx many5.l x6.Target).bind fun z_3 =>
  (remI .i64 (bitsOp .and .i64 f3.N 255) z_3).bind fun z_4 =>
  if (decide (x6.Frame < 3)) then
    (idx many5.l x6.Frame).bind fun z_5 =>
    (remI .i64 (bitsOp .and .i64 f3.FrameN 255) z_5).bind fun z_6 =>
    some ({ x6 with FrameN := (IntKind.wrap .i64 (z_6 + 1)), N := (IntKind.wrap .i64 (z_4 + 1)), Disp := f3.Disp } : Fixup)
  else
    some ({ x6 with N := (IntKind.wrap .i64 (z_4 + 1)), Disp := f3.Disp } : Fixup)
noncomputable def hansomref25_Near_j27 (f3 : Fixup) (many5 : (A3 Int)) (x6 : Fixup) : Option Fixup :=
  if (decide (x6.Frame < 3)) then
    (idx many5.l x6.Frame).bind fun z_2 =>
    if (z_2 == 0) then
      hansomref25_Near_j33 f3 many5 ({ x6 with Frame := 5 } : Fixup)
    else
      hansomref25_Near_j33 f3 many5 x6
  else
    hansomref25_Near_j33 f3 many5 x6
noncomputable def hansomref25_Near_j6 (f3 : Fixup) (many5 : (A3 Int)) (x6 : Fixup) (n1 : Int) : Option Fixup :=
  (hansomref25_Size x6.Loc).bind fun r_1 =>
  (remI .i64 (bitsOp .and .i64 f3.At 65535) (mnI (IntKind.wrap .i64 ((IntKind.wrap .i64 (n1 - r_1)) + 1)) 1024)).bind fun z_1 =>
  (loopO (fun x : Fixup => hansomref25_Near_l12 f3 many5 x) ({ x6 with At := z_1, Frame := (Int.tmod (bitsOp .and .i64 f3.Frame 255) 5), Target := (Int.tmod (bitsOp .and .i64 f3.Target 255) 3) } : Fixup)).bind fun e_1 =>
  if (e_1.Frame == 3) then
    hansomref25_Near_j27 f3 many5 ({ e_1 with Frame := 5 } : Fixup)
  else
    hansomref25_Near_j27 f3 many5 e_1
/-- hansom/hansomref25.Near -/
noncomputable def hansomref25_Near (f_ : Fixup) (n_ : Int) (many_ : (A3 Int)) : Option Fixup :=
  if f_.Self then
    hansomref25_Near_j6 ({ f_ with Self := true } : Fixup) many_ ({ At := 0, Loc := (Int.tmod (bitsOp .and .i64 f_.Loc 255) 5), Self := (decide ((Int.tmod (bitsOp .and .i64 f_.Loc 255) 5) < 2)), Frame := 0, FrameN := 0, Target := 0, N := 0, Disp := 0 } : Fixup) n_
  else
    hansomref25_Near_j6 ({ f_ with Self := false } : Fixup) many_ ({ At := 0, Loc := (Int.tmod (bitsOp .and .i64 f_.Loc 255) 5), Self := false, Frame := 0, FrameN := 0, Target := 0, N := 0, Disp := 0 } : Fixup) n_
noncomputable def hansomref26_Near_l8 (m1 : Module) (x2 : Module) (i3 : Int) : Option (Lp (Module × Int) Module) :=
  if (decide (i3 < (m1.Exts.length : Int))) then
    if (decide (i3 < 3)) then
      (idx m1.Exts i3).bind fun z_1 =>
      (hansomref26_cut z_1.Name).bind fun r_2 =>
      (idx m1.Exts i3).bind fun z_2 =>
      if ((bitsOp .and .i64 z_2.Com 1) == 1) then
        (idx m1.Exts i3).bind fun z_3 =>
        (idx m1.Exts i3).bind fun z_4 =>
        (grow 32 x2.Exts ([({ Name := r_2, Com := (IntKind.wrap .i64 (97 + (bitsOp .and .i64 (shrI .i64 z_3.Com 1) 1))), Len := (bitsOp .and .u32 z_4.Len 1023) } : Ext)] : List Ext)).bind fun z_5 =>
        some (.next (({ x2 with Exts := z_5 } : Module), (IntKind.wrap .i64 (i3 + 1))))
      else
        (grow 32 x2.Exts ([({ Name := r_2, Com := 0, Len := 0 } : Ext)] : List Ext)).bind fun z_6 =>
        some (.next (({ x2 with Exts := z_6 } : Module), (IntKind.wrap .i64 (i3 + 1))))
    else
      some (.out x2)
  else
    some (.out x2)
noncomputable def hansomref26_Near_l31 (m1 : Module) (x2 : Module) (i5 : Int) : Option (Lp (Module × Int) Module) :=
  if (decide (i5 < (m1.Pubs.length : Int))) then
    if (decide (i5 < 3)) then
      (idx m1.Pubs i5).bind fun z_1 =>
      (remI .i64 (bitsOp .and .i64 z_1.Group 255) (IntKind.wrap .i64 ((x2.Groups.length : Int) + 1))).bind fun z_2 =>
      (remI .i64 (bitsOp .and .i64 z_1.Seg 255) (IntKind.wrap .i64 ((x2.Segs.length : Int) + 1))).bind fun z_3 =>
      (hansomref26_cut z_1.Name).bind fun r_2 =>
      if (z_3 == 0) then
        (grow 48 x2.Pubs ([({ z_1 with Group := z_2, Seg := z_3, Name := r_2 } : Pub)] : List Pub)).bind fun z_4 =>
        some (.next (({ x2 with Pubs := z_4 } : Module), (IntKind.wrap .i64 (i5 + 1))))
      else
        (grow 48 x2.Pubs ([({ Group := z_2, Seg := z_3, Frame := 0, Name := r_2, Off := z_1.Off } : Pub)] : List Pub)).bind fun z_5 =>
        some (.next (({ x2 with Pubs := z_5 } : Module), (IntKind.wrap .i64 (i5 + 1))))
    else
      some (.out x2)
  else
    some (.out x2)
noncomputable def hansomref26_Near_l81 (m1 : Module) (x2 : Module) (many8 : (A3 Int)) (d10 : Data) (y11 : Data) (i9 : Int) (k13 : Int) : Option (Lp (Data × Int) Data) :=
  if (decide (k13 < (d10.Fixups.length : Int))) then
    if (decide (k13 < 3)) then
      (idx d10.Fixups k13).bind fun z_7 =>
      (hansomref25_Near z_7 (y11.Bytes.length : Int) many8).bind fun r_2 =>
      (grow 64 y11.Fixups ([r_2] : List Fixup)).bind fun z_8 =>
      some (.next (({ y11 with Fixups := z_8 } : Data), (IntKind.wrap .i64 (k13 + 1))))
    else
      some (.out y11)
  else
    some (.out y11)
noncomputable def hansomref26_Near_l58 (m1 : Module) (x2 : Module) (many8 : (A3 Int)) (i9 : Int) : Option (Lp (Module × Int) Module) :=
  if (decide (i9 < (m1.Datas.length : Int))) then
    if (decide (i9 < 4)) then
      (idx m1.Datas i9).bind fun z_1 =>
      (remI .i64 (bitsOp .and .i64 z_1.Seg 255) (x2.Segs.length : Int)).bind fun z_2 =>
      (idx x2.Segs (IntKind.wrap .i64 ((IntKind.wrap .i64 (z_2 + 1)) - 1))).bind fun z_3 =>
      (remI .u16 z_1.Off (IntKind.wrap .u16 (IntKind.wrap .i64 (z_3.Len - 4)))).bind fun z_4 =>
      (cutL z_1.Bytes 0 (mnI (z_1.Bytes.length : Int) (IntKind.wrap .i64 ((IntKind.wrap .i64 (z_3.Len - 4)) - (IntKind.wrap .i64 z_4))))).bind fun z_5 =>
      (grow 1 ([(IntKind.wrap .u8 z_1.Off), 1, 2, 3] : List Int) z_5).bind fun z_6 =>
      (loopO (fun x : (Data × Int) => hansomref26_Near_l81 m1 x2 many8 z_1 x.1 i9 x.2) (({ Seg := (IntKind.wrap .i64 (z_2 + 1)), Off := z_4, Bytes := z_6, Fixups := ([] : List Fixup) } : Data), 0)).bind fun e_3 =>
      (grow 64 x2.Datas ([e_3] : List Data)).bind fun z_7 =>
      some (.next (({ x2 with Datas := z_7 } : Module), (IntKind.wrap .i64 (i9 + 1))))
    else
      some (.out x2)
  else
    some (.out x2)
/-- hansom/hansomref26.Near -/
noncomputable def hansomref26_Near (m_ : Module) : Option Module :=
  (hansomref26_base m_).bind fun r_1 =>
  (loopO (fun x : (Module × Int) => hansomref26_Near_l8 m_ x.1 x.2) (r_1, 0)).bind fun e_1 =>
  (loopO (fun x : (Module × Int) => hansomref26_Near_l31 m_ x.1 x.2) (e_1, 0)).bind fun e_2 =>
  (loopO (fun x : (Module × Int) => hansomref26_Near_l58 m_ x.1 ({ a0 := (e_2.Segs.length : Int), a1 := (e_2.Groups.length : Int), a2 := (e_2.Exts.length : Int) } : (A3 Int)) x.2) (e_2, 0)).bind fun e_3 =>
  if m_.Is then
    (hansomref25_Near m_.Start 4 ({ a0 := (e_2.Segs.length : Int), a1 := (e_2.Groups.length : Int), a2 := (e_2.Exts.length : Int) } : (A3 Int))).bind fun r_2 =>
    if (r_2.Frame == 4) then
      some ({ Name := e_3.Name, Notes := e_3.Notes, Names := e_3.Names, Segs := e_3.Segs, Groups := e_3.Groups, Exts := e_3.Exts, Pubs := e_3.Pubs, Datas := e_3.Datas, Main := m_.Main, Is := true, Start := ({ r_2 with At := 0, Loc := 0, Self := false, Frame := 5 } : Fixup) } : Module)
    else
      some ({ Name := e_3.Name, Notes := e_3.Notes, Names := e_3.Names, Segs := e_3.Segs, Groups := e_3.Groups, Exts := e_3.Exts, Pubs := e_3.Pubs, Datas := e_3.Datas, Main := m_.Main, Is := true, Start := ({ r_2 with At := 0, Loc := 0, Self := false } : Fixup) } : Module)
  else
    some ({ e_3 with Main := m_.Main, Is := false } : Module)
noncomputable def hansomlaw39_with_l8 (m5 : Module) (b_905_4 : (List Ext)) (b_4_0 : (List UInt8)) (b_4_8 : Bool) (b_4_9 : Bool) (b_4_10 : Int) (b_4_11 : Int) (b_4_12 : Bool) (b_4_13 : Int) (b_4_14 : Int) (b_4_15 : Int) (b_4_16 : Int) (b_4_17 : Int) (takes0 : (List (List UInt8))) (gives1 : (List (List UInt8))) (i6 : Int) : Option (Lp (Module × Int) Module) :=
  if (decide (i6 < (takes0.length : Int))) then
    (idx takes0 i6).bind fun z_1 =>
    (grow 32 m5.Exts ([({ Name := z_1, Com := 0, Len := 0 } : Ext)] : List Ext)).bind fun z_2 =>
    some (.next (({ m5 with Exts := z_2 } : Module), (IntKind.wrap .i64 (i6 + 1))))
  else
    some (.out m5)
noncomputable def hansomlaw39_with_l23 (m5 : Module) (b_905_4 : (List Ext)) (b_4_0 : (List UInt8)) (b_4_8 : Bool) (b_4_9 : Bool) (b_4_10 : Int) (b_4_11 : Int) (b_4_12 : Bool) (b_4_13 : Int) (b_4_14 : Int) (b_4_15 : Int) (b_4_16 : Int) (b_4_17 : Int) (gives1 : (List (List UInt8))) (i7 : Int) : Option (Lp (Module × Int) Module) :=
  if (decide (i7 < (gives1.length : Int))) then
    (idx gives1 i7).bind fun z_1 =>
    (grow 48 m5.Pubs ([({ Group := 0, Seg := 1, Frame := 0, Name := z_1, Off := 0 } : Pub)] : List Pub)).bind fun z_2 =>
    some (.next (({ m5 with Pubs := z_2 } : Module), (IntKind.wrap .i64 (i7 + 1))))
  else
    some (.out m5)
/-- hansom/hansomlaw39.with -/
noncomputable def hansomlaw39_with (takes_ : (List (List UInt8))) (gives_ : (List (List UInt8))) : Option Module :=
  (hansomref26_Near ({ Name := [], Notes := ([] : List Comment), Names := ([] : List (List UInt8)), Segs := ([] : List SegDef), Groups := ([] : List GrpDef), Exts := ([] : List Ext), Pubs := ([] : List Pub), Datas := ([] : List Data), Main := false, Is := false, Start := ({ At := 0, Loc := 0, Self := false, Frame := 0, FrameN := 0, Target := 0, N := 0, Disp := 0 } : Fixup) } : Module)).bind fun r_1 =>
  (loopO (fun x : (Module × Int) => hansomlaw39_with_l8 x.1 ([] : List Ext) [] false false 0 0 false 0 0 0 0 0 takes_ gives_ x.2) (r_1, 0)).bind fun e_1 =>
  (loopO (fun x : (Module × Int) => hansomlaw39_with_l23 x.1 ([] : List Ext) [] false false 0 0 false 0 0 0 0 0 gives_ x.2) (e_1, 0)).bind fun e_2 =>
  some e_2
noncomputable def hansomlaw39_mods_j25 (m5 : Module) (b_6 : (List Module)) (l0 : (List (A4 Int))) (i4 : Int) : Option (Lp ((List Module) × Int) (List Module)) :=
  (idx l0 i4).bind fun z_5 =>
  if (decide ((bitsOp .and .i64 z_5.a2 8) > 0)) then
    (idx l0 i4).bind fun z_6 =>
    (hansomlaw39_name z_6.a2).bind fun r_6 =>
    (idx l0 i4).bind fun z_7 =>
    (grow 32 m5.Exts ([({ Name := r_6, Com := 98, Len := (IntKind.wrap .u32 (bitsOp .and .i64 z_7.a3 63)) } : Ext)] : List Ext)).bind fun z_8 =>
    (grow 256 b_6 ([({ m5 with Exts := z_8 } : Module)] : List Module)).bind fun z_9 =>
    some (.next (z_9, (IntKind.wrap .i64 (i4 + 1))))
  else
    (grow 256 b_6 ([m5] : List Module)).bind fun z_10 =>
    some (.next (z_10, (IntKind.wrap .i64 (i4 + 1))))
noncomputable def hansomlaw39_mods_l8 (b_6 : (List Module)) (l0 : (List (A4 Int))) (i4 : Int) : Option (Lp ((List Module) × Int) (List Module)) :=
  if (decide (i4 < (l0.length : Int))) then
    if (decide (i4 < 5)) then
      (idx l0 i4).bind fun z_1 =>
      (hansomlaw39_name z_1.a0).bind fun r_1 =>
      (hansomlaw39_with ([r_1] : List (List UInt8)) ([] : List (List UInt8))).bind fun r_2 =>
      (idx l0 i4).bind fun z_2 =>
      if (decide ((bitsOp .and .i64 z_2.a1 8) > 0)) then
        (idx l0 i4).bind fun z_3 =>
        (hansomlaw39_name z_3.a0).bind fun r_3 =>
        (idx l0 i4).bind fun z_4 =>
        (hansomlaw39_name z_4.a1).bind fun r_4 =>
        (hansomlaw39_with ([r_3] : List (List UInt8)) ([r_4] : List (List UInt8))).bind fun r_5 =>
        hansomlaw39_mods_j25 r_5 b_6 l0 i4
      else
        hansomlaw39_mods_j25 r_2 b_6 l0 i4
    else
      some (.out b_6)
  else
    some (.out b_6)
/-- hansom/hansomlaw39.mods -/
noncomputable def hansomlaw39_mods (l_ : (List (A4 Int))) : Option (List Module) :=
  (loopO (fun x : ((List Module) × Int) => hansomlaw39_mods_l8 x.1 l_ x.2) (([] : List Module), 0)).bind fun e_1 =>
  some e_1
/-- hansom/pool.given$1$1 -/
noncomputable def pool_given_1_1 (p_ : Pub) (a1_ : (List UInt8)) : Option Bool :=
  some (p_.Name == a1_)
noncomputable def slices_IndexFunc_LPub_pool_given_1_1_l6 (b_0_1 : (List UInt8)) (s0 : (List Pub)) (t7 : Int) (t8 : Int) : Option (Lp Int ((Int × (List UInt8)) ⊕ Unit)) :=
  if (decide (t8 < t7)) then
    (idx s0 t8).bind fun z_1 =>
    (pool_given_1_1 z_1 b_0_1).bind fun r_1 =>
    if r_1 then
      some (.out (.inl (t8, b_0_1)))
    else
      some (.next (IntKind.wrap .i64 (t8 + 1)))
  else
    some (.out (.inr ()))
/-- slices.IndexFunc[[]hansom/api.Pub,hansom/api.Pub] -/
noncomputable def slices_IndexFunc_LPub_pool_given_1_1 (s_ : (List Pub)) (a_1_0 : (List UInt8)) : Option (Int × (List UInt8)) :=
  (loopO (fun x : Int => slices_IndexFunc_LPub_pool_given_1_1_l6 a_1_0 s_ (s_.length : Int) x) 0).bind fun e_1 =>
  match e_1 with
  | .inl e_2 =>
    some e_2
  | .inr e_3 =>
    some ((-1), a_1_0)
/-- slices.ContainsFunc[[]hansom/api.Pub,hansom/api.Pub] -/
noncomputable def slices_ContainsFunc_LPub_pool_given_1_1 (s_ : (List Pub)) (a_1_0 : (List UInt8)) : Option (Bool × (List UInt8)) :=
  (slices_IndexFunc_LPub_pool_given_1_1 s_ a_1_0).bind fun r_1 =>
  some ((decide (r_1.1 ≥ 0)), r_1.2)
/-- hansom/pool.given$1 -/
noncomputable def pool_given_1 (m_ : Module) (a1_ : (List UInt8)) : Option (Bool × (List UInt8)) :=
  (slices_ContainsFunc_LPub_pool_given_1_1 m_.Pubs a1_).bind fun r_1 =>
  some (r_1.1, r_1.2)
noncomputable def slices_IndexFunc_LModule_pool_given_1_l6 (b_0_1 : (List UInt8)) (s0 : (List Module)) (t7 : Int) (t8 : Int) : Option (Lp ((List UInt8) × Int) ((Int × (List UInt8)) ⊕ (List UInt8))) :=
  if (decide (t8 < t7)) then
    (idx s0 t8).bind fun z_1 =>
    (pool_given_1 z_1 b_0_1).bind fun r_1 =>
    if r_1.1 then
      some (.out (.inl (t8, r_1.2)))
    else
      some (.next (r_1.2, (IntKind.wrap .i64 (t8 + 1))))
  else
    some (.out (.inr b_0_1))
/-- slices.IndexFunc[[]hansom/api.Module,hansom/api.Module] -/
noncomputable def slices_IndexFunc_LModule_pool_given_1 (s_ : (List Module)) (a_1_0 : (List UInt8)) : Option (Int × (List UInt8)) :=
  (loopO (fun x : ((List UInt8) × Int) => slices_IndexFunc_LModule_pool_given_1_l6 x.1 s_ (s_.length : Int) x.2) (a_1_0, 0)).bind fun e_1 =>
  match e_1 with
  | .inl e_2 =>
    some e_2
  | .inr e_3 =>
    some ((-1), e_3)
/-- hansom/pool.given -/
noncomputable def pool_given (l_ : (List Module)) (name_ : (List UInt8)) : Option Int :=
  (slices_IndexFunc_LModule_pool_given_1 l_ name_).bind fun r_1 =>
  some r_1.1
/-- hansom/pool.Made$1 -/
noncomputable def pool_Made_1 (y_ : Ext) (a1_ : Ext) : Option Bool :=
  some (y_.Name == a1_.Name)
noncomputable def slices_IndexFunc_LExt_pool_Made_1_l6 (b_0_1 : Ext) (s_ : (List Ext)) (t7 : Int) (t8 : Int) : Option (Lp Int ((Int × Ext) ⊕ Unit)) :=
  if (decide (t8 < t7)) then
    (idx s_ t8).bind fun z_1 =>
    (pool_Made_1 z_1 b_0_1).bind fun r_1 =>
    if r_1 then
      some (.out (.inl (t8, b_0_1)))
    else
      some (.next (IntKind.wrap .i64 (t8 + 1)))
  else
    some (.out (.inr ()))
/-- slices.IndexFunc[[]hansom/api.Ext,hansom/api.Ext] -/
noncomputable def slices_IndexFunc_LExt_pool_Made_1 (s_ : (List Ext)) (a_1_0 : Ext) : Option (Int × Ext) :=
  (loopO (fun x : Int => slices_IndexFunc_LExt_pool_Made_1_l6 a_1_0 s_ (s_.length : Int) x) 0).bind fun e_1 =>
  match e_1 with
  | .inl e_2 =>
    some e_2
  | .inr e_3 =>
    some ((-1), a_1_0)
noncomputable def pool_Made_l22 (out3 : (List Ext)) (l0 : (List Module)) (t9 : (List Module)) (t10 : Int) (t11 : Int) (t16 : (List Ext)) (t17 : Int) (t18 : Int) : Option (Lp ((List Ext) × Int) (List Ext)) :=
  if (decide (t18 < t17)) then
    (idx t16 t18).bind fun z_2 =>
    if (z_2.Com == 0) then
      some (.next (out3, (IntKind.wrap .i64 (t18 + 1))))
    else
      (pool_given l0 z_2.Name).bind fun r_1 =>
      if (decide (r_1 ≥ 0)) then
        some (.next (out3, (IntKind.wrap .i64 (t18 + 1))))
      else
        (slices_IndexFunc_LExt_pool_Made_1 out3 z_2).bind fun r_2 =>
        if (decide (r_2.1 < 0)) then
          (grow 32 out3 ([r_2.2] : List Ext)).bind fun z_3 =>
          some (.next (z_3, (IntKind.wrap .i64 (t18 + 1))))
        else
          (idx out3 r_2.1).bind fun z_4 =>
          (idx out3 r_2.1).bind fun z_5 =>
          some (.next ((List.set out3 (r_2.1).toNat ({ Name := z_5.Name, Com := z_5.Com, Len := (mxI z_4.Len r_2.2.Len) } : Ext)), (IntKind.wrap .i64 (t18 + 1))))
  else
    some (.out out3)
noncomputable def pool_Made_l8 (out3 : (List Ext)) (l0 : (List Module)) (t9 : (List Module)) (t10 : Int) (t11 : Int) : Option (Lp ((List Ext) × Int) (List Ext)) :=
  if (decide (t11 < t10)) then
    (idx t9 t11).bind fun z_1 =>
    (loopO (fun x : ((List Ext) × Int) => pool_Made_l22 x.1 l0 t9 t10 t11 z_1.Exts (z_1.Exts.length : Int) x.2) (out3, 0)).bind fun e_1 =>
    some (.next (e_1, (IntKind.wrap .i64 (t11 + 1))))
  else
    some (.out out3)
/-- hansom/pool.Made -/
noncomputable def pool_Made (l_ : (List Module)) : Option (List Ext) :=
  (loopO (fun x : ((List Ext) × Int) => pool_Made_l8 x.1 l_ l_ (l_.length : Int) x.2) (([] : List Ext), 0)).bind fun e_1 =>
  some e_1
noncomputable def slices_Index_Lstring_l6 (s0 : (List (List UInt8))) (v1 : (List UInt8)) (t7 : Int) (t8 : Int) : Option (Lp Int (Int ⊕ Unit)) :=
  if (decide (t8 < t7)) then
    (idx s0 t8).bind fun z_1 =>
    if (v1 == z_1) then
      some (.out (.inl t8))
    else
      some (.next (IntKind.wrap .i64 (t8 + 1)))
  else
    some (.out (.inr ()))
/-- slices.Index[[]string,string] -/
noncomputable def slices_Index_Lstring (s_ : (List (List UInt8))) (v_ : (List UInt8)) : Option Int :=
  (loopO (fun x : Int => slices_Index_Lstring_l6 s_ v_ (s_.length : Int) x) 0).bind fun e_1 =>
  match e_1 with
  | .inl e_2 =>
    some e_2
  | .inr e_3 =>
    some (-1)
/-- slices.Contains[[]string,string] -/
noncomputable def slices_Contains_Lstring (s_ : (List (List UInt8))) (v_ : (List UInt8)) : Option Bool :=
  (slices_Index_Lstring s_ v_).bind fun r_1 =>
  some (decide (r_1 ≥ 0))
noncomputable def pool_Twice_l22 (seen3 : (List (List UInt8))) (t8 : (List Module)) (t9 : Int) (t10 : Int) (t15 : (List Pub)) (t16 : Int) (t17 : Int) : Option (Lp ((List (List UInt8)) × Int) (Bool ⊕ (List (List UInt8)))) :=
  if (decide (t17 < t16)) then
    (idx t15 t17).bind fun z_2 =>
    (slices_Contains_Lstring seen3 z_2.Name).bind fun r_1 =>
    if r_1 then
      some (.out (.inl true))
    else
      (grow 16 seen3 ([z_2.Name] : List (List UInt8))).bind fun z_3 =>
      some (.next (z_3, (IntKind.wrap .i64 (t17 + 1))))
  else
    some (.out (.inr seen3))
noncomputable def pool_Twice_l8 (seen3 : (List (List UInt8))) (t8 : (List Module)) (t9 : Int) (t10 : Int) : Option (Lp ((List (List UInt8)) × Int) (Bool ⊕ Unit)) :=
  if (decide (t10 < t9)) then
    (idx t8 t10).bind fun z_1 =>
    (loopO (fun x : ((List (List UInt8)) × Int) => pool_Twice_l22 x.1 t8 t9 t10 z_1.Pubs (z_1.Pubs.length : Int) x.2) (seen3, 0)).bind fun e_1 =>
    match e_1 with
    | .inl e_2 =>
      some (.out (.inl e_2))
    | .inr e_3 =>
      some (.next (e_3, (IntKind.wrap .i64 (t10 + 1))))
  else
    some (.out (.inr ()))
/-- hansom/pool.Twice -/
noncomputable def pool_Twice (l_ : (List Module)) : Option Bool :=
  (loopO (fun x : ((List (List UInt8)) × Int) => pool_Twice_l8 x.1 l_ (l_.length : Int) x.2) (([] : List (List UInt8)), 0)).bind fun e_1 =>
  match e_1 with
  | .inl e_2 =>
    some e_2
  | .inr e_3 =>
    some false
/-- hansom/pool.Lost$1 -/
noncomputable def pool_Lost_1 (y_ : Ext) (a1_ : Ext) : Option Bool :=
  some (y_.Name == a1_.Name)
noncomputable def slices_IndexFunc_LExt_pool_Lost_1_l6 (b_0_1 : Ext) (s_ : (List Ext)) (t7 : Int) (t8 : Int) : Option (Lp Int ((Int × Ext) ⊕ Unit)) :=
  if (decide (t8 < t7)) then
    (idx s_ t8).bind fun z_1 =>
    (pool_Lost_1 z_1 b_0_1).bind fun r_1 =>
    if r_1 then
      some (.out (.inl (t8, b_0_1)))
    else
      some (.next (IntKind.wrap .i64 (t8 + 1)))
  else
    some (.out (.inr ()))
/-- slices.IndexFunc[[]hansom/api.Ext,hansom/api.Ext] -/
noncomputable def slices_IndexFunc_LExt_pool_Lost_1 (s_ : (List Ext)) (a_1_0 : Ext) : Option (Int × Ext) :=
  (loopO (fun x : Int => slices_IndexFunc_LExt_pool_Lost_1_l6 a_1_0 s_ (s_.length : Int) x) 0).bind fun e_1 =>
  match e_1 with
  | .inl e_2 =>
    some e_2
  | .inr e_3 =>
    some ((-1), a_1_0)
/-- slices.ContainsFunc[[]hansom/api.Ext,hansom/api.Ext] -/
noncomputable def slices_ContainsFunc_LExt_pool_Lost_1 (s_ : (List Ext)) (a_1_0 : Ext) : Option (Bool × Ext) :=
  (slices_IndexFunc_LExt_pool_Lost_1 s_ a_1_0).bind fun r_1 =>
  some ((decide (r_1.1 ≥ 0)), r_1.2)
noncomputable def pool_Lost_l24 (out3 : (List (List UInt8))) (b_10 : (List Ext)) (l0 : (List Module)) (t11 : (List Module)) (t12 : Int) (t13 : Int) (t18 : (List Ext)) (t19 : Int) (t20 : Int) : Option (Lp ((List (List UInt8)) × Int) (List (List UInt8))) :=
  if (decide (t20 < t19)) then
    (idx t18 t20).bind fun z_2 =>
    (pool_given l0 z_2.Name).bind fun r_2 =>
    if (decide (r_2 ≥ 0)) then
      some (.next (out3, (IntKind.wrap .i64 (t20 + 1))))
    else
      (slices_Contains_Lstring out3 z_2.Name).bind fun r_3 =>
      if r_3 then
        some (.next (out3, (IntKind.wrap .i64 (t20 + 1))))
      else
        (slices_ContainsFunc_LExt_pool_Lost_1 b_10 z_2).bind fun r_4 =>
        if r_4.1 then
          some (.next (out3, (IntKind.wrap .i64 (t20 + 1))))
        else
          (grow 16 out3 ([r_4.2.Name] : List (List UInt8))).bind fun z_3 =>
          some (.next (z_3, (IntKind.wrap .i64 (t20 + 1))))
  else
    some (.out out3)
noncomputable def pool_Lost_l10 (out3 : (List (List UInt8))) (b_10 : (List Ext)) (l0 : (List Module)) (t11 : (List Module)) (t12 : Int) (t13 : Int) : Option (Lp ((List (List UInt8)) × Int) (List (List UInt8))) :=
  if (decide (t13 < t12)) then
    (idx t11 t13).bind fun z_1 =>
    (loopO (fun x : ((List (List UInt8)) × Int) => pool_Lost_l24 x.1 b_10 l0 t11 t12 t13 z_1.Exts (z_1.Exts.length : Int) x.2) (out3, 0)).bind fun e_1 =>
    some (.next (e_1, (IntKind.wrap .i64 (t13 + 1))))
  else
    some (.out out3)
/-- hansom/pool.Lost -/
noncomputable def pool_Lost (l_ : (List Module)) : Option (List (List UInt8)) :=
  (pool_Made l_).bind fun r_1 =>
  (loopO (fun x : ((List (List UInt8)) × Int) => pool_Lost_l10 x.1 r_1 l_ l_ (l_.length : Int) x.2) (([] : List (List UInt8)), 0)).bind fun e_1 =>
  some e_1
/-- hansom/pool.Find$1 -/
noncomputable def pool_Find_1 (p_ : Pub) (a1_ : (List UInt8)) : Option Bool :=
  some (p_.Name == a1_)
noncomputable def slices_IndexFunc_LPub_pool_Find_1_l6 (b_0_1 : (List UInt8)) (s0 : (List Pub)) (t7 : Int) (t8 : Int) : Option (Lp Int ((Int × (List UInt8)) ⊕ Unit)) :=
  if (decide (t8 < t7)) then
    (idx s0 t8).bind fun z_1 =>
    (pool_Find_1 z_1 b_0_1).bind fun r_1 =>
    if r_1 then
      some (.out (.inl (t8, b_0_1)))
    else
      some (.next (IntKind.wrap .i64 (t8 + 1)))
  else
    some (.out (.inr ()))
/-- slices.IndexFunc[[]hansom/api.Pub,hansom/api.Pub] -/
noncomputable def slices_IndexFunc_LPub_pool_Find_1 (s_ : (List Pub)) (a_1_0 : (List UInt8)) : Option (Int × (List UInt8)) :=
  (loopO (fun x : Int => slices_IndexFunc_LPub_pool_Find_1_l6 a_1_0 s_ (s_.length : Int) x) 0).bind fun e_1 =>
  match e_1 with
  | .inl e_2 =>
    some e_2
  | .inr e_3 =>
    some ((-1), a_1_0)
/-- hansom/pool.Find$2 -/
noncomputable def pool_Find_2 (x_ : Ext) (a1_ : (List UInt8)) : Option Bool :=
  some (x_.Name == a1_)
noncomputable def slices_IndexFunc_LExt_pool_Find_2_l6 (b_0_1 : (List UInt8)) (s_ : (List Ext)) (t7 : Int) (t8 : Int) : Option (Lp Int ((Int × (List UInt8)) ⊕ Unit)) :=
  if (decide (t8 < t7)) then
    (idx s_ t8).bind fun z_1 =>
    (pool_Find_2 z_1 b_0_1).bind fun r_1 =>
    if r_1 then
      some (.out (.inl (t8, b_0_1)))
    else
      some (.next (IntKind.wrap .i64 (t8 + 1)))
  else
    some (.out (.inr ()))
/-- slices.IndexFunc[[]hansom/api.Ext,hansom/api.Ext] -/
noncomputable def slices_IndexFunc_LExt_pool_Find_2 (s_ : (List Ext)) (a_1_0 : (List UInt8)) : Option (Int × (List UInt8)) :=
  (loopO (fun x : Int => slices_IndexFunc_LExt_pool_Find_2_l6 a_1_0 s_ (s_.length : Int) x) 0).bind fun e_1 =>
  match e_1 with
  | .inl e_2 =>
    some e_2
  | .inr e_3 =>
    some ((-1), a_1_0)
/-- hansom/pool.Find -/
noncomputable def pool_Find (l_ : (List Module)) (name_ : (List UInt8)) : Option (Given × Bool) :=
  (pool_given l_ name_).bind fun r_1 =>
  if (decide (r_1 ≥ 0)) then
    (idx l_ r_1).bind fun z_1 =>
    (slices_IndexFunc_LPub_pool_Find_1 z_1.Pubs name_).bind fun r_2 =>
    some (({ Mod := r_1, N := r_2.1, Com := false } : Given), true)
  else
    (pool_Made l_).bind fun r_3 =>
    (slices_IndexFunc_LExt_pool_Find_2 r_3 name_).bind fun r_4 =>
    if (decide (r_4.1 < 0)) then
      some (({ Mod := 0, N := 0, Com := false } : Given), false)
    else
      some (({ Mod := 0, N := r_4.1, Com := true } : Given), true)
noncomputable def hansomlaw39_PoolNames_l10 (given6 : (A8 Int)) (made7 : (A8 Int)) (l0 : (List (A4 Int))) (n1 : Int) (m5 : (List Module)) (twice8 : Bool) (i9 : Int) : Option (Lp ((A8 Int) × Bool × Int) ((A8 Int) × Bool)) :=
  if (decide (i9 < (m5.length : Int))) then
    (idx l0 i9).bind fun z_1 =>
    if (decide ((bitsOp .and .i64 z_1.a1 8) > 0)) then
      (idx l0 i9).bind fun z_2 =>
      if twice8 then
        (idx given6.l (bitsOp .and .i64 z_2.a1 7)).bind fun z_3 =>
        if (decide (z_3 < 0)) then
          (idx given6.l (bitsOp .and .i64 z_2.a1 7)).bind fun z_4 =>
          some (.next ((A8.set given6 (bitsOp .and .i64 z_2.a1 7) i9), true, (IntKind.wrap .i64 (i9 + 1))))
        else
          some (.next (given6, true, (IntKind.wrap .i64 (i9 + 1))))
      else
        (idx given6.l (bitsOp .and .i64 z_2.a1 7)).bind fun z_5 =>
        (idx given6.l (bitsOp .and .i64 z_2.a1 7)).bind fun z_6 =>
        if (decide (z_6 < 0)) then
          (idx given6.l (bitsOp .and .i64 z_2.a1 7)).bind fun z_7 =>
          some (.next ((A8.set given6 (bitsOp .and .i64 z_2.a1 7) i9), (decide (z_5 ≥ 0)), (IntKind.wrap .i64 (i9 + 1))))
        else
          some (.next (given6, (decide (z_5 ≥ 0)), (IntKind.wrap .i64 (i9 + 1))))
    else
      some (.next (given6, twice8, (IntKind.wrap .i64 (i9 + 1))))
  else
    some (.out (given6, twice8))
noncomputable def hansomlaw39_PoolNames_j52 (given6 : (A8 Int)) (made7 : (A8 Int)) (b_61 : (List Int)) (l0 : (List (A4 Int))) (n1 : Int) (m5 : (List Module)) (twice8 : Bool) (i12 : Int) (k13 : Int) (t86 : Bool) : Option (Lp ((A8 Int) × (List Int) × Int) ((A8 Int) × (List Int))) :=
  if t86 then
    (idx made7.l k13).bind fun z_4 =>
    if (decide (z_4 < 0)) then
      (grow 8 b_61 ([k13] : List Int)).bind fun z_5 =>
      (idx made7.l k13).bind fun z_6 =>
      (idx l0 i12).bind fun z_7 =>
      (idx made7.l k13).bind fun z_8 =>
      some (.next ((A8.set made7 k13 (mxI z_6 (bitsOp .and .i64 z_7.a3 63))), z_5, (IntKind.wrap .i64 (i12 + 1))))
    else
      (idx made7.l k13).bind fun z_9 =>
      (idx l0 i12).bind fun z_10 =>
      (idx made7.l k13).bind fun z_11 =>
      some (.next ((A8.set made7 k13 (mxI z_9 (bitsOp .and .i64 z_10.a3 63))), b_61, (IntKind.wrap .i64 (i12 + 1))))
  else
    some (.next (made7, b_61, (IntKind.wrap .i64 (i12 + 1))))
noncomputable def hansomlaw39_PoolNames_l39 (given6 : (A8 Int)) (made7 : (A8 Int)) (b_61 : (List Int)) (l0 : (List (A4 Int))) (n1 : Int) (m5 : (List Module)) (twice8 : Bool) (i12 : Int) : Option (Lp ((A8 Int) × (List Int) × Int) ((A8 Int) × (List Int))) :=
  if (decide (i12 < (m5.length : Int))) then
    (idx l0 i12).bind fun z_1 =>
    (idx l0 i12).bind fun z_2 =>
    if (decide ((bitsOp .and .i64 z_2.a2 8) > 0)) then
      (idx given6.l (bitsOp .and .i64 z_1.a2 7)).bind fun z_3 =>
      hansomlaw39_PoolNames_j52 given6 made7 b_61 l0 n1 m5 twice8 i12 (bitsOp .and .i64 z_1.a2 7) (decide (z_3 < 0))
    else
      hansomlaw39_PoolNames_j52 given6 made7 b_61 l0 n1 m5 twice8 i12 (bitsOp .and .i64 z_1.a2 7) false
  else
    some (.out (made7, b_61))
noncomputable def hansomlaw39_PoolNames_l76 (given6 : (A8 Int)) (made7 : (A8 Int)) (b_61 : (List Int)) (l0 : (List (A4 Int))) (n1 : Int) (m5 : (List Module)) (x14 : (List Ext)) (i15 : Int) : Option (Lp Int (Bool ⊕ Unit)) :=
  if (decide (i15 < (x14.length : Int))) then
    (idx x14 i15).bind fun z_1 =>
    (idx b_61 i15).bind fun z_2 =>
    (hansomlaw39_name z_2).bind fun r_4 =>
    (idx b_61 i15).bind fun z_3 =>
    (idx made7.l z_3).bind fun z_4 =>
    if (!(z_1.Name == r_4 && (z_1.Com == 98 && (z_1.Len == (IntKind.wrap .u32 z_4) && true)))) then
      some (.out (.inl false))
    else
      some (.next (IntKind.wrap .i64 (i15 + 1)))
  else
    some (.out (.inr ()))
noncomputable def hansomlaw39_PoolNames_l101 (given6 : (A8 Int)) (made7 : (A8 Int)) (seen17 : (A8 Bool)) (l0 : (List (A4 Int))) (n1 : Int) (m5 : (List Module)) (x14 : (List Ext)) (lost16 : (List (List UInt8))) (at18 : Int) (i19 : Int) : Option (Lp ((A8 Bool) × Int × Int) (Bool ⊕ Int)) :=
  if (decide (i19 < (m5.length : Int))) then
    (idx l0 i19).bind fun z_1 =>
    (idx given6.l (bitsOp .and .i64 z_1.a0 7)).bind fun z_2 =>
    if (decide (z_2 ≥ 0)) then
      some (.next (seen17, at18, (IntKind.wrap .i64 (i19 + 1))))
    else
      (idx made7.l (bitsOp .and .i64 z_1.a0 7)).bind fun z_3 =>
      if (decide (z_3 ≥ 0)) then
        some (.next (seen17, at18, (IntKind.wrap .i64 (i19 + 1))))
      else
        (idx seen17.l (bitsOp .and .i64 z_1.a0 7)).bind fun z_4 =>
        if z_4 then
          some (.next (seen17, at18, (IntKind.wrap .i64 (i19 + 1))))
        else
          (idx seen17.l (bitsOp .and .i64 z_1.a0 7)).bind fun z_5 =>
          if (decide (at18 ≥ (lost16.length : Int))) then
            some (.out (.inl false))
          else
            (idx lost16 at18).bind fun z_6 =>
            (hansomlaw39_name (bitsOp .and .i64 z_1.a0 7)).bind fun r_5 =>
            if (z_6 != r_5) then
              some (.out (.inl false))
            else
              some (.next ((A8.set seen17 (bitsOp .and .i64 z_1.a0 7) true), (IntKind.wrap .i64 (at18 + 1)), (IntKind.wrap .i64 (i19 + 1))))
  else
    some (.out (.inr at18))
/-- hansom/hansomlaw39.PoolNames -/
noncomputable def hansomlaw39_PoolNames (l_ : (List (A4 Int))) (n_ : Int) : Option Bool :=
  (hansomlaw39_mods l_).bind fun r_1 =>
  (loopO (fun x : ((A8 Int) × Bool × Int) => hansomlaw39_PoolNames_l10 x.1 ({ a0 := (-1), a1 := (-1), a2 := (-1), a3 := (-1), a4 := (-1), a5 := (-1), a6 := (-1), a7 := (-1) } : (A8 Int)) l_ n_ r_1 x.2.1 x.2.2) (({ a0 := (-1), a1 := (-1), a2 := (-1), a3 := (-1), a4 := (-1), a5 := (-1), a6 := (-1), a7 := (-1) } : (A8 Int)), false, 0)).bind fun e_1 =>
  (loopO (fun x : ((A8 Int) × (List Int) × Int) => hansomlaw39_PoolNames_l39 e_1.1 x.1 x.2.1 l_ n_ r_1 e_1.2 x.2.2) (({ a0 := (-1), a1 := (-1), a2 := (-1), a3 := (-1), a4 := (-1), a5 := (-1), a6 := (-1), a7 := (-1) } : (A8 Int)), ([] : List Int), 0)).bind fun e_2 =>
  (pool_Made r_1).bind fun r_2 =>
  if ((r_2.length : Int) != (e_2.2.length : Int)) then
    some false
  else
    (pool_Twice r_1).bind fun r_3 =>
    if (r_3 != e_1.2) then
      some false
    else
      (loopO (fun x : Int => hansomlaw39_PoolNames_l76 e_1.1 e_2.1 e_2.2 l_ n_ r_1 r_2 x) 0).bind fun e_3 =>
      match e_3 with
      | .inl e_4 =>
        some e_4
      | .inr e_5 =>
        (pool_Lost r_1).bind fun r_4 =>
        (loopO (fun x : ((A8 Bool) × Int × Int) => hansomlaw39_PoolNames_l101 e_1.1 e_2.1 x.1 l_ n_ r_1 r_2 r_4 x.2.1 x.2.2) (({ a0 := false, a1 := false, a2 := false, a3 := false, a4 := false, a5 := false, a6 := false, a7 := false } : (A8 Bool)), 0, 0)).bind fun e_6 =>
        match e_6 with
        | .inl e_7 =>
          some e_7
        | .inr e_8 =>
          (hansomlaw39_name (bitsOp .and .i64 n_ 7)).bind fun r_5 =>
          (pool_Find r_1 r_5).bind fun r_6 =>
          (idx e_1.1.l (bitsOp .and .i64 n_ 7)).bind fun z_1 =>
          if (decide (z_1 ≥ 0)) then
            (hansomlaw39_awake).bind fun r_7 =>
            if r_7 then
              if (e_8 == (r_4.length : Int)) then
                if r_6.2 then
                  (idx e_1.1.l (bitsOp .and .i64 n_ 7)).bind fun z_2 =>
                  some (r_6.1.Mod == z_2 && (r_6.1.N == 0 && (r_6.1.Com == false && true)))
                else
                  some false
              else
                some false
            else
              some false
          else
            (hansomlaw39_awake).bind fun r_8 =>
            if r_8 then
              if (e_8 == (r_4.length : Int)) then
                (idx e_2.1.l (bitsOp .and .i64 n_ 7)).bind fun z_3 =>
                if (r_6.2 == (decide (z_3 ≥ 0))) then
                  if (!r_6.2) then
                    some true
                  else
                    if r_6.1.Com then
                      (idx r_2 r_6.1.N).bind fun z_4 =>
                      (hansomlaw39_name (bitsOp .and .i64 n_ 7)).bind fun r_9 =>
                      some (z_4.Name == r_9)
                    else
                      some false
                else
                  some false
              else
                some false
            else
              some false
end Go.Es.Pln
