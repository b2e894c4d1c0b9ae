/- What the functions that the law CombAdds, CombAll reaches answer, in plain Lean. No condition. -/
import Derived.Test.YtbogbgbpahonoaaEsD
set_option linter.unusedVariables false
set_option linter.unusedSimpArgs false
set_option maxRecDepth 100000
set_option maxHeartbeats 4000000
namespace Go.Es.Cmb
structure SegDef where
  Align : Int
  Combine : Int
  Frame : Int
  Offset : Int
  Len : Int
  Name : Int
  Class : Int
  Overlay : Int
  deriving DecidableEq, Inhabited
def SegDef.cs (x : SegDef) : List D := [.int .i64 x.Align, .int .i64 x.Combine, .int .u16 x.Frame, .int .u8 x.Offset, .int .i64 x.Len, .int .i64 x.Name, .int .i64 x.Class, .int .i64 x.Overlay]
def SegDef.d (x : SegDef) : D := .agg (SegDef.cs x)
structure Chunk where
  Mod : Int
  Seg : Int
  Off : Int
  Len : Int
  deriving DecidableEq, Inhabited
def Chunk.cs (x : Chunk) : List D := [.int .i64 x.Mod, .int .i64 x.Seg, .int .i64 x.Off, .int .i64 x.Len]
def Chunk.d (x : Chunk) : D := .agg (Chunk.cs x)
structure Comb where
  Name : (List UInt8)
  Class : (List UInt8)
  Align : Int
  Combine : Int
  Frame : Int
  Offset : Int
  Len : Int
  Chunks : (List Chunk)
  deriving DecidableEq, Inhabited
def Comb.cs (x : Comb) : List D := [.str x.Name, .str x.Class, .int .i64 x.Align, .int .i64 x.Combine, .int .u16 x.Frame, .int .u8 x.Offset, .int .i64 x.Len, .sl (List.map Chunk.d x.Chunks)]
def Comb.d (x : Comb) : D := .agg (Comb.cs x)
structure Ext where
  Name : (List UInt8)
  Com : Int
  Len : Int
  deriving DecidableEq, Inhabited
def Ext.cs (x : Ext) : List D := [.str x.Name, .int .i64 x.Com, .int .u32 x.Len]
def Ext.d (x : Ext) : D := .agg (Ext.cs x)
structure Fixup where
  At : Int
  Loc : Int
  Self : Bool
  Frame : Int
  FrameN : Int
  Target : Int
  N : Int
  Disp : Int
  deriving DecidableEq, Inhabited
def Fixup.cs (x : Fixup) : List D := [.int .i64 x.At, .int .i64 x.Loc, .bool x.Self, .int .i64 x.Frame, .int .i64 x.FrameN, .int .i64 x.Target, .int .i64 x.N, .int .u16 x.Disp]
def Fixup.d (x : Fixup) : D := .agg (Fixup.cs x)
structure Comment where
  Flags : Int
  Class : Int
  Text : (List UInt8)
  deriving DecidableEq, Inhabited
def Comment.cs (x : Comment) : List D := [.int .u8 x.Flags, .int .u8 x.Class, .str x.Text]
def Comment.d (x : Comment) : D := .agg (Comment.cs x)
structure GrpDef where
  Name : Int
  Segs : (List Int)
  deriving DecidableEq, Inhabited
def GrpDef.cs (x : GrpDef) : List D := [.int .i64 x.Name, .sl (List.map (D.int .i64) x.Segs)]
def GrpDef.d (x : GrpDef) : D := .agg (GrpDef.cs x)
structure Pub where
  Group : Int
  Seg : Int
  Frame : Int
  Name : (List UInt8)
  Off : Int
  deriving DecidableEq, Inhabited
def Pub.cs (x : Pub) : List D := [.int .i64 x.Group, .int .i64 x.Seg, .int .u16 x.Frame, .str x.Name, .int .u16 x.Off]
def Pub.d (x : Pub) : D := .agg (Pub.cs x)
structure Data where
  Seg : Int
  Off : Int
  Bytes : (List Int)
  Fixups : (List Fixup)
  deriving DecidableEq, Inhabited
def Data.cs (x : Data) : List D := [.int .i64 x.Seg, .int .u16 x.Off, .sl (List.map (D.int .u8) x.Bytes), .sl (List.map Fixup.d x.Fixups)]
def Data.d (x : Data) : D := .agg (Data.cs x)
structure Module where
  Name : (List UInt8)
  Notes : (List Comment)
  Names : (List (List UInt8))
  Segs : (List SegDef)
  Groups : (List GrpDef)
  Exts : (List Ext)
  Pubs : (List Pub)
  Datas : (List Data)
  Main : Bool
  Is : Bool
  Start : Fixup
  deriving DecidableEq, Inhabited
def Module.cs (x : Module) : List D := [.str x.Name, .sl (List.map Comment.d x.Notes), .sl (List.map D.str x.Names), .sl (List.map SegDef.d x.Segs), .sl (List.map GrpDef.d x.Groups), .sl (List.map Ext.d x.Exts), .sl (List.map Pub.d x.Pubs), .sl (List.map Data.d x.Datas), .bool x.Main, .bool x.Is, .int .i64 x.Start.At, .int .i64 x.Start.Loc, .bool x.Start.Self, .int .i64 x.Start.Frame, .int .i64 x.Start.FrameN, .int .i64 x.Start.Target, .int .i64 x.Start.N, .int .u16 x.Start.Disp]
def Module.d (x : Module) : D := .agg (Module.cs x)
def SegDef.wf (x : SegDef) : Prop := wfI .i64 x.Align ∧ wfI .i64 x.Combine ∧ wfI .u16 x.Frame ∧ wfI .u8 x.Offset ∧ wfI .i64 x.Len ∧ wfI .i64 x.Name ∧ wfI .i64 x.Class ∧ wfI .i64 x.Overlay
def Chunk.wf (x : Chunk) : Prop := wfI .i64 x.Mod ∧ wfI .i64 x.Seg ∧ wfI .i64 x.Off ∧ wfI .i64 x.Len
def Comb.wf (x : Comb) : Prop := wfS x.Name ∧ wfS x.Class ∧ wfI .i64 x.Align ∧ wfI .i64 x.Combine ∧ wfI .u16 x.Frame ∧ wfI .u8 x.Offset ∧ wfI .i64 x.Len ∧ wfL Chunk.wf x.Chunks
def Ext.wf (x : Ext) : Prop := wfS x.Name ∧ wfI .i64 x.Com ∧ wfI .u32 x.Len
def Fixup.wf (x : Fixup) : Prop := wfI .i64 x.At ∧ wfI .i64 x.Loc ∧ (fun _ => True) x.Self ∧ wfI .i64 x.Frame ∧ wfI .i64 x.FrameN ∧ wfI .i64 x.Target ∧ wfI .i64 x.N ∧ wfI .u16 x.Disp
def Comment.wf (x : Comment) : Prop := wfI .u8 x.Flags ∧ wfI .u8 x.Class ∧ wfS x.Text
def GrpDef.wf (x : GrpDef) : Prop := wfI .i64 x.Name ∧ wfL (wfI .i64) x.Segs
def Pub.wf (x : Pub) : Prop := wfI .i64 x.Group ∧ wfI .i64 x.Seg ∧ wfI .u16 x.Frame ∧ wfS x.Name ∧ wfI .u16 x.Off
def Data.wf (x : Data) : Prop := wfI .i64 x.Seg ∧ wfI .u16 x.Off ∧ wfL (wfI .u8) x.Bytes ∧ wfL Fixup.wf x.Fixups
def Module.wf (x : Module) : Prop := wfS x.Name ∧ wfL Comment.wf x.Notes ∧ wfL wfS x.Names ∧ wfL SegDef.wf x.Segs ∧ wfL GrpDef.wf x.Groups ∧ wfL Ext.wf x.Exts ∧ wfL Pub.wf x.Pubs ∧ wfL Data.wf x.Datas ∧ (fun _ => True) x.Main ∧ (fun _ => True) x.Is ∧ Fixup.wf x.Start
/-- hansom/hansomlaw40.near -/
noncomputable def hansomlaw40_near (s_ : SegDef) : Option SegDef :=
  (idx ([0, 2, 5, 6] : List Int) (bitsOp .and .i64 s_.Combine 3)).bind fun z_1 =>
  if (decide ((bitsOp .and .i64 (shrI .i64 s_.Len 15) 7) > 0)) then
    if ((Int.tmod (bitsOp .and .i64 s_.Align 255) 5) == 0) then
      some ({ Align := (Int.tmod (bitsOp .and .i64 s_.Align 255) 5), Combine := z_1, Frame := s_.Frame, Offset := s_.Offset, Len := (bitsOp .and .i64 s_.Len 63), Name := 0, Class := 0, Overlay := 0 } : SegDef)
    else
      some ({ Align := (Int.tmod (bitsOp .and .i64 s_.Align 255) 5), Combine := z_1, Frame := 0, Offset := 0, Len := (bitsOp .and .i64 s_.Len 63), Name := 0, Class := 0, Overlay := 0 } : SegDef)
  else
    if ((Int.tmod (bitsOp .and .i64 s_.Align 255) 5) == 0) then
      some ({ Align := (Int.tmod (bitsOp .and .i64 s_.Align 255) 5), Combine := z_1, Frame := s_.Frame, Offset := s_.Offset, Len := (bitsOp .and .i64 s_.Len 32767), Name := 0, Class := 0, Overlay := 0 } : SegDef)
    else
      some ({ Align := (Int.tmod (bitsOp .and .i64 s_.Align 255) 5), Combine := z_1, Frame := 0, Offset := 0, Len := (bitsOp .and .i64 s_.Len 32767), Name := 0, Class := 0, Overlay := 0 } : SegDef)
/-- slices.Clone[[]hansom/api.Comb,hansom/api.Comb] -/
noncomputable def slices_Clone_LComb (s_ : List Comb) : Option (List Comb) := grow 88 [] s_
/-- hansom/comb.joins -/
noncomputable def comb_joins (c_ : Comb) (name_ : (List UInt8)) (class_ : (List UInt8)) (d_ : SegDef) : Option Bool :=
  if (d_.Align != 0) then
    if (c_.Align != 0) then
      if (d_.Combine != 0) then
        if (c_.Combine == d_.Combine) then
          if (c_.Name == name_) then
            some (c_.Class == class_)
          else
            some false
        else
          some false
      else
        some false
    else
      some false
  else
    some false
/-- hansom/comb.Add$1 -/
noncomputable def comb_Add_1 (c_ : Comb) (a1_ : (List UInt8)) (a2_ : (List UInt8)) (a3_ : SegDef) : Option Bool :=
  (comb_joins c_ a1_ a2_ a3_).bind fun r_1 =>
  some r_1
noncomputable def slices_IndexFunc_LComb_comb_Add_1_l6 (b_0_1 : (List UInt8)) (b_1_1 : (List UInt8)) (b_2_1 : SegDef) (s0 : (List Comb)) (t7 : Int) (t8 : Int) : Option (Lp Int ((Int × (List UInt8) × (List UInt8) × SegDef) ⊕ Unit)) :=
  if (decide (t8 < t7)) then
    (idx s0 t8).bind fun z_1 =>
    (comb_Add_1 z_1 b_0_1 b_1_1 b_2_1).bind fun r_1 =>
    if r_1 then
      some (.out (.inl (t8, b_0_1, b_1_1, b_2_1)))
    else
      some (.next (IntKind.wrap .i64 (t8 + 1)))
  else
    some (.out (.inr ()))
/-- slices.IndexFunc[[]hansom/api.Comb,hansom/api.Comb] -/
noncomputable def slices_IndexFunc_LComb_comb_Add_1 (s_ : (List Comb)) (a_1_0 : (List UInt8)) (a_1_1 : (List UInt8)) (a_1_2 : SegDef) : Option (Int × (List UInt8) × (List UInt8) × SegDef) :=
  (loopO (fun x : Int => slices_IndexFunc_LComb_comb_Add_1_l6 a_1_0 a_1_1 a_1_2 s_ (s_.length : Int) x) 0).bind fun e_1 =>
  match e_1 with
  | .inl e_2 =>
    some e_2
  | .inr e_3 =>
    some ((-1), a_1_0, a_1_1, a_1_2)
/-- hansom/segs.Step -/
noncomputable def segs_Step (align_ : Int) : Option Int :=
  if (align_ == 2) then
    some 2
  else
    if (align_ == 3) then
      some 16
    else
      if (align_ == 4) then
        some 256
      else
        some 1
/-- hansom/bits.Up -/
noncomputable def bits_Up (n_ : Int) (step_ : Int) : Option Int :=
  if (decide (step_ < 1)) then
    some (bitsOp .andNot .i64 (IntKind.wrap .i64 ((IntKind.wrap .i64 ((mnI (mxI n_ 0) 16777216) + 1)) - 1)) (IntKind.wrap .i64 (1 - 1)))
  else
    if (decide (step_ > 4096)) then
      some (bitsOp .andNot .i64 (IntKind.wrap .i64 ((IntKind.wrap .i64 ((mnI (mxI n_ 0) 16777216) + 1)) - 1)) (IntKind.wrap .i64 (1 - 1)))
    else
      if ((bitsOp .and .i64 step_ (IntKind.wrap .i64 (step_ - 1))) != 0) then
        some (bitsOp .andNot .i64 (IntKind.wrap .i64 ((IntKind.wrap .i64 ((mnI (mxI n_ 0) 16777216) + 1)) - 1)) (IntKind.wrap .i64 (1 - 1)))
      else
        some (bitsOp .andNot .i64 (IntKind.wrap .i64 ((IntKind.wrap .i64 ((mnI (mxI n_ 0) 16777216) + step_)) - 1)) (IntKind.wrap .i64 (step_ - 1)))
/-- slices.Clone[[]hansom/api.Chunk,hansom/api.Chunk] -/
noncomputable def slices_Clone_LChunk (s_ : List Chunk) : Option (List Chunk) := grow 32 [] s_
noncomputable def comb_put_j22 (c3 : Comb) (d4 : SegDef) (x5 : Chunk) (b_6_0 : (List UInt8)) (b_6_1 : (List UInt8)) (b_6_2 : Int) (b_6_3 : Int) (b_6_4 : Int) (b_6_5 : Int) (b_6_6 : Int) : Option (Comb × Bool) :=
  (slices_Clone_LChunk c3.Chunks).bind fun r_5 =>
  (grow 32 r_5 ([({ Mod := x5.Mod, Seg := x5.Seg, Off := x5.Off, Len := d4.Len } : Chunk)] : List Chunk)).bind fun z_1 =>
  some (({ Name := c3.Name, Class := c3.Class, Align := c3.Align, Combine := c3.Combine, Frame := c3.Frame, Offset := c3.Offset, Len := (mxI c3.Len (IntKind.wrap .i64 (x5.Off + d4.Len))), Chunks := z_1 } : Comb), true)
noncomputable def comb_put_j8 (c3 : Comb) (d4 : SegDef) (x5 : Chunk) (b_6_0 : (List UInt8)) (b_6_1 : (List UInt8)) (b_6_2 : Int) (b_6_3 : Int) (b_6_4 : Int) (b_6_5 : Int) (b_6_6 : Int) : Option (Comb × Bool) :=
  if (decide (x5.Off > (IntKind.wrap .i64 (65536 - d4.Len)))) then
    some (c3, false)
  else
    (segs_Step d4.Align).bind fun r_3 =>
    (segs_Step c3.Align).bind fun r_4 =>
    if (decide (r_3 > r_4)) then
      comb_put_j22 ({ Name := c3.Name, Class := c3.Class, Align := d4.Align, Combine := c3.Combine, Frame := c3.Frame, Offset := c3.Offset, Len := c3.Len, Chunks := c3.Chunks } : Comb) d4 x5 b_6_0 b_6_1 b_6_2 b_6_3 b_6_4 b_6_5 b_6_6
    else
      comb_put_j22 c3 d4 x5 b_6_0 b_6_1 b_6_2 b_6_3 b_6_4 b_6_5 b_6_6
/-- hansom/comb.put -/
noncomputable def comb_put (c_ : Comb) (d_ : SegDef) (x_ : Chunk) : Option (Comb × Bool) :=
  if (d_.Combine != 6) then
    (segs_Step d_.Align).bind fun r_1 =>
    (bits_Up c_.Len r_1).bind fun r_2 =>
    comb_put_j8 c_ d_ ({ Mod := x_.Mod, Seg := x_.Seg, Off := r_2, Len := x_.Len } : Chunk) [] [] 0 0 0 0 0
  else
    comb_put_j8 c_ d_ x_ [] [] 0 0 0 0 0
noncomputable def comb_Add_j16 (d9 : SegDef) (x14 : Chunk) (b_24 : (List Comb)) (i16 : Int) : Option ((List Comb) × Int) :=
  (idx b_24 i16).bind fun z_2 =>
  (comb_put z_2 d9 x14).bind fun r_3 =>
  if (!r_3.2) then
    some (([] : List Comb), 8)
  else
    (idx b_24 i16).bind fun z_3 =>
    some ((List.set b_24 (i16).toNat r_3.1), 0)
/-- hansom/comb.Add -/
noncomputable def comb_Add (l_ : (List Comb)) (name_ : (List UInt8)) (class_ : (List UInt8)) (d_ : SegDef) (mod_ : Int) (seg_ : Int) : Option ((List Comb) × Int) :=
  (slices_Clone_LComb l_).bind fun r_1 =>
  (slices_IndexFunc_LComb_comb_Add_1 l_ name_ class_ d_).bind fun r_2 =>
  if (decide (r_2.1 < 0)) then
    (grow 88 r_1 ([({ Name := r_2.2.1, Class := r_2.2.2.1, Align := r_2.2.2.2.Align, Combine := r_2.2.2.2.Combine, Frame := r_2.2.2.2.Frame, Offset := r_2.2.2.2.Offset, Len := 0, Chunks := ([] : List Chunk) } : Comb)] : List Comb)).bind fun z_1 =>
    comb_Add_j16 r_2.2.2.2 ({ Mod := mod_, Seg := seg_, Off := 0, Len := 0 } : Chunk) z_1 (r_1.length : Int)
  else
    comb_Add_j16 r_2.2.2.2 ({ Mod := mod_, Seg := seg_, Off := 0, Len := 0 } : Chunk) r_1 r_2.1
noncomputable def comb_Find_l20 (mod1 : Int) (seg2 : Int) (i9 : Int) (t13 : (List Comb)) (t14 : Int) (t15 : Int) (t21 : (List Chunk)) (t22 : Int) (t23 : Int) : Option (Lp Int ((Int × Int × Bool) ⊕ Unit)) :=
  if (decide (t23 < t22)) then
    (idx t21 t23).bind fun z_2 =>
    if (z_2.Mod == mod1) then
      if (z_2.Seg == seg2) then
        some (.out (.inl (i9, z_2.Off, true)))
      else
        some (.next (IntKind.wrap .i64 (t23 + 1)))
    else
      some (.next (IntKind.wrap .i64 (t23 + 1)))
  else
    some (.out (.inr ()))
noncomputable def comb_Find_l6 (mod1 : Int) (seg2 : Int) (t13 : (List Comb)) (t14 : Int) (t15 : Int) : Option (Lp Int ((Int × Int × Bool) ⊕ Unit)) :=
  if (decide (t15 < t14)) then
    (idx t13 t15).bind fun z_1 =>
    (loopO (fun x : Int => comb_Find_l20 mod1 seg2 t15 t13 t14 t15 z_1.Chunks (z_1.Chunks.length : Int) x) 0).bind fun e_1 =>
    match e_1 with
    | .inl e_2 =>
      some (.out (.inl e_2))
    | .inr e_3 =>
      some (.next (IntKind.wrap .i64 (t15 + 1)))
  else
    some (.out (.inr ()))
/-- hansom/comb.Find -/
noncomputable def comb_Find (l_ : (List Comb)) (mod_ : Int) (seg_ : Int) : Option (Int × Int × Bool) :=
  (loopO (fun x : Int => comb_Find_l6 mod_ seg_ l_ (l_.length : Int) x) 0).bind fun e_1 =>
  match e_1 with
  | .inl e_2 =>
    some e_2
  | .inr e_3 =>
    some (0, 0, false)
/-- hansom/hansomlaw40.step -/
noncomputable def hansomlaw40_step (align_ : Int) : Option Int :=
  (idx ([1, 1, 2, 16, 256] : List Int) align_).bind fun z_1 =>
  some z_1
noncomputable def hansomref01_Up_l8 (n0 : Int) (step1 : Int) (power5 : Bool) (p6 : Int) : Option (Lp (Bool × Int) Bool) :=
  if (decide (p6 ≤ 4096)) then
    if power5 then
      some (.next (true, (IntKind.wrap .i64 (p6 * 2))))
    else
      some (.next ((step1 == p6), (IntKind.wrap .i64 (p6 * 2))))
  else
    some (.out power5)
noncomputable def hansomref01_Up_j25 (n0 : Int) (step1 : Int) : Option Int :=
  if (decide (n0 < 0)) then
    (quoI .i64 (IntKind.wrap .i64 ((IntKind.wrap .i64 (0 + step1)) - 1)) step1).bind fun z_1 =>
    some (IntKind.wrap .i64 (z_1 * step1))
  else
    if (decide (n0 > 16777216)) then
      (quoI .i64 (IntKind.wrap .i64 ((IntKind.wrap .i64 (16777216 + step1)) - 1)) step1).bind fun z_2 =>
      some (IntKind.wrap .i64 (z_2 * step1))
    else
      (quoI .i64 (IntKind.wrap .i64 ((IntKind.wrap .i64 (n0 + step1)) - 1)) step1).bind fun z_3 =>
      some (IntKind.wrap .i64 (z_3 * step1))
/-- hansom/hansomref01.Up -/
noncomputable def hansomref01_Up (n_ : Int) (step_ : Int) : Option Int :=
  (loopO (fun x : (Bool × Int) => hansomref01_Up_l8 n_ step_ x.1 x.2) (false, 1)).bind fun e_1 =>
  if (!e_1) then
    hansomref01_Up_j25 n_ 1
  else
    hansomref01_Up_j25 n_ step_
/-- hansom/hansomlaw40.awake -/
noncomputable def hansomlaw40_awake  : Option Bool :=
  (comb_Add ([] : List Comb) ([65] : List UInt8) ([] : List UInt8) ({ Align := 2, Combine := 2, Frame := 0, Offset := 0, Len := 3, Name := 0, Class := 0, Overlay := 0 } : SegDef) 0 1).bind fun r_1 =>
  (comb_Add r_1.1 ([65] : List UInt8) ([] : List UInt8) ({ Align := 2, Combine := 2, Frame := 0, Offset := 0, Len := 3, Name := 0, Class := 0, Overlay := 0 } : SegDef) 1 1).bind fun r_2 =>
  (comb_Find r_2.1 1 1).bind fun r_3 =>
  if (r_1.2 == 0) then
    if (r_2.2 == 0) then
      if ((r_2.1.length : Int) == 1) then
        (idx r_2.1 0).bind fun z_1 =>
        if (z_1.Len == 7) then
          if r_3.2.2 then
            if (r_3.1 == 0) then
              some (r_3.2.1 == 4)
            else
              some false
          else
            some false
        else
          some false
      else
        some false
    else
      some false
  else
    some false
noncomputable def hansomlaw40_CombAdds_l33 (d8 : SegDef) (b_28 : (List SegDef)) (l0 : (List SegDef)) (names1 : (List Int)) (m5 : (List Comb)) (i7 : Int) (name10 : (List UInt8)) (class11 : (List UInt8)) (at12 : Int) (k13 : Int) : Option (Lp (Int × Int) Int) :=
  if (decide (k13 < (m5.length : Int))) then
    if (decide (at12 < 0)) then
      if (d8.Align != 0) then
        (idx m5 k13).bind fun z_5 =>
        if (z_5.Align != 0) then
          if (d8.Combine != 0) then
            (idx m5 k13).bind fun z_6 =>
            if (z_6.Combine == d8.Combine) then
              (idx m5 k13).bind fun z_7 =>
              if (z_7.Name == name10) then
                (idx m5 k13).bind fun z_8 =>
                if (z_8.Class == class11) then
                  some (.next (k13, (IntKind.wrap .i64 (k13 + 1))))
                else
                  some (.next (at12, (IntKind.wrap .i64 (k13 + 1))))
              else
                some (.next (at12, (IntKind.wrap .i64 (k13 + 1))))
            else
              some (.next (at12, (IntKind.wrap .i64 (k13 + 1))))
          else
            some (.next (at12, (IntKind.wrap .i64 (k13 + 1))))
        else
          some (.next (at12, (IntKind.wrap .i64 (k13 + 1))))
      else
        some (.next (at12, (IntKind.wrap .i64 (k13 + 1))))
    else
      some (.next (at12, (IntKind.wrap .i64 (k13 + 1))))
  else
    some (.out at12)
noncomputable def hansomlaw40_CombAdds_j112 (d8 : SegDef) (c18 : Comb) (b_28 : (List SegDef)) (l0 : (List SegDef)) (names1 : (List Int)) (i7 : Int) (name10 : (List UInt8)) (class11 : (List UInt8)) (off14 : Int) (next15 : (List Comb)) (k17 : Int) (was19 : Int) (align20 : Int) : Option (Lp ((List SegDef) × (List Comb) × Int) (Bool ⊕ ((List SegDef) × (List Comb)))) :=
  (comb_Find next15 7 (IntKind.wrap .i64 (i7 + 1))).bind fun r_7 =>
  if (c18.Name != name10) then
    some (.out (.inl false))
  else
    if (c18.Class != class11) then
      some (.out (.inl false))
    else
      if (c18.Combine != d8.Combine) then
        some (.out (.inl false))
      else
        (hansomlaw40_step c18.Align).bind fun r_8 =>
        (hansomlaw40_step align20).bind fun r_9 =>
        if (r_8 != r_9) then
          some (.out (.inl false))
        else
          if (c18.Len != (mxI was19 (IntKind.wrap .i64 (off14 + d8.Len)))) then
            some (.out (.inl false))
          else
            if (!r_7.2.2) then
              some (.out (.inl false))
            else
              if (r_7.1 != k17) then
                some (.out (.inl false))
              else
                if (r_7.2.1 != off14) then
                  some (.out (.inl false))
                else
                  if (c18.Frame != d8.Frame) then
                    some (.out (.inl false))
                  else
                    if (c18.Offset != d8.Offset) then
                      some (.out (.inl false))
                    else
                      (grow 56 b_28 ([d8] : List SegDef)).bind fun z_10 =>
                      some (.next (z_10, next15, (IntKind.wrap .i64 (i7 + 1))))
noncomputable def hansomlaw40_CombAdds_j88 (d8 : SegDef) (b_28 : (List SegDef)) (l0 : (List SegDef)) (names1 : (List Int)) (m5 : (List Comb)) (i7 : Int) (name10 : (List UInt8)) (class11 : (List UInt8)) (at12 : Int) (off14 : Int) (next15 : (List Comb)) (k17 : Int) : Option (Lp ((List SegDef) × (List Comb) × Int) (Bool ⊕ ((List SegDef) × (List Comb)))) :=
  if (decide (k17 ≥ (next15.length : Int))) then
    some (.out (.inl false))
  else
    (idx next15 k17).bind fun z_6 =>
    if (decide (at12 ≥ 0)) then
      (idx m5 at12).bind fun z_7 =>
      (idx m5 at12).bind fun z_8 =>
      (hansomlaw40_step z_8.Align).bind fun r_5 =>
      (hansomlaw40_step d8.Align).bind fun r_6 =>
      if (decide (r_5 ≥ r_6)) then
        (idx m5 at12).bind fun z_9 =>
        hansomlaw40_CombAdds_j112 d8 z_6 b_28 l0 names1 i7 name10 class11 off14 next15 k17 z_7.Len z_9.Align
      else
        hansomlaw40_CombAdds_j112 d8 z_6 b_28 l0 names1 i7 name10 class11 off14 next15 k17 z_7.Len d8.Align
    else
      hansomlaw40_CombAdds_j112 d8 z_6 b_28 l0 names1 i7 name10 class11 off14 next15 k17 0 d8.Align
noncomputable def hansomlaw40_CombAdds_j80 (d8 : SegDef) (b_28 : (List SegDef)) (l0 : (List SegDef)) (names1 : (List Int)) (m5 : (List Comb)) (i7 : Int) (name10 : (List UInt8)) (class11 : (List UInt8)) (at12 : Int) (off14 : Int) (next15 : (List Comb)) : Option (Lp ((List SegDef) × (List Comb) × Int) (Bool ⊕ ((List SegDef) × (List Comb)))) :=
  if (decide (at12 < 0)) then
    hansomlaw40_CombAdds_j88 d8 b_28 l0 names1 m5 i7 name10 class11 at12 off14 next15 (m5.length : Int)
  else
    hansomlaw40_CombAdds_j88 d8 b_28 l0 names1 m5 i7 name10 class11 at12 off14 next15 at12
noncomputable def hansomlaw40_CombAdds_j72 (d8 : SegDef) (b_28 : (List SegDef)) (l0 : (List SegDef)) (names1 : (List Int)) (m5 : (List Comb)) (i7 : Int) (name10 : (List UInt8)) (class11 : (List UInt8)) (at12 : Int) (off14 : Int) (next15 : (List Comb)) (e16 : Int) : Option (Lp ((List SegDef) × (List Comb) × Int) (Bool ⊕ ((List SegDef) × (List Comb)))) :=
  if (e16 != 0) then
    some (.out (.inl false))
  else
    if (decide (at12 < 0)) then
      if ((next15.length : Int) != (IntKind.wrap .i64 ((m5.length : Int) + 1))) then
        some (.out (.inl false))
      else
        if (decide (at12 ≥ 0)) then
          if ((next15.length : Int) != (m5.length : Int)) then
            some (.out (.inl false))
          else
            hansomlaw40_CombAdds_j80 d8 b_28 l0 names1 m5 i7 name10 class11 at12 off14 next15
        else
          hansomlaw40_CombAdds_j80 d8 b_28 l0 names1 m5 i7 name10 class11 at12 off14 next15
    else
      if (decide (at12 ≥ 0)) then
        if ((next15.length : Int) != (m5.length : Int)) then
          some (.out (.inl false))
        else
          hansomlaw40_CombAdds_j80 d8 b_28 l0 names1 m5 i7 name10 class11 at12 off14 next15
      else
        hansomlaw40_CombAdds_j80 d8 b_28 l0 names1 m5 i7 name10 class11 at12 off14 next15
noncomputable def hansomlaw40_CombAdds_j56 (d8 : SegDef) (b_28 : (List SegDef)) (l0 : (List SegDef)) (names1 : (List Int)) (m5 : (List Comb)) (i7 : Int) (name10 : (List UInt8)) (class11 : (List UInt8)) (at12 : Int) (off14 : Int) : Option (Lp ((List SegDef) × (List Comb) × Int) (Bool ⊕ ((List SegDef) × (List Comb)))) :=
  (comb_Add m5 name10 class11 d8 7 (IntKind.wrap .i64 (i7 + 1))).bind fun r_4 =>
  if (decide (at12 ≥ 0)) then
    if (decide ((IntKind.wrap .i64 (off14 + d8.Len)) > 65536)) then
      if (r_4.2 != 8) then
        some (.out (.inl false))
      else
        if ((r_4.1.length : Int) != 0) then
          some (.out (.inl false))
        else
          some (.next (b_28, m5, (IntKind.wrap .i64 (i7 + 1))))
    else
      hansomlaw40_CombAdds_j72 d8 b_28 l0 names1 m5 i7 name10 class11 at12 off14 r_4.1 r_4.2
  else
    hansomlaw40_CombAdds_j72 d8 b_28 l0 names1 m5 i7 name10 class11 at12 off14 r_4.1 r_4.2
noncomputable def hansomlaw40_CombAdds_j25 (d8 : SegDef) (b_28 : (List SegDef)) (l0 : (List SegDef)) (names1 : (List Int)) (m5 : (List Comb)) (i7 : Int) (n9 : Int) : Option (Lp ((List SegDef) × (List Comb) × Int) (Bool ⊕ ((List SegDef) × (List Comb)))) :=
  (idx ([([65] : List UInt8), ([66] : List UInt8)] : List (List UInt8)) (bitsOp .and .i64 n9 1)).bind fun z_3 =>
  (idx ([([88] : List UInt8), ([89] : List UInt8)] : List (List UInt8)) (shrI .i64 n9 1)).bind fun z_4 =>
  (loopO (fun x : (Int × Int) => hansomlaw40_CombAdds_l33 d8 b_28 l0 names1 m5 i7 z_3 z_4 x.1 x.2) ((-1), 0)).bind fun e_1 =>
  if (decide (e_1 ≥ 0)) then
    if (d8.Combine != 6) then
      (idx m5 e_1).bind fun z_5 =>
      (hansomlaw40_step d8.Align).bind fun r_2 =>
      (hansomref01_Up z_5.Len r_2).bind fun r_3 =>
      hansomlaw40_CombAdds_j56 d8 b_28 l0 names1 m5 i7 z_3 z_4 e_1 r_3
    else
      hansomlaw40_CombAdds_j56 d8 b_28 l0 names1 m5 i7 z_3 z_4 e_1 0
  else
    hansomlaw40_CombAdds_j56 d8 b_28 l0 names1 m5 i7 z_3 z_4 e_1 0
noncomputable def hansomlaw40_CombAdds_l8 (b_28 : (List SegDef)) (l0 : (List SegDef)) (names1 : (List Int)) (m5 : (List Comb)) (i7 : Int) : Option (Lp ((List SegDef) × (List Comb) × Int) (Bool ⊕ ((List SegDef) × (List Comb)))) :=
  if (decide (i7 < (l0.length : Int))) then
    if (decide (i7 < 10)) then
      (idx l0 i7).bind fun z_1 =>
      (hansomlaw40_near z_1).bind fun r_1 =>
      if (decide (i7 < (names1.length : Int))) then
        (idx names1 i7).bind fun z_2 =>
        hansomlaw40_CombAdds_j25 r_1 b_28 l0 names1 m5 i7 (bitsOp .and .i64 z_2 3)
      else
        hansomlaw40_CombAdds_j25 r_1 b_28 l0 names1 m5 i7 0
    else
      some (.out (.inr (b_28, m5)))
  else
    some (.out (.inr (b_28, m5)))
/-- hansom/hansomlaw40.CombAdds -/
noncomputable def hansomlaw40_CombAdds (l_ : (List SegDef)) (names_ : (List Int)) : Option Bool :=
  (loopO (fun x : ((List SegDef) × (List Comb) × Int) => hansomlaw40_CombAdds_l8 x.1 l_ names_ x.2.1 x.2.2) (([] : List SegDef), ([] : List Comb), 0)).bind fun e_1 =>
  match e_1 with
  | .inl e_2 =>
    some e_2
  | .inr e_3 =>
    (comb_Find e_3.2 8 1).bind fun r_1 =>
    (hansomlaw40_awake).bind fun r_2 =>
    if r_2 then
      if (!r_1.2.2) then
        some (decide ((e_3.1.length : Int) ≥ (e_3.2.length : Int)))
      else
        some false
    else
      some false
/-- hansom/omf.in -/
noncomputable def omf_in (n_ : Int) (many_ : Int) : Option Bool :=
  if (decide (n_ ≥ 1)) then
    some (decide (n_ ≤ many_))
  else
    some false
/-- hansom/omf.Name -/
noncomputable def omf_Name (m_ : Module) (n_ : Int) : Option (List UInt8) :=
  (omf_in n_ (m_.Names.length : Int)).bind fun r_1 =>
  if (!r_1) then
    some ([] : List UInt8)
  else
    (idx m_.Names (IntKind.wrap .i64 (n_ - 1))).bind fun z_1 =>
    some z_1
noncomputable def comb_made_j29 (d8 : SegDef) (l0 : (List Comb)) (k6 : Int) (name9 : (List UInt8)) (class10 : (List UInt8)) (t12 : (List Ext)) (t13 : Int) (t14 : Int) : Option (Lp ((List Comb) × Int) (((List Comb) × Int) ⊕ (List Comb))) :=
  if (decide (d8.Len > 65536)) then
    some (.out (.inl (([] : List Comb), 8)))
  else
    (comb_Add l0 name9 class10 d8 (-1) k6).bind fun r_1 =>
    if (r_1.2 != 0) then
      some (.out (.inl (([] : List Comb), r_1.2)))
    else
      some (.next (r_1.1, (IntKind.wrap .i64 (t14 + 1))))
noncomputable def comb_made_l6 (l0 : (List Comb)) (t12 : (List Ext)) (t13 : Int) (t14 : Int) : Option (Lp ((List Comb) × Int) (((List Comb) × Int) ⊕ (List Comb))) :=
  if (decide (t14 < t13)) then
    (idx t12 t14).bind fun z_1 =>
    if (z_1.Com == 97) then
      comb_made_j29 ({ Align := 3, Combine := 0, Frame := 0, Offset := 0, Len := (IntKind.wrap .i64 z_1.Len), Name := 0, Class := 0, Overlay := 0 } : SegDef) l0 t14 ([70, 65, 82, 95, 67, 79, 77, 77, 79, 78] : List UInt8) ([70, 65, 82, 95, 66, 83, 83] : List UInt8) t12 t13 t14
    else
      comb_made_j29 ({ Align := 2, Combine := 2, Frame := 0, Offset := 0, Len := (IntKind.wrap .i64 z_1.Len), Name := 0, Class := 0, Overlay := 0 } : SegDef) l0 t14 ([67, 95, 67, 79, 77, 77, 79, 78] : List UInt8) ([66, 83, 83] : List UInt8) t12 t13 t14
  else
    some (.out (.inr l0))
/-- hansom/comb.made -/
noncomputable def comb_made (l_ : (List Comb)) (exts_ : (List Ext)) : Option ((List Comb) × Int) :=
  (loopO (fun x : ((List Comb) × Int) => comb_made_l6 x.1 exts_ (exts_.length : Int) x.2) (l_, 0)).bind fun e_1 =>
  match e_1 with
  | .inl e_2 =>
    some e_2
  | .inr e_3 =>
    some (e_3, 0)
noncomputable def comb_All_l22 (m8 : Module) (exts1 : (List Ext)) (out6 : (List Comb)) (i7 : Int) (t12 : (List Module)) (t13 : Int) (t14 : Int) (t20 : (List SegDef)) (t21 : Int) (t22 : Int) : Option (Lp ((List Comb) × Int) (((List Comb) × Int) ⊕ (List Comb))) :=
  if (decide (t22 < t21)) then
    (idx t20 t22).bind fun z_2 =>
    (omf_Name m8 z_2.Name).bind fun r_1 =>
    (omf_Name m8 z_2.Class).bind fun r_2 =>
    (comb_Add out6 r_1 r_2 z_2 i7 (IntKind.wrap .i64 (t22 + 1))).bind fun r_3 =>
    if (r_3.2 != 0) then
      some (.out (.inl (([] : List Comb), r_3.2)))
    else
      some (.next (r_3.1, (IntKind.wrap .i64 (t22 + 1))))
  else
    some (.out (.inr out6))
noncomputable def comb_All_l8 (exts1 : (List Ext)) (out6 : (List Comb)) (t12 : (List Module)) (t13 : Int) (t14 : Int) : Option (Lp ((List Comb) × Int) (((List Comb) × Int) ⊕ (List Comb))) :=
  if (decide (t14 < t13)) then
    (idx t12 t14).bind fun z_1 =>
    (loopO (fun x : ((List Comb) × Int) => comb_All_l22 z_1 exts1 x.1 t14 t12 t13 t14 z_1.Segs (z_1.Segs.length : Int) x.2) (out6, 0)).bind fun e_1 =>
    match e_1 with
    | .inl e_2 =>
      some (.out (.inl e_2))
    | .inr e_3 =>
      some (.next (e_3, (IntKind.wrap .i64 (t14 + 1))))
  else
    some (.out (.inr out6))
/-- hansom/comb.All -/
noncomputable def comb_All (l_ : (List Module)) (exts_ : (List Ext)) : Option ((List Comb) × Int) :=
  (loopO (fun x : ((List Comb) × Int) => comb_All_l8 exts_ x.1 l_ (l_.length : Int) x.2) (([] : List Comb), 0)).bind fun e_1 =>
  match e_1 with
  | .inl e_2 =>
    some e_2
  | .inr e_3 =>
    (comb_made e_3 exts_).bind fun r_1 =>
    some (r_1.1, r_1.2)
noncomputable def hansomlaw40_CombAll_l8 (b_29 : (List Module)) (l0 : (List Ext)) (many1 : Int) (i6 : Int) : Option (Lp ((List Module) × Int) (List Module)) :=
  if (decide (i6 < (bitsOp .and .i64 many1 3))) then
    (grow 256 b_29 ([({ Name := [], Notes := ([] : List Comment), Names := ([([83] : List UInt8), ([75] : List UInt8)] : List (List UInt8)), Segs := ([({ Align := 1, Combine := 2, Frame := 0, Offset := 0, Len := (IntKind.wrap .i64 (5 + i6)), Name := 1, Class := 2, Overlay := 0 } : SegDef), ({ Align := 3, Combine := 0, Frame := 0, Offset := 0, Len := 9, Name := 2, Class := 0, Overlay := 0 } : SegDef)] : List SegDef), Groups := ([] : List GrpDef), Exts := ([] : List Ext), Pubs := ([] : List Pub), Datas := ([] : List Data), Main := false, Is := false, Start := ({ At := 0, Loc := 0, Self := false, Frame := 0, FrameN := 0, Target := 0, N := 0, Disp := 0 } : Fixup) } : Module)] : List Module)).bind fun z_1 =>
    some (.next (z_1, (IntKind.wrap .i64 (i6 + 1))))
  else
    some (.out b_29)
noncomputable def hansomlaw40_CombAll_l27 (b_29 : (List Module)) (b_46 : (List Ext)) (l0 : (List Ext)) (many1 : Int) (near8 : Int) (far9 : Int) (i10 : Int) : Option (Lp ((List Ext) × Int × Int × Int) ((List Ext) × Int × Int)) :=
  if (decide (i10 < (l0.length : Int))) then
    if (decide (i10 < 6)) then
      (idx l0 i10).bind fun z_1 =>
      (idx l0 i10).bind fun z_2 =>
      if ((IntKind.wrap .i64 (97 + (bitsOp .and .i64 z_1.Com 1))) == 98) then
        (grow 32 b_46 ([({ Name := ([69] : List UInt8), Com := (IntKind.wrap .i64 (97 + (bitsOp .and .i64 z_1.Com 1))), Len := (bitsOp .and .u32 z_2.Len 255) } : Ext)] : List Ext)).bind fun z_3 =>
        some (.next (z_3, (IntKind.wrap .i64 (near8 + 1)), far9, (IntKind.wrap .i64 (i10 + 1))))
      else
        (grow 32 b_46 ([({ Name := ([69] : List UInt8), Com := (IntKind.wrap .i64 (97 + (bitsOp .and .i64 z_1.Com 1))), Len := (bitsOp .and .u32 z_2.Len 255) } : Ext)] : List Ext)).bind fun z_4 =>
        some (.next (z_4, near8, (IntKind.wrap .i64 (far9 + 1)), (IntKind.wrap .i64 (i10 + 1))))
    else
      some (.out (b_46, near8, far9))
  else
    some (.out (b_46, near8, far9))
noncomputable def hansomlaw40_CombAll_l76 (b_29 : (List Module)) (b_46 : (List Ext)) (many1 : Int) (m12 : (List Comb)) (sum15 : Int) (i16 : Int) : Option (Lp (Int × Int) (Bool ⊕ Unit)) :=
  if (decide (i16 < (b_29.length : Int))) then
    (comb_Find m12 i16 1).bind fun r_2 =>
    (comb_Find m12 i16 2).bind fun r_3 =>
    if (!r_2.2.2) then
      some (.out (.inl false))
    else
      if (!r_3.2.2) then
        some (.out (.inl false))
      else
        if (r_2.1 != 0) then
          some (.out (.inl false))
        else
          if (r_2.2.1 != sum15) then
            some (.out (.inl false))
          else
            if (r_3.2.1 != 0) then
              some (.out (.inl false))
            else
              (idx m12 r_3.1).bind fun z_1 =>
              if (z_1.Name != ([75] : List UInt8)) then
                some (.out (.inl false))
              else
                (idx m12 r_3.1).bind fun z_2 =>
                if (z_2.Class != ([] : List UInt8)) then
                  some (.out (.inl false))
                else
                  some (.next ((IntKind.wrap .i64 (sum15 + (IntKind.wrap .i64 (5 + i16)))), (IntKind.wrap .i64 (i16 + 1))))
  else
    some (.out (.inr ()))
noncomputable def hansomlaw40_CombAll_l103 (b_46 : (List Ext)) (many1 : Int) (m12 : (List Comb)) (i23 : Int) : Option (Lp Int (Bool ⊕ Unit)) :=
  if (decide (i23 < (b_46.length : Int))) then
    (comb_Find m12 (-1) i23).bind fun r_2 =>
    if (!r_2.2.2) then
      some (.out (.inl false))
    else
      if ((Int.tmod r_2.2.1 2) != 0) then
        some (.out (.inl false))
      else
        (idx m12 r_2.1).bind fun z_1 =>
        (idx b_46 i23).bind fun z_2 =>
        if ((z_1.Class == ([66, 83, 83] : List UInt8)) != (z_2.Com == 98)) then
          some (.out (.inl false))
        else
          (idx m12 r_2.1).bind fun z_3 =>
          (idx b_46 i23).bind fun z_4 =>
          if (decide (z_3.Len < (IntKind.wrap .i64 (r_2.2.1 + (IntKind.wrap .i64 z_4.Len))))) then
            some (.out (.inl false))
          else
            some (.next (IntKind.wrap .i64 (i23 + 1)))
  else
    some (.out (.inr ()))
noncomputable def hansomlaw40_CombAll_j62 (b_29 : (List Module)) (b_46 : (List Ext)) (many1 : Int) (m12 : (List Comb)) (e13 : Int) (want14 : Int) : Option Bool :=
  if (e13 != 0) then
    some false
  else
    if ((m12.length : Int) != want14) then
      some false
    else
      (loopO (fun x : (Int × Int) => hansomlaw40_CombAll_l76 b_29 b_46 many1 m12 x.1 x.2) (0, 0)).bind fun e_3 =>
      match e_3 with
      | .inl e_4 =>
        some e_4
      | .inr e_5 =>
        (loopO (fun x : Int => hansomlaw40_CombAll_l103 b_46 many1 m12 x) 0).bind fun e_6 =>
        match e_6 with
        | .inl e_7 =>
          some e_7
        | .inr e_8 =>
          (comb_All ([] : List Module) ([({ Name := [], Com := 97, Len := (IntKind.wrap .u32 (IntKind.wrap .i64 (65536 + (bitsOp .and .i64 many1 7)))) } : Ext)] : List Ext)).bind fun r_2 =>
          (hansomlaw40_awake).bind fun r_3 =>
          if r_3 then
            if ((r_2.2 == 0) == ((bitsOp .and .i64 many1 7) == 0)) then
              if (r_2.2 == 0) then
                some true
              else
                some (r_2.2 == 8)
            else
              some false
          else
            some false
noncomputable def hansomlaw40_CombAll_j56 (b_29 : (List Module)) (b_46 : (List Ext)) (many1 : Int) (m12 : (List Comb)) (e13 : Int) (want14 : Int) : Option Bool :=
  if (decide ((b_29.length : Int) > 0)) then
    hansomlaw40_CombAll_j62 b_29 b_46 many1 m12 e13 (IntKind.wrap .i64 (want14 + (IntKind.wrap .i64 (1 + (b_29.length : Int)))))
  else
    hansomlaw40_CombAll_j62 b_29 b_46 many1 m12 e13 want14
/-- hansom/hansomlaw40.CombAll -/
noncomputable def hansomlaw40_CombAll (l_ : (List Ext)) (many_ : Int) : Option Bool :=
  (loopO (fun x : ((List Module) × Int) => hansomlaw40_CombAll_l8 x.1 l_ many_ x.2) (([] : List Module), 0)).bind fun e_1 =>
  (loopO (fun x : ((List Ext) × Int × Int × Int) => hansomlaw40_CombAll_l27 e_1 x.1 l_ many_ x.2.1 x.2.2.1 x.2.2.2) (([] : List Ext), 0, 0, 0)).bind fun e_2 =>
  (comb_All e_1 e_2.1).bind fun r_1 =>
  if (decide (e_2.2.1 > 0)) then
    hansomlaw40_CombAll_j56 e_1 e_2.1 many_ r_1.1 r_1.2 (IntKind.wrap .i64 (e_2.2.2 + 1))
  else
    hansomlaw40_CombAll_j56 e_1 e_2.1 many_ r_1.1 r_1.2 e_2.2.2
end Go.Es.Cmb
