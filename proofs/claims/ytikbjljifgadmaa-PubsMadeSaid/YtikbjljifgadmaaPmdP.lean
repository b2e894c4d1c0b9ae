/- What the functions that the law PubsMade reaches answer, in plain Lean. No condition. -/
import Derived.Test.YtikbjljifgadmaaEsD
set_option linter.unusedVariables false
set_option linter.unusedSimpArgs false
set_option maxRecDepth 100000
set_option maxHeartbeats 4000000
namespace Go.Es.Pmd
structure Ext where
  Name : (List UInt8)
  Com : Int
  Len : Int
  deriving DecidableEq, Inhabited
def Ext.cs (x : Ext) : List D := [.str x.Name, .int .i64 x.Com, .int .u32 x.Len]
def Ext.d (x : Ext) : D := .agg (Ext.cs x)
structure Record where
  Kind : Int
  Body : (List Int)
  deriving DecidableEq, Inhabited
def Record.cs (x : Record) : List D := [.int .u8 x.Kind, .sl (List.map (D.int .u8) x.Body)]
def Record.d (x : Record) : D := .agg (Record.cs x)
structure Source where
  b : (List Int)
  e : Int
  deriving DecidableEq, Inhabited
def Source.cs (x : Source) : List D := [.sl (List.map (D.int .u8) x.b), .int .i64 x.e]
def Source.d (x : Source) : D := .agg (Source.cs x)
structure Pub where
  Group : Int
  Seg : Int
  Frame : Int
  Name : (List UInt8)
  Off : Int
  deriving DecidableEq, Inhabited
def Pub.cs (x : Pub) : List D := [.int .i64 x.Group, .int .i64 x.Seg, .int .u16 x.Frame, .str x.Name, .int .u16 x.Off]
def Pub.d (x : Pub) : D := .agg (Pub.cs x)
def Ext.wf (x : Ext) : Prop := wfS x.Name ∧ wfI .i64 x.Com ∧ wfI .u32 x.Len
def Record.wf (x : Record) : Prop := wfI .u8 x.Kind ∧ wfL (wfI .u8) x.Body
def Source.wf (x : Source) : Prop := wfL (wfI .u8) x.b ∧ wfI .i64 x.e
def Pub.wf (x : Pub) : Prop := wfI .i64 x.Group ∧ wfI .i64 x.Seg ∧ wfI .u16 x.Frame ∧ wfS x.Name ∧ wfI .u16 x.Off
/-- hansom/index.Name -/
noncomputable def index_Name (s_ : (List UInt8)) : Option (List Int) :=
  (cutL s_ 0 (mnI (s_.length : Int) 255)).bind fun z_1 =>
  (grow 1 ([(IntKind.wrap .u8 (z_1.length : Int))] : List Int) (s2b z_1)).bind fun z_2 =>
  some z_2
/-- hansom/bits.Low -/
noncomputable def bits_Low (w_ : Int) : Option Int :=
  some (IntKind.wrap .u8 w_)
/-- hansom/bits.High -/
noncomputable def bits_High (w_ : Int) : Option Int :=
  some (IntKind.wrap .u8 (shrI .u16 w_ 8))
/-- hansom/index.Two -/
noncomputable def index_Two (w_ : Int) : Option (List Int) :=
  (bits_Low w_).bind fun r_1 =>
  (bits_High w_).bind fun r_2 =>
  some ([r_1, r_2] : List Int)
/-- hansom/index.Four -/
noncomputable def index_Four (n_ : Int) : Option (List Int) :=
  (index_Two (IntKind.wrap .u16 n_)).bind fun r_1 =>
  (index_Two (IntKind.wrap .u16 (shrI .u32 n_ 16))).bind fun r_2 =>
  (grow 1 r_1 r_2).bind fun z_1 =>
  some z_1
/-- hansom/index.Long -/
noncomputable def index_Long (n_ : Int) : Option (List Int) :=
  if (decide (n_ ≤ 128)) then
    some ([(IntKind.wrap .u8 n_)] : List Int)
  else
    if (decide (n_ < 65536)) then
      (index_Two (IntKind.wrap .u16 n_)).bind fun r_1 =>
      (grow 1 ([129] : List Int) r_1).bind fun z_1 =>
      some z_1
    else
      if (decide (n_ < 16777216)) then
        (index_Four n_).bind fun r_2 =>
        (cutL r_2 0 3).bind fun z_2 =>
        (grow 1 ([132] : List Int) z_2).bind fun z_3 =>
        some z_3
      else
        (index_Four n_).bind fun r_3 =>
        (grow 1 ([136] : List Int) r_3).bind fun z_4 =>
        some z_4
noncomputable def pubs_Communal_l8 (r3 : Record) (b_2_0 : Int) (t7 : (List Ext)) (t8 : Int) (t9 : Int) : Option (Lp (Record × Int) Record) :=
  if (decide (t9 < t8)) then
    (idx t7 t9).bind fun z_1 =>
    (index_Name z_1.Name).bind fun r_1 =>
    (grow 1 r3.Body r_1).bind fun z_2 =>
    (grow 1 z_2 ([0] : List Int)).bind fun z_3 =>
    if (z_1.Com == 97) then
      (grow 1 z_3 ([97] : List Int)).bind fun z_4 =>
      (index_Long z_1.Len).bind fun r_2 =>
      (grow 1 z_4 r_2).bind fun z_5 =>
      (grow 1 z_5 ([1] : List Int)).bind fun z_6 =>
      some (.next (({ Kind := r3.Kind, Body := z_6 } : Record), (IntKind.wrap .i64 (t9 + 1))))
    else
      (grow 1 z_3 ([98] : List Int)).bind fun z_7 =>
      (index_Long z_1.Len).bind fun r_3 =>
      (grow 1 z_7 r_3).bind fun z_8 =>
      some (.next (({ Kind := r3.Kind, Body := z_8 } : Record), (IntKind.wrap .i64 (t9 + 1))))
  else
    some (.out r3)
/-- hansom/pubs.Communal -/
noncomputable def pubs_Communal (l_ : (List Ext)) : Option Record :=
  (loopO (fun x : (Record × Int) => pubs_Communal_l8 x.1 0 l_ (l_.length : Int) x.2) (({ Kind := 176, Body := ([] : List Int) } : Record), 0)).bind fun e_1 =>
  some e_1
/-- hansom/index.From -/
noncomputable def index_From (b_ : (List Int)) : Option Source :=
  (grow 1 [] b_).bind fun z_1 =>
  some ({ b := z_1, e := 0 } : Source)
/-- (*hansom/index.Source).Left -/
noncomputable def index_Source_Left (s_ : Source) : Option Int :=
  some (s_.b.length : Int)
/-- (*hansom/index.Source).Wrong -/
noncomputable def index_Source_Wrong (s_ : Source) (e_ : Int) : Option Source :=
  if (s_.e == 0) then
    if (e_ != 0) then
      some ({ b := ([] : List Int), e := e_ } : Source)
    else
      some s_
  else
    some s_
/-- (*hansom/index.Source).Take -/
noncomputable def index_Source_Take (s_ : Source) (n_ : Int) : Option ((List Int) × Source) :=
  if (decide (n_ < 0)) then
    (index_Source_Wrong s_ 2).bind fun r_1 =>
    some (([] : List Int), r_1)
  else
    if (decide (n_ > (s_.b.length : Int))) then
      (index_Source_Wrong s_ 2).bind fun r_2 =>
      some (([] : List Int), r_2)
    else
      (cut3 s_.b 0 n_ n_).bind fun z_1 =>
      (cutL s_.b n_ (s_.b.length : Int)).bind fun z_2 =>
      some (z_1, ({ b := z_2, e := s_.e } : Source))
/-- (*hansom/index.Source).Byte -/
noncomputable def index_Source_Byte (s_ : Source) : Option (Int × Source) :=
  (index_Source_Take s_ 1).bind fun r_1 =>
  if ((r_1.1.length : Int) == 1) then
    (idx r_1.1 0).bind fun z_1 =>
    some (z_1, r_1.2)
  else
    some (0, r_1.2)
/-- (*hansom/index.Source).Name -/
noncomputable def index_Source_Name (s_ : Source) : Option ((List UInt8) × Source) :=
  (index_Source_Byte s_).bind fun r_1 =>
  (index_Source_Take r_1.2 (IntKind.wrap .i64 r_1.1)).bind fun r_2 =>
  some ((b2s r_2.1), r_2.2)
/-- (*hansom/index.Source).Err -/
noncomputable def index_Source_Err (s_ : Source) : Option Int :=
  some s_.e
/-- (*hansom/index.Source).Index -/
noncomputable def index_Source_Index (s_ : Source) : Option (Int × Source) :=
  (index_Source_Byte s_).bind fun r_1 =>
  if (decide ((IntKind.wrap .i64 r_1.1) < 128)) then
    some ((IntKind.wrap .i64 r_1.1), r_1.2)
  else
    (index_Source_Byte r_1.2).bind fun r_2 =>
    (index_Source_Err r_2.2).bind fun r_3 =>
    if (r_3 != 0) then
      some (0, r_2.2)
    else
      some ((bitsOp .or .i64 (shlI .i64 (bitsOp .and .i64 (IntKind.wrap .i64 r_1.1) 127) 8) (IntKind.wrap .i64 r_2.1)), r_2.2)
noncomputable def index_Source_Long_l29 (s0 : Source) (out5 : Int) (t26 : (List Int)) (t27 : Int) (t28 : Int) : Option (Lp (Int × Int) Int) :=
  if (decide (t28 < t27)) then
    (idx t26 t28).bind fun z_1 =>
    (shlO .u32 (IntKind.wrap .u32 z_1) (IntKind.wrap .i64 (8 * t28))).bind fun z_2 =>
    some (.next ((bitsOp .or .u32 out5 z_2), (IntKind.wrap .i64 (t28 + 1))))
  else
    some (.out out5)
/-- (*hansom/index.Source).Long -/
noncomputable def index_Source_Long (s_ : Source) : Option (Int × Source) :=
  (index_Source_Byte s_).bind fun r_1 =>
  if (decide (r_1.1 ≤ 128)) then
    some ((IntKind.wrap .u32 r_1.1), r_1.2)
  else
    if ((lkpI [(129, 2), (132, 3), (136, 4)] r_1.1) == 0) then
      (index_Source_Wrong r_1.2 3).bind fun r_2 =>
      some (0, r_2)
    else
      (index_Source_Take r_1.2 (lkpI [(129, 2), (132, 3), (136, 4)] r_1.1)).bind fun r_3 =>
      (loopO (fun x : (Int × Int) => index_Source_Long_l29 r_3.2 x.1 r_3.1 (r_3.1.length : Int) x.2) (0, 0)).bind fun e_1 =>
      some (e_1, r_3.2)
noncomputable def pubs_Made_l8 (b_10 : Source) (out5 : (List Ext)) : Option (Lp (Source × (List Ext)) ((List Ext) × Source)) :=
  (index_Source_Left b_10).bind fun r_2 =>
  if (decide (r_2 > 0)) then
    (index_Source_Name b_10).bind fun r_3 =>
    (index_Source_Index r_3.2).bind fun r_4 =>
    (index_Source_Byte r_4.2).bind fun r_5 =>
    (index_Source_Long r_5.2).bind fun r_6 =>
    if ((IntKind.wrap .i64 r_5.1) == 97) then
      (index_Source_Long r_6.2).bind fun r_7 =>
      if (decide ((IntKind.wrap .u64 ((IntKind.wrap .u64 r_6.1) * (IntKind.wrap .u64 r_7.1))) > 1048576)) then
        (index_Source_Wrong r_7.2 8).bind fun r_8 =>
        (grow 32 out5 ([({ Name := r_3.1, Com := (IntKind.wrap .i64 r_5.1), Len := (IntKind.wrap .u32 (IntKind.wrap .u64 ((IntKind.wrap .u64 r_6.1) * (IntKind.wrap .u64 r_7.1)))) } : Ext)] : List Ext)).bind fun z_1 =>
        some (.next (r_8, z_1))
      else
        (grow 32 out5 ([({ Name := r_3.1, Com := (IntKind.wrap .i64 r_5.1), Len := (IntKind.wrap .u32 (IntKind.wrap .u64 ((IntKind.wrap .u64 r_6.1) * (IntKind.wrap .u64 r_7.1)))) } : Ext)] : List Ext)).bind fun z_2 =>
        some (.next (r_7.2, z_2))
    else
      if ((IntKind.wrap .i64 r_5.1) == 98) then
        if (decide ((IntKind.wrap .u64 r_6.1) > 1048576)) then
          (index_Source_Wrong r_6.2 8).bind fun r_9 =>
          (grow 32 out5 ([({ Name := r_3.1, Com := (IntKind.wrap .i64 r_5.1), Len := (IntKind.wrap .u32 (IntKind.wrap .u64 r_6.1)) } : Ext)] : List Ext)).bind fun z_3 =>
          some (.next (r_9, z_3))
        else
          (grow 32 out5 ([({ Name := r_3.1, Com := (IntKind.wrap .i64 r_5.1), Len := (IntKind.wrap .u32 (IntKind.wrap .u64 r_6.1)) } : Ext)] : List Ext)).bind fun z_4 =>
          some (.next (r_6.2, z_4))
      else
        (index_Source_Wrong r_6.2 3).bind fun r_10 =>
        if (decide ((IntKind.wrap .u64 r_6.1) > 1048576)) then
          (index_Source_Wrong r_10 8).bind fun r_11 =>
          (grow 32 out5 ([({ Name := r_3.1, Com := (IntKind.wrap .i64 r_5.1), Len := (IntKind.wrap .u32 (IntKind.wrap .u64 r_6.1)) } : Ext)] : List Ext)).bind fun z_5 =>
          some (.next (r_11, z_5))
        else
          (grow 32 out5 ([({ Name := r_3.1, Com := (IntKind.wrap .i64 r_5.1), Len := (IntKind.wrap .u32 (IntKind.wrap .u64 r_6.1)) } : Ext)] : List Ext)).bind fun z_6 =>
          some (.next (r_10, z_6))
  else
    some (.out (out5, b_10))
/-- hansom/pubs.Made -/
noncomputable def pubs_Made (b_ : (List Int)) : Option ((List Ext) × Int) :=
  (index_From b_).bind fun r_1 =>
  (loopO (fun x : (Source × (List Ext)) => pubs_Made_l8 x.1 x.2) (r_1, ([] : List Ext))).bind fun e_1 =>
  (index_Source_Err e_1.2).bind fun r_2 =>
  if (r_2 != 0) then
    some (([] : List Ext), r_2)
  else
    some (e_1.1, 0)
/-- hansom/hansomref18.Name -/
noncomputable def hansomref18_Name (s_ : (List UInt8)) : Option (List UInt8) :=
  if (decide ((s_.length : Int) > 255)) then
    (cutL s_ 0 255).bind fun z_1 =>
    (catS (b2s ([(IntKind.wrap .u8 (z_1.length : Int))] : List Int)) z_1).bind fun z_2 =>
    some z_2
  else
    (catS (b2s ([(IntKind.wrap .u8 (s_.length : Int))] : List Int)) s_).bind fun z_3 =>
    some z_3
noncomputable def hansomref18_Bytes_l8 (n0 : Int) (many1 : Int) (s5 : (List UInt8)) (i6 : Int) : Option (Lp (Int × (List UInt8) × Int) (List UInt8)) :=
  if (decide (i6 < many1)) then
    (catS s5 (b2s ([(IntKind.wrap .u8 (Int.tmod n0 256))] : List Int))).bind fun z_1 =>
    some (.next ((IntKind.wrap .u64 (Int.tdiv n0 256)), z_1, (IntKind.wrap .i64 (i6 + 1))))
  else
    some (.out s5)
/-- hansom/hansomref18.Bytes -/
noncomputable def hansomref18_Bytes (n_ : Int) (many_ : Int) : Option (List UInt8) :=
  (loopO (fun x : (Int × (List UInt8) × Int) => hansomref18_Bytes_l8 x.1 many_ x.2.1 x.2.2) (n_, ([] : List UInt8), 0)).bind fun e_1 =>
  some e_1
/-- hansom/hansomref18.Long -/
noncomputable def hansomref18_Long (n_ : Int) : Option (List UInt8) :=
  if (decide (n_ ≤ 128)) then
    (hansomref18_Bytes (IntKind.wrap .u64 n_) 1).bind fun r_1 =>
    some r_1
  else
    if (decide (n_ < 65536)) then
      (hansomref18_Bytes (IntKind.wrap .u64 n_) 2).bind fun r_2 =>
      (catS ([129] : List UInt8) r_2).bind fun z_1 =>
      some z_1
    else
      if (decide (n_ < 16777216)) then
        (hansomref18_Bytes (IntKind.wrap .u64 n_) 3).bind fun r_3 =>
        (catS ([132] : List UInt8) r_3).bind fun z_2 =>
        some z_2
      else
        (hansomref18_Bytes (IntKind.wrap .u64 n_) 4).bind fun r_4 =>
        (catS ([136] : List UInt8) r_4).bind fun z_3 =>
        some z_3
noncomputable def hansomref21_Communal_l8 (l0 : (List Ext)) (b3 : (List UInt8)) (i4 : Int) : Option (Lp ((List UInt8) × Int) (List UInt8)) :=
  if (decide (i4 < (l0.length : Int))) then
    (idx l0 i4).bind fun z_1 =>
    (hansomref18_Name z_1.Name).bind fun r_1 =>
    (catS r_1 ([0] : List UInt8)).bind fun z_2 =>
    (catS b3 z_2).bind fun z_3 =>
    (idx l0 i4).bind fun z_4 =>
    if (z_4.Com == 97) then
      (idx l0 i4).bind fun z_5 =>
      (hansomref18_Long z_5.Len).bind fun r_2 =>
      (catS ([97] : List UInt8) r_2).bind fun z_6 =>
      (catS z_6 ([1] : List UInt8)).bind fun z_7 =>
      (catS z_3 z_7).bind fun z_8 =>
      some (.next (z_8, (IntKind.wrap .i64 (i4 + 1))))
    else
      (idx l0 i4).bind fun z_9 =>
      (hansomref18_Long z_9.Len).bind fun r_3 =>
      (catS ([98] : List UInt8) r_3).bind fun z_10 =>
      (catS z_3 z_10).bind fun z_11 =>
      some (.next (z_11, (IntKind.wrap .i64 (i4 + 1))))
  else
    some (.out b3)
/-- hansom/hansomref21.Communal -/
noncomputable def hansomref21_Communal (l_ : (List Ext)) : Option (List UInt8) :=
  (loopO (fun x : ((List UInt8) × Int) => hansomref21_Communal_l8 l_ x.1 x.2) (([] : List UInt8), 0)).bind fun e_1 =>
  some e_1
/-- hansom/index.Put -/
noncomputable def index_Put (n_ : Int) : Option (List Int) :=
  if (decide (n_ < 0)) then
    some ([0] : List Int)
  else
    if (decide (n_ > 32767)) then
      some ([0] : List Int)
    else
      if (decide (n_ < 128)) then
        some ([(IntKind.wrap .u8 n_)] : List Int)
      else
        some ([(bitsOp .or .u8 (IntKind.wrap .u8 (shrI .i64 n_ 8)) 128), (IntKind.wrap .u8 n_)] : List Int)
noncomputable def pubs_Publics_j31 (r3 : Record) (p5 : Pub) (b_2_0 : Int) (t7 : (List Pub)) (t8 : Int) (t9 : Int) : Option (Lp (Record × Int) Record) :=
  (index_Name p5.Name).bind fun r_4 =>
  (grow 1 r3.Body r_4).bind fun z_4 =>
  (index_Two p5.Off).bind fun r_5 =>
  (grow 1 z_4 r_5).bind fun z_5 =>
  (grow 1 z_5 ([0] : List Int)).bind fun z_6 =>
  some (.next (({ Kind := r3.Kind, Body := z_6 } : Record), (IntKind.wrap .i64 (t9 + 1))))
noncomputable def pubs_Publics_l8 (r3 : Record) (b_2_0 : Int) (t7 : (List Pub)) (t8 : Int) (t9 : Int) : Option (Lp (Record × Int) Record) :=
  if (decide (t9 < t8)) then
    (idx t7 t9).bind fun z_1 =>
    if (t9 == 0) then
      (index_Put z_1.Group).bind fun r_1 =>
      (index_Put z_1.Seg).bind fun r_2 =>
      (grow 1 r_1 r_2).bind fun z_2 =>
      if (z_1.Seg == 0) then
        (index_Two z_1.Frame).bind fun r_3 =>
        (grow 1 z_2 r_3).bind fun z_3 =>
        pubs_Publics_j31 ({ Kind := r3.Kind, Body := z_3 } : Record) z_1 b_2_0 t7 t8 t9
      else
        pubs_Publics_j31 ({ Kind := r3.Kind, Body := z_2 } : Record) z_1 b_2_0 t7 t8 t9
    else
      pubs_Publics_j31 r3 z_1 b_2_0 t7 t8 t9
  else
    some (.out r3)
/-- hansom/pubs.Publics -/
noncomputable def pubs_Publics (l_ : (List Pub)) : Option Record :=
  (loopO (fun x : (Record × Int) => pubs_Publics_l8 x.1 0 l_ (l_.length : Int) x.2) (({ Kind := 144, Body := ([] : List Int) } : Record), 0)).bind fun e_1 =>
  some e_1
/-- hansom/bits.Word -/
noncomputable def bits_Word (low_ : Int) (high_ : Int) : Option Int :=
  some (bitsOp .or .u16 (IntKind.wrap .u16 low_) (shlI .u16 (IntKind.wrap .u16 high_) 8))
/-- (*hansom/index.Source).Word -/
noncomputable def index_Source_Word (s_ : Source) : Option (Int × Source) :=
  (index_Source_Take s_ 2).bind fun r_1 =>
  if ((r_1.1.length : Int) == 2) then
    (idx r_1.1 0).bind fun z_1 =>
    (idx r_1.1 1).bind fun z_2 =>
    (bits_Word z_1 z_2).bind fun r_2 =>
    some (r_2, r_1.2)
  else
    some (0, r_1.2)
noncomputable def pubs_Given_l16 (base5 : Pub) (b_10 : Source) (out6 : (List Pub)) : Option (Lp (Source × (List Pub)) ((List Pub) × Source)) :=
  (index_Source_Left b_10).bind fun r_5 =>
  if (decide (r_5 > 0)) then
    (index_Source_Name b_10).bind fun r_6 =>
    (index_Source_Word r_6.2).bind fun r_7 =>
    (index_Source_Index r_7.2).bind fun r_8 =>
    (grow 48 out6 ([({ Group := base5.Group, Seg := base5.Seg, Frame := base5.Frame, Name := r_6.1, Off := r_7.1 } : Pub)] : List Pub)).bind fun z_1 =>
    some (.next (r_8.2, z_1))
  else
    some (.out (out6, b_10))
noncomputable def pubs_Given_j12 (base5 : Pub) (b_10 : Source) : Option ((List Pub) × Int) :=
  (loopO (fun x : (Source × (List Pub)) => pubs_Given_l16 base5 x.1 x.2) (b_10, ([] : List Pub))).bind fun e_1 =>
  (index_Source_Err e_1.2).bind fun r_5 =>
  if (r_5 != 0) then
    some (([] : List Pub), r_5)
  else
    some (e_1.1, 0)
/-- hansom/pubs.Given -/
noncomputable def pubs_Given (b_ : (List Int)) : Option ((List Pub) × Int) :=
  (index_From b_).bind fun r_1 =>
  (index_Source_Index r_1).bind fun r_2 =>
  (index_Source_Index r_2.2).bind fun r_3 =>
  if (r_3.1 == 0) then
    (index_Source_Word r_3.2).bind fun r_4 =>
    pubs_Given_j12 ({ Group := r_2.1, Seg := r_3.1, Frame := r_4.1, Name := [], Off := 0 } : Pub) r_4.2
  else
    pubs_Given_j12 ({ Group := r_2.1, Seg := r_3.1, Frame := 0, Name := [], Off := 0 } : Pub) r_3.2
/-- hansom/hansomlaw22.awake -/
noncomputable def hansomlaw22_awake  : Option Bool :=
  (pubs_Publics ([({ Group := 1, Seg := 2, Frame := 0, Name := ([65] : List UInt8), Off := 7 } : Pub)] : List Pub)).bind fun r_1 =>
  (pubs_Given r_1.Body).bind fun r_2 =>
  if (r_2.2 == 0) then
    if ((r_2.1.length : Int) == 1) then
      (idx r_2.1 0).bind fun z_1 =>
      if (z_1.Name == ([65] : List UInt8)) then
        (idx r_2.1 0).bind fun z_2 =>
        if (z_2.Off == 7) then
          (idx r_2.1 0).bind fun z_3 =>
          some (z_3.Seg == 2)
        else
          some false
      else
        some false
    else
      some false
  else
    some false
noncomputable def hansomlaw22_PubsMade_l8 (b_19 : (List Ext)) (l0 : (List Ext)) (more1 : Int) (i6 : Int) : Option (Lp ((List Ext) × Int) (List Ext)) :=
  if (decide (i6 < (l0.length : Int))) then
    if (decide (i6 < 8)) then
      (idx l0 i6).bind fun z_1 =>
      (idx l0 i6).bind fun z_2 =>
      (cutL z_1.Name 0 (mnI (z_2.Name.length : Int) 40)).bind fun z_3 =>
      (idx l0 i6).bind fun z_4 =>
      (idx l0 i6).bind fun z_5 =>
      (grow 32 b_19 ([({ Name := z_3, Com := (IntKind.wrap .i64 (97 + (bitsOp .and .i64 z_4.Com 1))), Len := (Int.tmod (bitsOp .and .u32 z_5.Len 2097151) 1048577) } : Ext)] : List Ext)).bind fun z_6 =>
      some (.next (z_6, (IntKind.wrap .i64 (i6 + 1))))
    else
      some (.out b_19)
  else
    some (.out b_19)
noncomputable def hansomlaw22_PubsMade_l37 (r8 : Record) (b_19 : (List Ext)) (more1 : Int) (y9 : (List Ext)) (i11 : Int) : Option (Lp Int (Bool ⊕ Unit)) :=
  if (decide (i11 < (b_19.length : Int))) then
    (idx y9 i11).bind fun z_1 =>
    (idx b_19 i11).bind fun z_2 =>
    if (!(z_1.Name == z_2.Name && (z_1.Com == z_2.Com && (z_1.Len == z_2.Len && true)))) then
      some (.out (.inl false))
    else
      some (.next (IntKind.wrap .i64 (i11 + 1)))
  else
    some (.out (.inr ()))
/-- hansom/hansomlaw22.PubsMade -/
noncomputable def hansomlaw22_PubsMade (l_ : (List Ext)) (more_ : Int) : Option Bool :=
  (loopO (fun x : ((List Ext) × Int) => hansomlaw22_PubsMade_l8 x.1 l_ more_ x.2) (([] : List Ext), 0)).bind fun e_1 =>
  (pubs_Communal e_1).bind fun r_1 =>
  (pubs_Made r_1.Body).bind fun r_2 =>
  (hansomref21_Communal e_1).bind fun r_3 =>
  if ((b2s r_1.Body) != r_3) then
    some false
  else
    if (r_1.Kind != 176) then
      some false
    else
      if (r_2.2 != 0) then
        some false
      else
        if ((r_2.1.length : Int) != (e_1.length : Int)) then
          some false
        else
          (loopO (fun x : Int => hansomlaw22_PubsMade_l37 r_1 e_1 more_ r_2.1 x) 0).bind fun e_2 =>
          match e_2 with
          | .inl e_3 =>
            some e_3
          | .inr e_4 =>
            (hansomref18_Name ([65] : List UInt8)).bind fun r_4 =>
            (catS r_4 ([0, 97] : List UInt8)).bind fun z_1 =>
            (hansomref18_Long 1024).bind fun r_5 =>
            (catS z_1 r_5).bind fun z_2 =>
            (hansomref18_Long (IntKind.wrap .u32 (1025 + (bitsOp .and .u32 more_ 65535)))).bind fun r_6 =>
            (catS z_2 r_6).bind fun z_3 =>
            (grow 1 ([] : List Int) r_1.Body).bind fun z_4 =>
            (grow 1 z_4 (s2b z_3)).bind fun z_5 =>
            (pubs_Made z_5).bind fun r_7 =>
            (hansomref18_Name ([65] : List UInt8)).bind fun r_8 =>
            (catS r_8 ([0, 99, 1] : List UInt8)).bind fun z_6 =>
            (pubs_Made (s2b z_6)).bind fun r_9 =>
            (hansomref18_Name ([65] : List UInt8)).bind fun r_10 =>
            (catS r_10 ([0, 97, 5, 7] : List UInt8)).bind fun z_7 =>
            (pubs_Made (s2b z_7)).bind fun r_11 =>
            (hansomlaw22_awake).bind fun r_12 =>
            if r_12 then
              if (r_7.2 == 8) then
                if (r_9.2 == 3) then
                  if (r_11.2 == 0) then
                    if ((r_11.1.length : Int) == 1) then
                      (idx r_11.1 0).bind fun z_8 =>
                      some (z_8.Len == 35)
                    else
                      some false
                  else
                    some false
                else
                  some false
              else
                some false
            else
              some false
end Go.Es.Pmd
