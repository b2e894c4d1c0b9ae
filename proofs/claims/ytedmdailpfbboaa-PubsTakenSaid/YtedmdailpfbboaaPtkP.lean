/- What the functions that the law PubsTaken reaches answer, in plain Lean. No condition. -/
import Derived.Test.YtedmdailpfbboaaEsD
set_option linter.unusedVariables false
set_option linter.unusedSimpArgs false
set_option maxRecDepth 100000
set_option maxHeartbeats 4000000
namespace Go.Es.Ptk
structure Record where
  Kind : Int
  Body : (List Int)
  deriving DecidableEq, Inhabited
def Record.cs (x : Record) : List D := [.int .u8 x.Kind, .sl (List.map (D.int .u8) x.Body)]
def Record.d (x : Record) : D := .agg (Record.cs x)
structure Source where
  b : (List Int)
  e : Int
  deriving DecidableEq, Inhabited
def Source.cs (x : Source) : List D := [.sl (List.map (D.int .u8) x.b), .int .i64 x.e]
def Source.d (x : Source) : D := .agg (Source.cs x)
structure Ext where
  Name : (List UInt8)
  Com : Int
  Len : Int
  deriving DecidableEq, Inhabited
def Ext.cs (x : Ext) : List D := [.str x.Name, .int .i64 x.Com, .int .u32 x.Len]
def Ext.d (x : Ext) : D := .agg (Ext.cs x)
structure Pub where
  Group : Int
  Seg : Int
  Frame : Int
  Name : (List UInt8)
  Off : Int
  deriving DecidableEq, Inhabited
def Pub.cs (x : Pub) : List D := [.int .i64 x.Group, .int .i64 x.Seg, .int .u16 x.Frame, .str x.Name, .int .u16 x.Off]
def Pub.d (x : Pub) : D := .agg (Pub.cs x)
def Record.wf (x : Record) : Prop := wfI .u8 x.Kind ∧ wfL (wfI .u8) x.Body
def Source.wf (x : Source) : Prop := wfL (wfI .u8) x.b ∧ wfI .i64 x.e
def Ext.wf (x : Ext) : Prop := wfS x.Name ∧ wfI .i64 x.Com ∧ wfI .u32 x.Len
def Pub.wf (x : Pub) : Prop := wfI .i64 x.Group ∧ wfI .i64 x.Seg ∧ wfI .u16 x.Frame ∧ wfS x.Name ∧ wfI .u16 x.Off
/-- hansom/hansomref18.Name -/
noncomputable def hansomref18_Name (s_ : (List UInt8)) : Option (List UInt8) :=
  if (decide ((s_.length : Int) > 255)) then
    (cutL s_ 0 255).bind fun z_1 =>
    (catS (b2s ([(IntKind.wrap .u8 (z_1.length : Int))] : List Int)) z_1).bind fun z_2 =>
    some z_2
  else
    (catS (b2s ([(IntKind.wrap .u8 (s_.length : Int))] : List Int)) s_).bind fun z_3 =>
    some z_3
/-- hansom/index.Name -/
noncomputable def index_Name (s_ : (List UInt8)) : Option (List Int) :=
  (cutL s_ 0 (mnI (s_.length : Int) 255)).bind fun z_1 =>
  (grow 1 ([(IntKind.wrap .u8 (z_1.length : Int))] : List Int) (s2b z_1)).bind fun z_2 =>
  some z_2
noncomputable def pubs_Externals_l8 (r3 : Record) (b_2_0 : Int) (t7 : (List (List UInt8))) (t8 : Int) (t9 : Int) : Option (Lp (Record × Int) Record) :=
  if (decide (t9 < t8)) then
    (idx t7 t9).bind fun z_1 =>
    (index_Name z_1).bind fun r_1 =>
    (grow 1 r3.Body r_1).bind fun z_2 =>
    (grow 1 z_2 ([0] : List Int)).bind fun z_3 =>
    some (.next (({ Kind := r3.Kind, Body := z_3 } : Record), (IntKind.wrap .i64 (t9 + 1))))
  else
    some (.out r3)
/-- hansom/pubs.Externals -/
noncomputable def pubs_Externals (l_ : (List (List UInt8))) : Option Record :=
  (loopO (fun x : (Record × Int) => pubs_Externals_l8 x.1 0 l_ (l_.length : Int) x.2) (({ Kind := 140, Body := ([] : List Int) } : Record), 0)).bind fun e_1 =>
  some e_1
/-- hansom/index.From -/
noncomputable def index_From (b_ : (List Int)) : Option Source :=
  (grow 1 [] b_).bind fun z_1 =>
  some ({ b := z_1, e := 0 } : Source)
/-- (*hansom/index.Source).Left -/
noncomputable def index_Source_Left (s_ : Source) : Option Int :=
  some (s_.b.length : Int)
/-- (*hansom/index.Source).Wrong -/
noncomputable def index_Source_Wrong (s_ : Source) (e_ : Int) : Option Source :=
  if (s_.e == 0) then
    if (e_ != 0) then
      some ({ b := ([] : List Int), e := e_ } : Source)
    else
      some s_
  else
    some s_
/-- (*hansom/index.Source).Take -/
noncomputable def index_Source_Take (s_ : Source) (n_ : Int) : Option ((List Int) × Source) :=
  if (decide (n_ < 0)) then
    (index_Source_Wrong s_ 2).bind fun r_1 =>
    some (([] : List Int), r_1)
  else
    if (decide (n_ > (s_.b.length : Int))) then
      (index_Source_Wrong s_ 2).bind fun r_2 =>
      some (([] : List Int), r_2)
    else
      (cut3 s_.b 0 n_ n_).bind fun z_1 =>
      (cutL s_.b n_ (s_.b.length : Int)).bind fun z_2 =>
      some (z_1, ({ b := z_2, e := s_.e } : Source))
/-- (*hansom/index.Source).Byte -/
noncomputable def index_Source_Byte (s_ : Source) : Option (Int × Source) :=
  (index_Source_Take s_ 1).bind fun r_1 =>
  if ((r_1.1.length : Int) == 1) then
    (idx r_1.1 0).bind fun z_1 =>
    some (z_1, r_1.2)
  else
    some (0, r_1.2)
/-- (*hansom/index.Source).Name -/
noncomputable def index_Source_Name (s_ : Source) : Option ((List UInt8) × Source) :=
  (index_Source_Byte s_).bind fun r_1 =>
  (index_Source_Take r_1.2 (IntKind.wrap .i64 r_1.1)).bind fun r_2 =>
  some ((b2s r_2.1), r_2.2)
/-- (*hansom/index.Source).Err -/
noncomputable def index_Source_Err (s_ : Source) : Option Int :=
  some s_.e
/-- (*hansom/index.Source).Index -/
noncomputable def index_Source_Index (s_ : Source) : Option (Int × Source) :=
  (index_Source_Byte s_).bind fun r_1 =>
  if (decide ((IntKind.wrap .i64 r_1.1) < 128)) then
    some ((IntKind.wrap .i64 r_1.1), r_1.2)
  else
    (index_Source_Byte r_1.2).bind fun r_2 =>
    (index_Source_Err r_2.2).bind fun r_3 =>
    if (r_3 != 0) then
      some (0, r_2.2)
    else
      some ((bitsOp .or .i64 (shlI .i64 (bitsOp .and .i64 (IntKind.wrap .i64 r_1.1) 127) 8) (IntKind.wrap .i64 r_2.1)), r_2.2)
noncomputable def pubs_Taken_l8 (b_8 : Source) (out5 : (List Ext)) : Option (Lp (Source × (List Ext)) ((List Ext) × Source)) :=
  (index_Source_Left b_8).bind fun r_2 =>
  if (decide (r_2 > 0)) then
    (index_Source_Name b_8).bind fun r_3 =>
    (grow 32 out5 ([({ Name := r_3.1, Com := 0, Len := 0 } : Ext)] : List Ext)).bind fun z_1 =>
    (index_Source_Index r_3.2).bind fun r_4 =>
    some (.next (r_4.2, z_1))
  else
    some (.out (out5, b_8))
/-- hansom/pubs.Taken -/
noncomputable def pubs_Taken (b_ : (List Int)) : Option ((List Ext) × Int) :=
  (index_From b_).bind fun r_1 =>
  (loopO (fun x : (Source × (List Ext)) => pubs_Taken_l8 x.1 x.2) (r_1, ([] : List Ext))).bind fun e_1 =>
  (index_Source_Err e_1.2).bind fun r_2 =>
  if (r_2 != 0) then
    some (([] : List Ext), r_2)
  else
    some (e_1.1, 0)
/-- hansom/index.Put -/
noncomputable def index_Put (n_ : Int) : Option (List Int) :=
  if (decide (n_ < 0)) then
    some ([0] : List Int)
  else
    if (decide (n_ > 32767)) then
      some ([0] : List Int)
    else
      if (decide (n_ < 128)) then
        some ([(IntKind.wrap .u8 n_)] : List Int)
      else
        some ([(bitsOp .or .u8 (IntKind.wrap .u8 (shrI .i64 n_ 8)) 128), (IntKind.wrap .u8 n_)] : List Int)
/-- hansom/bits.Low -/
noncomputable def bits_Low (w_ : Int) : Option Int :=
  some (IntKind.wrap .u8 w_)
/-- hansom/bits.High -/
noncomputable def bits_High (w_ : Int) : Option Int :=
  some (IntKind.wrap .u8 (shrI .u16 w_ 8))
/-- hansom/index.Two -/
noncomputable def index_Two (w_ : Int) : Option (List Int) :=
  (bits_Low w_).bind fun r_1 =>
  (bits_High w_).bind fun r_2 =>
  some ([r_1, r_2] : List Int)
noncomputable def pubs_Publics_j31 (r3 : Record) (p5 : Pub) (b_2_0 : Int) (t7 : (List Pub)) (t8 : Int) (t9 : Int) : Option (Lp (Record × Int) Record) :=
  (index_Name p5.Name).bind fun r_4 =>
  (grow 1 r3.Body r_4).bind fun z_4 =>
  (index_Two p5.Off).bind fun r_5 =>
  (grow 1 z_4 r_5).bind fun z_5 =>
  (grow 1 z_5 ([0] : List Int)).bind fun z_6 =>
  some (.next (({ Kind := r3.Kind, Body := z_6 } : Record), (IntKind.wrap .i64 (t9 + 1))))
noncomputable def pubs_Publics_l8 (r3 : Record) (b_2_0 : Int) (t7 : (List Pub)) (t8 : Int) (t9 : Int) : Option (Lp (Record × Int) Record) :=
  if (decide (t9 < t8)) then
    (idx t7 t9).bind fun z_1 =>
    if (t9 == 0) then
      (index_Put z_1.Group).bind fun r_1 =>
      (index_Put z_1.Seg).bind fun r_2 =>
      (grow 1 r_1 r_2).bind fun z_2 =>
      if (z_1.Seg == 0) then
        (index_Two z_1.Frame).bind fun r_3 =>
        (grow 1 z_2 r_3).bind fun z_3 =>
        pubs_Publics_j31 ({ Kind := r3.Kind, Body := z_3 } : Record) z_1 b_2_0 t7 t8 t9
      else
        pubs_Publics_j31 ({ Kind := r3.Kind, Body := z_2 } : Record) z_1 b_2_0 t7 t8 t9
    else
      pubs_Publics_j31 r3 z_1 b_2_0 t7 t8 t9
  else
    some (.out r3)
/-- hansom/pubs.Publics -/
noncomputable def pubs_Publics (l_ : (List Pub)) : Option Record :=
  (loopO (fun x : (Record × Int) => pubs_Publics_l8 x.1 0 l_ (l_.length : Int) x.2) (({ Kind := 144, Body := ([] : List Int) } : Record), 0)).bind fun e_1 =>
  some e_1
/-- hansom/bits.Word -/
noncomputable def bits_Word (low_ : Int) (high_ : Int) : Option Int :=
  some (bitsOp .or .u16 (IntKind.wrap .u16 low_) (shlI .u16 (IntKind.wrap .u16 high_) 8))
/-- (*hansom/index.Source).Word -/
noncomputable def index_Source_Word (s_ : Source) : Option (Int × Source) :=
  (index_Source_Take s_ 2).bind fun r_1 =>
  if ((r_1.1.length : Int) == 2) then
    (idx r_1.1 0).bind fun z_1 =>
    (idx r_1.1 1).bind fun z_2 =>
    (bits_Word z_1 z_2).bind fun r_2 =>
    some (r_2, r_1.2)
  else
    some (0, r_1.2)
noncomputable def pubs_Given_l16 (base5 : Pub) (b_10 : Source) (out6 : (List Pub)) : Option (Lp (Source × (List Pub)) ((List Pub) × Source)) :=
  (index_Source_Left b_10).bind fun r_5 =>
  if (decide (r_5 > 0)) then
    (index_Source_Name b_10).bind fun r_6 =>
    (index_Source_Word r_6.2).bind fun r_7 =>
    (index_Source_Index r_7.2).bind fun r_8 =>
    (grow 48 out6 ([({ Group := base5.Group, Seg := base5.Seg, Frame := base5.Frame, Name := r_6.1, Off := r_7.1 } : Pub)] : List Pub)).bind fun z_1 =>
    some (.next (r_8.2, z_1))
  else
    some (.out (out6, b_10))
noncomputable def pubs_Given_j12 (base5 : Pub) (b_10 : Source) : Option ((List Pub) × Int) :=
  (loopO (fun x : (Source × (List Pub)) => pubs_Given_l16 base5 x.1 x.2) (b_10, ([] : List Pub))).bind fun e_1 =>
  (index_Source_Err e_1.2).bind fun r_5 =>
  if (r_5 != 0) then
    some (([] : List Pub), r_5)
  else
    some (e_1.1, 0)
/-- hansom/pubs.Given -/
noncomputable def pubs_Given (b_ : (List Int)) : Option ((List Pub) × Int) :=
  (index_From b_).bind fun r_1 =>
  (index_Source_Index r_1).bind fun r_2 =>
  (index_Source_Index r_2.2).bind fun r_3 =>
  if (r_3.1 == 0) then
    (index_Source_Word r_3.2).bind fun r_4 =>
    pubs_Given_j12 ({ Group := r_2.1, Seg := r_3.1, Frame := r_4.1, Name := [], Off := 0 } : Pub) r_4.2
  else
    pubs_Given_j12 ({ Group := r_2.1, Seg := r_3.1, Frame := 0, Name := [], Off := 0 } : Pub) r_3.2
/-- hansom/hansomlaw22.awake -/
noncomputable def hansomlaw22_awake  : Option Bool :=
  (pubs_Publics ([({ Group := 1, Seg := 2, Frame := 0, Name := ([65] : List UInt8), Off := 7 } : Pub)] : List Pub)).bind fun r_1 =>
  (pubs_Given r_1.Body).bind fun r_2 =>
  if (r_2.2 == 0) then
    if ((r_2.1.length : Int) == 1) then
      (idx r_2.1 0).bind fun z_1 =>
      if (z_1.Name == ([65] : List UInt8)) then
        (idx r_2.1 0).bind fun z_2 =>
        if (z_2.Off == 7) then
          (idx r_2.1 0).bind fun z_3 =>
          some (z_3.Seg == 2)
        else
          some false
      else
        some false
    else
      some false
  else
    some false
noncomputable def hansomlaw22_PubsTaken_l8 (b_14 : (List (List UInt8))) (l0 : (List (List UInt8))) (cut1 : Int) (b6 : (List UInt8)) (i7 : Int) : Option (Lp ((List (List UInt8)) × (List UInt8) × Int) ((List (List UInt8)) × (List UInt8))) :=
  if (decide (i7 < (l0.length : Int))) then
    if (decide (i7 < 10)) then
      (idx l0 i7).bind fun z_1 =>
      (idx l0 i7).bind fun z_2 =>
      (cutL z_1 0 (mnI (z_2.length : Int) 40)).bind fun z_3 =>
      (grow 16 b_14 ([z_3] : List (List UInt8))).bind fun z_4 =>
      (idx z_4 i7).bind fun z_5 =>
      (hansomref18_Name z_5).bind fun r_1 =>
      (catS r_1 ([0] : List UInt8)).bind fun z_6 =>
      (catS b6 z_6).bind fun z_7 =>
      some (.next (z_4, z_7, (IntKind.wrap .i64 (i7 + 1))))
    else
      some (.out (b_14, b6))
  else
    some (.out (b_14, b6))
noncomputable def hansomlaw22_PubsTaken_l37 (b_14 : (List (List UInt8))) (cut1 : Int) (b6 : (List UInt8)) (y9 : (List Ext)) (i11 : Int) : Option (Lp Int (Bool ⊕ Unit)) :=
  if (decide (i11 < (b_14.length : Int))) then
    (idx y9 i11).bind fun z_1 =>
    (idx b_14 i11).bind fun z_2 =>
    if (!(z_1.Name == z_2 && (z_1.Com == 0 && (z_1.Len == 0 && true)))) then
      some (.out (.inl false))
    else
      some (.next (IntKind.wrap .i64 (i11 + 1)))
  else
    some (.out (.inr ()))
/-- hansom/hansomlaw22.PubsTaken -/
noncomputable def hansomlaw22_PubsTaken (l_ : (List (List UInt8))) (cut_ : Int) : Option Bool :=
  (loopO (fun x : ((List (List UInt8)) × (List UInt8) × Int) => hansomlaw22_PubsTaken_l8 x.1 l_ cut_ x.2.1 x.2.2) (([] : List (List UInt8)), ([] : List UInt8), 0)).bind fun e_1 =>
  (pubs_Externals e_1.1).bind fun r_1 =>
  (pubs_Taken r_1.Body).bind fun r_2 =>
  if ((b2s r_1.Body) != e_1.2) then
    some false
  else
    if (r_1.Kind != 140) then
      some false
    else
      if (r_2.2 != 0) then
        some false
      else
        if ((r_2.1.length : Int) != (e_1.1.length : Int)) then
          some false
        else
          (loopO (fun x : Int => hansomlaw22_PubsTaken_l37 e_1.1 cut_ e_1.2 r_2.1 x) 0).bind fun e_2 =>
          match e_2 with
          | .inl e_3 =>
            some e_3
          | .inr e_4 =>
            (remI .i64 (bitsOp .and .i64 cut_ 65535) (IntKind.wrap .i64 ((e_1.2.length : Int) + 1))).bind fun z_1 =>
            (cutL e_1.2 0 z_1).bind fun z_2 =>
            (pubs_Taken (s2b z_2)).bind fun r_3 =>
            (hansomlaw22_awake).bind fun r_4 =>
            if r_4 then
              if (r_3.2 == 0) then
                some (decide ((r_3.1.length : Int) ≤ (e_1.1.length : Int)))
              else
                if (r_3.2 == 2) then
                  if ((r_3.1.length : Int) == 0) then
                    some (decide ((r_3.1.length : Int) ≤ (e_1.1.length : Int)))
                  else
                    some false
                else
                  some false
            else
              some false
end Go.Es.Ptk
