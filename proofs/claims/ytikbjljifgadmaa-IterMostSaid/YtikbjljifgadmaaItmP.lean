/- What the functions that the law IterMost reaches answer, in plain Lean. No condition. -/
import Derived.Test.YtikbjljifgadmaaEsD
set_option linter.unusedVariables false
set_option linter.unusedSimpArgs false
set_option maxRecDepth 100000
set_option maxHeartbeats 4000000
namespace Go.Es.Itm
structure Block where
  Times : Int
  Bytes : (List Int)
  Blocks : (List D)
  deriving Inhabited
def Block.cs (x : Block) : List D := [.int .i64 x.Times, .sl (List.map (D.int .u8) x.Bytes), .sl (List.map id x.Blocks)]
def Block.d (x : Block) : D := .agg (Block.cs x)
structure Record where
  Kind : Int
  Body : (List Int)
  deriving DecidableEq, Inhabited
def Record.cs (x : Record) : List D := [.int .u8 x.Kind, .sl (List.map (D.int .u8) x.Body)]
def Record.d (x : Record) : D := .agg (Record.cs x)
structure Source where
  b : (List Int)
  e : Int
  deriving DecidableEq, Inhabited
def Source.cs (x : Source) : List D := [.sl (List.map (D.int .u8) x.b), .int .i64 x.e]
def Source.d (x : Source) : D := .agg (Source.cs x)
structure Fixup where
  At : Int
  Loc : Int
  Self : Bool
  Frame : Int
  FrameN : Int
  Target : Int
  N : Int
  Disp : Int
  deriving DecidableEq, Inhabited
def Fixup.cs (x : Fixup) : List D := [.int .i64 x.At, .int .i64 x.Loc, .bool x.Self, .int .i64 x.Frame, .int .i64 x.FrameN, .int .i64 x.Target, .int .i64 x.N, .int .u16 x.Disp]
def Fixup.d (x : Fixup) : D := .agg (Fixup.cs x)
structure Data where
  Seg : Int
  Off : Int
  Bytes : (List Int)
  Fixups : (List Fixup)
  deriving DecidableEq, Inhabited
def Data.cs (x : Data) : List D := [.int .i64 x.Seg, .int .u16 x.Off, .sl (List.map (D.int .u8) x.Bytes), .sl (List.map Fixup.d x.Fixups)]
def Data.d (x : Data) : D := .agg (Data.cs x)
inductive Block.wf : Block → Prop where
  | mk (x : Block) (h0 : (wfI .i64) x.Times) (h1 : (wfL (wfI .u8)) x.Bytes) (bs2 : List Block) (hb2 : x.Blocks = bs2.map Block.d) (hl2 : bs2.length ≤ maxLen) (hw2 : ∀ b ∈ bs2, Block.wf b) : Block.wf x
def Record.wf (x : Record) : Prop := wfI .u8 x.Kind ∧ wfL (wfI .u8) x.Body
def Source.wf (x : Source) : Prop := wfL (wfI .u8) x.b ∧ wfI .i64 x.e
def Fixup.wf (x : Fixup) : Prop := wfI .i64 x.At ∧ wfI .i64 x.Loc ∧ (fun _ => True) x.Self ∧ wfI .i64 x.Frame ∧ wfI .i64 x.FrameN ∧ wfI .i64 x.Target ∧ wfI .i64 x.N ∧ wfI .u16 x.Disp
def Data.wf (x : Data) : Prop := wfI .i64 x.Seg ∧ wfI .u16 x.Off ∧ wfL (wfI .u8) x.Bytes ∧ wfL Fixup.wf x.Fixups
/-- hansom/hansomlaw24.deeps -/
noncomputable def hansomlaw24_deeps (a0_ : Int) : Option Block :=
  if a0_ = 1 then some ({ Times := 1, Bytes := [97], Blocks := [] } : Block) else
  if a0_ = 2 then some ({ Times := 1, Bytes := [], Blocks := [Block.d ({ Times := 1, Bytes := [97], Blocks := [] } : Block)] } : Block) else
  if a0_ = 3 then some ({ Times := 1, Bytes := [], Blocks := [Block.d ({ Times := 1, Bytes := [], Blocks := [Block.d ({ Times := 1, Bytes := [97], Blocks := [] } : Block)] } : Block)] } : Block) else
  if a0_ = 4 then some ({ Times := 1, Bytes := [], Blocks := [Block.d ({ Times := 1, Bytes := [], Blocks := [Block.d ({ Times := 1, Bytes := [], Blocks := [Block.d ({ Times := 1, Bytes := [97], Blocks := [] } : Block)] } : Block)] } : Block)] } : Block) else
  if a0_ = 5 then some ({ Times := 1, Bytes := [], Blocks := [Block.d ({ Times := 1, Bytes := [], Blocks := [Block.d ({ Times := 1, Bytes := [], Blocks := [Block.d ({ Times := 1, Bytes := [], Blocks := [Block.d ({ Times := 1, Bytes := [97], Blocks := [] } : Block)] } : Block)] } : Block)] } : Block)] } : Block) else
  if a0_ = 6 then some ({ Times := 1, Bytes := [], Blocks := [Block.d ({ Times := 1, Bytes := [], Blocks := [Block.d ({ Times := 1, Bytes := [], Blocks := [Block.d ({ Times := 1, Bytes := [], Blocks := [Block.d ({ Times := 1, Bytes := [], Blocks := [Block.d ({ Times := 1, Bytes := [97], Blocks := [] } : Block)] } : Block)] } : Block)] } : Block)] } : Block)] } : Block) else
  if a0_ = 7 then some ({ Times := 1, Bytes := [], Blocks := [Block.d ({ Times := 1, Bytes := [], Blocks := [Block.d ({ Times := 1, Bytes := [], Blocks := [Block.d ({ Times := 1, Bytes := [], Blocks := [Block.d ({ Times := 1, Bytes := [], Blocks := [Block.d ({ Times := 1, Bytes := [], Blocks := [Block.d ({ Times := 1, Bytes := [97], Blocks := [] } : Block)] } : Block)] } : Block)] } : Block)] } : Block)] } : Block)] } : Block) else
  if a0_ = 8 then some ({ Times := 1, Bytes := [], Blocks := [Block.d ({ Times := 1, Bytes := [], Blocks := [Block.d ({ Times := 1, Bytes := [], Blocks := [Block.d ({ Times := 1, Bytes := [], Blocks := [Block.d ({ Times := 1, Bytes := [], Blocks := [Block.d ({ Times := 1, Bytes := [], Blocks := [Block.d ({ Times := 1, Bytes := [], Blocks := [Block.d ({ Times := 1, Bytes := [97], Blocks := [] } : Block)] } : Block)] } : Block)] } : Block)] } : Block)] } : Block)] } : Block)] } : Block) else
  if a0_ = 9 then some ({ Times := 1, Bytes := [], Blocks := [Block.d ({ Times := 1, Bytes := [], Blocks := [Block.d ({ Times := 1, Bytes := [], Blocks := [Block.d ({ Times := 1, Bytes := [], Blocks := [Block.d ({ Times := 1, Bytes := [], Blocks := [Block.d ({ Times := 1, Bytes := [], Blocks := [Block.d ({ Times := 1, Bytes := [], Blocks := [Block.d ({ Times := 1, Bytes := [], Blocks := [Block.d ({ Times := 1, Bytes := [97], Blocks := [] } : Block)] } : Block)] } : Block)] } : Block)] } : Block)] } : Block)] } : Block)] } : Block)] } : Block) else
  if a0_ = 10 then some ({ Times := 1, Bytes := [], Blocks := [Block.d ({ Times := 1, Bytes := [], Blocks := [Block.d ({ Times := 1, Bytes := [], Blocks := [Block.d ({ Times := 1, Bytes := [], Blocks := [Block.d ({ Times := 1, Bytes := [], Blocks := [Block.d ({ Times := 1, Bytes := [], Blocks := [Block.d ({ Times := 1, Bytes := [], Blocks := [Block.d ({ Times := 1, Bytes := [], Blocks := [Block.d ({ Times := 1, Bytes := [], Blocks := [Block.d ({ Times := 1, Bytes := [97], Blocks := [] } : Block)] } : Block)] } : Block)] } : Block)] } : Block)] } : Block)] } : Block)] } : Block)] } : Block)] } : Block) else
  if a0_ = 11 then some ({ Times := 1, Bytes := [], Blocks := [Block.d ({ Times := 1, Bytes := [], Blocks := [Block.d ({ Times := 1, Bytes := [], Blocks := [Block.d ({ Times := 1, Bytes := [], Blocks := [Block.d ({ Times := 1, Bytes := [], Blocks := [Block.d ({ Times := 1, Bytes := [], Blocks := [Block.d ({ Times := 1, Bytes := [], Blocks := [Block.d ({ Times := 1, Bytes := [], Blocks := [Block.d ({ Times := 1, Bytes := [], Blocks := [Block.d ({ Times := 1, Bytes := [], Blocks := [Block.d ({ Times := 1, Bytes := [97], Blocks := [] } : Block)] } : Block)] } : Block)] } : Block)] } : Block)] } : Block)] } : Block)] } : Block)] } : Block)] } : Block)] } : Block) else
  if a0_ = 12 then some ({ Times := 1, Bytes := [], Blocks := [Block.d ({ Times := 1, Bytes := [], Blocks := [Block.d ({ Times := 1, Bytes := [], Blocks := [Block.d ({ Times := 1, Bytes := [], Blocks := [Block.d ({ Times := 1, Bytes := [], Blocks := [Block.d ({ Times := 1, Bytes := [], Blocks := [Block.d ({ Times := 1, Bytes := [], Blocks := [Block.d ({ Times := 1, Bytes := [], Blocks := [Block.d ({ Times := 1, Bytes := [], Blocks := [Block.d ({ Times := 1, Bytes := [], Blocks := [Block.d ({ Times := 1, Bytes := [], Blocks := [Block.d ({ Times := 1, Bytes := [97], Blocks := [] } : Block)] } : Block)] } : Block)] } : Block)] } : Block)] } : Block)] } : Block)] } : Block)] } : Block)] } : Block)] } : Block)] } : Block) else
  if a0_ = 13 then some ({ Times := 1, Bytes := [], Blocks := [Block.d ({ Times := 1, Bytes := [], Blocks := [Block.d ({ Times := 1, Bytes := [], Blocks := [Block.d ({ Times := 1, Bytes := [], Blocks := [Block.d ({ Times := 1, Bytes := [], Blocks := [Block.d ({ Times := 1, Bytes := [], Blocks := [Block.d ({ Times := 1, Bytes := [], Blocks := [Block.d ({ Times := 1, Bytes := [], Blocks := [Block.d ({ Times := 1, Bytes := [], Blocks := [Block.d ({ Times := 1, Bytes := [], Blocks := [Block.d ({ Times := 1, Bytes := [], Blocks := [Block.d ({ Times := 1, Bytes := [], Blocks := [Block.d ({ Times := 1, Bytes := [97], Blocks := [] } : Block)] } : Block)] } : Block)] } : Block)] } : Block)] } : Block)] } : Block)] } : Block)] } : Block)] } : Block)] } : Block)] } : Block)] } : Block) else
  if a0_ = 14 then some ({ Times := 1, Bytes := [], Blocks := [Block.d ({ Times := 1, Bytes := [], Blocks := [Block.d ({ Times := 1, Bytes := [], Blocks := [Block.d ({ Times := 1, Bytes := [], Blocks := [Block.d ({ Times := 1, Bytes := [], Blocks := [Block.d ({ Times := 1, Bytes := [], Blocks := [Block.d ({ Times := 1, Bytes := [], Blocks := [Block.d ({ Times := 1, Bytes := [], Blocks := [Block.d ({ Times := 1, Bytes := [], Blocks := [Block.d ({ Times := 1, Bytes := [], Blocks := [Block.d ({ Times := 1, Bytes := [], Blocks := [Block.d ({ Times := 1, Bytes := [], Blocks := [Block.d ({ Times := 1, Bytes := [], Blocks := [Block.d ({ Times := 1, Bytes := [97], Blocks := [] } : Block)] } : Block)] } : Block)] } : Block)] } : Block)] } : Block)] } : Block)] } : Block)] } : Block)] } : Block)] } : Block)] } : Block)] } : Block)] } : Block) else
  if a0_ = 15 then some ({ Times := 1, Bytes := [], Blocks := [Block.d ({ Times := 1, Bytes := [], Blocks := [Block.d ({ Times := 1, Bytes := [], Blocks := [Block.d ({ Times := 1, Bytes := [], Blocks := [Block.d ({ Times := 1, Bytes := [], Blocks := [Block.d ({ Times := 1, Bytes := [], Blocks := [Block.d ({ Times := 1, Bytes := [], Blocks := [Block.d ({ Times := 1, Bytes := [], Blocks := [Block.d ({ Times := 1, Bytes := [], Blocks := [Block.d ({ Times := 1, Bytes := [], Blocks := [Block.d ({ Times := 1, Bytes := [], Blocks := [Block.d ({ Times := 1, Bytes := [], Blocks := [Block.d ({ Times := 1, Bytes := [], Blocks := [Block.d ({ Times := 1, Bytes := [], Blocks := [Block.d ({ Times := 1, Bytes := [97], Blocks := [] } : Block)] } : Block)] } : Block)] } : Block)] } : Block)] } : Block)] } : Block)] } : Block)] } : Block)] } : Block)] } : Block)] } : Block)] } : Block)] } : Block)] } : Block) else
  if a0_ = 16 then some ({ Times := 1, Bytes := [], Blocks := [Block.d ({ Times := 1, Bytes := [], Blocks := [Block.d ({ Times := 1, Bytes := [], Blocks := [Block.d ({ Times := 1, Bytes := [], Blocks := [Block.d ({ Times := 1, Bytes := [], Blocks := [Block.d ({ Times := 1, Bytes := [], Blocks := [Block.d ({ Times := 1, Bytes := [], Blocks := [Block.d ({ Times := 1, Bytes := [], Blocks := [Block.d ({ Times := 1, Bytes := [], Blocks := [Block.d ({ Times := 1, Bytes := [], Blocks := [Block.d ({ Times := 1, Bytes := [], Blocks := [Block.d ({ Times := 1, Bytes := [], Blocks := [Block.d ({ Times := 1, Bytes := [], Blocks := [Block.d ({ Times := 1, Bytes := [], Blocks := [Block.d ({ Times := 1, Bytes := [], Blocks := [Block.d ({ Times := 1, Bytes := [97], Blocks := [] } : Block)] } : Block)] } : Block)] } : Block)] } : Block)] } : Block)] } : Block)] } : Block)] } : Block)] } : Block)] } : Block)] } : Block)] } : Block)] } : Block)] } : Block)] } : Block) else
  none
/-- hansom/hansomlaw24.awake -/
noncomputable def hansomlaw24_awake : Option Bool := some true
/-- hansom/index.Put -/
noncomputable def index_Put (n_ : Int) : Option (List Int) :=
  if (decide (n_ < 0)) then
    some ([0] : List Int)
  else
    if (decide (n_ > 32767)) then
      some ([0] : List Int)
    else
      if (decide (n_ < 128)) then
        some ([(IntKind.wrap .u8 n_)] : List Int)
      else
        some ([(bitsOp .or .u8 (IntKind.wrap .u8 (shrI .i64 n_ 8)) 128), (IntKind.wrap .u8 n_)] : List Int)
/-- hansom/bits.Low -/
noncomputable def bits_Low (w_ : Int) : Option Int :=
  some (IntKind.wrap .u8 w_)
/-- hansom/bits.High -/
noncomputable def bits_High (w_ : Int) : Option Int :=
  some (IntKind.wrap .u8 (shrI .u16 w_ 8))
/-- hansom/index.Two -/
noncomputable def index_Two (w_ : Int) : Option (List Int) :=
  (bits_Low w_).bind fun r_1 =>
  (bits_High w_).bind fun r_2 =>
  some ([r_1, r_2] : List Int)
/-- hansom/index.Name -/
noncomputable def index_Name (s_ : (List UInt8)) : Option (List Int) :=
  (cutL s_ 0 (mnI (s_.length : Int) 255)).bind fun z_1 =>
  (grow 1 ([(IntKind.wrap .u8 (z_1.length : Int))] : List Int) (s2b z_1)).bind fun z_2 =>
  some z_2
noncomputable def iter_Put_l16 (self_ : Block → Option (List Int)) (b_9 : (List Int)) (t27 : (List D)) (t28 : Int) (t29 : Int) : Option (Lp ((List Int) × Int) (List Int)) :=
  if (decide (t29 < t28)) then
    (idx t27 t29).bind fun z_3 =>
    (ofD Block.d z_3).bind fun z_4 =>
    (self_ z_4).bind fun r_4 =>
    (grow 1 b_9 r_4).bind fun z_5 =>
    some (.next (z_5, (IntKind.wrap .i64 (t29 + 1))))
  else
    some (.out b_9)
/-- hansom/iter.Put -/
noncomputable def iter_Put_b (self_ : Block → Option (List Int)) (b_ : Block) : Option (List Int) :=
  (index_Two (IntKind.wrap .u16 b_.Times)).bind fun r_1 =>
  (index_Two (IntKind.wrap .u16 (b_.Blocks.length : Int))).bind fun r_2 =>
  (grow 1 r_1 r_2).bind fun z_1 =>
  if ((b_.Blocks.length : Int) == 0) then
    (index_Name (b2s b_.Bytes)).bind fun r_3 =>
    (grow 1 z_1 r_3).bind fun z_2 =>
    some z_2
  else
    (loopO (fun x : ((List Int) × Int) => iter_Put_l16 self_ x.1 b_.Blocks (b_.Blocks.length : Int) x.2) (z_1, 0)).bind fun e_1 =>
    some e_1
noncomputable def iter_Put : Nat → Block → Option (List Int)
  | 0, _ => none
  | n_ + 1, b_ => iter_Put_b (iter_Put n_) b_
noncomputable def iter_Record_l8 (b_11 : (List Int)) (b_6_0 : Int) (t15 : (List D)) (t16 : Int) (t17 : Int) : Option (Lp ((List Int) × Int) (List Int)) :=
  if (decide (t17 < t16)) then
    (idx t15 t17).bind fun z_2 =>
    (ofD Block.d z_2).bind fun z_3 =>
    (iter_Put 64 z_3).bind fun r_3 =>
    (grow 1 b_11 r_3).bind fun z_4 =>
    some (.next (z_4, (IntKind.wrap .i64 (t17 + 1))))
  else
    some (.out b_11)
/-- hansom/iter.Record -/
noncomputable def iter_Record (seg_ : Int) (off_ : Int) (l_ : (List D)) : Option Record :=
  (index_Put seg_).bind fun r_1 =>
  (index_Two off_).bind fun r_2 =>
  (grow 1 r_1 r_2).bind fun z_1 =>
  (loopO (fun x : ((List Int) × Int) => iter_Record_l8 x.1 0 l_ (l_.length : Int) x.2) (z_1, 0)).bind fun e_1 =>
  some ({ Kind := 162, Body := e_1 } : Record)
/-- hansom/index.From -/
noncomputable def index_From (b_ : (List Int)) : Option Source :=
  (grow 1 [] b_).bind fun z_1 =>
  some ({ b := z_1, e := 0 } : Source)
/-- (*hansom/index.Source).Wrong -/
noncomputable def index_Source_Wrong (s_ : Source) (e_ : Int) : Option Source :=
  if (s_.e == 0) then
    if (e_ != 0) then
      some ({ b := ([] : List Int), e := e_ } : Source)
    else
      some s_
  else
    some s_
/-- (*hansom/index.Source).Take -/
noncomputable def index_Source_Take (s_ : Source) (n_ : Int) : Option ((List Int) × Source) :=
  if (decide (n_ < 0)) then
    (index_Source_Wrong s_ 2).bind fun r_1 =>
    some (([] : List Int), r_1)
  else
    if (decide (n_ > (s_.b.length : Int))) then
      (index_Source_Wrong s_ 2).bind fun r_2 =>
      some (([] : List Int), r_2)
    else
      (cut3 s_.b 0 n_ n_).bind fun z_1 =>
      (cutL s_.b n_ (s_.b.length : Int)).bind fun z_2 =>
      some (z_1, ({ b := z_2, e := s_.e } : Source))
/-- (*hansom/index.Source).Byte -/
noncomputable def index_Source_Byte (s_ : Source) : Option (Int × Source) :=
  (index_Source_Take s_ 1).bind fun r_1 =>
  if ((r_1.1.length : Int) == 1) then
    (idx r_1.1 0).bind fun z_1 =>
    some (z_1, r_1.2)
  else
    some (0, r_1.2)
/-- (*hansom/index.Source).Err -/
noncomputable def index_Source_Err (s_ : Source) : Option Int :=
  some s_.e
/-- (*hansom/index.Source).Index -/
noncomputable def index_Source_Index (s_ : Source) : Option (Int × Source) :=
  (index_Source_Byte s_).bind fun r_1 =>
  if (decide ((IntKind.wrap .i64 r_1.1) < 128)) then
    some ((IntKind.wrap .i64 r_1.1), r_1.2)
  else
    (index_Source_Byte r_1.2).bind fun r_2 =>
    (index_Source_Err r_2.2).bind fun r_3 =>
    if (r_3 != 0) then
      some (0, r_2.2)
    else
      some ((bitsOp .or .i64 (shlI .i64 (bitsOp .and .i64 (IntKind.wrap .i64 r_1.1) 127) 8) (IntKind.wrap .i64 r_2.1)), r_2.2)
/-- hansom/bits.Word -/
noncomputable def bits_Word (low_ : Int) (high_ : Int) : Option Int :=
  some (bitsOp .or .u16 (IntKind.wrap .u16 low_) (shlI .u16 (IntKind.wrap .u16 high_) 8))
/-- (*hansom/index.Source).Word -/
noncomputable def index_Source_Word (s_ : Source) : Option (Int × Source) :=
  (index_Source_Take s_ 2).bind fun r_1 =>
  if ((r_1.1.length : Int) == 2) then
    (idx r_1.1 0).bind fun z_1 =>
    (idx r_1.1 1).bind fun z_2 =>
    (bits_Word z_1 z_2).bind fun r_2 =>
    some (r_2, r_1.2)
  else
    some (0, r_1.2)
/-- (*hansom/index.Source).Left -/
noncomputable def index_Source_Left (s_ : Source) : Option Int :=
  some (s_.b.length : Int)
/-- (*hansom/index.Source).Name -/
noncomputable def index_Source_Name (s_ : Source) : Option ((List UInt8) × Source) :=
  (index_Source_Byte s_).bind fun r_1 =>
  (index_Source_Take r_1.2 (IntKind.wrap .i64 r_1.1)).bind fun r_2 =>
  some ((b2s r_2.1), r_2.2)
noncomputable def iter_take_l26 (self_ : Source → Int → Option (Block × Source)) (s0 : Source) (b_902_5 : (List D)) (b_4_0 : Int) (b5_0 : Int) (depth1 : Int) (t25 : Int) (t26 : Int) : Option (Lp (Source × (List D) × Int) ((List D) × Source)) :=
  if (decide (t26 < t25)) then
    (index_Source_Err s0).bind fun r_5 =>
    if (r_5 != 0) then
      some (.out (b_902_5, s0))
    else
      (self_ s0 (IntKind.wrap .i64 (depth1 + 1))).bind fun r_6 =>
      (grow 56 b_902_5 ([(Block.d r_6.1)] : List D)).bind fun z_1 =>
      some (.next (r_6.2, z_1, (IntKind.wrap .i64 (t26 + 1))))
  else
    some (.out (b_902_5, s0))
noncomputable def iter_take_j12 (self_ : Source → Int → Option (Block × Source)) (s0 : Source) (b_902_5 : (List D)) (b_4_0 : Int) (b5_0 : Int) (depth1 : Int) (n6 : Int) : Option (Block × Source) :=
  if (n6 == 0) then
    (index_Source_Name s0).bind fun r_4 =>
    some (({ Times := b5_0, Bytes := (s2b r_4.1), Blocks := b_902_5 } : Block), r_4.2)
  else
    (loopO (fun x : (Source × (List D) × Int) => iter_take_l26 self_ x.1 x.2.1 b_4_0 b5_0 depth1 n6 x.2.2) (s0, b_902_5, 0)).bind fun e_1 =>
    some (({ Times := b5_0, Bytes := ([] : List Int), Blocks := e_1.1 } : Block), e_1.2)
/-- hansom/iter.take -/
noncomputable def iter_take_b (self_ : Source → Int → Option (Block × Source)) (s_ : Source) (depth_ : Int) : Option (Block × Source) :=
  (index_Source_Word s_).bind fun r_1 =>
  (index_Source_Word r_1.2).bind fun r_2 =>
  if (decide (depth_ > 8)) then
    (index_Source_Wrong r_2.2 8).bind fun r_3 =>
    iter_take_j12 self_ r_3 ([] : List D) 0 (IntKind.wrap .i64 r_1.1) depth_ (IntKind.wrap .i64 r_2.1)
  else
    iter_take_j12 self_ r_2.2 ([] : List D) 0 (IntKind.wrap .i64 r_1.1) depth_ (IntKind.wrap .i64 r_2.1)
noncomputable def iter_take : Nat → Source → Int → Option (Block × Source)
  | 0, _, _ => none
  | n_ + 1, s_, depth_ => iter_take_b (iter_take n_) s_ depth_
noncomputable def iter_may_l30 (self_ : Block → Int → Option Bool) (depth1 : Int) (t44 : (List D)) (t45 : Int) (t46 : Int) : Option (Lp Int (Bool ⊕ Unit)) :=
  if (decide (t46 < t45)) then
    (idx t44 t46).bind fun z_1 =>
    (ofD Block.d z_1).bind fun z_2 =>
    (self_ z_2 (IntKind.wrap .i64 (depth1 + 1))).bind fun r_1 =>
    if (!r_1) then
      some (.out (.inl false))
    else
      some (.next (IntKind.wrap .i64 (t46 + 1)))
  else
    some (.out (.inr ()))
/-- hansom/iter.may -/
noncomputable def iter_may_b (self_ : Block → Int → Option Bool) (b_ : Block) (depth_ : Int) : Option Bool :=
  if (decide (depth_ > 8)) then
    some false
  else
    if (decide (b_.Times < 1)) then
      some false
    else
      if (decide (b_.Times > 65535)) then
        some false
      else
        if (decide ((b_.Blocks.length : Int) > 65535)) then
          some false
        else
          if ((b_.Blocks.length : Int) == 0) then
            if (decide ((b_.Bytes.length : Int) ≥ 1)) then
              some (decide ((b_.Bytes.length : Int) ≤ 255))
            else
              some false
          else
            if (decide ((b_.Bytes.length : Int) > 0)) then
              some false
            else
              (loopO (fun x : Int => iter_may_l30 self_ depth_ b_.Blocks (b_.Blocks.length : Int) x) 0).bind fun e_1 =>
              match e_1 with
              | .inl e_2 =>
                some e_2
              | .inr e_3 =>
                some true
noncomputable def iter_may : Nat → Block → Int → Option Bool
  | 0, _, _ => none
  | n_ + 1, b_, depth_ => iter_may_b (iter_may n_) b_ depth_
/-- hansom/iter.May -/
noncomputable def iter_May (b_ : Block) : Option Bool :=
  (iter_may 64 b_ 1).bind fun r_1 =>
  some r_1
noncomputable def iter_Size_l8 (self_ : Block → Option Int) (b1 : Block) (n3 : Int) (t10 : (List D)) (t11 : Int) (t12 : Int) : Option (Lp (Int × Int) Int) :=
  if (decide (t12 < t11)) then
    (idx t10 t12).bind fun z_1 =>
    (ofD Block.d z_1).bind fun z_2 =>
    (self_ z_2).bind fun r_1 =>
    some (.next ((mnI (IntKind.wrap .i64 (n3 + r_1)) 65537), (IntKind.wrap .i64 (t12 + 1))))
  else
    some (.out n3)
/-- hansom/iter.Size -/
noncomputable def iter_Size_b (self_ : Block → Option Int) (b_ : Block) : Option Int :=
  (loopO (fun x : (Int × Int) => iter_Size_l8 self_ b_ x.1 b_.Blocks (b_.Blocks.length : Int) x.2) ((b_.Bytes.length : Int), 0)).bind fun e_1 =>
  some (mnI (IntKind.wrap .i64 (e_1 * (mnI (mxI b_.Times 0) 65537))) 65537)
noncomputable def iter_Size : Nat → Block → Option Int
  | 0, _ => none
  | n_ + 1, b_ => iter_Size_b (iter_Size n_) b_
/-- slices.Clone[[]byte,byte] -/
noncomputable def slices_Clone_Lbyte (s_ : List Int) : Option (List Int) := grow 1 [] s_
/-- math/bits.Mul64 -/
noncomputable def math_bits_Mul64 (x_ : Int) (y_ : Int) : Option (Int × Int) :=
  some ((IntKind.wrap .u64 ((IntKind.wrap .u64 ((IntKind.wrap .u64 ((shrI .u64 x_ 32) * (shrI .u64 y_ 32))) + (shrI .u64 (IntKind.wrap .u64 ((IntKind.wrap .u64 ((shrI .u64 x_ 32) * (bitsOp .and .u64 y_ 4294967295))) + (shrI .u64 (IntKind.wrap .u64 ((bitsOp .and .u64 x_ 4294967295) * (bitsOp .and .u64 y_ 4294967295))) 32))) 32))) + (shrI .u64 (IntKind.wrap .u64 ((bitsOp .and .u64 (IntKind.wrap .u64 ((IntKind.wrap .u64 ((shrI .u64 x_ 32) * (bitsOp .and .u64 y_ 4294967295))) + (shrI .u64 (IntKind.wrap .u64 ((bitsOp .and .u64 x_ 4294967295) * (bitsOp .and .u64 y_ 4294967295))) 32))) 4294967295) + (IntKind.wrap .u64 ((bitsOp .and .u64 x_ 4294967295) * (shrI .u64 y_ 32))))) 32))), (IntKind.wrap .u64 (x_ * y_)))
/-- math/bits.Mul -/
noncomputable def math_bits_Mul (x_ : Int) (y_ : Int) : Option (Int × Int) :=
  (math_bits_Mul64 x_ y_).bind fun r_1 =>
  some (r_1.1, r_1.2)
noncomputable def slices_Repeat_Lbyte_l22 (b_30 : (List Int)) (n8 : Int) : Option (Lp ((List Int) × Int) (List Int)) :=
  if (decide (n8 < (b_30.length : Int))) then
    (cutL b_30 n8 (b_30.length : Int)).bind fun z_2 =>
    (cutL b_30 0 n8).bind fun z_3 =>
    some (.next ((cpy b_30 (0 + (n8).toNat) ((b_30.length : Int).toNat - (n8).toNat) z_3), (IntKind.wrap .i64 (n8 + ((min z_3.length ((b_30.length : Int).toNat - (n8).toNat) : Nat) : Int)))))
  else
    some (.out b_30)
/-- slices.Repeat[[]byte,byte] -/
noncomputable def slices_Repeat_Lbyte (x_ : (List Int)) (count_ : Int) : Option (List Int) :=
  if (decide (count_ < 0)) then
    none
  else
    (math_bits_Mul (IntKind.wrap .u64 (x_.length : Int)) (IntKind.wrap .u64 count_)).bind fun r_1 =>
    if (decide (r_1.1 > 0)) then
      none
    else
      if (decide (r_1.2 > 9223372036854775807)) then
        none
      else
        (mk 1 0 (IntKind.wrap .i64 r_1.2)).bind fun z_1 =>
        (loopO (fun x : ((List Int) × Int) => slices_Repeat_Lbyte_l22 x.1 x.2) ((cpy z_1 0 (List.map (D.int .u8) z_1).length x_), ((min x_.length (List.map (D.int .u8) z_1).length : Nat) : Int))).bind fun e_1 =>
        some e_1
noncomputable def iter_Spread_l16 (self_ : Block → Option ((List Int) × Bool)) (b1 : Block) (b_19 : (List Int)) (t21 : (List D)) (t22 : Int) (t23 : Int) : Option (Lp ((List Int) × Int) (List Int)) :=
  if (decide (t23 < t22)) then
    (idx t21 t23).bind fun z_1 =>
    (ofD Block.d z_1).bind fun z_2 =>
    (self_ z_2).bind fun r_4 =>
    (grow 1 b_19 r_4.1).bind fun z_3 =>
    some (.next (z_3, (IntKind.wrap .i64 (t23 + 1))))
  else
    some (.out b_19)
/-- hansom/iter.Spread -/
noncomputable def iter_Spread_b (self_ : Block → Option ((List Int) × Bool)) (b_ : Block) : Option ((List Int) × Bool) :=
  (iter_May b_).bind fun r_1 =>
  if (!r_1) then
    some (([] : List Int), false)
  else
    (iter_Size 64 b_).bind fun r_2 =>
    if (decide (r_2 > 65536)) then
      some (([] : List Int), false)
    else
      (slices_Clone_Lbyte b_.Bytes).bind fun r_3 =>
      (loopO (fun x : ((List Int) × Int) => iter_Spread_l16 self_ b_ x.1 b_.Blocks (b_.Blocks.length : Int) x.2) (r_3, 0)).bind fun e_1 =>
      (slices_Repeat_Lbyte e_1 b_.Times).bind fun r_4 =>
      some (r_4, true)
noncomputable def iter_Spread : Nat → Block → Option ((List Int) × Bool)
  | 0, _ => none
  | n_ + 1, b_ => iter_Spread_b (iter_Spread n_) b_
/-- (*hansom/index.Source).End -/
noncomputable def index_Source_End (s_ : Source) : Option (Int × Source) :=
  (index_Source_Left s_).bind fun r_1 =>
  if (decide (r_1 > 0)) then
    (index_Source_Wrong s_ 3).bind fun r_2 =>
    (index_Source_Err r_2).bind fun r_3 =>
    some (r_3, r_2)
  else
    (index_Source_Err s_).bind fun r_4 =>
    some (r_4, s_)
noncomputable def iter_Get_l8 (b_11 : Source) (b_902_5 : (List Int)) (b_2_0 : Int) (b_2_1 : Int) (d5_0 : Int) (d5_1 : Int) : Option (Lp (Source × (List Int)) ((List Int) × Source)) :=
  (index_Source_Left b_11).bind fun r_4 =>
  if (decide (r_4 > 0)) then
    (iter_take 64 b_11 1).bind fun r_5 =>
    (index_Source_Err r_5.2).bind fun r_6 =>
    if (r_6 != 0) then
      some (.out (b_902_5, r_5.2))
    else
      (iter_Spread 64 r_5.1).bind fun r_7 =>
      (iter_May r_5.1).bind fun r_8 =>
      if (!r_8) then
        (index_Source_Wrong r_5.2 3).bind fun r_9 =>
        (grow 1 b_902_5 r_7.1).bind fun z_1 =>
        some (.next (r_9, z_1))
      else
        if (!r_7.2) then
          (index_Source_Wrong r_5.2 8).bind fun r_10 =>
          (grow 1 b_902_5 r_7.1).bind fun z_2 =>
          some (.next (r_10, z_2))
        else
          if (decide ((IntKind.wrap .i64 ((b_902_5.length : Int) + (r_7.1.length : Int))) > (IntKind.wrap .i64 (65536 - (IntKind.wrap .i64 d5_1))))) then
            (index_Source_Wrong r_5.2 8).bind fun r_11 =>
            (grow 1 b_902_5 r_7.1).bind fun z_3 =>
            some (.next (r_11, z_3))
          else
            (grow 1 b_902_5 r_7.1).bind fun z_4 =>
            some (.next (r_5.2, z_4))
  else
    some (.out (b_902_5, b_11))
/-- hansom/iter.Get -/
noncomputable def iter_Get (b_ : (List Int)) : Option (Data × Int) :=
  (index_From b_).bind fun r_1 =>
  (index_Source_Index r_1).bind fun r_2 =>
  (index_Source_Word r_2.2).bind fun r_3 =>
  (loopO (fun x : (Source × (List Int)) => iter_Get_l8 x.1 x.2 0 0 r_2.1 r_3.1) (r_3.2, ([] : List Int))).bind fun e_1 =>
  (index_Source_Err e_1.2).bind fun r_4 =>
  if (r_4 == 0) then
    if (decide (r_2.1 < 1)) then
      (index_Source_Wrong e_1.2 3).bind fun r_5 =>
      (index_Source_End r_5).bind fun r_6 =>
      if (r_6.1 != 0) then
        some (({ Seg := 0, Off := 0, Bytes := ([] : List Int), Fixups := ([] : List Fixup) } : Data), r_6.1)
      else
        some (({ Seg := r_2.1, Off := r_3.1, Bytes := e_1.1, Fixups := ([] : List Fixup) } : Data), 0)
    else
      if ((e_1.1.length : Int) == 0) then
        (index_Source_Wrong e_1.2 3).bind fun r_7 =>
        (index_Source_End r_7).bind fun r_8 =>
        if (r_8.1 != 0) then
          some (({ Seg := 0, Off := 0, Bytes := ([] : List Int), Fixups := ([] : List Fixup) } : Data), r_8.1)
        else
          some (({ Seg := r_2.1, Off := r_3.1, Bytes := e_1.1, Fixups := ([] : List Fixup) } : Data), 0)
      else
        (index_Source_End e_1.2).bind fun r_9 =>
        if (r_9.1 != 0) then
          some (({ Seg := 0, Off := 0, Bytes := ([] : List Int), Fixups := ([] : List Fixup) } : Data), r_9.1)
        else
          some (({ Seg := r_2.1, Off := r_3.1, Bytes := e_1.1, Fixups := ([] : List Fixup) } : Data), 0)
  else
    (index_Source_End e_1.2).bind fun r_10 =>
    if (r_10.1 != 0) then
      some (({ Seg := 0, Off := 0, Bytes := ([] : List Int), Fixups := ([] : List Fixup) } : Data), r_10.1)
    else
      some (({ Seg := r_2.1, Off := r_3.1, Bytes := e_1.1, Fixups := ([] : List Fixup) } : Data), 0)
/-- hansom/hansomlaw24.IterMost -/
noncomputable def hansomlaw24_IterMost (n_ : Int) (times_ : Int) : Option Bool :=
  (hansomlaw24_deeps (IntKind.wrap .i64 ((bitsOp .and .i64 n_ 15) + 1))).bind fun r_1 =>
  (iter_Record 1 0 ([(Block.d r_1)] : List D)).bind fun r_2 =>
  (iter_Get r_2.Body).bind fun r_3 =>
  (iter_Spread 64 ({ Times := (IntKind.wrap .i64 (65500 + (bitsOp .and .i64 times_ 63))), Bytes := ([98] : List Int), Blocks := ([] : List D) } : Block)).bind fun r_4 =>
  (iter_Spread 64 ({ Times := 256, Bytes := ([] : List Int), Blocks := ([(Block.d ({ Times := 257, Bytes := ([99] : List Int), Blocks := ([] : List D) } : Block))] : List D) } : Block)).bind fun r_5 =>
  (iter_Record 1 0 ([(Block.d ({ Times := 256, Bytes := ([] : List Int), Blocks := ([(Block.d ({ Times := 257, Bytes := ([99] : List Int), Blocks := ([] : List D) } : Block))] : List D) } : Block))] : List D)).bind fun r_6 =>
  (iter_Get r_6.Body).bind fun r_7 =>
  (iter_Record 1 (IntKind.wrap .u16 (IntKind.wrap .i64 (65535 - (bitsOp .and .i64 times_ 15)))) ([(Block.d ({ Times := 17, Bytes := ([99] : List Int), Blocks := ([] : List D) } : Block))] : List D)).bind fun r_8 =>
  (iter_Get r_8.Body).bind fun r_9 =>
  (hansomlaw24_awake).bind fun r_10 =>
  if r_10 then
    (iter_May r_1).bind fun r_11 =>
    if (r_11 == (decide ((IntKind.wrap .i64 ((bitsOp .and .i64 n_ 15) + 1)) ≤ 8))) then
      if ((r_3.2 == 0) == (decide ((IntKind.wrap .i64 ((bitsOp .and .i64 n_ 15) + 1)) ≤ 8))) then
        if (r_3.2 == 0) then
          if ((b2s r_3.1.Bytes) == ([97] : List UInt8)) then
            if (r_4.2 == (decide ((IntKind.wrap .i64 (65500 + (bitsOp .and .i64 times_ 63))) ≤ 65535))) then
              if (!r_4.2) then
                if (!r_5.2) then
                  (iter_Size 64 ({ Times := 256, Bytes := ([] : List Int), Blocks := ([(Block.d ({ Times := 257, Bytes := ([99] : List Int), Blocks := ([] : List D) } : Block))] : List D) } : Block)).bind fun r_12 =>
                  if (r_12 == 65537) then
                    if (r_7.2 == 8) then
                      if (r_9.2 == 8) then
                        (iter_May ({ Times := 1, Bytes := ([] : List Int), Blocks := ([] : List D) } : Block)).bind fun r_13 =>
                        if (!r_13) then
                          (iter_May ({ Times := 0, Bytes := ([1] : List Int), Blocks := ([] : List D) } : Block)).bind fun r_14 =>
                          some (!r_14)
                        else
                          some false
                      else
                        some false
                    else
                      some false
                  else
                    some false
                else
                  some false
              else
                if ((r_4.1.length : Int) == (IntKind.wrap .i64 (65500 + (bitsOp .and .i64 times_ 63)))) then
                  if (!r_5.2) then
                    (iter_Size 64 ({ Times := 256, Bytes := ([] : List Int), Blocks := ([(Block.d ({ Times := 257, Bytes := ([99] : List Int), Blocks := ([] : List D) } : Block))] : List D) } : Block)).bind fun r_15 =>
                    if (r_15 == 65537) then
                      if (r_7.2 == 8) then
                        if (r_9.2 == 8) then
                          (iter_May ({ Times := 1, Bytes := ([] : List Int), Blocks := ([] : List D) } : Block)).bind fun r_16 =>
                          if (!r_16) then
                            (iter_May ({ Times := 0, Bytes := ([1] : List Int), Blocks := ([] : List D) } : Block)).bind fun r_17 =>
                            some (!r_17)
                          else
                            some false
                        else
                          some false
                      else
                        some false
                    else
                      some false
                  else
                    some false
                else
                  some false
            else
              some false
          else
            if (r_3.2 == 8) then
              if (r_4.2 == (decide ((IntKind.wrap .i64 (65500 + (bitsOp .and .i64 times_ 63))) ≤ 65535))) then
                if (!r_4.2) then
                  if (!r_5.2) then
                    (iter_Size 64 ({ Times := 256, Bytes := ([] : List Int), Blocks := ([(Block.d ({ Times := 257, Bytes := ([99] : List Int), Blocks := ([] : List D) } : Block))] : List D) } : Block)).bind fun r_18 =>
                    if (r_18 == 65537) then
                      if (r_7.2 == 8) then
                        if (r_9.2 == 8) then
                          (iter_May ({ Times := 1, Bytes := ([] : List Int), Blocks := ([] : List D) } : Block)).bind fun r_19 =>
                          if (!r_19) then
                            (iter_May ({ Times := 0, Bytes := ([1] : List Int), Blocks := ([] : List D) } : Block)).bind fun r_20 =>
                            some (!r_20)
                          else
                            some false
                        else
                          some false
                      else
                        some false
                    else
                      some false
                  else
                    some false
                else
                  if ((r_4.1.length : Int) == (IntKind.wrap .i64 (65500 + (bitsOp .and .i64 times_ 63)))) then
                    if (!r_5.2) then
                      (iter_Size 64 ({ Times := 256, Bytes := ([] : List Int), Blocks := ([(Block.d ({ Times := 257, Bytes := ([99] : List Int), Blocks := ([] : List D) } : Block))] : List D) } : Block)).bind fun r_21 =>
                      if (r_21 == 65537) then
                        if (r_7.2 == 8) then
                          if (r_9.2 == 8) then
                            (iter_May ({ Times := 1, Bytes := ([] : List Int), Blocks := ([] : List D) } : Block)).bind fun r_22 =>
                            if (!r_22) then
                              (iter_May ({ Times := 0, Bytes := ([1] : List Int), Blocks := ([] : List D) } : Block)).bind fun r_23 =>
                              some (!r_23)
                            else
                              some false
                          else
                            some false
                        else
                          some false
                      else
                        some false
                    else
                      some false
                  else
                    some false
              else
                some false
            else
              some false
        else
          if (r_3.2 == 8) then
            if (r_4.2 == (decide ((IntKind.wrap .i64 (65500 + (bitsOp .and .i64 times_ 63))) ≤ 65535))) then
              if (!r_4.2) then
                if (!r_5.2) then
                  (iter_Size 64 ({ Times := 256, Bytes := ([] : List Int), Blocks := ([(Block.d ({ Times := 257, Bytes := ([99] : List Int), Blocks := ([] : List D) } : Block))] : List D) } : Block)).bind fun r_24 =>
                  if (r_24 == 65537) then
                    if (r_7.2 == 8) then
                      if (r_9.2 == 8) then
                        (iter_May ({ Times := 1, Bytes := ([] : List Int), Blocks := ([] : List D) } : Block)).bind fun r_25 =>
                        if (!r_25) then
                          (iter_May ({ Times := 0, Bytes := ([1] : List Int), Blocks := ([] : List D) } : Block)).bind fun r_26 =>
                          some (!r_26)
                        else
                          some false
                      else
                        some false
                    else
                      some false
                  else
                    some false
                else
                  some false
              else
                if ((r_4.1.length : Int) == (IntKind.wrap .i64 (65500 + (bitsOp .and .i64 times_ 63)))) then
                  if (!r_5.2) then
                    (iter_Size 64 ({ Times := 256, Bytes := ([] : List Int), Blocks := ([(Block.d ({ Times := 257, Bytes := ([99] : List Int), Blocks := ([] : List D) } : Block))] : List D) } : Block)).bind fun r_27 =>
                    if (r_27 == 65537) then
                      if (r_7.2 == 8) then
                        if (r_9.2 == 8) then
                          (iter_May ({ Times := 1, Bytes := ([] : List Int), Blocks := ([] : List D) } : Block)).bind fun r_28 =>
                          if (!r_28) then
                            (iter_May ({ Times := 0, Bytes := ([1] : List Int), Blocks := ([] : List D) } : Block)).bind fun r_29 =>
                            some (!r_29)
                          else
                            some false
                        else
                          some false
                      else
                        some false
                    else
                      some false
                  else
                    some false
                else
                  some false
            else
              some false
          else
            some false
      else
        some false
    else
      some false
  else
    some false
end Go.Es.Itm
