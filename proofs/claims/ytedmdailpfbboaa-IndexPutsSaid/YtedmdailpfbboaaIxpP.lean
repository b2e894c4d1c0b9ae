/- What the functions that the law IndexPuts reaches answer, in plain Lean. No condition. -/
import Derived.Test.YtedmdailpfbboaaEsD
set_option linter.unusedVariables false
set_option linter.unusedSimpArgs false
set_option maxRecDepth 100000
set_option maxHeartbeats 4000000
namespace Go.Es.Ixp
structure Source where
  b : (List Int)
  e : Int
  deriving DecidableEq, Inhabited
def Source.cs (x : Source) : List D := [.sl (List.map (D.int .u8) x.b), .int .i64 x.e]
def Source.d (x : Source) : D := .agg (Source.cs x)
def Source.wf (x : Source) : Prop := wfL (wfI .u8) x.b ∧ wfI .i64 x.e
/-- hansom/index.From -/
noncomputable def index_From (b_ : (List Int)) : Option Source :=
  (grow 1 [] b_).bind fun z_1 =>
  some ({ b := z_1, e := 0 } : Source)
/-- (*hansom/index.Source).Wrong -/
noncomputable def index_Source_Wrong (s_ : Source) (e_ : Int) : Option Source :=
  if (s_.e == 0) then
    if (e_ != 0) then
      some ({ b := ([] : List Int), e := e_ } : Source)
    else
      some s_
  else
    some s_
/-- (*hansom/index.Source).Take -/
noncomputable def index_Source_Take (s_ : Source) (n_ : Int) : Option ((List Int) × Source) :=
  if (decide (n_ < 0)) then
    (index_Source_Wrong s_ 2).bind fun r_1 =>
    some (([] : List Int), r_1)
  else
    if (decide (n_ > (s_.b.length : Int))) then
      (index_Source_Wrong s_ 2).bind fun r_2 =>
      some (([] : List Int), r_2)
    else
      (cut3 s_.b 0 n_ n_).bind fun z_1 =>
      (cutL s_.b n_ (s_.b.length : Int)).bind fun z_2 =>
      some (z_1, ({ b := z_2, e := s_.e } : Source))
/-- (*hansom/index.Source).Byte -/
noncomputable def index_Source_Byte (s_ : Source) : Option (Int × Source) :=
  (index_Source_Take s_ 1).bind fun r_1 =>
  if ((r_1.1.length : Int) == 1) then
    (idx r_1.1 0).bind fun z_1 =>
    some (z_1, r_1.2)
  else
    some (0, r_1.2)
/-- (*hansom/index.Source).Err -/
noncomputable def index_Source_Err (s_ : Source) : Option Int :=
  some s_.e
/-- (*hansom/index.Source).Index -/
noncomputable def index_Source_Index (s_ : Source) : Option (Int × Source) :=
  (index_Source_Byte s_).bind fun r_1 =>
  if (decide ((IntKind.wrap .i64 r_1.1) < 128)) then
    some ((IntKind.wrap .i64 r_1.1), r_1.2)
  else
    (index_Source_Byte r_1.2).bind fun r_2 =>
    (index_Source_Err r_2.2).bind fun r_3 =>
    if (r_3 != 0) then
      some (0, r_2.2)
    else
      some ((bitsOp .or .i64 (shlI .i64 (bitsOp .and .i64 (IntKind.wrap .i64 r_1.1) 127) 8) (IntKind.wrap .i64 r_2.1)), r_2.2)
/-- (*hansom/index.Source).Name -/
noncomputable def index_Source_Name (s_ : Source) : Option ((List UInt8) × Source) :=
  (index_Source_Byte s_).bind fun r_1 =>
  (index_Source_Take r_1.2 (IntKind.wrap .i64 r_1.1)).bind fun r_2 =>
  some ((b2s r_2.1), r_2.2)
/-- hansom/index.Put -/
noncomputable def index_Put (n_ : Int) : Option (List Int) :=
  if (decide (n_ < 0)) then
    some ([0] : List Int)
  else
    if (decide (n_ > 32767)) then
      some ([0] : List Int)
    else
      if (decide (n_ < 128)) then
        some ([(IntKind.wrap .u8 n_)] : List Int)
      else
        some ([(bitsOp .or .u8 (IntKind.wrap .u8 (shrI .i64 n_ 8)) 128), (IntKind.wrap .u8 n_)] : List Int)
/-- (*hansom/index.Source).Left -/
noncomputable def index_Source_Left (s_ : Source) : Option Int :=
  some (s_.b.length : Int)
/-- (*hansom/index.Source).End -/
noncomputable def index_Source_End (s_ : Source) : Option (Int × Source) :=
  (index_Source_Left s_).bind fun r_1 =>
  if (decide (r_1 > 0)) then
    (index_Source_Wrong s_ 3).bind fun r_2 =>
    (index_Source_Err r_2).bind fun r_3 =>
    some (r_3, r_2)
  else
    (index_Source_Err s_).bind fun r_4 =>
    some (r_4, s_)
/-- hansom/hansomlaw19.awake -/
noncomputable def hansomlaw19_awake  : Option Bool :=
  (index_From ([129, 44, 2, 65, 66] : List Int)).bind fun r_1 =>
  (index_Source_Index r_1).bind fun r_2 =>
  (index_Source_Name r_2.2).bind fun r_3 =>
  (index_Put 300).bind fun r_4 =>
  if ((b2s r_4) == ([129, 44] : List UInt8)) then
    if (r_2.1 == 300) then
      if (r_3.1 == ([65, 66] : List UInt8)) then
        (index_Source_End r_3.2).bind fun r_5 =>
        some (r_5.1 == 0)
      else
        some false
    else
      some false
  else
    some false
noncomputable def hansomref18_Index_j8 (n0 : Int) : Option (List UInt8) :=
  if (decide (n0 < 128)) then
    some (b2s ([(IntKind.wrap .u8 n0)] : List Int))
  else
    some (b2s ([(IntKind.wrap .u8 (IntKind.wrap .i64 ((IntKind.wrap .i64 (Int.tdiv n0 256)) + 128))), (IntKind.wrap .u8 (Int.tmod n0 256))] : List Int))
/-- hansom/hansomref18.Index -/
noncomputable def hansomref18_Index (n_ : Int) : Option (List UInt8) :=
  if (decide (n_ < 0)) then
    hansomref18_Index_j8 0
  else
    if (decide (n_ > 32767)) then
      hansomref18_Index_j8 0
    else
      hansomref18_Index_j8 n_
/-- hansom/index.Name -/
noncomputable def index_Name (s_ : (List UInt8)) : Option (List Int) :=
  (cutL s_ 0 (mnI (s_.length : Int) 255)).bind fun z_1 =>
  (grow 1 ([(IntKind.wrap .u8 (z_1.length : Int))] : List Int) (s2b z_1)).bind fun z_2 =>
  some z_2
/-- hansom/hansomref18.Name -/
noncomputable def hansomref18_Name (s_ : (List UInt8)) : Option (List UInt8) :=
  if (decide ((s_.length : Int) > 255)) then
    (cutL s_ 0 255).bind fun z_1 =>
    (catS (b2s ([(IntKind.wrap .u8 (z_1.length : Int))] : List Int)) z_1).bind fun z_2 =>
    some z_2
  else
    (catS (b2s ([(IntKind.wrap .u8 (s_.length : Int))] : List Int)) s_).bind fun z_3 =>
    some z_3
/-- hansom/bits.Low -/
noncomputable def bits_Low (w_ : Int) : Option Int :=
  some (IntKind.wrap .u8 w_)
/-- hansom/bits.High -/
noncomputable def bits_High (w_ : Int) : Option Int :=
  some (IntKind.wrap .u8 (shrI .u16 w_ 8))
/-- hansom/index.Two -/
noncomputable def index_Two (w_ : Int) : Option (List Int) :=
  (bits_Low w_).bind fun r_1 =>
  (bits_High w_).bind fun r_2 =>
  some ([r_1, r_2] : List Int)
noncomputable def hansomref18_Bytes_l8 (n0 : Int) (many1 : Int) (s5 : (List UInt8)) (i6 : Int) : Option (Lp (Int × (List UInt8) × Int) (List UInt8)) :=
  if (decide (i6 < many1)) then
    (catS s5 (b2s ([(IntKind.wrap .u8 (Int.tmod n0 256))] : List Int))).bind fun z_1 =>
    some (.next ((IntKind.wrap .u64 (Int.tdiv n0 256)), z_1, (IntKind.wrap .i64 (i6 + 1))))
  else
    some (.out s5)
/-- hansom/hansomref18.Bytes -/
noncomputable def hansomref18_Bytes (n_ : Int) (many_ : Int) : Option (List UInt8) :=
  (loopO (fun x : (Int × (List UInt8) × Int) => hansomref18_Bytes_l8 x.1 many_ x.2.1 x.2.2) (n_, ([] : List UInt8), 0)).bind fun e_1 =>
  some e_1
/-- hansom/index.Four -/
noncomputable def index_Four (n_ : Int) : Option (List Int) :=
  (index_Two (IntKind.wrap .u16 n_)).bind fun r_1 =>
  (index_Two (IntKind.wrap .u16 (shrI .u32 n_ 16))).bind fun r_2 =>
  (grow 1 r_1 r_2).bind fun z_1 =>
  some z_1
/-- hansom/index.Long -/
noncomputable def index_Long (n_ : Int) : Option (List Int) :=
  if (decide (n_ ≤ 128)) then
    some ([(IntKind.wrap .u8 n_)] : List Int)
  else
    if (decide (n_ < 65536)) then
      (index_Two (IntKind.wrap .u16 n_)).bind fun r_1 =>
      (grow 1 ([129] : List Int) r_1).bind fun z_1 =>
      some z_1
    else
      if (decide (n_ < 16777216)) then
        (index_Four n_).bind fun r_2 =>
        (cutL r_2 0 3).bind fun z_2 =>
        (grow 1 ([132] : List Int) z_2).bind fun z_3 =>
        some z_3
      else
        (index_Four n_).bind fun r_3 =>
        (grow 1 ([136] : List Int) r_3).bind fun z_4 =>
        some z_4
/-- hansom/hansomref18.Long -/
noncomputable def hansomref18_Long (n_ : Int) : Option (List UInt8) :=
  if (decide (n_ ≤ 128)) then
    (hansomref18_Bytes (IntKind.wrap .u64 n_) 1).bind fun r_1 =>
    some r_1
  else
    if (decide (n_ < 65536)) then
      (hansomref18_Bytes (IntKind.wrap .u64 n_) 2).bind fun r_2 =>
      (catS ([129] : List UInt8) r_2).bind fun z_1 =>
      some z_1
    else
      if (decide (n_ < 16777216)) then
        (hansomref18_Bytes (IntKind.wrap .u64 n_) 3).bind fun r_3 =>
        (catS ([132] : List UInt8) r_3).bind fun z_2 =>
        some z_2
      else
        (hansomref18_Bytes (IntKind.wrap .u64 n_) 4).bind fun r_4 =>
        (catS ([136] : List UInt8) r_4).bind fun z_3 =>
        some z_3
/-- hansom/hansomlaw19.IndexPuts -/
noncomputable def hansomlaw19_IndexPuts (n_ : Int) (s_ : (List UInt8)) (w_ : Int) : Option Bool :=
  (cutL s_ 0 (mnI (s_.length : Int) 300)).bind fun z_1 =>
  (hansomlaw19_awake).bind fun r_1 =>
  if r_1 then
    (index_Put n_).bind fun r_2 =>
    (hansomref18_Index n_).bind fun r_3 =>
    if ((b2s r_2) == r_3) then
      (index_Name z_1).bind fun r_4 =>
      (hansomref18_Name z_1).bind fun r_5 =>
      if ((b2s r_4) == r_5) then
        (index_Two (IntKind.wrap .u16 w_)).bind fun r_6 =>
        (hansomref18_Bytes (Int.tmod (IntKind.wrap .u64 w_) 65536) 2).bind fun r_7 =>
        if ((b2s r_6) == r_7) then
          (index_Four w_).bind fun r_8 =>
          (hansomref18_Bytes (IntKind.wrap .u64 w_) 4).bind fun r_9 =>
          if ((b2s r_8) == r_9) then
            (index_Long w_).bind fun r_10 =>
            (hansomref18_Long w_).bind fun r_11 =>
            some ((b2s r_10) == r_11)
          else
            some false
        else
          some false
      else
        some false
    else
      some false
  else
    some false
end Go.Es.Ixp
