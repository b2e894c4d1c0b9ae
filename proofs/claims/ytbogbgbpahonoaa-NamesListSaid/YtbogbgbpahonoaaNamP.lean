/- What the functions that the law NamesHeader, NamesRemark, NamesList reaches answer, in plain Lean. No condition. -/
import Derived.Test.YtbogbgbpahonoaaEsD
set_option linter.unusedVariables false
set_option linter.unusedSimpArgs false
set_option maxRecDepth 100000
set_option maxHeartbeats 4000000
namespace Go.Es.Nam
structure Record where
  Kind : Int
  Body : (List Int)
  deriving DecidableEq, Inhabited
def Record.cs (x : Record) : List D := [.int .u8 x.Kind, .sl (List.map (D.int .u8) x.Body)]
def Record.d (x : Record) : D := .agg (Record.cs x)
structure Source where
  b : (List Int)
  e : Int
  deriving DecidableEq, Inhabited
def Source.cs (x : Source) : List D := [.sl (List.map (D.int .u8) x.b), .int .i64 x.e]
def Source.d (x : Source) : D := .agg (Source.cs x)
structure Comment where
  Flags : Int
  Class : Int
  Text : (List UInt8)
  deriving DecidableEq, Inhabited
def Comment.cs (x : Comment) : List D := [.int .u8 x.Flags, .int .u8 x.Class, .str x.Text]
def Comment.d (x : Comment) : D := .agg (Comment.cs x)
def Record.wf (x : Record) : Prop := wfI .u8 x.Kind ∧ wfL (wfI .u8) x.Body
def Source.wf (x : Source) : Prop := wfL (wfI .u8) x.b ∧ wfI .i64 x.e
def Comment.wf (x : Comment) : Prop := wfI .u8 x.Flags ∧ wfI .u8 x.Class ∧ wfS x.Text
/-- hansom/index.Name -/
noncomputable def index_Name (s_ : (List UInt8)) : Option (List Int) :=
  (cutL s_ 0 (mnI (s_.length : Int) 255)).bind fun z_1 =>
  (grow 1 ([(IntKind.wrap .u8 (z_1.length : Int))] : List Int) (s2b z_1)).bind fun z_2 =>
  some z_2
/-- hansom/names.Header -/
noncomputable def names_Header (name_ : (List UInt8)) : Option Record :=
  (index_Name name_).bind fun r_1 =>
  some ({ Kind := 128, Body := r_1 } : Record)
/-- hansom/index.From -/
noncomputable def index_From (b_ : (List Int)) : Option Source :=
  (grow 1 [] b_).bind fun z_1 =>
  some ({ b := z_1, e := 0 } : Source)
/-- (*hansom/index.Source).Wrong -/
noncomputable def index_Source_Wrong (s_ : Source) (e_ : Int) : Option Source :=
  if (s_.e == 0) then
    if (e_ != 0) then
      some ({ b := ([] : List Int), e := e_ } : Source)
    else
      some s_
  else
    some s_
/-- (*hansom/index.Source).Take -/
noncomputable def index_Source_Take (s_ : Source) (n_ : Int) : Option ((List Int) × Source) :=
  if (decide (n_ < 0)) then
    (index_Source_Wrong s_ 2).bind fun r_1 =>
    some (([] : List Int), r_1)
  else
    if (decide (n_ > (s_.b.length : Int))) then
      (index_Source_Wrong s_ 2).bind fun r_2 =>
      some (([] : List Int), r_2)
    else
      (cut3 s_.b 0 n_ n_).bind fun z_1 =>
      (cutL s_.b n_ (s_.b.length : Int)).bind fun z_2 =>
      some (z_1, ({ b := z_2, e := s_.e } : Source))
/-- (*hansom/index.Source).Byte -/
noncomputable def index_Source_Byte (s_ : Source) : Option (Int × Source) :=
  (index_Source_Take s_ 1).bind fun r_1 =>
  if ((r_1.1.length : Int) == 1) then
    (idx r_1.1 0).bind fun z_1 =>
    some (z_1, r_1.2)
  else
    some (0, r_1.2)
/-- (*hansom/index.Source).Name -/
noncomputable def index_Source_Name (s_ : Source) : Option ((List UInt8) × Source) :=
  (index_Source_Byte s_).bind fun r_1 =>
  (index_Source_Take r_1.2 (IntKind.wrap .i64 r_1.1)).bind fun r_2 =>
  some ((b2s r_2.1), r_2.2)
/-- (*hansom/index.Source).Left -/
noncomputable def index_Source_Left (s_ : Source) : Option Int :=
  some (s_.b.length : Int)
/-- (*hansom/index.Source).Err -/
noncomputable def index_Source_Err (s_ : Source) : Option Int :=
  some s_.e
/-- (*hansom/index.Source).End -/
noncomputable def index_Source_End (s_ : Source) : Option (Int × Source) :=
  (index_Source_Left s_).bind fun r_1 =>
  if (decide (r_1 > 0)) then
    (index_Source_Wrong s_ 3).bind fun r_2 =>
    (index_Source_Err r_2).bind fun r_3 =>
    some (r_3, r_2)
  else
    (index_Source_Err s_).bind fun r_4 =>
    some (r_4, s_)
/-- hansom/names.Name -/
noncomputable def names_Name (b_ : (List Int)) : Option ((List UInt8) × Int) :=
  (index_From b_).bind fun r_1 =>
  (index_Source_Name r_1).bind fun r_2 =>
  (index_Source_End r_2.2).bind fun r_3 =>
  if (r_3.1 != 0) then
    some (([] : List UInt8), r_3.1)
  else
    some (r_2.1, 0)
/-- hansom/hansomlaw20.awake -/
noncomputable def hansomlaw20_awake  : Option Bool :=
  (names_Header ([65, 66] : List UInt8)).bind fun r_1 =>
  (names_Name r_1.Body).bind fun r_2 =>
  if (r_2.2 == 0) then
    if (r_2.1 == ([65, 66] : List UInt8)) then
      (names_Header ([65, 66] : List UInt8)).bind fun r_3 =>
      some (r_3.Kind == 128)
    else
      some false
  else
    some false
/-- hansom/hansomref18.Name -/
noncomputable def hansomref18_Name (s_ : (List UInt8)) : Option (List UInt8) :=
  if (decide ((s_.length : Int) > 255)) then
    (cutL s_ 0 255).bind fun z_1 =>
    (catS (b2s ([(IntKind.wrap .u8 (z_1.length : Int))] : List Int)) z_1).bind fun z_2 =>
    some z_2
  else
    (catS (b2s ([(IntKind.wrap .u8 (s_.length : Int))] : List Int)) s_).bind fun z_3 =>
    some z_3
noncomputable def hansomlaw20_NamesHeader_j28 (r6 : Record) (more1 : (List UInt8)) (t5 : (List UInt8)) (n7 : (List UInt8)) (e8 : Int) (f10 : Int) (g12 : Int) (want13 : Int) : Option Bool :=
  (names_Name ([] : List Int)).bind fun r_5 =>
  (hansomlaw20_awake).bind fun r_6 =>
  if r_6 then
    (hansomref18_Name t5).bind fun r_7 =>
    if ((b2s r6.Body) == r_7) then
      if (e8 == 0) then
        if (n7 == t5) then
          if (f10 == 3) then
            if (g12 == want13) then
              if (r_5.2 == 2) then
                some (decide ((more1.length : Int) ≥ 0))
              else
                some false
            else
              some false
          else
            some false
        else
          some false
      else
        some false
    else
      some false
  else
    some false
/-- hansom/hansomlaw20.NamesHeader -/
noncomputable def hansomlaw20_NamesHeader (s_ : (List UInt8)) (more_ : (List UInt8)) : Option Bool :=
  (cutL s_ 0 (mnI (s_.length : Int) 255)).bind fun z_1 =>
  (names_Header z_1).bind fun r_1 =>
  if ((r_1.Body.length : Int) == 0) then
    some false
  else
    (names_Name r_1.Body).bind fun r_2 =>
    (grow 1 ([] : List Int) r_1.Body).bind fun z_2 =>
    (grow 1 z_2 ([120] : List Int)).bind fun z_3 =>
    (names_Name z_3).bind fun r_3 =>
    (cutL r_1.Body 0 (mxI (IntKind.wrap .i64 ((r_1.Body.length : Int) - (mnI (z_1.length : Int) 1))) 0)).bind fun z_4 =>
    (names_Name z_4).bind fun r_4 =>
    if (decide ((z_1.length : Int) > 0)) then
      hansomlaw20_NamesHeader_j28 r_1 more_ z_1 r_2.1 r_2.2 r_3.2 r_4.2 2
    else
      hansomlaw20_NamesHeader_j28 r_1 more_ z_1 r_2.1 r_2.2 r_3.2 r_4.2 0
/-- hansom/names.Remark -/
noncomputable def names_Remark (c_ : Comment) : Option Record :=
  (grow 1 ([c_.Flags, c_.Class] : List Int) (s2b c_.Text)).bind fun z_1 =>
  some ({ Kind := 136, Body := z_1 } : Record)
/-- hansom/names.Comment -/
noncomputable def names_Comment (b_ : (List Int)) : Option (Comment × Int) :=
  (index_From b_).bind fun r_1 =>
  (index_Source_Byte r_1).bind fun r_2 =>
  (index_Source_Byte r_2.2).bind fun r_3 =>
  (index_Source_Left r_3.2).bind fun r_4 =>
  (index_Source_Take r_3.2 r_4).bind fun r_5 =>
  (index_Source_Err r_5.2).bind fun r_6 =>
  if (r_6 != 0) then
    some (({ Flags := 0, Class := 0, Text := [] } : Comment), r_6)
  else
    some (({ Flags := r_2.1, Class := r_3.1, Text := (b2s r_5.1) } : Comment), 0)
noncomputable def hansomlaw20_NamesRemark_j20 (c2 : Comment) (x5 : Comment) (r6 : Record) (y7 : Comment) (z9 : Comment) (b1 : (List Int)) (e8 : Int) (f10 : Int) (want11 : Int) : Option Bool :=
  (hansomlaw20_awake).bind fun r_4 =>
  if r_4 then
    if (r6.Kind == 136) then
      (catS (b2s ([c2.Flags, c2.Class] : List Int)) x5.Text).bind fun z_3 =>
      if ((b2s r6.Body) == z_3) then
        if (e8 == 0) then
          if (y7.Flags == x5.Flags && (y7.Class == x5.Class && (y7.Text == x5.Text && true))) then
            if (f10 == want11) then
              if (f10 != 0) then
                some true
              else
                (names_Remark z9).bind fun r_5 =>
                (cutL b1 0 (mnI (b1.length : Int) 30)).bind fun z_4 =>
                some ((b2s r_5.Body) == (b2s z_4))
            else
              some false
          else
            some false
        else
          some false
      else
        some false
    else
      some false
  else
    some false
/-- hansom/hansomlaw20.NamesRemark -/
noncomputable def hansomlaw20_NamesRemark (c_ : Comment) (b_ : (List Int)) : Option Bool :=
  (cutL c_.Text 0 (mnI (c_.Text.length : Int) 100)).bind fun z_1 =>
  (names_Remark ({ Flags := c_.Flags, Class := c_.Class, Text := z_1 } : Comment)).bind fun r_1 =>
  (names_Comment r_1.Body).bind fun r_2 =>
  (cutL b_ 0 (mnI (b_.length : Int) 30)).bind fun z_2 =>
  (names_Comment z_2).bind fun r_3 =>
  if (decide ((b_.length : Int) < 2)) then
    hansomlaw20_NamesRemark_j20 c_ ({ Flags := c_.Flags, Class := c_.Class, Text := z_1 } : Comment) r_1 r_2.1 r_3.1 b_ r_2.2 r_3.2 2
  else
    hansomlaw20_NamesRemark_j20 c_ ({ Flags := c_.Flags, Class := c_.Class, Text := z_1 } : Comment) r_1 r_2.1 r_3.1 b_ r_2.2 r_3.2 0
noncomputable def names_List_l8 (r3 : Record) (b_2_0 : Int) (t7 : (List (List UInt8))) (t8 : Int) (t9 : Int) : Option (Lp (Record × Int) Record) :=
  if (decide (t9 < t8)) then
    (idx t7 t9).bind fun z_1 =>
    (index_Name z_1).bind fun r_1 =>
    (grow 1 r3.Body r_1).bind fun z_2 =>
    some (.next (({ Kind := r3.Kind, Body := z_2 } : Record), (IntKind.wrap .i64 (t9 + 1))))
  else
    some (.out r3)
/-- hansom/names.List -/
noncomputable def names_List (l_ : (List (List UInt8))) : Option Record :=
  (loopO (fun x : (Record × Int) => names_List_l8 x.1 0 l_ (l_.length : Int) x.2) (({ Kind := 150, Body := ([] : List Int) } : Record), 0)).bind fun e_1 =>
  some e_1
noncomputable def names_Names_l8 (b_8 : Source) (out5 : (List (List UInt8))) : Option (Lp (Source × (List (List UInt8))) ((List (List UInt8)) × Source)) :=
  (index_Source_Left b_8).bind fun r_2 =>
  if (decide (r_2 > 0)) then
    (index_Source_Name b_8).bind fun r_3 =>
    (grow 16 out5 ([r_3.1] : List (List UInt8))).bind fun z_1 =>
    some (.next (r_3.2, z_1))
  else
    some (.out (out5, b_8))
/-- hansom/names.Names -/
noncomputable def names_Names (b_ : (List Int)) : Option ((List (List UInt8)) × Int) :=
  (index_From b_).bind fun r_1 =>
  (loopO (fun x : (Source × (List (List UInt8))) => names_Names_l8 x.1 x.2) (r_1, ([] : List (List UInt8)))).bind fun e_1 =>
  (index_Source_Err e_1.2).bind fun r_2 =>
  if (r_2 != 0) then
    some (([] : List (List UInt8)), r_2)
  else
    some (e_1.1, 0)
noncomputable def hansomlaw20_NamesList_l8 (b_15 : (List (List UInt8))) (l0 : (List (List UInt8))) (cut1 : Int) (b6 : (List UInt8)) (i7 : Int) : Option (Lp ((List (List UInt8)) × (List UInt8) × Int) ((List (List UInt8)) × (List UInt8))) :=
  if (decide (i7 < (l0.length : Int))) then
    if (decide (i7 < 12)) then
      (idx l0 i7).bind fun z_1 =>
      (idx l0 i7).bind fun z_2 =>
      (cutL z_1 0 (mnI (z_2.length : Int) 40)).bind fun z_3 =>
      (grow 16 b_15 ([z_3] : List (List UInt8))).bind fun z_4 =>
      (idx z_4 i7).bind fun z_5 =>
      (hansomref18_Name z_5).bind fun r_1 =>
      (catS b6 r_1).bind fun z_6 =>
      some (.next (z_4, z_6, (IntKind.wrap .i64 (i7 + 1))))
    else
      some (.out (b_15, b6))
  else
    some (.out (b_15, b6))
noncomputable def hansomlaw20_NamesList_l37 (b_15 : (List (List UInt8))) (cut1 : Int) (b6 : (List UInt8)) (got9 : (List (List UInt8))) (i11 : Int) : Option (Lp Int (Bool ⊕ Unit)) :=
  if (decide (i11 < (b_15.length : Int))) then
    (idx got9 i11).bind fun z_1 =>
    (idx b_15 i11).bind fun z_2 =>
    if (z_1 != z_2) then
      some (.out (.inl false))
    else
      some (.next (IntKind.wrap .i64 (i11 + 1)))
  else
    some (.out (.inr ()))
/-- hansom/hansomlaw20.NamesList -/
noncomputable def hansomlaw20_NamesList (l_ : (List (List UInt8))) (cut_ : Int) : Option Bool :=
  (loopO (fun x : ((List (List UInt8)) × (List UInt8) × Int) => hansomlaw20_NamesList_l8 x.1 l_ cut_ x.2.1 x.2.2) (([] : List (List UInt8)), ([] : List UInt8), 0)).bind fun e_1 =>
  (names_List e_1.1).bind fun r_1 =>
  (names_Names (s2b e_1.2)).bind fun r_2 =>
  if ((b2s r_1.Body) != e_1.2) then
    some false
  else
    if (r_1.Kind != 150) then
      some false
    else
      if (r_2.2 != 0) then
        some false
      else
        if ((r_2.1.length : Int) != (e_1.1.length : Int)) then
          some false
        else
          (loopO (fun x : Int => hansomlaw20_NamesList_l37 e_1.1 cut_ e_1.2 r_2.1 x) 0).bind fun e_2 =>
          match e_2 with
          | .inl e_3 =>
            some e_3
          | .inr e_4 =>
            (remI .i64 (bitsOp .and .i64 cut_ 65535) (IntKind.wrap .i64 ((e_1.2.length : Int) + 1))).bind fun z_1 =>
            (cutL e_1.2 0 z_1).bind fun z_2 =>
            (names_Names (s2b z_2)).bind fun r_3 =>
            (hansomlaw20_awake).bind fun r_4 =>
            if r_4 then
              if (r_3.2 == 0) then
                some (decide ((r_3.1.length : Int) ≤ (e_1.1.length : Int)))
              else
                if (r_3.2 == 2) then
                  if ((r_3.1.length : Int) == 0) then
                    some (decide ((r_3.1.length : Int) ≤ (e_1.1.length : Int)))
                  else
                    some false
                else
                  some false
            else
              some false
end Go.Es.Nam
