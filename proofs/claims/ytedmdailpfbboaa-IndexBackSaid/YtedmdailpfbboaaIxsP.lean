/- What the functions that the law IndexShort, IndexBack reaches answer, in plain Lean. No condition. -/
import Derived.Test.YtedmdailpfbboaaEsD
set_option linter.unusedVariables false
set_option linter.unusedSimpArgs false
set_option maxRecDepth 100000
set_option maxHeartbeats 4000000
namespace Go.Es.Ixs
structure Source where
  b : (List Int)
  e : Int
  deriving DecidableEq, Inhabited
def Source.cs (x : Source) : List D := [.sl (List.map (D.int .u8) x.b), .int .i64 x.e]
def Source.d (x : Source) : D := .agg (Source.cs x)
def Source.wf (x : Source) : Prop := wfL (wfI .u8) x.b ∧ wfI .i64 x.e
/-- hansom/index.From -/
noncomputable def index_From (b_ : (List Int)) : Option Source :=
  (grow 1 [] b_).bind fun z_1 =>
  some ({ b := z_1, e := 0 } : Source)
/-- (*hansom/index.Source).Wrong -/
noncomputable def index_Source_Wrong (s_ : Source) (e_ : Int) : Option Source :=
  if (s_.e == 0) then
    if (e_ != 0) then
      some ({ b := ([] : List Int), e := e_ } : Source)
    else
      some s_
  else
    some s_
/-- (*hansom/index.Source).Take -/
noncomputable def index_Source_Take (s_ : Source) (n_ : Int) : Option ((List Int) × Source) :=
  if (decide (n_ < 0)) then
    (index_Source_Wrong s_ 2).bind fun r_1 =>
    some (([] : List Int), r_1)
  else
    if (decide (n_ > (s_.b.length : Int))) then
      (index_Source_Wrong s_ 2).bind fun r_2 =>
      some (([] : List Int), r_2)
    else
      (cut3 s_.b 0 n_ n_).bind fun z_1 =>
      (cutL s_.b n_ (s_.b.length : Int)).bind fun z_2 =>
      some (z_1, ({ b := z_2, e := s_.e } : Source))
/-- (*hansom/index.Source).Byte -/
noncomputable def index_Source_Byte (s_ : Source) : Option (Int × Source) :=
  (index_Source_Take s_ 1).bind fun r_1 =>
  if ((r_1.1.length : Int) == 1) then
    (idx r_1.1 0).bind fun z_1 =>
    some (z_1, r_1.2)
  else
    some (0, r_1.2)
/-- (*hansom/index.Source).Err -/
noncomputable def index_Source_Err (s_ : Source) : Option Int :=
  some s_.e
/-- (*hansom/index.Source).Index -/
noncomputable def index_Source_Index (s_ : Source) : Option (Int × Source) :=
  (index_Source_Byte s_).bind fun r_1 =>
  if (decide ((IntKind.wrap .i64 r_1.1) < 128)) then
    some ((IntKind.wrap .i64 r_1.1), r_1.2)
  else
    (index_Source_Byte r_1.2).bind fun r_2 =>
    (index_Source_Err r_2.2).bind fun r_3 =>
    if (r_3 != 0) then
      some (0, r_2.2)
    else
      some ((bitsOp .or .i64 (shlI .i64 (bitsOp .and .i64 (IntKind.wrap .i64 r_1.1) 127) 8) (IntKind.wrap .i64 r_2.1)), r_2.2)
/-- (*hansom/index.Source).Name -/
noncomputable def index_Source_Name (s_ : Source) : Option ((List UInt8) × Source) :=
  (index_Source_Byte s_).bind fun r_1 =>
  (index_Source_Take r_1.2 (IntKind.wrap .i64 r_1.1)).bind fun r_2 =>
  some ((b2s r_2.1), r_2.2)
/-- hansom/index.Put -/
noncomputable def index_Put (n_ : Int) : Option (List Int) :=
  if (decide (n_ < 0)) then
    some ([0] : List Int)
  else
    if (decide (n_ > 32767)) then
      some ([0] : List Int)
    else
      if (decide (n_ < 128)) then
        some ([(IntKind.wrap .u8 n_)] : List Int)
      else
        some ([(bitsOp .or .u8 (IntKind.wrap .u8 (shrI .i64 n_ 8)) 128), (IntKind.wrap .u8 n_)] : List Int)
/-- (*hansom/index.Source).Left -/
noncomputable def index_Source_Left (s_ : Source) : Option Int :=
  some (s_.b.length : Int)
/-- (*hansom/index.Source).End -/
noncomputable def index_Source_End (s_ : Source) : Option (Int × Source) :=
  (index_Source_Left s_).bind fun r_1 =>
  if (decide (r_1 > 0)) then
    (index_Source_Wrong s_ 3).bind fun r_2 =>
    (index_Source_Err r_2).bind fun r_3 =>
    some (r_3, r_2)
  else
    (index_Source_Err s_).bind fun r_4 =>
    some (r_4, s_)
/-- hansom/hansomlaw19.awake -/
noncomputable def hansomlaw19_awake  : Option Bool :=
  (index_From ([129, 44, 2, 65, 66] : List Int)).bind fun r_1 =>
  (index_Source_Index r_1).bind fun r_2 =>
  (index_Source_Name r_2.2).bind fun r_3 =>
  (index_Put 300).bind fun r_4 =>
  if ((b2s r_4) == ([129, 44] : List UInt8)) then
    if (r_2.1 == 300) then
      if (r_3.1 == ([65, 66] : List UInt8)) then
        (index_Source_End r_3.2).bind fun r_5 =>
        some (r_5.1 == 0)
      else
        some false
    else
      some false
  else
    some false
/-- hansom/bits.Word -/
noncomputable def bits_Word (low_ : Int) (high_ : Int) : Option Int :=
  some (bitsOp .or .u16 (IntKind.wrap .u16 low_) (shlI .u16 (IntKind.wrap .u16 high_) 8))
/-- (*hansom/index.Source).Word -/
noncomputable def index_Source_Word (s_ : Source) : Option (Int × Source) :=
  (index_Source_Take s_ 2).bind fun r_1 =>
  if ((r_1.1.length : Int) == 2) then
    (idx r_1.1 0).bind fun z_1 =>
    (idx r_1.1 1).bind fun z_2 =>
    (bits_Word z_1 z_2).bind fun r_2 =>
    some (r_2, r_1.2)
  else
    some (0, r_1.2)
noncomputable def index_Source_Long_l29 (s0 : Source) (out5 : Int) (t26 : (List Int)) (t27 : Int) (t28 : Int) : Option (Lp (Int × Int) Int) :=
  if (decide (t28 < t27)) then
    (idx t26 t28).bind fun z_1 =>
    (shlO .u32 (IntKind.wrap .u32 z_1) (IntKind.wrap .i64 (8 * t28))).bind fun z_2 =>
    some (.next ((bitsOp .or .u32 out5 z_2), (IntKind.wrap .i64 (t28 + 1))))
  else
    some (.out out5)
/-- (*hansom/index.Source).Long -/
noncomputable def index_Source_Long (s_ : Source) : Option (Int × Source) :=
  (index_Source_Byte s_).bind fun r_1 =>
  if (decide (r_1.1 ≤ 128)) then
    some ((IntKind.wrap .u32 r_1.1), r_1.2)
  else
    if ((lkpI [(129, 2), (132, 3), (136, 4)] r_1.1) == 0) then
      (index_Source_Wrong r_1.2 3).bind fun r_2 =>
      some (0, r_2)
    else
      (index_Source_Take r_1.2 (lkpI [(129, 2), (132, 3), (136, 4)] r_1.1)).bind fun r_3 =>
      (loopO (fun x : (Int × Int) => index_Source_Long_l29 r_3.2 x.1 r_3.1 (r_3.1.length : Int) x.2) (0, 0)).bind fun e_1 =>
      some (e_1, r_3.2)
/-- (*hansom/index.Source).Wrong -/
noncomputable def index_Source_Wrong_nil (e_ : Int) : Option Unit :=
  some ()
/-- (*hansom/index.Source).Err -/
noncomputable def index_Source_Err_nil  : Option Int :=
  some 1
/-- (*hansom/index.Source).Left -/
noncomputable def index_Source_Left_nil  : Option Int :=
  some 0
/-- (*hansom/index.Source).Take -/
noncomputable def index_Source_Take_nil (n_ : Int) : Option (List Int) :=
  some ([] : List Int)
/-- (*hansom/index.Source).Byte -/
noncomputable def index_Source_Byte_nil  : Option Int :=
  (index_Source_Take_nil 1).bind fun r_1 =>
  if ((r_1.length : Int) == 1) then
    (idx r_1 0).bind fun z_1 =>
    some z_1
  else
    some 0
/-- (*hansom/index.Source).End -/
noncomputable def index_Source_End_nil  : Option Int :=
  (index_Source_Left_nil).bind fun r_1 =>
  if (decide (r_1 > 0)) then
    (index_Source_Wrong_nil 3).bind fun r_2 =>
    (index_Source_Err_nil).bind fun r_3 =>
    some r_3
  else
    (index_Source_Err_nil).bind fun r_4 =>
    some r_4
noncomputable def hansomlaw19_IndexShort_j34 (b_20 : Source) (kind2 : Int) (e10 : Int) : Option Bool :=
  (index_From ([(IntKind.wrap .u8 (IntKind.wrap .i64 (133 + (IntKind.wrap .i64 ((bitsOp .and .i64 kind2 1) * 4))))), 1, 2, 3, 4, 5] : List Int)).bind fun r_14 =>
  (index_Source_Long r_14).bind fun r_15 =>
  (index_Source_Wrong_nil 3).bind fun r_16 =>
  (hansomlaw19_awake).bind fun r_17 =>
  if r_17 then
    (index_Source_End b_20).bind fun r_18 =>
    if (r_18.1 == e10) then
      if (r_15.1 == 0) then
        (index_Source_Err r_15.2).bind fun r_19 =>
        if (r_19 == 3) then
          (index_Source_Err_nil).bind fun r_20 =>
          if (r_20 == 1) then
            (index_Source_Left_nil).bind fun r_21 =>
            if (r_21 == 0) then
              (index_Source_Byte_nil).bind fun r_22 =>
              if (r_22 == 0) then
                (index_Source_Take_nil 1).bind fun r_23 =>
                if ((r_23.length : Int) == 0) then
                  (index_Source_End_nil).bind fun r_24 =>
                  some (r_24 == 1)
                else
                  some false
              else
                some false
            else
              some false
          else
            some false
        else
          some false
      else
        some false
    else
      some false
  else
    some false
noncomputable def hansomlaw19_IndexShort_j11 (b_20 : Source) (n1 : Int) (kind2 : Int) (y7 : (List Int)) (t9 : (List Int)) (t31 : Bool) : Option Bool :=
  if t31 then
    (index_Source_Wrong b_20 3).bind fun r_3 =>
    (hansomlaw19_awake).bind fun r_4 =>
    if r_4 then
      if ((t9.length : Int) == 0) then
        (index_Source_Err r_3).bind fun r_5 =>
        if (r_5 == 2) then
          (index_Source_Left r_3).bind fun r_6 =>
          if (r_6 == 0) then
            (index_Source_Word r_3).bind fun r_7 =>
            if (r_7.1 == 0) then
              (index_Source_Index r_7.2).bind fun r_8 =>
              if (r_8.1 == 0) then
                (index_Source_Name r_8.2).bind fun r_9 =>
                if (r_9.1 == ([] : List UInt8)) then
                  (index_Source_Long r_9.2).bind fun r_10 =>
                  if (r_10.1 == 0) then
                    (index_Source_End r_10.2).bind fun r_11 =>
                    some (r_11.1 == 2)
                  else
                    some false
                else
                  some false
              else
                some false
            else
              some false
          else
            some false
        else
          some false
      else
        some false
    else
      some false
  else
    (cutL y7 0 n1).bind fun z_2 =>
    if ((b2s t9) != (b2s z_2)) then
      some false
    else
      (index_Source_Left b_20).bind fun r_12 =>
      if (r_12 != (IntKind.wrap .i64 ((y7.length : Int) - n1))) then
        some false
      else
        (index_Source_Err b_20).bind fun r_13 =>
        if (r_13 != 0) then
          some false
        else
          if (decide (n1 < (y7.length : Int))) then
            hansomlaw19_IndexShort_j34 b_20 kind2 3
          else
            hansomlaw19_IndexShort_j34 b_20 kind2 0
/-- hansom/hansomlaw19.IndexShort -/
noncomputable def hansomlaw19_IndexShort (b_ : (List Int)) (n_ : Int) (kind_ : Int) : Option Bool :=
  (cutL b_ 0 (mnI (b_.length : Int) 20)).bind fun z_1 =>
  (index_From z_1).bind fun r_1 =>
  (index_Source_Take r_1 n_).bind fun r_2 =>
  if (decide (n_ < 0)) then
    hansomlaw19_IndexShort_j11 r_2.2 n_ kind_ z_1 r_2.1 true
  else
    hansomlaw19_IndexShort_j11 r_2.2 n_ kind_ z_1 r_2.1 (decide (n_ > (z_1.length : Int)))
noncomputable def hansomref18_Index_j8 (n0 : Int) : Option (List UInt8) :=
  if (decide (n0 < 128)) then
    some (b2s ([(IntKind.wrap .u8 n0)] : List Int))
  else
    some (b2s ([(IntKind.wrap .u8 (IntKind.wrap .i64 ((IntKind.wrap .i64 (Int.tdiv n0 256)) + 128))), (IntKind.wrap .u8 (Int.tmod n0 256))] : List Int))
/-- hansom/hansomref18.Index -/
noncomputable def hansomref18_Index (n_ : Int) : Option (List UInt8) :=
  if (decide (n_ < 0)) then
    hansomref18_Index_j8 0
  else
    if (decide (n_ > 32767)) then
      hansomref18_Index_j8 0
    else
      hansomref18_Index_j8 n_
noncomputable def hansomref18_Bytes_l8 (n0 : Int) (many1 : Int) (s5 : (List UInt8)) (i6 : Int) : Option (Lp (Int × (List UInt8) × Int) (List UInt8)) :=
  if (decide (i6 < many1)) then
    (catS s5 (b2s ([(IntKind.wrap .u8 (Int.tmod n0 256))] : List Int))).bind fun z_1 =>
    some (.next ((IntKind.wrap .u64 (Int.tdiv n0 256)), z_1, (IntKind.wrap .i64 (i6 + 1))))
  else
    some (.out s5)
/-- hansom/hansomref18.Bytes -/
noncomputable def hansomref18_Bytes (n_ : Int) (many_ : Int) : Option (List UInt8) :=
  (loopO (fun x : (Int × (List UInt8) × Int) => hansomref18_Bytes_l8 x.1 many_ x.2.1 x.2.2) (n_, ([] : List UInt8), 0)).bind fun e_1 =>
  some e_1
/-- hansom/hansomref18.Long -/
noncomputable def hansomref18_Long (n_ : Int) : Option (List UInt8) :=
  if (decide (n_ ≤ 128)) then
    (hansomref18_Bytes (IntKind.wrap .u64 n_) 1).bind fun r_1 =>
    some r_1
  else
    if (decide (n_ < 65536)) then
      (hansomref18_Bytes (IntKind.wrap .u64 n_) 2).bind fun r_2 =>
      (catS ([129] : List UInt8) r_2).bind fun z_1 =>
      some z_1
    else
      if (decide (n_ < 16777216)) then
        (hansomref18_Bytes (IntKind.wrap .u64 n_) 3).bind fun r_3 =>
        (catS ([132] : List UInt8) r_3).bind fun z_2 =>
        some z_2
      else
        (hansomref18_Bytes (IntKind.wrap .u64 n_) 4).bind fun r_4 =>
        (catS ([136] : List UInt8) r_4).bind fun z_3 =>
        some z_3
/-- hansom/hansomref18.Name -/
noncomputable def hansomref18_Name (s_ : (List UInt8)) : Option (List UInt8) :=
  if (decide ((s_.length : Int) > 255)) then
    (cutL s_ 0 255).bind fun z_1 =>
    (catS (b2s ([(IntKind.wrap .u8 (z_1.length : Int))] : List Int)) z_1).bind fun z_2 =>
    some z_2
  else
    (catS (b2s ([(IntKind.wrap .u8 (s_.length : Int))] : List Int)) s_).bind fun z_3 =>
    some z_3
/-- (*hansom/index.Source).Number -/
noncomputable def index_Source_Number (s_ : Source) : Option (Int × Source) :=
  (index_Source_Word s_).bind fun r_1 =>
  (index_Source_Word r_1.2).bind fun r_2 =>
  some ((bitsOp .or .u32 (IntKind.wrap .u32 r_1.1) (shlI .u32 (IntKind.wrap .u32 r_2.1) 16)), r_2.2)
noncomputable def hansomlaw19_IndexBack_l8 (l0 : (List Int)) (t5 : (List UInt8)) (b6 : (List UInt8)) (i7 : Int) : Option (Lp ((List UInt8) × Int) (List UInt8)) :=
  if (decide (i7 < (l0.length : Int))) then
    if (decide (i7 < 12)) then
      (idx l0 i7).bind fun z_2 =>
      (hansomref18_Index (IntKind.wrap .i64 (bitsOp .and .u32 z_2 32767))).bind fun r_1 =>
      (idx l0 i7).bind fun z_3 =>
      (hansomref18_Long z_3).bind fun r_2 =>
      (catS r_1 r_2).bind fun z_4 =>
      (idx l0 i7).bind fun z_5 =>
      (hansomref18_Bytes (IntKind.wrap .u64 z_5) 4).bind fun r_3 =>
      (catS z_4 r_3).bind fun z_6 =>
      (hansomref18_Name t5).bind fun r_4 =>
      (catS z_6 r_4).bind fun z_7 =>
      (catS b6 z_7).bind fun z_8 =>
      some (.next (z_8, (IntKind.wrap .i64 (i7 + 1))))
    else
      some (.out b6)
  else
    some (.out b6)
noncomputable def hansomlaw19_IndexBack_l25 (b_55 : Source) (l0 : (List Int)) (t5 : (List UInt8)) (i9 : Int) : Option (Lp (Source × Int) (Bool ⊕ Source)) :=
  if (decide (i9 < (l0.length : Int))) then
    if (decide (i9 < 12)) then
      (index_Source_Index b_55).bind fun r_2 =>
      (index_Source_Long r_2.2).bind fun r_3 =>
      (index_Source_Number r_3.2).bind fun r_4 =>
      (idx l0 i9).bind fun z_2 =>
      if (r_2.1 != (IntKind.wrap .i64 (bitsOp .and .u32 z_2 32767))) then
        some (.out (.inl false))
      else
        (idx l0 i9).bind fun z_3 =>
        if (r_3.1 != z_3) then
          some (.out (.inl false))
        else
          (idx l0 i9).bind fun z_4 =>
          if (r_4.1 != z_4) then
            some (.out (.inl false))
          else
            (index_Source_Name r_4.2).bind fun r_5 =>
            if (r_5.1 != t5) then
              some (.out (.inl false))
            else
              some (.next (r_5.2, (IntKind.wrap .i64 (i9 + 1))))
    else
      some (.out (.inr b_55))
  else
    some (.out (.inr b_55))
/-- hansom/hansomlaw19.IndexBack -/
noncomputable def hansomlaw19_IndexBack (l_ : (List Int)) (s_ : (List UInt8)) : Option Bool :=
  (cutL s_ 0 (mnI (s_.length : Int) 255)).bind fun z_1 =>
  (loopO (fun x : ((List UInt8) × Int) => hansomlaw19_IndexBack_l8 l_ z_1 x.1 x.2) (([] : List UInt8), 0)).bind fun e_1 =>
  (index_From (s2b e_1)).bind fun r_1 =>
  (loopO (fun x : (Source × Int) => hansomlaw19_IndexBack_l25 x.1 l_ z_1 x.2) (r_1, 0)).bind fun e_2 =>
  match e_2 with
  | .inl e_3 =>
    some e_3
  | .inr e_4 =>
    (hansomlaw19_awake).bind fun r_2 =>
    if r_2 then
      (index_Source_Left e_4).bind fun r_3 =>
      if (r_3 == 0) then
        (index_Source_End e_4).bind fun r_4 =>
        if (r_4.1 == 0) then
          (index_Source_Byte r_4.2).bind fun r_5 =>
          if (r_5.1 == 0) then
            (index_Source_Err r_5.2).bind fun r_6 =>
            some (r_6 == 2)
          else
            some false
        else
          some false
      else
        some false
    else
      some false
end Go.Es.Ixs
