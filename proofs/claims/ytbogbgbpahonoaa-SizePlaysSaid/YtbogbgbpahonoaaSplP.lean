/- What the functions that the law SizePlays reaches answer, in plain Lean. No condition. -/
import Derived.Test.YtbogbgbpahonoaaEsD
set_option linter.unusedVariables false
set_option linter.unusedSimpArgs false
set_option maxRecDepth 100000
set_option maxHeartbeats 4000000
namespace Go.Es.Spl
structure Sizes where
  long : (List Bool)
  grew : Bool
  pass : Int
  deriving DecidableEq, Inhabited
def Sizes.cs (x : Sizes) : List D := [.sl (List.map D.bool x.long), .bool x.grew, .int .i64 x.pass]
def Sizes.d (x : Sizes) : D := .agg (Sizes.cs x)
def Sizes.wf (x : Sizes) : Prop := wfL (fun _ => True) x.long ∧ (fun _ => True) x.grew ∧ wfI .i64 x.pass
/-- hansom/size.New -/
noncomputable def size_New (n_ : Int) : Option Sizes :=
  (mk 1 false (mnI (mxI n_ 0) 600)).bind fun z_1 =>
  some ({ long := z_1, grew := false, pass := 0 } : Sizes)
/-- (*hansom/size.Sizes).Next -/
noncomputable def size_Sizes_Next (s_ : Sizes) : Option (Bool × Int × Sizes) :=
  if (decide (s_.pass ≥ 30)) then
    some (false, 360, s_)
  else
    some (s_.grew, 0, ({ long := s_.long, grew := false, pass := (IntKind.wrap .i64 (s_.pass + 1)) } : Sizes))
/-- (*hansom/size.Sizes).Grow -/
noncomputable def size_Sizes_Grow (s_ : Sizes) (n_ : Int) : Option (Bool × Sizes) :=
  if (decide (n_ < 0)) then
    some (false, s_)
  else
    if (decide (n_ ≥ (s_.long.length : Int))) then
      some (false, s_)
    else
      (idx s_.long n_).bind fun z_1 =>
      if z_1 then
        some (false, s_)
      else
        (idx s_.long n_).bind fun z_2 =>
        some (true, ({ long := (List.set s_.long (n_).toNat true), grew := true, pass := s_.pass } : Sizes))
/-- (*hansom/size.Sizes).Long -/
noncomputable def size_Sizes_Long (s_ : Sizes) (n_ : Int) : Option Bool :=
  if (decide (n_ ≥ 0)) then
    if (decide (n_ < (s_.long.length : Int))) then
      (idx s_.long n_).bind fun z_1 =>
      some z_1
    else
      some false
  else
    some false
noncomputable def size_Sizes_Count_l8 (s0 : Sizes) (n3 : Int) (i4 : Int) : Option (Lp (Int × Int) Int) :=
  if (decide (i4 < (s0.long.length : Int))) then
    (idx s0.long i4).bind fun z_1 =>
    if z_1 then
      some (.next ((IntKind.wrap .i64 (n3 + 1)), (IntKind.wrap .i64 (i4 + 1))))
    else
      some (.next (n3, (IntKind.wrap .i64 (i4 + 1))))
  else
    some (.out n3)
/-- (*hansom/size.Sizes).Count -/
noncomputable def size_Sizes_Count (s_ : Sizes) : Option Int :=
  (loopO (fun x : (Int × Int) => size_Sizes_Count_l8 s_ x.1 x.2) (0, 0)).bind fun e_1 =>
  some e_1
/-- (*hansom/size.Sizes).Pass -/
noncomputable def size_Sizes_Pass (s_ : Sizes) : Option Int :=
  some s_.pass
/-- hansom/hansomlaw36.awake -/
noncomputable def hansomlaw36_awake  : Option Bool :=
  (size_New 2).bind fun r_1 =>
  (size_Sizes_Next r_1).bind fun r_2 =>
  (size_Sizes_Grow r_2.2.2 1).bind fun r_3 =>
  if r_3.1 then
    (size_Sizes_Grow r_3.2 1).bind fun r_4 =>
    if (!r_4.1) then
      (size_Sizes_Long r_4.2 1).bind fun r_5 =>
      if r_5 then
        (size_Sizes_Long r_4.2 0).bind fun r_6 =>
        if (!r_6) then
          (size_Sizes_Count r_4.2).bind fun r_7 =>
          if (r_7 == 1) then
            if (!r_2.1) then
              if (r_2.2.1 == 0) then
                (size_Sizes_Pass r_4.2).bind fun r_8 =>
                some (r_8 == 1)
              else
                some false
            else
              some false
          else
            some false
        else
          some false
      else
        some false
    else
      some false
  else
    some false
noncomputable def hansomlaw36_SizePlays_l69 (b_24 : Sizes) (b_26 : (List Bool)) (l1 : (List Int)) (k5 : Int) (grew8 : Bool) (passes9 : Int) (i10 : Int) (at13 : Int) (in14 : Bool) (want15 : Bool) (j16 : Int) : Option (Lp (Bool × Int) Bool) :=
  if (decide (j16 < k5)) then
    if want15 then
      some (.next (true, (IntKind.wrap .i64 (j16 + 1))))
    else
      if (j16 == at13) then
        (idx b_26 j16).bind fun z_5 =>
        some (.next ((!z_5), (IntKind.wrap .i64 (j16 + 1))))
      else
        some (.next (false, (IntKind.wrap .i64 (j16 + 1))))
  else
    some (.out want15)
noncomputable def hansomlaw36_SizePlays_l100 (b_24 : Sizes) (b_26 : (List Bool)) (l1 : (List Int)) (k5 : Int) (grew8 : Bool) (passes9 : Int) (i10 : Int) (at13 : Int) (in14 : Bool) (many17 : Int) (j18 : Int) : Option (Lp (Int × Int) (Bool ⊕ Int)) :=
  if (decide (j18 < k5)) then
    (size_Sizes_Long b_24 j18).bind fun r_4 =>
    (idx b_26 j18).bind fun z_6 =>
    if (r_4 != z_6) then
      some (.out (.inl false))
    else
      (idx b_26 j18).bind fun z_7 =>
      if z_7 then
        some (.next ((IntKind.wrap .i64 (many17 + 1)), (IntKind.wrap .i64 (j18 + 1))))
      else
        some (.next (many17, (IntKind.wrap .i64 (j18 + 1))))
  else
    some (.out (.inr many17))
noncomputable def hansomlaw36_SizePlays_j123 (b_24 : Sizes) (b_26 : (List Bool)) (l1 : (List Int)) (k5 : Int) (grew8 : Bool) (passes9 : Int) (i10 : Int) (at13 : Int) (in14 : Bool) (many17 : Int) : Option (Lp (Sizes × (List Bool) × Bool × Int × Int) (Bool ⊕ Unit)) :=
  (size_Sizes_Count b_24).bind fun r_4 =>
  if (r_4 != many17) then
    some (.out (.inl false))
  else
    (size_Sizes_Pass b_24).bind fun r_5 =>
    if (r_5 != passes9) then
      some (.out (.inl false))
    else
      (size_Sizes_Long b_24 at13).bind fun r_6 =>
      if (r_6 != in14) then
        if (!in14) then
          some (.out (.inl false))
        else
          some (.next (b_24, b_26, grew8, passes9, (IntKind.wrap .i64 (i10 + 1))))
      else
        some (.next (b_24, b_26, grew8, passes9, (IntKind.wrap .i64 (i10 + 1))))
noncomputable def hansomlaw36_SizePlays_j99 (b_24 : Sizes) (b_26 : (List Bool)) (l1 : (List Int)) (k5 : Int) (grew8 : Bool) (passes9 : Int) (i10 : Int) (at13 : Int) (in14 : Bool) (many17 : Int) (j18 : Int) : Option (Lp (Sizes × (List Bool) × Bool × Int × Int) (Bool ⊕ Unit)) :=
  (loopO (fun x : (Int × Int) => hansomlaw36_SizePlays_l100 b_24 b_26 l1 k5 grew8 passes9 i10 at13 in14 x.1 x.2) (many17, j18)).bind fun e_2 =>
  match e_2 with
  | .inl e_3 =>
    some (.out (.inl e_3))
  | .inr e_4 =>
    hansomlaw36_SizePlays_j123 b_24 b_26 l1 k5 grew8 passes9 i10 at13 in14 e_4
noncomputable def hansomlaw36_SizePlays_j96 (b_24 : Sizes) (b_26 : (List Bool)) (l1 : (List Int)) (k5 : Int) (grew8 : Bool) (passes9 : Int) (i10 : Int) (at13 : Int) (in14 : Bool) (many17 : Int) : Option (Lp (Sizes × (List Bool) × Bool × Int × Int) (Bool ⊕ Unit)) :=
  hansomlaw36_SizePlays_j99 b_24 b_26 l1 k5 grew8 passes9 i10 at13 in14 many17 0
noncomputable def hansomlaw36_SizePlays_j94 (b_24 : Sizes) (b_26 : (List Bool)) (l1 : (List Int)) (k5 : Int) (grew8 : Bool) (passes9 : Int) (i10 : Int) (at13 : Int) (in14 : Bool) : Option (Lp (Sizes × (List Bool) × Bool × Int × Int) (Bool ⊕ Unit)) :=
  hansomlaw36_SizePlays_j96 b_24 b_26 l1 k5 grew8 passes9 i10 at13 in14 0
noncomputable def hansomlaw36_SizePlays_j88 (b_24 : Sizes) (b_26 : (List Bool)) (l1 : (List Int)) (k5 : Int) (grew8 : Bool) (passes9 : Int) (i10 : Int) (at13 : Int) (in14 : Bool) (want15 : Bool) : Option (Lp (Sizes × (List Bool) × Bool × Int × Int) (Bool ⊕ Unit)) :=
  if want15 then
    (idx b_26 at13).bind fun z_5 =>
    hansomlaw36_SizePlays_j94 b_24 (List.set b_26 (at13).toNat true) l1 k5 true passes9 i10 at13 in14
  else
    hansomlaw36_SizePlays_j94 b_24 b_26 l1 k5 grew8 passes9 i10 at13 in14
noncomputable def hansomlaw36_SizePlays_j80 (b_24 : Sizes) (b_26 : (List Bool)) (l1 : (List Int)) (k5 : Int) (grew8 : Bool) (passes9 : Int) (i10 : Int) (at13 : Int) (in14 : Bool) (want15 : Bool) : Option (Lp (Sizes × (List Bool) × Bool × Int × Int) (Bool ⊕ Unit)) :=
  (size_Sizes_Grow b_24 at13).bind fun r_3 =>
  if (r_3.1 != want15) then
    some (.out (.inl false))
  else
    hansomlaw36_SizePlays_j88 r_3.2 b_26 l1 k5 grew8 passes9 i10 at13 in14 want15
noncomputable def hansomlaw36_SizePlays_j68 (b_24 : Sizes) (b_26 : (List Bool)) (l1 : (List Int)) (k5 : Int) (grew8 : Bool) (passes9 : Int) (i10 : Int) (at13 : Int) (in14 : Bool) (want15 : Bool) (j16 : Int) : Option (Lp (Sizes × (List Bool) × Bool × Int × Int) (Bool ⊕ Unit)) :=
  (loopO (fun x : (Bool × Int) => hansomlaw36_SizePlays_l69 b_24 b_26 l1 k5 grew8 passes9 i10 at13 in14 x.1 x.2) (want15, j16)).bind fun e_1 =>
  hansomlaw36_SizePlays_j80 b_24 b_26 l1 k5 grew8 passes9 i10 at13 in14 e_1
noncomputable def hansomlaw36_SizePlays_j65 (b_24 : Sizes) (b_26 : (List Bool)) (l1 : (List Int)) (k5 : Int) (grew8 : Bool) (passes9 : Int) (i10 : Int) (at13 : Int) (in14 : Bool) (want15 : Bool) : Option (Lp (Sizes × (List Bool) × Bool × Int × Int) (Bool ⊕ Unit)) :=
  hansomlaw36_SizePlays_j68 b_24 b_26 l1 k5 grew8 passes9 i10 at13 in14 want15 0
noncomputable def hansomlaw36_SizePlays_j63 (b_24 : Sizes) (b_26 : (List Bool)) (l1 : (List Int)) (k5 : Int) (grew8 : Bool) (passes9 : Int) (i10 : Int) (at13 : Int) (in14 : Bool) : Option (Lp (Sizes × (List Bool) × Bool × Int × Int) (Bool ⊕ Unit)) :=
  hansomlaw36_SizePlays_j65 b_24 b_26 l1 k5 grew8 passes9 i10 at13 in14 false
noncomputable def hansomlaw36_SizePlays_j61 (b_24 : Sizes) (b_26 : (List Bool)) (l1 : (List Int)) (k5 : Int) (grew8 : Bool) (passes9 : Int) (i10 : Int) (at13 : Int) : Option (Lp (Sizes × (List Bool) × Bool × Int × Int) (Bool ⊕ Unit)) :=
  if (decide (at13 ≥ 0)) then
    hansomlaw36_SizePlays_j63 b_24 b_26 l1 k5 grew8 passes9 i10 at13 (decide (at13 < k5))
  else
    hansomlaw36_SizePlays_j63 b_24 b_26 l1 k5 grew8 passes9 i10 at13 false
noncomputable def hansomlaw36_SizePlays_l10 (b_24 : Sizes) (b_26 : (List Bool)) (l1 : (List Int)) (k5 : Int) (grew8 : Bool) (passes9 : Int) (i10 : Int) : Option (Lp (Sizes × (List Bool) × Bool × Int × Int) (Bool ⊕ Unit)) :=
  if (decide (i10 < (l1.length : Int))) then
    if (decide (i10 < 80)) then
      (idx l1 i10).bind fun z_2 =>
      if ((bitsOp .and .i64 z_2 3) == 3) then
        (size_Sizes_Next b_24).bind fun r_2 =>
        if (decide (passes9 ≥ 30)) then
          if (r_2.2.1 != 360) then
            some (.out (.inl false))
          else
            if r_2.1 then
              some (.out (.inl false))
            else
              some (.next (r_2.2.2, b_26, grew8, passes9, (IntKind.wrap .i64 (i10 + 1))))
        else
          if (r_2.2.1 != 0) then
            some (.out (.inl false))
          else
            if (r_2.1 != grew8) then
              some (.out (.inl false))
            else
              some (.next (r_2.2.2, b_26, false, (IntKind.wrap .i64 (passes9 + 1)), (IntKind.wrap .i64 (i10 + 1))))
      else
        (idx l1 i10).bind fun z_3 =>
        if (decide ((bitsOp .and .i64 i10 7) > 0)) then
          (idx l1 i10).bind fun z_4 =>
          hansomlaw36_SizePlays_j61 b_24 b_26 l1 k5 grew8 passes9 i10 (bitsOp .and .i64 (shrI .i64 z_4 2) 15)
        else
          hansomlaw36_SizePlays_j61 b_24 b_26 l1 k5 grew8 passes9 i10 (shrI .i64 z_3 2)
    else
      some (.out (.inr ()))
  else
    some (.out (.inr ()))
/-- hansom/hansomlaw36.SizePlays -/
noncomputable def hansomlaw36_SizePlays (n_ : Int) (l_ : (List Int)) : Option Bool :=
  (size_New (mnI (mxI (bitsOp .and .i64 n_ 15) 0) 600)).bind fun r_1 =>
  (mk 1 false (mnI (mxI (bitsOp .and .i64 n_ 15) 0) 600)).bind fun z_1 =>
  (loopO (fun x : (Sizes × (List Bool) × Bool × Int × Int) => hansomlaw36_SizePlays_l10 x.1 x.2.1 l_ (mnI (mxI (bitsOp .and .i64 n_ 15) 0) 600) x.2.2.1 x.2.2.2.1 x.2.2.2.2) (r_1, z_1, false, 0, 0)).bind fun e_1 =>
  match e_1 with
  | .inl e_2 =>
    some e_2
  | .inr e_3 =>
    (hansomlaw36_awake).bind fun r_2 =>
    some r_2
end Go.Es.Spl
