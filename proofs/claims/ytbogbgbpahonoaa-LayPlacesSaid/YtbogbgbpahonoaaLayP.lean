/- What the functions that the law LayPlaces, LayMost reaches answer, in plain Lean. No condition. -/
import Derived.Test.YtbogbgbpahonoaaEsD
set_option linter.unusedVariables false
set_option linter.unusedSimpArgs false
set_option maxRecDepth 100000
set_option maxHeartbeats 4000000
namespace Go.Es.Lay
structure Chunk where
  Mod : Int
  Seg : Int
  Off : Int
  Len : Int
  deriving DecidableEq, Inhabited
def Chunk.cs (x : Chunk) : List D := [.int .i64 x.Mod, .int .i64 x.Seg, .int .i64 x.Off, .int .i64 x.Len]
def Chunk.d (x : Chunk) : D := .agg (Chunk.cs x)
structure Comb where
  Name : (List UInt8)
  Class : (List UInt8)
  Align : Int
  Combine : Int
  Frame : Int
  Offset : Int
  Len : Int
  Chunks : (List Chunk)
  deriving DecidableEq, Inhabited
def Comb.cs (x : Comb) : List D := [.str x.Name, .str x.Class, .int .i64 x.Align, .int .i64 x.Combine, .int .u16 x.Frame, .int .u8 x.Offset, .int .i64 x.Len, .sl (List.map Chunk.d x.Chunks)]
def Comb.d (x : Comb) : D := .agg (Comb.cs x)
structure Group where
  Name : (List UInt8)
  Combs : (List Int)
  Para : Int
  deriving DecidableEq, Inhabited
def Group.cs (x : Group) : List D := [.str x.Name, .sl (List.map (D.int .i64) x.Combs), .int .i64 x.Para]
def Group.d (x : Group) : D := .agg (Group.cs x)
structure api_Layout where
  Starts : (List Int)
  Fixed : (List Bool)
  Groups : (List Group)
  Size : Int
  deriving DecidableEq, Inhabited
def api_Layout.cs (x : api_Layout) : List D := [.sl (List.map (D.int .i64) x.Starts), .sl (List.map D.bool x.Fixed), .sl (List.map Group.d x.Groups), .int .i64 x.Size]
def api_Layout.d (x : api_Layout) : D := .agg (api_Layout.cs x)
def Chunk.wf (x : Chunk) : Prop := wfI .i64 x.Mod ∧ wfI .i64 x.Seg ∧ wfI .i64 x.Off ∧ wfI .i64 x.Len
def Comb.wf (x : Comb) : Prop := wfS x.Name ∧ wfS x.Class ∧ wfI .i64 x.Align ∧ wfI .i64 x.Combine ∧ wfI .u16 x.Frame ∧ wfI .u8 x.Offset ∧ wfI .i64 x.Len ∧ wfL Chunk.wf x.Chunks
def Group.wf (x : Group) : Prop := wfS x.Name ∧ wfL (wfI .i64) x.Combs ∧ wfI .i64 x.Para
def api_Layout.wf (x : api_Layout) : Prop := wfL (wfI .i64) x.Starts ∧ wfL (fun _ => True) x.Fixed ∧ wfL Group.wf x.Groups ∧ wfI .i64 x.Size
noncomputable def hansomlaw41_near_j25 (b_6 : (List Comb)) (c5_0 : (List UInt8)) (c5_1 : (List UInt8)) (c5_2 : Int) (c5_3 : Int) (c5_4 : Int) (c5_5 : Int) (c5_6 : Int) (l0 : (List Comb)) (i4 : Int) : Option (Lp ((List Comb) × Int) (List Comb)) :=
  if (c5_2 == 0) then
    (idx l0 i4).bind fun z_9 =>
    (idx l0 i4).bind fun z_10 =>
    (grow 88 b_6 ([({ Name := c5_0, Class := c5_1, Align := c5_2, Combine := c5_3, Frame := z_9.Frame, Offset := z_10.Offset, Len := c5_6, Chunks := ([] : List Chunk) } : Comb)] : List Comb)).bind fun z_11 =>
    some (.next (z_11, (IntKind.wrap .i64 (i4 + 1))))
  else
    (grow 88 b_6 ([({ Name := c5_0, Class := c5_1, Align := c5_2, Combine := c5_3, Frame := c5_4, Offset := c5_5, Len := c5_6, Chunks := ([] : List Chunk) } : Comb)] : List Comb)).bind fun z_12 =>
    some (.next (z_12, (IntKind.wrap .i64 (i4 + 1))))
noncomputable def hansomlaw41_near_l8 (b_6 : (List Comb)) (l0 : (List Comb)) (i4 : Int) : Option (Lp ((List Comb) × Int) (List Comb)) :=
  if (decide (i4 < (l0.length : Int))) then
    if (decide (i4 < 8)) then
      (idx l0 i4).bind fun z_1 =>
      (idx ([([65] : List UInt8), ([66] : List UInt8), ([67] : List UInt8)] : List (List UInt8)) (Int.tmod (bitsOp .and .i64 (shrI .i64 z_1.Align 3) 255) 3)).bind fun z_2 =>
      (idx l0 i4).bind fun z_3 =>
      (idx l0 i4).bind fun z_4 =>
      (idx ([0, 2, 5, 6] : List Int) (bitsOp .and .i64 z_4.Combine 3)).bind fun z_5 =>
      (idx l0 i4).bind fun z_6 =>
      (idx l0 i4).bind fun z_7 =>
      if ((bitsOp .and .i64 (shrI .i64 z_7.Len 12) 7) == 0) then
        (idx l0 i4).bind fun z_8 =>
        hansomlaw41_near_j25 b_6 [] z_2 (Int.tmod (bitsOp .and .i64 z_3.Align 7) 5) z_5 0 0 (Int.tmod (bitsOp .and .i64 z_8.Len 131071) 65537) l0 i4
      else
        hansomlaw41_near_j25 b_6 [] z_2 (Int.tmod (bitsOp .and .i64 z_3.Align 7) 5) z_5 0 0 (bitsOp .and .i64 z_6.Len 4095) l0 i4
    else
      some (.out b_6)
  else
    some (.out b_6)
/-- hansom/hansomlaw41.near -/
noncomputable def hansomlaw41_near (l_ : (List Comb)) : Option (List Comb) :=
  (loopO (fun x : ((List Comb) × Int) => hansomlaw41_near_l8 x.1 l_ x.2) (([] : List Comb), 0)).bind fun e_1 =>
  some e_1
noncomputable def slices_Index_Lint_l6 (s0 : (List Int)) (v1 : Int) (t7 : Int) (t8 : Int) : Option (Lp Int (Int ⊕ Unit)) :=
  if (decide (t8 < t7)) then
    (idx s0 t8).bind fun z_1 =>
    if (v1 == z_1) then
      some (.out (.inl t8))
    else
      some (.next (IntKind.wrap .i64 (t8 + 1)))
  else
    some (.out (.inr ()))
/-- slices.Index[[]int,int] -/
noncomputable def slices_Index_Lint (s_ : (List Int)) (v_ : Int) : Option Int :=
  (loopO (fun x : Int => slices_Index_Lint_l6 s_ v_ (s_.length : Int) x) 0).bind fun e_1 =>
  match e_1 with
  | .inl e_2 =>
    some e_2
  | .inr e_3 =>
    some (-1)
/-- slices.Contains[[]int,int] -/
noncomputable def slices_Contains_Lint (s_ : (List Int)) (v_ : Int) : Option Bool :=
  (slices_Index_Lint s_ v_).bind fun r_1 =>
  some (decide (r_1 ≥ 0))
noncomputable def lay_Order_l22 (out3 : (List Int)) (l0 : (List Comb)) (i4 : Int) (t7 : Int) (t8 : Int) (t12 : Int) (t13 : Int) : Option (Lp ((List Int) × Int) (List Int)) :=
  if (decide (t13 < t12)) then
    (idx l0 t13).bind fun z_1 =>
    (idx l0 i4).bind fun z_2 =>
    if (z_1.Class == z_2.Class) then
      (slices_Contains_Lint out3 t13).bind fun r_1 =>
      if (!r_1) then
        (grow 8 out3 ([t13] : List Int)).bind fun z_3 =>
        some (.next (z_3, (IntKind.wrap .i64 (t13 + 1))))
      else
        some (.next (out3, (IntKind.wrap .i64 (t13 + 1))))
    else
      some (.next (out3, (IntKind.wrap .i64 (t13 + 1))))
  else
    some (.out out3)
noncomputable def lay_Order_l8 (out3 : (List Int)) (l0 : (List Comb)) (t7 : Int) (t8 : Int) : Option (Lp ((List Int) × Int) (List Int)) :=
  if (decide (t8 < t7)) then
    (loopO (fun x : ((List Int) × Int) => lay_Order_l22 x.1 l0 t8 t7 t8 (l0.length : Int) x.2) (out3, 0)).bind fun e_1 =>
    some (.next (e_1, (IntKind.wrap .i64 (t8 + 1))))
  else
    some (.out out3)
/-- hansom/lay.Order -/
noncomputable def lay_Order (l_ : (List Comb)) : Option (List Int) :=
  (loopO (fun x : ((List Int) × Int) => lay_Order_l8 x.1 l_ (l_.length : Int) x.2) (([] : List Int), 0)).bind fun e_1 =>
  some e_1
/-- hansom/segs.Step -/
noncomputable def segs_Step (align_ : Int) : Option Int :=
  if (align_ == 2) then
    some 2
  else
    if (align_ == 3) then
      some 16
    else
      if (align_ == 4) then
        some 256
      else
        some 1
/-- hansom/bits.Up -/
noncomputable def bits_Up (n_ : Int) (step_ : Int) : Option Int :=
  if (decide (step_ < 1)) then
    some (bitsOp .andNot .i64 (IntKind.wrap .i64 ((IntKind.wrap .i64 ((mnI (mxI n_ 0) 16777216) + 1)) - 1)) (IntKind.wrap .i64 (1 - 1)))
  else
    if (decide (step_ > 4096)) then
      some (bitsOp .andNot .i64 (IntKind.wrap .i64 ((IntKind.wrap .i64 ((mnI (mxI n_ 0) 16777216) + 1)) - 1)) (IntKind.wrap .i64 (1 - 1)))
    else
      if ((bitsOp .and .i64 step_ (IntKind.wrap .i64 (step_ - 1))) != 0) then
        some (bitsOp .andNot .i64 (IntKind.wrap .i64 ((IntKind.wrap .i64 ((mnI (mxI n_ 0) 16777216) + 1)) - 1)) (IntKind.wrap .i64 (1 - 1)))
      else
        some (bitsOp .andNot .i64 (IntKind.wrap .i64 ((IntKind.wrap .i64 ((mnI (mxI n_ 0) 16777216) + step_)) - 1)) (IntKind.wrap .i64 (step_ - 1)))
noncomputable def lay_Place_l8 (b_10 : (List Int)) (b_13 : (List Bool)) (b_2_3 : Int) (x4_3 : Int) (l0 : (List Comb)) (t16 : (List Int)) (t17 : Int) (t18 : Int) : Option (Lp ((List Int) × (List Bool) × Int × Int) ((api_Layout × Int) ⊕ ((List Int) × (List Bool) × Int))) :=
  if (decide (t18 < t17)) then
    (idx t16 t18).bind fun z_3 =>
    (idx l0 z_3).bind fun z_4 =>
    if (z_4.Align == 0) then
      (idx b_10 z_3).bind fun z_5 =>
      (idx b_13 z_3).bind fun z_6 =>
      some (.next ((List.set b_10 (z_3).toNat (IntKind.wrap .i64 ((shlI .i64 (IntKind.wrap .i64 z_4.Frame) 4) + (IntKind.wrap .i64 z_4.Offset)))), (List.set b_13 (z_3).toNat true), x4_3, (IntKind.wrap .i64 (t18 + 1))))
    else
      (segs_Step z_4.Align).bind fun r_2 =>
      (bits_Up x4_3 r_2).bind fun r_3 =>
      (idx b_10 z_3).bind fun z_7 =>
      (idx (List.set b_10 (z_3).toNat r_3) z_3).bind fun z_8 =>
      if (decide ((IntKind.wrap .i64 (z_8 + z_4.Len)) > 655360)) then
        some (.out (.inl (({ Starts := ([] : List Int), Fixed := ([] : List Bool), Groups := ([] : List Group), Size := 0 } : api_Layout), 8)))
      else
        some (.next ((List.set b_10 (z_3).toNat r_3), b_13, (IntKind.wrap .i64 (z_8 + z_4.Len)), (IntKind.wrap .i64 (t18 + 1))))
  else
    some (.out (.inr (b_10, b_13, x4_3)))
/-- hansom/lay.Place -/
noncomputable def lay_Place (l_ : (List Comb)) : Option (api_Layout × Int) :=
  (mk 8 0 (l_.length : Int)).bind fun z_1 =>
  (mk 1 false (l_.length : Int)).bind fun z_2 =>
  (lay_Order l_).bind fun r_1 =>
  (loopO (fun x : ((List Int) × (List Bool) × Int × Int) => lay_Place_l8 x.1 x.2.1 0 x.2.2.1 l_ r_1 (r_1.length : Int) x.2.2.2) (z_1, z_2, 0, 0)).bind fun e_1 =>
  match e_1 with
  | .inl e_2 =>
    some e_2
  | .inr e_3 =>
    some (({ Starts := e_3.1, Fixed := e_3.2.1, Groups := ([] : List Group), Size := e_3.2.2 } : api_Layout), 0)
noncomputable def hansomref01_Up_l8 (n0 : Int) (step1 : Int) (power5 : Bool) (p6 : Int) : Option (Lp (Bool × Int) Bool) :=
  if (decide (p6 ≤ 4096)) then
    if power5 then
      some (.next (true, (IntKind.wrap .i64 (p6 * 2))))
    else
      some (.next ((step1 == p6), (IntKind.wrap .i64 (p6 * 2))))
  else
    some (.out power5)
noncomputable def hansomref01_Up_j25 (n0 : Int) (step1 : Int) : Option Int :=
  if (decide (n0 < 0)) then
    (quoI .i64 (IntKind.wrap .i64 ((IntKind.wrap .i64 (0 + step1)) - 1)) step1).bind fun z_1 =>
    some (IntKind.wrap .i64 (z_1 * step1))
  else
    if (decide (n0 > 16777216)) then
      (quoI .i64 (IntKind.wrap .i64 ((IntKind.wrap .i64 (16777216 + step1)) - 1)) step1).bind fun z_2 =>
      some (IntKind.wrap .i64 (z_2 * step1))
    else
      (quoI .i64 (IntKind.wrap .i64 ((IntKind.wrap .i64 (n0 + step1)) - 1)) step1).bind fun z_3 =>
      some (IntKind.wrap .i64 (z_3 * step1))
/-- hansom/hansomref01.Up -/
noncomputable def hansomref01_Up (n_ : Int) (step_ : Int) : Option Int :=
  (loopO (fun x : (Bool × Int) => hansomref01_Up_l8 n_ step_ x.1 x.2) (false, 1)).bind fun e_1 =>
  if (!e_1) then
    hansomref01_Up_j25 n_ 1
  else
    hansomref01_Up_j25 n_ step_
/-- hansom/lay.Para -/
noncomputable def lay_Para (x_ : api_Layout) (i_ : Int) : Option Int :=
  if (decide (i_ < 0)) then
    some 0
  else
    if (decide (i_ ≥ (x_.Starts.length : Int))) then
      some 0
    else
      (idx x_.Starts i_).bind fun z_1 =>
      some (shrI .i64 z_1 4)
/-- hansom/lay.Stack$1 -/
noncomputable def lay_Stack_1 (c_ : Comb) : Option Bool :=
  if (c_.Combine == 5) then
    some (decide (c_.Len > 0))
  else
    some false
noncomputable def slices_IndexFunc_LComb_lay_Stack_1_l6 (s0 : (List Comb)) (t7 : Int) (t8 : Int) : Option (Lp Int (Int ⊕ Unit)) :=
  if (decide (t8 < t7)) then
    (idx s0 t8).bind fun z_1 =>
    (lay_Stack_1 z_1).bind fun r_1 =>
    if r_1 then
      some (.out (.inl t8))
    else
      some (.next (IntKind.wrap .i64 (t8 + 1)))
  else
    some (.out (.inr ()))
/-- slices.IndexFunc[[]hansom/api.Comb,hansom/api.Comb] -/
noncomputable def slices_IndexFunc_LComb_lay_Stack_1 (s_ : (List Comb)) : Option Int :=
  (loopO (fun x : Int => slices_IndexFunc_LComb_lay_Stack_1_l6 s_ (s_.length : Int) x) 0).bind fun e_1 =>
  match e_1 with
  | .inl e_2 =>
    some e_2
  | .inr e_3 =>
    some (-1)
/-- hansom/lay.Stack -/
noncomputable def lay_Stack (l_ : (List Comb)) : Option Int :=
  (slices_IndexFunc_LComb_lay_Stack_1 l_).bind fun r_1 =>
  some r_1
/-- hansom/hansomlaw41.awake -/
noncomputable def hansomlaw41_awake  : Option Bool :=
  (lay_Place ([({ Name := [], Class := [], Align := 3, Combine := 0, Frame := 0, Offset := 0, Len := 20, Chunks := ([] : List Chunk) } : Comb), ({ Name := [], Class := [], Align := 3, Combine := 0, Frame := 0, Offset := 0, Len := 20, Chunks := ([] : List Chunk) } : Comb)] : List Comb)).bind fun r_1 =>
  if (r_1.2 == 0) then
    if ((r_1.1.Starts.length : Int) == 2) then
      (idx r_1.1.Starts 1).bind fun z_1 =>
      if (z_1 == 32) then
        if (r_1.1.Size == 52) then
          (lay_Para r_1.1 1).bind fun r_2 =>
          if (r_2 == 2) then
            (lay_Stack ([({ Name := [], Class := [], Align := 0, Combine := 5, Frame := 0, Offset := 0, Len := 1, Chunks := ([] : List Chunk) } : Comb)] : List Comb)).bind fun r_3 =>
            some (r_3 == 0)
          else
            some false
        else
          some false
      else
        some false
    else
      some false
  else
    some false
noncomputable def hansomlaw41_LayPlaces_l24 (x5 : api_Layout) (seen7 : (A8 Bool)) (first10 : (A3 Int)) (c3 : (List Comb)) (o4 : (List Int)) (at8 : Int) (stack9 : Int) (i11 : Int) : Option (Lp ((A3 Int) × Int × Int) ((A3 Int) × Int)) :=
  if (decide (i11 ≥ 0)) then
    (idx c3 i11).bind fun z_1 =>
    (idx z_1.Class 0).bind fun z_2 =>
    (idx first10.l (Int.tmod (IntKind.wrap .i64 (IntKind.wrap .u8 ((z_2.toNat : Int) - 65))) 3)).bind fun z_3 =>
    (idx c3 i11).bind fun z_4 =>
    if (z_4.Combine == 5) then
      (idx c3 i11).bind fun z_5 =>
      if (decide (z_5.Len > 0)) then
        some (.next ((A3.set first10 (Int.tmod (IntKind.wrap .i64 (IntKind.wrap .u8 ((z_2.toNat : Int) - 65))) 3) i11), i11, (IntKind.wrap .i64 (i11 - 1))))
      else
        some (.next ((A3.set first10 (Int.tmod (IntKind.wrap .i64 (IntKind.wrap .u8 ((z_2.toNat : Int) - 65))) 3) i11), stack9, (IntKind.wrap .i64 (i11 - 1))))
    else
      some (.next ((A3.set first10 (Int.tmod (IntKind.wrap .i64 (IntKind.wrap .u8 ((z_2.toNat : Int) - 65))) 3) i11), stack9, (IntKind.wrap .i64 (i11 - 1))))
  else
    some (.out (first10, stack9))
noncomputable def hansomlaw41_LayPlaces_j82 (x5 : api_Layout) (seen7 : (A8 Bool)) (first10 : (A3 Int)) (c3 : (List Comb)) (o4 : (List Int)) (at8 : Int) (stack9 : Int) (k12 : Int) (i13 : Int) : Option (Lp ((A8 Bool) × Int × Int) (Bool ⊕ Int)) :=
  (idx c3 i13).bind fun z_11 =>
  if (z_11.Align == 0) then
    (idx x5.Fixed i13).bind fun z_12 =>
    if (!z_12) then
      some (.out (.inl false))
    else
      (idx x5.Starts i13).bind fun z_13 =>
      (idx c3 i13).bind fun z_14 =>
      (idx c3 i13).bind fun z_15 =>
      if (z_13 != (IntKind.wrap .i64 ((IntKind.wrap .i64 ((IntKind.wrap .i64 z_14.Frame) * 16)) + (IntKind.wrap .i64 z_15.Offset)))) then
        some (.out (.inl false))
      else
        some (.next (seen7, at8, (IntKind.wrap .i64 (k12 + 1))))
  else
    (idx c3 i13).bind fun z_16 =>
    (idx ([1, 1, 2, 16, 256] : List Int) z_16.Align).bind fun z_17 =>
    (hansomref01_Up at8 z_17).bind fun r_4 =>
    (idx x5.Fixed i13).bind fun z_18 =>
    if z_18 then
      some (.out (.inl false))
    else
      (idx x5.Starts i13).bind fun z_19 =>
      if (z_19 != r_4) then
        some (.out (.inl false))
      else
        (lay_Para x5 i13).bind fun r_5 =>
        if (r_5 != (IntKind.wrap .i64 (Int.tdiv r_4 16))) then
          some (.out (.inl false))
        else
          (idx c3 i13).bind fun z_20 =>
          some (.next (seen7, (IntKind.wrap .i64 (r_4 + z_20.Len)), (IntKind.wrap .i64 (k12 + 1))))
noncomputable def hansomlaw41_LayPlaces_l45 (x5 : api_Layout) (seen7 : (A8 Bool)) (first10 : (A3 Int)) (c3 : (List Comb)) (o4 : (List Int)) (at8 : Int) (stack9 : Int) (k12 : Int) : Option (Lp ((A8 Bool) × Int × Int) (Bool ⊕ Int)) :=
  if (decide (k12 < (o4.length : Int))) then
    (idx o4 k12).bind fun z_1 =>
    if (decide (z_1 < 0)) then
      some (.out (.inl false))
    else
      if (decide (z_1 ≥ (c3.length : Int))) then
        some (.out (.inl false))
      else
        (idx seen7.l (bitsOp .and .i64 z_1 7)).bind fun z_2 =>
        if z_2 then
          some (.out (.inl false))
        else
          (idx seen7.l (bitsOp .and .i64 z_1 7)).bind fun z_3 =>
          if (decide (k12 > 0)) then
            (idx o4 (IntKind.wrap .i64 (k12 - 1))).bind fun z_4 =>
            (idx c3 z_4).bind fun z_5 =>
            (idx z_5.Class 0).bind fun z_6 =>
            (idx first10.l (Int.tmod (IntKind.wrap .i64 (IntKind.wrap .u8 ((z_6.toNat : Int) - 65))) 3)).bind fun z_7 =>
            (idx c3 z_1).bind fun z_8 =>
            (idx z_8.Class 0).bind fun z_9 =>
            (idx first10.l (Int.tmod (IntKind.wrap .i64 (IntKind.wrap .u8 ((z_9.toNat : Int) - 65))) 3)).bind fun z_10 =>
            if (decide (z_7 > z_10)) then
              some (.out (.inl false))
            else
              if (z_7 == z_10) then
                if (decide (z_4 ≥ z_1)) then
                  some (.out (.inl false))
                else
                  hansomlaw41_LayPlaces_j82 x5 (A8.set seen7 (bitsOp .and .i64 z_1 7) true) first10 c3 o4 at8 stack9 k12 z_1
              else
                hansomlaw41_LayPlaces_j82 x5 (A8.set seen7 (bitsOp .and .i64 z_1 7) true) first10 c3 o4 at8 stack9 k12 z_1
          else
            hansomlaw41_LayPlaces_j82 x5 (A8.set seen7 (bitsOp .and .i64 z_1 7) true) first10 c3 o4 at8 stack9 k12 z_1
  else
    some (.out (.inr at8))
/-- hansom/hansomlaw41.LayPlaces -/
noncomputable def hansomlaw41_LayPlaces (l_ : (List Comb)) : Option Bool :=
  (hansomlaw41_near l_).bind fun r_1 =>
  (lay_Order r_1).bind fun r_2 =>
  (lay_Place r_1).bind fun r_3 =>
  if ((r_2.length : Int) != (r_1.length : Int)) then
    some false
  else
    if (r_3.2 != 0) then
      some false
    else
      if ((r_3.1.Starts.length : Int) != (r_1.length : Int)) then
        some false
      else
        if ((r_3.1.Fixed.length : Int) != (r_1.length : Int)) then
          some false
        else
          (loopO (fun x : ((A3 Int) × Int × Int) => hansomlaw41_LayPlaces_l24 r_3.1 ({ a0 := false, a1 := false, a2 := false, a3 := false, a4 := false, a5 := false, a6 := false, a7 := false } : (A8 Bool)) x.1 r_1 r_2 0 x.2.1 x.2.2) (({ a0 := 9, a1 := 9, a2 := 9 } : (A3 Int)), (-1), (IntKind.wrap .i64 ((r_1.length : Int) - 1)))).bind fun e_1 =>
          (loopO (fun x : ((A8 Bool) × Int × Int) => hansomlaw41_LayPlaces_l45 r_3.1 x.1 e_1.1 r_1 r_2 x.2.1 e_1.2 x.2.2) (({ a0 := false, a1 := false, a2 := false, a3 := false, a4 := false, a5 := false, a6 := false, a7 := false } : (A8 Bool)), 0, 0)).bind fun e_2 =>
          match e_2 with
          | .inl e_3 =>
            some e_3
          | .inr e_4 =>
            (hansomlaw41_awake).bind fun r_4 =>
            if r_4 then
              if (r_3.1.Size == e_4) then
                (lay_Stack r_1).bind fun r_5 =>
                if (r_5 == e_1.2) then
                  (lay_Para r_3.1 (-1)).bind fun r_6 =>
                  if (r_6 == 0) then
                    (lay_Para r_3.1 (r_1.length : Int)).bind fun r_7 =>
                    some (r_7 == 0)
                  else
                    some false
                else
                  some false
              else
                some false
            else
              some false
noncomputable def hansomlaw41_LayMost_l10 (b_13 : (List Comb)) (n0 : Int) (k3 : Int) (i5 : Int) : Option (Lp ((List Comb) × Int) (List Comb)) :=
  if (decide (i5 < k3)) then
    (grow 88 b_13 ([({ Name := [], Class := [], Align := 3, Combine := 0, Frame := 0, Offset := 0, Len := 65536, Chunks := ([] : List Chunk) } : Comb)] : List Comb)).bind fun z_1 =>
    some (.next (z_1, (IntKind.wrap .i64 (i5 + 1))))
  else
    some (.out b_13)
/-- hansom/hansomlaw41.LayMost -/
noncomputable def hansomlaw41_LayMost (n_ : Int) : Option Bool :=
  (loopO (fun x : ((List Comb) × Int) => hansomlaw41_LayMost_l10 x.1 n_ (IntKind.wrap .i64 (8 + (bitsOp .and .i64 n_ 3))) x.2) (([] : List Comb), 0)).bind fun e_1 =>
  (grow 88 e_1 ([({ Name := [], Class := [], Align := 1, Combine := 0, Frame := 0, Offset := 0, Len := (bitsOp .and .i64 (shrI .i64 n_ 2) 65535), Chunks := ([] : List Chunk) } : Comb)] : List Comb)).bind fun z_1 =>
  (lay_Place z_1).bind fun r_1 =>
  (hansomlaw41_awake).bind fun r_2 =>
  if r_2 then
    if ((r_1.2 == 0) == (decide ((IntKind.wrap .i64 ((IntKind.wrap .i64 ((IntKind.wrap .i64 (8 + (bitsOp .and .i64 n_ 3))) * 65536)) + (bitsOp .and .i64 (shrI .i64 n_ 2) 65535))) ≤ 655360))) then
      if (r_1.2 == 0) then
        if (r_1.1.Size == (IntKind.wrap .i64 ((IntKind.wrap .i64 ((IntKind.wrap .i64 (8 + (bitsOp .and .i64 n_ 3))) * 65536)) + (bitsOp .and .i64 (shrI .i64 n_ 2) 65535)))) then
          some true
        else
          if (r_1.2 == 8) then
            some ((r_1.1.Starts.length : Int) == 0)
          else
            some false
      else
        if (r_1.2 == 8) then
          some ((r_1.1.Starts.length : Int) == 0)
        else
          some false
    else
      some false
  else
    some false
end Go.Es.Lay
