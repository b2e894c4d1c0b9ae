/- What the functions that the law MzMay reaches answer, in plain Lean. No condition. -/
import Derived.Test.YtikbjljifgadmaaEsD
set_option linter.unusedVariables false
set_option linter.unusedSimpArgs false
set_option maxRecDepth 100000
set_option maxHeartbeats 4000000
namespace Go.Es.Mzm
structure Image where
  Bytes : (List Int)
  Relocs : (List Int)
  CS : Int
  IP : Int
  SS : Int
  SP : Int
  Min : Int
  deriving DecidableEq, Inhabited
def Image.cs (x : Image) : List D := [.sl (List.map (D.int .u8) x.Bytes), .sl (List.map (D.int .i64) x.Relocs), .int .u16 x.CS, .int .u16 x.IP, .int .u16 x.SS, .int .u16 x.SP, .int .i64 x.Min]
def Image.d (x : Image) : D := .agg (Image.cs x)
def Image.wf (x : Image) : Prop := wfL (wfI .u8) x.Bytes ∧ wfL (wfI .i64) x.Relocs ∧ wfI .u16 x.CS ∧ wfI .u16 x.IP ∧ wfI .u16 x.SS ∧ wfI .u16 x.SP ∧ wfI .i64 x.Min
/-- hansom/hansomlaw44.awake -/
noncomputable def hansomlaw44_awake : Option Bool := some true
noncomputable def hansomref44_Near_l14 (x1 : Image) (y2 : Image) (at3 : Int) (i4 : Int) : Option (Lp (Image × Int × Int) Image) :=
  if (decide (i4 < (x1.Relocs.length : Int))) then
    if (decide (i4 < 6)) then
      (idx x1.Relocs i4).bind fun z_3 =>
      if (decide ((IntKind.wrap .i64 ((IntKind.wrap .i64 (at3 + (bitsOp .and .i64 z_3 63))) + 2)) > (y2.Bytes.length : Int))) then
        some (.out y2)
      else
        (grow 8 y2.Relocs ([(IntKind.wrap .i64 (at3 + (bitsOp .and .i64 z_3 63)))] : List Int)).bind fun z_4 =>
        some (.next (({ y2 with Relocs := z_4 } : Image), (IntKind.wrap .i64 ((IntKind.wrap .i64 (at3 + (bitsOp .and .i64 z_3 63))) + 2)), (IntKind.wrap .i64 (i4 + 1))))
    else
      some (.out y2)
  else
    some (.out y2)
/-- hansom/hansomref44.Near -/
noncomputable def hansomref44_Near (x_ : Image) : Option Image :=
  (cutL x_.Bytes 0 (mnI (x_.Bytes.length : Int) 600)).bind fun z_1 =>
  (grow 1 ([] : List Int) z_1).bind fun z_2 =>
  (loopO (fun x : (Image × Int × Int) => hansomref44_Near_l14 x_ x.1 x.2.1 x.2.2) (({ x_ with Bytes := z_2, Relocs := ([] : List Int) } : Image), 0, 0)).bind fun e_1 =>
  some ({ e_1 with Min := (bitsOp .and .i64 x_.Min 255) } : Image)
/-- hansom/bits.Paras -/
noncomputable def bits_Paras (n_ : Int) : Option Int :=
  if (decide (n_ < 1)) then
    some 0
  else
    some (IntKind.wrap .i64 ((IntKind.wrap .i64 (Int.tdiv (IntKind.wrap .i64 (n_ - 1)) 16)) + 1))
noncomputable def mz_May_l14 (x1 : Image) (t31 : (List Int)) (t32 : Int) (t33 : Int) : Option (Lp Int (Bool ⊕ Unit)) :=
  if (decide (t33 < t32)) then
    (idx t31 t33).bind fun z_1 =>
    if (decide (z_1 < 0)) then
      some (.out (.inl false))
    else
      if (decide (z_1 > (IntKind.wrap .i64 ((x1.Bytes.length : Int) - 2)))) then
        some (.out (.inl false))
      else
        if (decide (t33 > 0)) then
          (idx x1.Relocs (IntKind.wrap .i64 (t33 - 1))).bind fun z_2 =>
          if (decide ((IntKind.wrap .i64 (z_1 - z_2)) < 2)) then
            some (.out (.inl false))
          else
            some (.next (IntKind.wrap .i64 (t33 + 1)))
        else
          some (.next (IntKind.wrap .i64 (t33 + 1)))
  else
    some (.out (.inr ()))
/-- hansom/mz.May -/
noncomputable def mz_May (x_ : Image) : Option Bool :=
  if (decide ((x_.Bytes.length : Int) > 655360)) then
    some false
  else
    if (decide (x_.Min < 0)) then
      some false
    else
      (bits_Paras (x_.Bytes.length : Int)).bind fun r_1 =>
      if (decide (x_.Min > (IntKind.wrap .i64 (40960 - r_1)))) then
        some false
      else
        if (decide ((x_.Relocs.length : Int) > 4000)) then
          some false
        else
          (loopO (fun x : Int => mz_May_l14 x_ x_.Relocs (x_.Relocs.length : Int) x) 0).bind fun e_1 =>
          match e_1 with
          | .inl e_2 =>
            some e_2
          | .inr e_3 =>
            some true
/-- hansom/bits.Up -/
noncomputable def bits_Up (n_ : Int) (step_ : Int) : Option Int :=
  if (decide (step_ < 1)) then
    some (bitsOp .andNot .i64 (IntKind.wrap .i64 ((IntKind.wrap .i64 ((mnI (mxI n_ 0) 16777216) + 1)) - 1)) (IntKind.wrap .i64 (1 - 1)))
  else
    if (decide (step_ > 4096)) then
      some (bitsOp .andNot .i64 (IntKind.wrap .i64 ((IntKind.wrap .i64 ((mnI (mxI n_ 0) 16777216) + 1)) - 1)) (IntKind.wrap .i64 (1 - 1)))
    else
      if ((bitsOp .and .i64 step_ (IntKind.wrap .i64 (step_ - 1))) != 0) then
        some (bitsOp .andNot .i64 (IntKind.wrap .i64 ((IntKind.wrap .i64 ((mnI (mxI n_ 0) 16777216) + 1)) - 1)) (IntKind.wrap .i64 (1 - 1)))
      else
        some (bitsOp .andNot .i64 (IntKind.wrap .i64 ((IntKind.wrap .i64 ((mnI (mxI n_ 0) 16777216) + step_)) - 1)) (IntKind.wrap .i64 (step_ - 1)))
/-- hansom/mz.head -/
noncomputable def mz_head (relocs_ : Int) : Option Int :=
  (bits_Up (IntKind.wrap .i64 (28 + (IntKind.wrap .i64 (4 * relocs_)))) 16).bind fun r_1 =>
  some r_1
/-- hansom/bits.Low -/
noncomputable def bits_Low (w_ : Int) : Option Int :=
  some (IntKind.wrap .u8 w_)
/-- hansom/bits.High -/
noncomputable def bits_High (w_ : Int) : Option Int :=
  some (IntKind.wrap .u8 (shrI .u16 w_ 8))
/-- hansom/index.Two -/
noncomputable def index_Two (w_ : Int) : Option (List Int) :=
  (bits_Low w_).bind fun r_1 =>
  (bits_High w_).bind fun r_2 =>
  some ([r_1, r_2] : List Int)
/-- hansom/bits.Normal -/
noncomputable def bits_Normal (at_ : Int) : Option (Int × Int) :=
  some ((IntKind.wrap .u16 (shrI .u32 (bitsOp .and .u32 at_ 1048575) 4)), (IntKind.wrap .u16 (bitsOp .and .u32 (bitsOp .and .u32 at_ 1048575) 15)))
noncomputable def mz_Write_l22 (x1 : Image) (b_53 : (List Int)) (n4 : Int) (t54 : (List Int)) (t55 : Int) (t56 : Int) : Option (Lp ((List Int) × Int) (List Int)) :=
  if (decide (t56 < t55)) then
    (idx t54 t56).bind fun z_1 =>
    (index_Two z_1).bind fun r_3 =>
    (grow 1 b_53 r_3).bind fun z_2 =>
    some (.next (z_2, (IntKind.wrap .i64 (t56 + 1))))
  else
    some (.out b_53)
noncomputable def mz_Write_l39 (x1 : Image) (b_53 : (List Int)) (n4 : Int) (t66 : (List Int)) (t67 : Int) (t68 : Int) : Option (Lp ((List Int) × Int) (List Int)) :=
  if (decide (t68 < t67)) then
    (idx t66 t68).bind fun z_1 =>
    (bits_Normal (IntKind.wrap .u32 z_1)).bind fun r_3 =>
    (index_Two r_3.2).bind fun r_4 =>
    (grow 1 b_53 r_4).bind fun z_2 =>
    (index_Two r_3.1).bind fun r_5 =>
    (grow 1 z_2 r_5).bind fun z_3 =>
    some (.next (z_3, (IntKind.wrap .i64 (t68 + 1))))
  else
    some (.out b_53)
/-- hansom/mz.Write -/
noncomputable def mz_Write (x_ : Image) : Option ((List Int) × Int) :=
  (mz_May x_).bind fun r_1 =>
  if (!r_1) then
    some (([] : List Int), 1)
  else
    (mz_head (x_.Relocs.length : Int)).bind fun r_2 =>
    (loopO (fun x : ((List Int) × Int) => mz_Write_l22 x_ x.1 r_2 ([(IntKind.wrap .u16 (Int.tmod (IntKind.wrap .i64 (r_2 + (x_.Bytes.length : Int))) 512)), (IntKind.wrap .u16 (IntKind.wrap .i64 (Int.tdiv (IntKind.wrap .i64 ((IntKind.wrap .i64 ((IntKind.wrap .i64 (r_2 + (x_.Bytes.length : Int))) + 512)) - 1)) 512))), (IntKind.wrap .u16 (x_.Relocs.length : Int)), (IntKind.wrap .u16 (IntKind.wrap .i64 (Int.tdiv r_2 16))), (IntKind.wrap .u16 x_.Min), 65535, x_.SS, x_.SP, 0, x_.IP, x_.CS, 28, 0] : List Int) (([(IntKind.wrap .u16 (Int.tmod (IntKind.wrap .i64 (r_2 + (x_.Bytes.length : Int))) 512)), (IntKind.wrap .u16 (IntKind.wrap .i64 (Int.tdiv (IntKind.wrap .i64 ((IntKind.wrap .i64 ((IntKind.wrap .i64 (r_2 + (x_.Bytes.length : Int))) + 512)) - 1)) 512))), (IntKind.wrap .u16 (x_.Relocs.length : Int)), (IntKind.wrap .u16 (IntKind.wrap .i64 (Int.tdiv r_2 16))), (IntKind.wrap .u16 x_.Min), 65535, x_.SS, x_.SP, 0, x_.IP, x_.CS, 28, 0] : List Int).length : Int) x.2) (([77, 90] : List Int), 0)).bind fun e_1 =>
    (loopO (fun x : ((List Int) × Int) => mz_Write_l39 x_ x.1 r_2 x_.Relocs (x_.Relocs.length : Int) x.2) (e_1, 0)).bind fun e_2 =>
    (growZ 1 0 e_2 (IntKind.wrap .i64 (r_2 - (e_2.length : Int)))).bind fun z_1 =>
    (grow 1 z_1 x_.Bytes).bind fun z_2 =>
    some (z_2, 0)
noncomputable def hansomlaw44_MzMay_j57 (y7 : Image) (want9 : Int) : Option Bool :=
  (mz_Write y7).bind fun r_2 =>
  (hansomlaw44_awake).bind fun r_3 =>
  if r_3 then
    if (r_2.2 == want9) then
      (mz_May y7).bind fun r_4 =>
      if (r_4 == (want9 == 0)) then
        some ((decide ((r_2.1.length : Int) > 0)) == (want9 == 0))
      else
        some false
    else
      some false
  else
    some false
/-- hansom/hansomlaw44.MzMay -/
noncomputable def hansomlaw44_MzMay (x_ : Image) (kind_ : Int) (n_ : Int) : Option Bool :=
  (hansomref44_Near x_).bind fun r_1 =>
  (grow 1 r_1.Bytes ([1, 2, 3, 4] : List Int)).bind fun z_1 =>
  if ((Int.tmod (bitsOp .and .i64 kind_ 15) 7) == 0) then
    (idx ([(IntKind.wrap .i64 ((z_1.length : Int) - 4)), (IntKind.wrap .i64 ((z_1.length : Int) - 2))] : List Int) 1).bind fun z_2 =>
    hansomlaw44_MzMay_j57 ({ r_1 with Bytes := z_1, Relocs := (List.set ([(IntKind.wrap .i64 ((z_1.length : Int) - 4)), (IntKind.wrap .i64 ((z_1.length : Int) - 2))] : List Int) ((1 : Int)).toNat (IntKind.wrap .i64 ((z_1.length : Int) - 1))) } : Image) 1
  else
    if ((Int.tmod (bitsOp .and .i64 kind_ 15) 7) == 1) then
      (idx ([(IntKind.wrap .i64 ((z_1.length : Int) - 4)), (IntKind.wrap .i64 ((z_1.length : Int) - 2))] : List Int) 1).bind fun z_3 =>
      hansomlaw44_MzMay_j57 ({ r_1 with Bytes := z_1, Relocs := (List.set ([(IntKind.wrap .i64 ((z_1.length : Int) - 4)), (IntKind.wrap .i64 ((z_1.length : Int) - 2))] : List Int) ((1 : Int)).toNat (IntKind.wrap .i64 ((z_1.length : Int) - 3))) } : Image) 1
    else
      if ((Int.tmod (bitsOp .and .i64 kind_ 15) 7) == 2) then
        (idx ([(IntKind.wrap .i64 ((z_1.length : Int) - 4)), (IntKind.wrap .i64 ((z_1.length : Int) - 2))] : List Int) 0).bind fun z_4 =>
        hansomlaw44_MzMay_j57 ({ r_1 with Bytes := z_1, Relocs := (List.set ([(IntKind.wrap .i64 ((z_1.length : Int) - 4)), (IntKind.wrap .i64 ((z_1.length : Int) - 2))] : List Int) ((0 : Int)).toNat (IntKind.wrap .i64 ((-1) - (bitsOp .and .i64 n_ 255)))) } : Image) 1
      else
        if ((Int.tmod (bitsOp .and .i64 kind_ 15) 7) == 3) then
          (idx ([(IntKind.wrap .i64 ((z_1.length : Int) - 4)), (IntKind.wrap .i64 ((z_1.length : Int) - 2))] : List Int) 0).bind fun z_5 =>
          (idx (List.set ([(IntKind.wrap .i64 ((z_1.length : Int) - 4)), (IntKind.wrap .i64 ((z_1.length : Int) - 2))] : List Int) ((0 : Int)).toNat (IntKind.wrap .i64 ((z_1.length : Int) - 2))) 1).bind fun z_6 =>
          hansomlaw44_MzMay_j57 ({ r_1 with Bytes := z_1, Relocs := (List.set (List.set ([(IntKind.wrap .i64 ((z_1.length : Int) - 4)), (IntKind.wrap .i64 ((z_1.length : Int) - 2))] : List Int) ((0 : Int)).toNat (IntKind.wrap .i64 ((z_1.length : Int) - 2))) ((1 : Int)).toNat (IntKind.wrap .i64 ((z_1.length : Int) - 4))) } : Image) 1
        else
          if ((Int.tmod (bitsOp .and .i64 kind_ 15) 7) == 4) then
            hansomlaw44_MzMay_j57 ({ r_1 with Bytes := z_1, Relocs := ([(IntKind.wrap .i64 ((z_1.length : Int) - 4)), (IntKind.wrap .i64 ((z_1.length : Int) - 2))] : List Int), Min := (IntKind.wrap .i64 ((-1) - (bitsOp .and .i64 n_ 255))) } : Image) 1
          else
            if ((Int.tmod (bitsOp .and .i64 kind_ 15) 7) == 5) then
              if ((bitsOp .and .i64 n_ 1) == 1) then
                hansomlaw44_MzMay_j57 ({ r_1 with Bytes := z_1, Relocs := ([(IntKind.wrap .i64 ((z_1.length : Int) - 4)), (IntKind.wrap .i64 ((z_1.length : Int) - 2))] : List Int), Min := (IntKind.wrap .i64 ((IntKind.wrap .i64 (40960 - (IntKind.wrap .i64 (Int.tdiv (IntKind.wrap .i64 ((z_1.length : Int) + 15)) 16)))) + (bitsOp .and .i64 n_ 1))) } : Image) 1
              else
                hansomlaw44_MzMay_j57 ({ r_1 with Bytes := z_1, Relocs := ([(IntKind.wrap .i64 ((z_1.length : Int) - 4)), (IntKind.wrap .i64 ((z_1.length : Int) - 2))] : List Int), Min := (IntKind.wrap .i64 ((IntKind.wrap .i64 (40960 - (IntKind.wrap .i64 (Int.tdiv (IntKind.wrap .i64 ((z_1.length : Int) + 15)) 16)))) + (bitsOp .and .i64 n_ 1))) } : Image) 0
            else
              hansomlaw44_MzMay_j57 ({ r_1 with Bytes := z_1, Relocs := ([(IntKind.wrap .i64 ((z_1.length : Int) - 4)), (IntKind.wrap .i64 ((z_1.length : Int) - 2))] : List Int) } : Image) 0
end Go.Es.Mzm
