/- What the functions that the law MzAny reaches answer, in plain Lean. No condition. -/
import Derived.Test.YtikbjljifgadmaaEsD
set_option linter.unusedVariables false
set_option linter.unusedSimpArgs false
set_option maxRecDepth 100000
set_option maxHeartbeats 4000000
namespace Go.Es.Mza
structure Image where
  Bytes : (List Int)
  Relocs : (List Int)
  CS : Int
  IP : Int
  SS : Int
  SP : Int
  Min : Int
  deriving DecidableEq, Inhabited
def Image.cs (x : Image) : List D := [.sl (List.map (D.int .u8) x.Bytes), .sl (List.map (D.int .i64) x.Relocs), .int .u16 x.CS, .int .u16 x.IP, .int .u16 x.SS, .int .u16 x.SP, .int .i64 x.Min]
def Image.d (x : Image) : D := .agg (Image.cs x)
structure Header where
  last : Int
  pages : Int
  relocs : Int
  paras : Int
  min : Int
  ss : Int
  sp : Int
  ip : Int
  cs_ : Int
  table : Int
  deriving DecidableEq, Inhabited
def Header.cs (x : Header) : List D := [.int .u16 x.last, .int .u16 x.pages, .int .u16 x.relocs, .int .u16 x.paras, .int .u16 x.min, .int .u16 x.ss, .int .u16 x.sp, .int .u16 x.ip, .int .u16 x.cs_, .int .u16 x.table]
def Header.d (x : Header) : D := .agg (Header.cs x)
structure Source where
  b : (List Int)
  e : Int
  deriving DecidableEq, Inhabited
def Source.cs (x : Source) : List D := [.sl (List.map (D.int .u8) x.b), .int .i64 x.e]
def Source.d (x : Source) : D := .agg (Source.cs x)
def Image.wf (x : Image) : Prop := wfL (wfI .u8) x.Bytes ∧ wfL (wfI .i64) x.Relocs ∧ wfI .u16 x.CS ∧ wfI .u16 x.IP ∧ wfI .u16 x.SS ∧ wfI .u16 x.SP ∧ wfI .i64 x.Min
def Header.wf (x : Header) : Prop := wfI .u16 x.last ∧ wfI .u16 x.pages ∧ wfI .u16 x.relocs ∧ wfI .u16 x.paras ∧ wfI .u16 x.min ∧ wfI .u16 x.ss ∧ wfI .u16 x.sp ∧ wfI .u16 x.ip ∧ wfI .u16 x.cs_ ∧ wfI .u16 x.table
def Source.wf (x : Source) : Prop := wfL (wfI .u8) x.b ∧ wfI .i64 x.e
/-- hansom/hansomlaw44.awake -/
noncomputable def hansomlaw44_awake : Option Bool := some true
noncomputable def hansomref44_Near_l14 (x1 : Image) (y2 : Image) (at3 : Int) (i4 : Int) : Option (Lp (Image × Int × Int) Image) :=
  if (decide (i4 < (x1.Relocs.length : Int))) then
    if (decide (i4 < 6)) then
      (idx x1.Relocs i4).bind fun z_3 =>
      if (decide ((IntKind.wrap .i64 ((IntKind.wrap .i64 (at3 + (bitsOp .and .i64 z_3 63))) + 2)) > (y2.Bytes.length : Int))) then
        some (.out y2)
      else
        (grow 8 y2.Relocs ([(IntKind.wrap .i64 (at3 + (bitsOp .and .i64 z_3 63)))] : List Int)).bind fun z_4 =>
        some (.next (({ y2 with Relocs := z_4 } : Image), (IntKind.wrap .i64 ((IntKind.wrap .i64 (at3 + (bitsOp .and .i64 z_3 63))) + 2)), (IntKind.wrap .i64 (i4 + 1))))
    else
      some (.out y2)
  else
    some (.out y2)
/-- hansom/hansomref44.Near -/
noncomputable def hansomref44_Near (x_ : Image) : Option Image :=
  (cutL x_.Bytes 0 (mnI (x_.Bytes.length : Int) 600)).bind fun z_1 =>
  (grow 1 ([] : List Int) z_1).bind fun z_2 =>
  (loopO (fun x : (Image × Int × Int) => hansomref44_Near_l14 x_ x.1 x.2.1 x.2.2) (({ x_ with Bytes := z_2, Relocs := ([] : List Int) } : Image), 0, 0)).bind fun e_1 =>
  some ({ e_1 with Min := (bitsOp .and .i64 x_.Min 255) } : Image)
noncomputable def hansomref18_Bytes_l8 (n0 : Int) (many1 : Int) (s5 : (List UInt8)) (i6 : Int) : Option (Lp (Int × (List UInt8) × Int) (List UInt8)) :=
  if (decide (i6 < many1)) then
    (catS s5 (b2s ([(IntKind.wrap .u8 (Int.tmod n0 256))] : List Int))).bind fun z_1 =>
    some (.next ((IntKind.wrap .u64 (Int.tdiv n0 256)), z_1, (IntKind.wrap .i64 (i6 + 1))))
  else
    some (.out s5)
/-- hansom/hansomref18.Bytes -/
noncomputable def hansomref18_Bytes (n_ : Int) (many_ : Int) : Option (List UInt8) :=
  (loopO (fun x : (Int × (List UInt8) × Int) => hansomref18_Bytes_l8 x.1 many_ x.2.1 x.2.2) (n_, ([] : List UInt8), 0)).bind fun e_1 =>
  some e_1
noncomputable def hansomref44_Write_l14 (x1 : Image) (head3 : Int) (s5 : (List UInt8)) (l6 : (List Int)) (i7 : Int) : Option (Lp ((List UInt8) × Int) (List UInt8)) :=
  if (decide (i7 < (l6.length : Int))) then
    (idx l6 i7).bind fun z_1 =>
    (hansomref18_Bytes (IntKind.wrap .u64 z_1) 2).bind fun r_1 =>
    (catS s5 r_1).bind fun z_2 =>
    some (.next (z_2, (IntKind.wrap .i64 (i7 + 1))))
  else
    some (.out s5)
noncomputable def hansomref44_Write_l29 (x1 : Image) (head3 : Int) (s5 : (List UInt8)) (i8 : Int) : Option (Lp ((List UInt8) × Int) (List UInt8)) :=
  if (decide (i8 < (x1.Relocs.length : Int))) then
    (idx x1.Relocs i8).bind fun z_1 =>
    (hansomref18_Bytes (IntKind.wrap .u64 (Int.tmod z_1 16)) 2).bind fun r_1 =>
    (idx x1.Relocs i8).bind fun z_2 =>
    (hansomref18_Bytes (IntKind.wrap .u64 (IntKind.wrap .i64 (Int.tdiv z_2 16))) 2).bind fun r_2 =>
    (catS r_1 r_2).bind fun z_3 =>
    (catS s5 z_3).bind fun z_4 =>
    some (.next (z_4, (IntKind.wrap .i64 (i8 + 1))))
  else
    some (.out s5)
noncomputable def hansomref44_Write_l42 (x1 : Image) (head3 : Int) (s5 : (List UInt8)) : Option (Lp (List UInt8) (List UInt8)) :=
  if (decide ((s5.length : Int) < head3)) then
    (catS s5 ([0] : List UInt8)).bind fun z_1 =>
    some (.next z_1)
  else
    some (.out s5)
/-- hansom/hansomref44.Write -/
noncomputable def hansomref44_Write (x_ : Image) : Option (List UInt8) :=
  (loopO (fun x : ((List UInt8) × Int) => hansomref44_Write_l14 x_ (IntKind.wrap .i64 ((IntKind.wrap .i64 (Int.tdiv (IntKind.wrap .i64 ((IntKind.wrap .i64 (28 + (IntKind.wrap .i64 (4 * (x_.Relocs.length : Int))))) + 15)) 16)) * 16)) x.1 ([(Int.tmod (IntKind.wrap .i64 ((IntKind.wrap .i64 ((IntKind.wrap .i64 (Int.tdiv (IntKind.wrap .i64 ((IntKind.wrap .i64 (28 + (IntKind.wrap .i64 (4 * (x_.Relocs.length : Int))))) + 15)) 16)) * 16)) + (x_.Bytes.length : Int))) 512), (IntKind.wrap .i64 (Int.tdiv (IntKind.wrap .i64 ((IntKind.wrap .i64 ((IntKind.wrap .i64 ((IntKind.wrap .i64 (Int.tdiv (IntKind.wrap .i64 ((IntKind.wrap .i64 (28 + (IntKind.wrap .i64 (4 * (x_.Relocs.length : Int))))) + 15)) 16)) * 16)) + (x_.Bytes.length : Int))) + 511)) 512)), (x_.Relocs.length : Int), (IntKind.wrap .i64 (Int.tdiv (IntKind.wrap .i64 ((IntKind.wrap .i64 (Int.tdiv (IntKind.wrap .i64 ((IntKind.wrap .i64 (28 + (IntKind.wrap .i64 (4 * (x_.Relocs.length : Int))))) + 15)) 16)) * 16)) 16)), x_.Min, 65535, (IntKind.wrap .i64 x_.SS), (IntKind.wrap .i64 x_.SP), 0, (IntKind.wrap .i64 x_.IP), (IntKind.wrap .i64 x_.CS), 28, 0] : List Int) x.2) (([77, 90] : List UInt8), 0)).bind fun e_1 =>
  (loopO (fun x : ((List UInt8) × Int) => hansomref44_Write_l29 x_ (IntKind.wrap .i64 ((IntKind.wrap .i64 (Int.tdiv (IntKind.wrap .i64 ((IntKind.wrap .i64 (28 + (IntKind.wrap .i64 (4 * (x_.Relocs.length : Int))))) + 15)) 16)) * 16)) x.1 x.2) (e_1, 0)).bind fun e_2 =>
  (loopO (fun x : (List UInt8) => hansomref44_Write_l42 x_ (IntKind.wrap .i64 ((IntKind.wrap .i64 (Int.tdiv (IntKind.wrap .i64 ((IntKind.wrap .i64 (28 + (IntKind.wrap .i64 (4 * (x_.Relocs.length : Int))))) + 15)) 16)) * 16)) x) e_2).bind fun e_3 =>
  (catS e_3 (b2s x_.Bytes)).bind fun z_1 =>
  some z_1
/-- hansom/index.From -/
noncomputable def index_From (b_ : (List Int)) : Option Source :=
  (grow 1 [] b_).bind fun z_1 =>
  some ({ b := z_1, e := 0 } : Source)
/-- (*hansom/index.Source).Wrong -/
noncomputable def index_Source_Wrong (s_ : Source) (e_ : Int) : Option Source :=
  if (s_.e == 0) then
    if (e_ != 0) then
      some ({ b := ([] : List Int), e := e_ } : Source)
    else
      some s_
  else
    some s_
/-- (*hansom/index.Source).Take -/
noncomputable def index_Source_Take (s_ : Source) (n_ : Int) : Option ((List Int) × Source) :=
  if (decide (n_ < 0)) then
    (index_Source_Wrong s_ 2).bind fun r_1 =>
    some (([] : List Int), r_1)
  else
    if (decide (n_ > (s_.b.length : Int))) then
      (index_Source_Wrong s_ 2).bind fun r_2 =>
      some (([] : List Int), r_2)
    else
      (cut3 s_.b 0 n_ n_).bind fun z_1 =>
      (cutL s_.b n_ (s_.b.length : Int)).bind fun z_2 =>
      some (z_1, ({ b := z_2, e := s_.e } : Source))
/-- hansom/bits.Word -/
noncomputable def bits_Word (low_ : Int) (high_ : Int) : Option Int :=
  some (bitsOp .or .u16 (IntKind.wrap .u16 low_) (shlI .u16 (IntKind.wrap .u16 high_) 8))
/-- (*hansom/index.Source).Word -/
noncomputable def index_Source_Word (s_ : Source) : Option (Int × Source) :=
  (index_Source_Take s_ 2).bind fun r_1 =>
  if ((r_1.1.length : Int) == 2) then
    (idx r_1.1 0).bind fun z_1 =>
    (idx r_1.1 1).bind fun z_2 =>
    (bits_Word z_1 z_2).bind fun r_2 =>
    some (r_2, r_1.2)
  else
    some (0, r_1.2)
/-- hansom/mz.first -/
noncomputable def mz_first (b_ : (List Int)) : Option (Header × Int) :=
  if (decide ((b_.length : Int) < 28)) then
    some (({ last := 0, pages := 0, relocs := 0, paras := 0, min := 0, ss := 0, sp := 0, ip := 0, cs_ := 0, table := 0 } : Header), 2)
  else
    (idx b_ 0).bind fun z_1 =>
    if (z_1 != 77) then
      some (({ last := 0, pages := 0, relocs := 0, paras := 0, min := 0, ss := 0, sp := 0, ip := 0, cs_ := 0, table := 0 } : Header), 440)
    else
      (idx b_ 1).bind fun z_2 =>
      if (z_2 != 90) then
        some (({ last := 0, pages := 0, relocs := 0, paras := 0, min := 0, ss := 0, sp := 0, ip := 0, cs_ := 0, table := 0 } : Header), 440)
      else
        (cutL b_ 2 28).bind fun z_3 =>
        (index_From z_3).bind fun r_1 =>
        (index_Source_Word r_1).bind fun r_2 =>
        (index_Source_Word r_2.2).bind fun r_3 =>
        (index_Source_Word r_3.2).bind fun r_4 =>
        (index_Source_Word r_4.2).bind fun r_5 =>
        (index_Source_Word r_5.2).bind fun r_6 =>
        (index_Source_Word r_6.2).bind fun r_7 =>
        (index_Source_Word r_7.2).bind fun r_8 =>
        (index_Source_Word r_8.2).bind fun r_9 =>
        (index_Source_Word r_9.2).bind fun r_10 =>
        (index_Source_Word r_10.2).bind fun r_11 =>
        (index_Source_Word r_11.2).bind fun r_12 =>
        (index_Source_Word r_12.2).bind fun r_13 =>
        some (({ last := r_2.1, pages := r_3.1, relocs := r_4.1, paras := r_5.1, min := r_6.1, ss := r_8.1, sp := r_9.1, ip := r_11.1, cs_ := r_12.1, table := r_13.1 } : Header), 0)
/-- hansom/mz.size -/
noncomputable def mz_size (h_ : Header) : Option (Int × Bool) :=
  if (decide (h_.last > 0)) then
    if (decide (h_.last < 512)) then
      some ((IntKind.wrap .i64 ((IntKind.wrap .i64 ((IntKind.wrap .i64 h_.pages) * 512)) + (IntKind.wrap .i64 ((IntKind.wrap .i64 h_.last) - 512)))), (decide ((IntKind.wrap .i64 ((IntKind.wrap .i64 ((IntKind.wrap .i64 h_.pages) * 512)) + (IntKind.wrap .i64 ((IntKind.wrap .i64 h_.last) - 512)))) ≥ (IntKind.wrap .i64 ((IntKind.wrap .i64 h_.paras) * 16)))))
    else
      some ((IntKind.wrap .i64 ((IntKind.wrap .i64 ((IntKind.wrap .i64 h_.pages) * 512)) + (IntKind.wrap .i64 ((IntKind.wrap .i64 h_.last) - 512)))), false)
  else
    if (decide (h_.last < 512)) then
      some ((IntKind.wrap .i64 ((IntKind.wrap .i64 h_.pages) * 512)), (decide ((IntKind.wrap .i64 ((IntKind.wrap .i64 h_.pages) * 512)) ≥ (IntKind.wrap .i64 ((IntKind.wrap .i64 h_.paras) * 16)))))
    else
      some ((IntKind.wrap .i64 ((IntKind.wrap .i64 h_.pages) * 512)), false)
/-- hansom/bits.Linear -/
noncomputable def bits_Linear (seg_ : Int) (off_ : Int) : Option Int :=
  some (bitsOp .and .u32 (IntKind.wrap .u32 ((shlI .u32 (IntKind.wrap .u32 seg_) 4) + (IntKind.wrap .u32 off_))) 1048575)
noncomputable def math_bits_Len64_j18 (x0 : Int) (n2 : Int) : Option Int :=
  if (decide (x0 ≥ 256)) then
    (idx ([0, 1, 2, 2, 3, 3, 3, 3, 4, 4, 4, 4, 4, 4, 4, 4, 5, 5, 5, 5, 5, 5, 5, 5, 5, 5, 5, 5, 5, 5, 5, 5, 6, 6, 6, 6, 6, 6, 6, 6, 6, 6, 6, 6, 6, 6, 6, 6, 6, 6, 6, 6, 6, 6, 6, 6, 6, 6, 6, 6, 6, 6, 6, 6, 7, 7, 7, 7, 7, 7, 7, 7, 7, 7, 7, 7, 7, 7, 7, 7, 7, 7, 7, 7, 7, 7, 7, 7, 7, 7, 7, 7, 7, 7, 7, 7, 7, 7, 7, 7, 7, 7, 7, 7, 7, 7, 7, 7, 7, 7, 7, 7, 7, 7, 7, 7, 7, 7, 7, 7, 7, 7, 7, 7, 7, 7, 7, 7, 8, 8, 8, 8, 8, 8, 8, 8, 8, 8, 8, 8, 8, 8, 8, 8, 8, 8, 8, 8, 8, 8, 8, 8, 8, 8, 8, 8, 8, 8, 8, 8, 8, 8, 8, 8, 8, 8, 8, 8, 8, 8, 8, 8, 8, 8, 8, 8, 8, 8, 8, 8, 8, 8, 8, 8, 8, 8, 8, 8, 8, 8, 8, 8, 8, 8, 8, 8, 8, 8, 8, 8, 8, 8, 8, 8, 8, 8, 8, 8, 8, 8, 8, 8, 8, 8, 8, 8, 8, 8, 8, 8, 8, 8, 8, 8, 8, 8, 8, 8, 8, 8, 8, 8, 8, 8, 8, 8, 8, 8, 8, 8, 8, 8, 8, 8, 8, 8, 8, 8, 8, 8, 8, 8, 8, 8, 8, 8] : List UInt8) (IntKind.wrap .u8 (shrI .u64 x0 8))).bind fun z_1 =>
    some (IntKind.wrap .i64 ((IntKind.wrap .i64 (n2 + 8)) + (IntKind.wrap .i64 (z_1.toNat : Int))))
  else
    (idx ([0, 1, 2, 2, 3, 3, 3, 3, 4, 4, 4, 4, 4, 4, 4, 4, 5, 5, 5, 5, 5, 5, 5, 5, 5, 5, 5, 5, 5, 5, 5, 5, 6, 6, 6, 6, 6, 6, 6, 6, 6, 6, 6, 6, 6, 6, 6, 6, 6, 6, 6, 6, 6, 6, 6, 6, 6, 6, 6, 6, 6, 6, 6, 6, 7, 7, 7, 7, 7, 7, 7, 7, 7, 7, 7, 7, 7, 7, 7, 7, 7, 7, 7, 7, 7, 7, 7, 7, 7, 7, 7, 7, 7, 7, 7, 7, 7, 7, 7, 7, 7, 7, 7, 7, 7, 7, 7, 7, 7, 7, 7, 7, 7, 7, 7, 7, 7, 7, 7, 7, 7, 7, 7, 7, 7, 7, 7, 7, 8, 8, 8, 8, 8, 8, 8, 8, 8, 8, 8, 8, 8, 8, 8, 8, 8, 8, 8, 8, 8, 8, 8, 8, 8, 8, 8, 8, 8, 8, 8, 8, 8, 8, 8, 8, 8, 8, 8, 8, 8, 8, 8, 8, 8, 8, 8, 8, 8, 8, 8, 8, 8, 8, 8, 8, 8, 8, 8, 8, 8, 8, 8, 8, 8, 8, 8, 8, 8, 8, 8, 8, 8, 8, 8, 8, 8, 8, 8, 8, 8, 8, 8, 8, 8, 8, 8, 8, 8, 8, 8, 8, 8, 8, 8, 8, 8, 8, 8, 8, 8, 8, 8, 8, 8, 8, 8, 8, 8, 8, 8, 8, 8, 8, 8, 8, 8, 8, 8, 8, 8, 8, 8, 8, 8, 8, 8, 8] : List UInt8) (IntKind.wrap .u8 x0)).bind fun z_2 =>
    some (IntKind.wrap .i64 (n2 + (IntKind.wrap .i64 (z_2.toNat : Int))))
noncomputable def math_bits_Len64_j10 (x0 : Int) (n2 : Int) : Option Int :=
  if (decide (x0 ≥ 65536)) then
    math_bits_Len64_j18 (shrI .u64 x0 16) (IntKind.wrap .i64 (n2 + 16))
  else
    math_bits_Len64_j18 x0 n2
/-- math/bits.Len64 -/
noncomputable def math_bits_Len64 (x_ : Int) : Option Int :=
  if (decide (x_ ≥ 4294967296)) then
    math_bits_Len64_j10 (shrI .u64 x_ 32) 32
  else
    math_bits_Len64_j10 x_ 0
/-- math/bits.Len -/
noncomputable def math_bits_Len (x_ : Int) : Option Int :=
  (math_bits_Len64 x_).bind fun r_1 =>
  some r_1
/-- cmp.isNaN[int] -/
noncomputable def cmp_isNaN_int (x_ : Int) : Option Bool :=
  some (x_ != x_)
/-- cmp.Less[int] -/
noncomputable def cmp_Less_int (x_ : Int) (y_ : Int) : Option Bool :=
  (cmp_isNaN_int x_).bind fun r_1 =>
  if r_1 then
    (cmp_isNaN_int y_).bind fun r_2 =>
    if (!r_2) then
      some true
    else
      some (decide (x_ < y_))
  else
    some (decide (x_ < y_))
noncomputable def slices_insertionSortOrdered_int_l15 (data_ : (List Int)) (w_data_ : (List Int)) (a1 : Int) (b2 : Int) (i6 : Int) (j7 : Int) : Option (Lp ((List Int) × Int) (List Int)) :=
  if (decide (j7 > a1)) then
    (idx w_data_ j7).bind fun z_1 =>
    (idx w_data_ (IntKind.wrap .i64 (j7 - 1))).bind fun z_2 =>
    (cmp_Less_int z_1 z_2).bind fun r_1 =>
    if r_1 then
      (idx w_data_ (IntKind.wrap .i64 (j7 - 1))).bind fun z_3 =>
      (idx w_data_ j7).bind fun z_4 =>
      (idx w_data_ j7).bind fun z_5 =>
      (idx (List.set w_data_ (j7).toNat z_3) (IntKind.wrap .i64 (j7 - 1))).bind fun z_6 =>
      some (.next ((List.set (List.set w_data_ (j7).toNat z_3) ((IntKind.wrap .i64 (j7 - 1))).toNat z_4), (IntKind.wrap .i64 (j7 - 1))))
    else
      some (.out w_data_)
  else
    some (.out w_data_)
noncomputable def slices_insertionSortOrdered_int_l3 (data_ : (List Int)) (w_data_ : (List Int)) (a1 : Int) (b2 : Int) (i6 : Int) : Option (Lp ((List Int) × Int) (List Int)) :=
  if (decide (i6 < b2)) then
    (loopO (fun x : ((List Int) × Int) => slices_insertionSortOrdered_int_l15 data_ x.1 a1 b2 i6 x.2) (w_data_, i6)).bind fun e_1 =>
    some (.next (e_1, (IntKind.wrap .i64 (i6 + 1))))
  else
    some (.out w_data_)
/-- slices.insertionSortOrdered[int] -/
noncomputable def slices_insertionSortOrdered_int (data_ : (List Int)) (a_ : Int) (b_ : Int) : Option (List Int) :=
  (loopO (fun x : ((List Int) × Int) => slices_insertionSortOrdered_int_l3 data_ x.1 a_ b_ x.2) (data_, (IntKind.wrap .i64 (a_ + 1)))).bind fun e_1 =>
  if e_1.length = data_.length then
    some e_1
  else none
noncomputable def slices_siftDownOrdered_int_j19 (data_ : (List Int)) (w_data_ : (List Int)) (hi2 : Int) (first3 : Int) (root8 : Int) (child9 : Int) : Option (Lp ((List Int) × Int) ((List Int) ⊕ (List Int))) :=
  (idx w_data_ (IntKind.wrap .i64 (first3 + root8))).bind fun z_3 =>
  (idx w_data_ (IntKind.wrap .i64 (first3 + child9))).bind fun z_4 =>
  (cmp_Less_int z_3 z_4).bind fun r_2 =>
  if (!r_2) then
    if w_data_.length = data_.length then
      some (.out (.inr w_data_))
    else none
  else
    (idx w_data_ (IntKind.wrap .i64 (first3 + child9))).bind fun z_5 =>
    (idx w_data_ (IntKind.wrap .i64 (first3 + root8))).bind fun z_6 =>
    (idx w_data_ (IntKind.wrap .i64 (first3 + root8))).bind fun z_7 =>
    (idx (List.set w_data_ ((IntKind.wrap .i64 (first3 + root8))).toNat z_5) (IntKind.wrap .i64 (first3 + child9))).bind fun z_8 =>
    some (.next ((List.set (List.set w_data_ ((IntKind.wrap .i64 (first3 + root8))).toNat z_5) ((IntKind.wrap .i64 (first3 + child9))).toNat z_6), child9))
noncomputable def slices_siftDownOrdered_int_l3 (data_ : (List Int)) (w_data_ : (List Int)) (hi2 : Int) (first3 : Int) (root8 : Int) : Option (Lp ((List Int) × Int) ((List Int) ⊕ (List Int))) :=
  if (decide ((IntKind.wrap .i64 ((IntKind.wrap .i64 (2 * root8)) + 1)) ≥ hi2)) then
    some (.out (.inl w_data_))
  else
    if (decide ((IntKind.wrap .i64 ((IntKind.wrap .i64 ((IntKind.wrap .i64 (2 * root8)) + 1)) + 1)) < hi2)) then
      (idx w_data_ (IntKind.wrap .i64 (first3 + (IntKind.wrap .i64 ((IntKind.wrap .i64 (2 * root8)) + 1))))).bind fun z_1 =>
      (idx w_data_ (IntKind.wrap .i64 ((IntKind.wrap .i64 (first3 + (IntKind.wrap .i64 ((IntKind.wrap .i64 (2 * root8)) + 1)))) + 1))).bind fun z_2 =>
      (cmp_Less_int z_1 z_2).bind fun r_1 =>
      if r_1 then
        slices_siftDownOrdered_int_j19 data_ w_data_ hi2 first3 root8 (IntKind.wrap .i64 ((IntKind.wrap .i64 ((IntKind.wrap .i64 (2 * root8)) + 1)) + 1))
      else
        slices_siftDownOrdered_int_j19 data_ w_data_ hi2 first3 root8 (IntKind.wrap .i64 ((IntKind.wrap .i64 (2 * root8)) + 1))
    else
      slices_siftDownOrdered_int_j19 data_ w_data_ hi2 first3 root8 (IntKind.wrap .i64 ((IntKind.wrap .i64 (2 * root8)) + 1))
/-- slices.siftDownOrdered[int] -/
noncomputable def slices_siftDownOrdered_int (data_ : (List Int)) (lo_ : Int) (hi_ : Int) (first_ : Int) : Option (List Int) :=
  (loopO (fun x : ((List Int) × Int) => slices_siftDownOrdered_int_l3 data_ x.1 hi_ first_ x.2) (data_, lo_)).bind fun e_1 =>
  match e_1 with
  | .inl e_2 =>
    if e_2.length = data_.length then
      some e_2
    else none
  | .inr e_3 =>
    some e_3
noncomputable def slices_heapSortOrdered_int_l10 (data_ : (List Int)) (w_data_ : (List Int)) (first6 : Int) (lo7 : Int) (hi8 : Int) (i9 : Int) : Option (Lp ((List Int) × Int) (List Int)) :=
  if (decide (i9 ≥ 0)) then
    (slices_siftDownOrdered_int w_data_ i9 hi8 first6).bind fun r_1 =>
    some (.next (r_1, (IntKind.wrap .i64 (i9 - 1))))
  else
    some (.out w_data_)
noncomputable def slices_heapSortOrdered_int_l24 (data_ : (List Int)) (w_data_ : (List Int)) (first6 : Int) (lo7 : Int) (i10 : Int) : Option (Lp ((List Int) × Int) (List Int)) :=
  if (decide (i10 ≥ 0)) then
    (idx w_data_ (IntKind.wrap .i64 (first6 + i10))).bind fun z_1 =>
    (idx w_data_ first6).bind fun z_2 =>
    (idx w_data_ first6).bind fun z_3 =>
    (idx (List.set w_data_ (first6).toNat z_1) (IntKind.wrap .i64 (first6 + i10))).bind fun z_4 =>
    (slices_siftDownOrdered_int (List.set (List.set w_data_ (first6).toNat z_1) ((IntKind.wrap .i64 (first6 + i10))).toNat z_2) lo7 i10 first6).bind fun r_1 =>
    some (.next (r_1, (IntKind.wrap .i64 (i10 - 1))))
  else
    some (.out w_data_)
/-- slices.heapSortOrdered[int] -/
noncomputable def slices_heapSortOrdered_int (data_ : (List Int)) (a_ : Int) (b_ : Int) : Option (List Int) :=
  (loopO (fun x : ((List Int) × Int) => slices_heapSortOrdered_int_l10 data_ x.1 a_ 0 (IntKind.wrap .i64 (b_ - a_)) x.2) (data_, (IntKind.wrap .i64 (Int.tdiv (IntKind.wrap .i64 ((IntKind.wrap .i64 (b_ - a_)) - 1)) 2)))).bind fun e_1 =>
  (loopO (fun x : ((List Int) × Int) => slices_heapSortOrdered_int_l24 data_ x.1 a_ 0 x.2) (e_1, (IntKind.wrap .i64 ((IntKind.wrap .i64 (b_ - a_)) - 1)))).bind fun e_2 =>
  if e_2.length = data_.length then
    some e_2
  else none
/-- slices.nextPowerOfTwo -/
noncomputable def slices_nextPowerOfTwo (length_ : Int) : Option Int :=
  (math_bits_Len (IntKind.wrap .u64 length_)).bind fun r_1 =>
  (shlO .u64 1 r_1).bind fun z_1 =>
  some z_1
/-- (*slices.xorshift).Next -/
noncomputable def slices_xorshift_Next (r_ : Int) : Option (Int × Int) :=
  some ((bitsOp .xor .u64 (bitsOp .xor .u64 (bitsOp .xor .u64 r_ (shlI .u64 r_ 13)) (shrI .u64 (bitsOp .xor .u64 r_ (shlI .u64 r_ 13)) 7)) (shlI .u64 (bitsOp .xor .u64 (bitsOp .xor .u64 r_ (shlI .u64 r_ 13)) (shrI .u64 (bitsOp .xor .u64 r_ (shlI .u64 r_ 13)) 7)) 17)), (bitsOp .xor .u64 (bitsOp .xor .u64 (bitsOp .xor .u64 r_ (shlI .u64 r_ 13)) (shrI .u64 (bitsOp .xor .u64 r_ (shlI .u64 r_ 13)) 7)) (shlI .u64 (bitsOp .xor .u64 (bitsOp .xor .u64 r_ (shlI .u64 r_ 13)) (shrI .u64 (bitsOp .xor .u64 r_ (shlI .u64 r_ 13)) 7)) 17)))
noncomputable def slices_breakPatternsOrdered_int_j29 (random7 : Int) (data_ : (List Int)) (w_data_ : (List Int)) (a1 : Int) (length6 : Int) (modulus8 : Int) (idx9 : Int) (other10 : Int) : Option (Lp (Int × (List Int) × Int) (List Int)) :=
  (idx w_data_ (IntKind.wrap .i64 (a1 + other10))).bind fun z_1 =>
  (idx w_data_ idx9).bind fun z_2 =>
  (idx w_data_ idx9).bind fun z_3 =>
  (idx (List.set w_data_ (idx9).toNat z_1) (IntKind.wrap .i64 (a1 + other10))).bind fun z_4 =>
  some (.next (random7, (List.set (List.set w_data_ (idx9).toNat z_1) ((IntKind.wrap .i64 (a1 + other10))).toNat z_2), (IntKind.wrap .i64 (idx9 + 1))))
noncomputable def slices_breakPatternsOrdered_int_l12 (random7 : Int) (data_ : (List Int)) (w_data_ : (List Int)) (a1 : Int) (length6 : Int) (modulus8 : Int) (idx9 : Int) : Option (Lp (Int × (List Int) × Int) (List Int)) :=
  if (decide (idx9 ≤ (IntKind.wrap .i64 ((IntKind.wrap .i64 (a1 + (IntKind.wrap .i64 ((IntKind.wrap .i64 (Int.tdiv length6 4)) * 2)))) + 1)))) then
    (slices_xorshift_Next random7).bind fun r_2 =>
    if (decide ((IntKind.wrap .i64 (bitsOp .and .u64 r_2.1 (IntKind.wrap .u64 (modulus8 - 1)))) ≥ length6)) then
      slices_breakPatternsOrdered_int_j29 r_2.2 data_ w_data_ a1 length6 modulus8 idx9 (IntKind.wrap .i64 ((IntKind.wrap .i64 (bitsOp .and .u64 r_2.1 (IntKind.wrap .u64 (modulus8 - 1)))) - length6))
    else
      slices_breakPatternsOrdered_int_j29 r_2.2 data_ w_data_ a1 length6 modulus8 idx9 (IntKind.wrap .i64 (bitsOp .and .u64 r_2.1 (IntKind.wrap .u64 (modulus8 - 1))))
  else
    some (.out w_data_)
/-- slices.breakPatternsOrdered[int] -/
noncomputable def slices_breakPatternsOrdered_int (data_ : (List Int)) (a_ : Int) (b_ : Int) : Option (List Int) :=
  if (decide ((IntKind.wrap .i64 (b_ - a_)) ≥ 8)) then
    (slices_nextPowerOfTwo (IntKind.wrap .i64 (b_ - a_))).bind fun r_1 =>
    (loopO (fun x : (Int × (List Int) × Int) => slices_breakPatternsOrdered_int_l12 x.1 data_ x.2.1 a_ (IntKind.wrap .i64 (b_ - a_)) r_1 x.2.2) ((IntKind.wrap .u64 (IntKind.wrap .i64 (b_ - a_))), data_, (IntKind.wrap .i64 ((IntKind.wrap .i64 (a_ + (IntKind.wrap .i64 ((IntKind.wrap .i64 (Int.tdiv (IntKind.wrap .i64 (b_ - a_)) 4)) * 2)))) - 1)))).bind fun e_1 =>
    if e_1.length = data_.length then
      some e_1
    else none
  else
    some data_
/-- slices.order2Ordered[int] -/
noncomputable def slices_order2Ordered_int (data_ : (List Int)) (a_ : Int) (b_ : Int) (swaps_ : Int) : Option (Int × Int × Int) :=
  (idx data_ b_).bind fun z_1 =>
  (idx data_ a_).bind fun z_2 =>
  (cmp_Less_int z_1 z_2).bind fun r_1 =>
  if r_1 then
    some (b_, a_, (IntKind.wrap .i64 (swaps_ + 1)))
  else
    some (a_, b_, swaps_)
/-- slices.medianOrdered[int] -/
noncomputable def slices_medianOrdered_int (data_ : (List Int)) (a_ : Int) (b_ : Int) (c_ : Int) (swaps_ : Int) : Option (Int × Int) :=
  (slices_order2Ordered_int data_ a_ b_ swaps_).bind fun r_1 =>
  (slices_order2Ordered_int data_ r_1.2.1 c_ r_1.2.2).bind fun r_2 =>
  (slices_order2Ordered_int data_ r_1.1 r_2.1 r_2.2.2).bind fun r_3 =>
  some (r_3.2.1, r_3.2.2)
/-- slices.medianAdjacentOrdered[int] -/
noncomputable def slices_medianAdjacentOrdered_int (data_ : (List Int)) (a_ : Int) (swaps_ : Int) : Option (Int × Int) :=
  (slices_medianOrdered_int data_ (IntKind.wrap .i64 (a_ - 1)) a_ (IntKind.wrap .i64 (a_ + 1)) swaps_).bind fun r_1 =>
  some (r_1.1, r_1.2)
noncomputable def slices_choosePivotOrdered_int_j28 (swaps9 : Int) (data_ : (List Int)) (j11 : Int) : Option (Int × Int) :=
  if (swaps9 == 0) then
    some (j11, 1)
  else
    if (swaps9 == 12) then
      some (j11, 2)
    else
      some (j11, 0)
/-- slices.choosePivotOrdered[int] -/
noncomputable def slices_choosePivotOrdered_int (data_ : (List Int)) (a_ : Int) (b_ : Int) : Option (Int × Int) :=
  if (decide ((IntKind.wrap .i64 (b_ - a_)) ≥ 8)) then
    if (decide ((IntKind.wrap .i64 (b_ - a_)) ≥ 50)) then
      (slices_medianAdjacentOrdered_int data_ (IntKind.wrap .i64 (a_ + (IntKind.wrap .i64 ((IntKind.wrap .i64 (Int.tdiv (IntKind.wrap .i64 (b_ - a_)) 4)) * 1)))) 0).bind fun r_1 =>
      (slices_medianAdjacentOrdered_int data_ (IntKind.wrap .i64 (a_ + (IntKind.wrap .i64 ((IntKind.wrap .i64 (Int.tdiv (IntKind.wrap .i64 (b_ - a_)) 4)) * 2)))) r_1.2).bind fun r_2 =>
      (slices_medianAdjacentOrdered_int data_ (IntKind.wrap .i64 (a_ + (IntKind.wrap .i64 ((IntKind.wrap .i64 (Int.tdiv (IntKind.wrap .i64 (b_ - a_)) 4)) * 3)))) r_2.2).bind fun r_3 =>
      (slices_medianOrdered_int data_ r_1.1 r_2.1 r_3.1 r_3.2).bind fun r_4 =>
      slices_choosePivotOrdered_int_j28 r_4.2 data_ r_4.1
    else
      (slices_medianOrdered_int data_ (IntKind.wrap .i64 (a_ + (IntKind.wrap .i64 ((IntKind.wrap .i64 (Int.tdiv (IntKind.wrap .i64 (b_ - a_)) 4)) * 1)))) (IntKind.wrap .i64 (a_ + (IntKind.wrap .i64 ((IntKind.wrap .i64 (Int.tdiv (IntKind.wrap .i64 (b_ - a_)) 4)) * 2)))) (IntKind.wrap .i64 (a_ + (IntKind.wrap .i64 ((IntKind.wrap .i64 (Int.tdiv (IntKind.wrap .i64 (b_ - a_)) 4)) * 3)))) 0).bind fun r_5 =>
      slices_choosePivotOrdered_int_j28 r_5.2 data_ r_5.1
  else
    slices_choosePivotOrdered_int_j28 0 data_ (IntKind.wrap .i64 (a_ + (IntKind.wrap .i64 ((IntKind.wrap .i64 (Int.tdiv (IntKind.wrap .i64 (b_ - a_)) 4)) * 2))))
noncomputable def slices_reverseRangeOrdered_int_l5 (data_ : (List Int)) (w_data_ : (List Int)) (i6 : Int) (j7 : Int) : Option (Lp ((List Int) × Int × Int) (List Int)) :=
  if (decide (i6 < j7)) then
    (idx w_data_ j7).bind fun z_1 =>
    (idx w_data_ i6).bind fun z_2 =>
    (idx w_data_ i6).bind fun z_3 =>
    (idx (List.set w_data_ (i6).toNat z_1) j7).bind fun z_4 =>
    some (.next ((List.set (List.set w_data_ (i6).toNat z_1) (j7).toNat z_2), (IntKind.wrap .i64 (i6 + 1)), (IntKind.wrap .i64 (j7 - 1))))
  else
    some (.out w_data_)
/-- slices.reverseRangeOrdered[int] -/
noncomputable def slices_reverseRangeOrdered_int (data_ : (List Int)) (a_ : Int) (b_ : Int) : Option (List Int) :=
  (loopO (fun x : ((List Int) × Int × Int) => slices_reverseRangeOrdered_int_l5 data_ x.1 x.2.1 x.2.2) (data_, a_, (IntKind.wrap .i64 (b_ - 1)))).bind fun e_1 =>
  if e_1.length = data_.length then
    some e_1
  else none
noncomputable def slices_partialInsertionSortOrdered_int_l19 (data_ : (List Int)) (w_data_ : (List Int)) (a1 : Int) (b2 : Int) (i7 : Int) (j8 : Int) : Option (Lp Int Int) :=
  if (decide (i7 < b2)) then
    (idx w_data_ i7).bind fun z_1 =>
    (idx w_data_ (IntKind.wrap .i64 (i7 - 1))).bind fun z_2 =>
    (cmp_Less_int z_1 z_2).bind fun r_1 =>
    if (!r_1) then
      some (.next (IntKind.wrap .i64 (i7 + 1)))
    else
      some (.out i7)
  else
    some (.out i7)
noncomputable def slices_partialInsertionSortOrdered_int_l53 (data_ : (List Int)) (w_data_ : (List Int)) (a1 : Int) (b2 : Int) (i7 : Int) (j8 : Int) (j9 : Int) : Option (Lp ((List Int) × Int) (List Int)) :=
  if (decide (j9 ≥ 1)) then
    (idx w_data_ j9).bind fun z_5 =>
    (idx w_data_ (IntKind.wrap .i64 (j9 - 1))).bind fun z_6 =>
    (cmp_Less_int z_5 z_6).bind fun r_1 =>
    if (!r_1) then
      some (.out w_data_)
    else
      (idx w_data_ (IntKind.wrap .i64 (j9 - 1))).bind fun z_7 =>
      (idx w_data_ j9).bind fun z_8 =>
      (idx w_data_ j9).bind fun z_9 =>
      (idx (List.set w_data_ (j9).toNat z_7) (IntKind.wrap .i64 (j9 - 1))).bind fun z_10 =>
      some (.next ((List.set (List.set w_data_ (j9).toNat z_7) ((IntKind.wrap .i64 (j9 - 1))).toNat z_8), (IntKind.wrap .i64 (j9 - 1))))
  else
    some (.out w_data_)
noncomputable def slices_partialInsertionSortOrdered_int_l77 (data_ : (List Int)) (w_data_ : (List Int)) (a1 : Int) (b2 : Int) (i7 : Int) (j8 : Int) (j10 : Int) : Option (Lp ((List Int) × Int) (List Int)) :=
  if (decide (j10 < b2)) then
    (idx w_data_ j10).bind fun z_5 =>
    (idx w_data_ (IntKind.wrap .i64 (j10 - 1))).bind fun z_6 =>
    (cmp_Less_int z_5 z_6).bind fun r_1 =>
    if (!r_1) then
      some (.out w_data_)
    else
      (idx w_data_ (IntKind.wrap .i64 (j10 - 1))).bind fun z_7 =>
      (idx w_data_ j10).bind fun z_8 =>
      (idx w_data_ j10).bind fun z_9 =>
      (idx (List.set w_data_ (j10).toNat z_7) (IntKind.wrap .i64 (j10 - 1))).bind fun z_10 =>
      some (.next ((List.set (List.set w_data_ (j10).toNat z_7) ((IntKind.wrap .i64 (j10 - 1))).toNat z_8), (IntKind.wrap .i64 (j10 + 1))))
  else
    some (.out w_data_)
noncomputable def slices_partialInsertionSortOrdered_int_j71 (data_ : (List Int)) (w_data_ : (List Int)) (a1 : Int) (b2 : Int) (i7 : Int) (j8 : Int) : Option (Lp ((List Int) × Int × Int) ((Bool × (List Int)) ⊕ (List Int))) :=
  if (decide ((IntKind.wrap .i64 (b2 - i7)) ≥ 2)) then
    (loopO (fun x : ((List Int) × Int) => slices_partialInsertionSortOrdered_int_l77 data_ x.1 a1 b2 i7 j8 x.2) (w_data_, (IntKind.wrap .i64 (i7 + 1)))).bind fun e_3 =>
    some (.next (e_3, i7, (IntKind.wrap .i64 (j8 + 1))))
  else
    some (.next (w_data_, i7, (IntKind.wrap .i64 (j8 + 1))))
noncomputable def slices_partialInsertionSortOrdered_int_l8 (data_ : (List Int)) (w_data_ : (List Int)) (a1 : Int) (b2 : Int) (i7 : Int) (j8 : Int) : Option (Lp ((List Int) × Int × Int) ((Bool × (List Int)) ⊕ (List Int))) :=
  if (decide (j8 < 5)) then
    (loopO (fun x : Int => slices_partialInsertionSortOrdered_int_l19 data_ w_data_ a1 b2 x j8) i7).bind fun e_1 =>
    if (e_1 == b2) then
      if w_data_.length = data_.length then
        some (.out (.inl (true, w_data_)))
      else none
    else
      if (decide ((IntKind.wrap .i64 (b2 - a1)) < 50)) then
        if w_data_.length = data_.length then
          some (.out (.inl (false, w_data_)))
        else none
      else
        (idx w_data_ (IntKind.wrap .i64 (e_1 - 1))).bind fun z_1 =>
        (idx w_data_ e_1).bind fun z_2 =>
        (idx w_data_ e_1).bind fun z_3 =>
        (idx (List.set w_data_ (e_1).toNat z_1) (IntKind.wrap .i64 (e_1 - 1))).bind fun z_4 =>
        if (decide ((IntKind.wrap .i64 (e_1 - a1)) ≥ 2)) then
          (loopO (fun x : ((List Int) × Int) => slices_partialInsertionSortOrdered_int_l53 data_ x.1 a1 b2 e_1 j8 x.2) ((List.set (List.set w_data_ (e_1).toNat z_1) ((IntKind.wrap .i64 (e_1 - 1))).toNat z_2), (IntKind.wrap .i64 (e_1 - 1)))).bind fun e_2 =>
          slices_partialInsertionSortOrdered_int_j71 data_ e_2 a1 b2 e_1 j8
        else
          slices_partialInsertionSortOrdered_int_j71 data_ (List.set (List.set w_data_ (e_1).toNat z_1) ((IntKind.wrap .i64 (e_1 - 1))).toNat z_2) a1 b2 e_1 j8
  else
    some (.out (.inr w_data_))
/-- slices.partialInsertionSortOrdered[int] -/
noncomputable def slices_partialInsertionSortOrdered_int (data_ : (List Int)) (a_ : Int) (b_ : Int) : Option (Bool × (List Int)) :=
  (loopO (fun x : ((List Int) × Int × Int) => slices_partialInsertionSortOrdered_int_l8 data_ x.1 a_ b_ x.2.1 x.2.2) (data_, (IntKind.wrap .i64 (a_ + 1)), 0)).bind fun e_1 =>
  match e_1 with
  | .inl e_2 =>
    some e_2
  | .inr e_3 =>
    if e_3.length = data_.length then
      some (false, e_3)
    else none
noncomputable def slices_partitionEqualOrdered_int_l12 (data_ : (List Int)) (w_data_ : (List Int)) (a1 : Int) (i9 : Int) (j10 : Int) : Option (Lp Int Int) :=
  if (decide (i9 ≤ j10)) then
    (idx w_data_ a1).bind fun z_5 =>
    (idx w_data_ i9).bind fun z_6 =>
    (cmp_Less_int z_5 z_6).bind fun r_1 =>
    if (!r_1) then
      some (.next (IntKind.wrap .i64 (i9 + 1)))
    else
      some (.out i9)
  else
    some (.out i9)
noncomputable def slices_partitionEqualOrdered_int_l23 (data_ : (List Int)) (w_data_ : (List Int)) (a1 : Int) (i9 : Int) (j10 : Int) : Option (Lp Int Int) :=
  if (decide (i9 ≤ j10)) then
    (idx w_data_ a1).bind fun z_5 =>
    (idx w_data_ j10).bind fun z_6 =>
    (cmp_Less_int z_5 z_6).bind fun r_1 =>
    if r_1 then
      some (.next (IntKind.wrap .i64 (j10 - 1)))
    else
      some (.out j10)
  else
    some (.out j10)
noncomputable def slices_partitionEqualOrdered_int_l8 (data_ : (List Int)) (w_data_ : (List Int)) (a1 : Int) (i9 : Int) (j10 : Int) : Option (Lp ((List Int) × Int × Int) ((List Int) × Int)) :=
  (loopO (fun x : Int => slices_partitionEqualOrdered_int_l12 data_ w_data_ a1 x j10) i9).bind fun e_1 =>
  (loopO (fun x : Int => slices_partitionEqualOrdered_int_l23 data_ w_data_ a1 e_1 x) j10).bind fun e_2 =>
  if (decide (e_1 > e_2)) then
    some (.out (w_data_, e_1))
  else
    (idx w_data_ e_2).bind fun z_5 =>
    (idx w_data_ e_1).bind fun z_6 =>
    (idx w_data_ e_1).bind fun z_7 =>
    (idx (List.set w_data_ (e_1).toNat z_5) e_2).bind fun z_8 =>
    some (.next ((List.set (List.set w_data_ (e_1).toNat z_5) (e_2).toNat z_6), (IntKind.wrap .i64 (e_1 + 1)), (IntKind.wrap .i64 (e_2 - 1))))
/-- slices.partitionEqualOrdered[int] -/
noncomputable def slices_partitionEqualOrdered_int (data_ : (List Int)) (a_ : Int) (b_ : Int) (pivot_ : Int) : Option (Int × (List Int)) :=
  (idx data_ pivot_).bind fun z_1 =>
  (idx data_ a_).bind fun z_2 =>
  (idx data_ a_).bind fun z_3 =>
  (idx (List.set data_ (a_).toNat z_1) pivot_).bind fun z_4 =>
  (loopO (fun x : ((List Int) × Int × Int) => slices_partitionEqualOrdered_int_l8 data_ x.1 a_ x.2.1 x.2.2) ((List.set (List.set data_ (a_).toNat z_1) (pivot_).toNat z_2), (IntKind.wrap .i64 (a_ + 1)), (IntKind.wrap .i64 (b_ - 1)))).bind fun e_1 =>
  if e_1.1.length = data_.length then
    some (e_1.2, e_1.1)
  else none
noncomputable def slices_partitionOrdered_int_l8 (data_ : (List Int)) (w_data_ : (List Int)) (a1 : Int) (i10 : Int) (j11 : Int) : Option (Lp Int Int) :=
  if (decide (i10 ≤ j11)) then
    (idx w_data_ i10).bind fun z_5 =>
    (idx w_data_ a1).bind fun z_6 =>
    (cmp_Less_int z_5 z_6).bind fun r_1 =>
    if r_1 then
      some (.next (IntKind.wrap .i64 (i10 + 1)))
    else
      some (.out i10)
  else
    some (.out i10)
noncomputable def slices_partitionOrdered_int_l19 (data_ : (List Int)) (w_data_ : (List Int)) (a1 : Int) (i10 : Int) (j11 : Int) : Option (Lp Int Int) :=
  if (decide (i10 ≤ j11)) then
    (idx w_data_ j11).bind fun z_5 =>
    (idx w_data_ a1).bind fun z_6 =>
    (cmp_Less_int z_5 z_6).bind fun r_1 =>
    if (!r_1) then
      some (.next (IntKind.wrap .i64 (j11 - 1)))
    else
      some (.out j11)
  else
    some (.out j11)
noncomputable def slices_partitionOrdered_int_l50 (data_ : (List Int)) (w_data_ : (List Int)) (a1 : Int) (i10 : Int) (j11 : Int) : Option (Lp Int Int) :=
  if (decide (i10 ≤ j11)) then
    (idx w_data_ i10).bind fun z_13 =>
    (idx w_data_ a1).bind fun z_14 =>
    (cmp_Less_int z_13 z_14).bind fun r_1 =>
    if r_1 then
      some (.next (IntKind.wrap .i64 (i10 + 1)))
    else
      some (.out i10)
  else
    some (.out i10)
noncomputable def slices_partitionOrdered_int_l61 (data_ : (List Int)) (w_data_ : (List Int)) (a1 : Int) (i10 : Int) (j11 : Int) : Option (Lp Int Int) :=
  if (decide (i10 ≤ j11)) then
    (idx w_data_ j11).bind fun z_13 =>
    (idx w_data_ a1).bind fun z_14 =>
    (cmp_Less_int z_13 z_14).bind fun r_1 =>
    if (!r_1) then
      some (.next (IntKind.wrap .i64 (j11 - 1)))
    else
      some (.out j11)
  else
    some (.out j11)
noncomputable def slices_partitionOrdered_int_l46 (data_ : (List Int)) (w_data_ : (List Int)) (a1 : Int) (i10 : Int) (j11 : Int) : Option (Lp ((List Int) × Int × Int) ((List Int) × Int)) :=
  (loopO (fun x : Int => slices_partitionOrdered_int_l50 data_ w_data_ a1 x j11) i10).bind fun e_3 =>
  (loopO (fun x : Int => slices_partitionOrdered_int_l61 data_ w_data_ a1 e_3 x) j11).bind fun e_4 =>
  if (decide (e_3 > e_4)) then
    some (.out (w_data_, e_4))
  else
    (idx w_data_ e_4).bind fun z_13 =>
    (idx w_data_ e_3).bind fun z_14 =>
    (idx w_data_ e_3).bind fun z_15 =>
    (idx (List.set w_data_ (e_3).toNat z_13) e_4).bind fun z_16 =>
    some (.next ((List.set (List.set w_data_ (e_3).toNat z_13) (e_4).toNat z_14), (IntKind.wrap .i64 (e_3 + 1)), (IntKind.wrap .i64 (e_4 - 1))))
/-- slices.partitionOrdered[int] -/
noncomputable def slices_partitionOrdered_int (data_ : (List Int)) (a_ : Int) (b_ : Int) (pivot_ : Int) : Option (Int × Bool × (List Int)) :=
  (idx data_ pivot_).bind fun z_1 =>
  (idx data_ a_).bind fun z_2 =>
  (idx data_ a_).bind fun z_3 =>
  (idx (List.set data_ (a_).toNat z_1) pivot_).bind fun z_4 =>
  (loopO (fun x : Int => slices_partitionOrdered_int_l8 data_ (List.set (List.set data_ (a_).toNat z_1) (pivot_).toNat z_2) a_ x (IntKind.wrap .i64 (b_ - 1))) (IntKind.wrap .i64 (a_ + 1))).bind fun e_1 =>
  (loopO (fun x : Int => slices_partitionOrdered_int_l19 data_ (List.set (List.set data_ (a_).toNat z_1) (pivot_).toNat z_2) a_ e_1 x) (IntKind.wrap .i64 (b_ - 1))).bind fun e_2 =>
  if (decide (e_1 > e_2)) then
    (idx (List.set (List.set data_ (a_).toNat z_1) (pivot_).toNat z_2) a_).bind fun z_5 =>
    (idx (List.set (List.set data_ (a_).toNat z_1) (pivot_).toNat z_2) e_2).bind fun z_6 =>
    (idx (List.set (List.set data_ (a_).toNat z_1) (pivot_).toNat z_2) e_2).bind fun z_7 =>
    (idx (List.set (List.set (List.set data_ (a_).toNat z_1) (pivot_).toNat z_2) (e_2).toNat z_5) a_).bind fun z_8 =>
    some (e_2, true, (List.set (List.set (List.set (List.set data_ (a_).toNat z_1) (pivot_).toNat z_2) (e_2).toNat z_5) (a_).toNat z_6))
  else
    (idx (List.set (List.set data_ (a_).toNat z_1) (pivot_).toNat z_2) e_2).bind fun z_9 =>
    (idx (List.set (List.set data_ (a_).toNat z_1) (pivot_).toNat z_2) e_1).bind fun z_10 =>
    (idx (List.set (List.set data_ (a_).toNat z_1) (pivot_).toNat z_2) e_1).bind fun z_11 =>
    (idx (List.set (List.set (List.set data_ (a_).toNat z_1) (pivot_).toNat z_2) (e_1).toNat z_9) e_2).bind fun z_12 =>
    (loopO (fun x : ((List Int) × Int × Int) => slices_partitionOrdered_int_l46 data_ x.1 a_ x.2.1 x.2.2) ((List.set (List.set (List.set (List.set data_ (a_).toNat z_1) (pivot_).toNat z_2) (e_1).toNat z_9) (e_2).toNat z_10), (IntKind.wrap .i64 (e_1 + 1)), (IntKind.wrap .i64 (e_2 - 1)))).bind fun e_3 =>
    (idx e_3.1 a_).bind fun z_13 =>
    (idx e_3.1 e_3.2).bind fun z_14 =>
    (idx e_3.1 e_3.2).bind fun z_15 =>
    (idx (List.set e_3.1 (e_3.2).toNat z_13) a_).bind fun z_16 =>
    if (List.set (List.set e_3.1 (e_3.2).toNat z_13) (a_).toNat z_14).length = data_.length then
      some (e_3.2, false, (List.set (List.set e_3.1 (e_3.2).toNat z_13) (a_).toNat z_14))
    else none
noncomputable def slices_pdqsortOrdered_int_j65 (self_ : (List Int) → Int → Int → Int → Option (List Int)) (data_ : (List Int)) (w_data_ : (List Int)) (a1 : Int) (b2 : Int) (limit3 : Int) (length10 : Int) (pivot11 : Int) : Option (Lp ((List Int) × Int × Int × Int × Bool × Bool) (List Int)) :=
  (slices_partitionOrdered_int w_data_ a1 b2 pivot11).bind fun r_9 =>
  if (decide ((IntKind.wrap .i64 (r_9.1 - a1)) < (IntKind.wrap .i64 (b2 - r_9.1)))) then
    (self_ r_9.2.2 a1 r_9.1 limit3).bind fun r_10 =>
    some (.next (r_10, (IntKind.wrap .i64 (r_9.1 + 1)), b2, limit3, (decide ((IntKind.wrap .i64 (r_9.1 - a1)) ≥ (IntKind.wrap .i64 (Int.tdiv length10 8)))), r_9.2.1))
  else
    (self_ r_9.2.2 (IntKind.wrap .i64 (r_9.1 + 1)) b2 limit3).bind fun r_11 =>
    some (.next (r_11, a1, r_9.1, limit3, (decide ((IntKind.wrap .i64 (b2 - r_9.1)) ≥ (IntKind.wrap .i64 (Int.tdiv length10 8)))), r_9.2.1))
noncomputable def slices_pdqsortOrdered_int_j55 (self_ : (List Int) → Int → Int → Int → Option (List Int)) (data_ : (List Int)) (w_data_ : (List Int)) (a1 : Int) (b2 : Int) (limit3 : Int) (wasBalanced8 : Bool) (wasPartitioned9 : Bool) (length10 : Int) (pivot11 : Int) : Option (Lp ((List Int) × Int × Int × Int × Bool × Bool) (List Int)) :=
  if (decide (a1 > 0)) then
    (idx w_data_ (IntKind.wrap .i64 (a1 - 1))).bind fun z_1 =>
    (idx w_data_ pivot11).bind fun z_2 =>
    (cmp_Less_int z_1 z_2).bind fun r_7 =>
    if (!r_7) then
      (slices_partitionEqualOrdered_int w_data_ a1 b2 pivot11).bind fun r_8 =>
      some (.next (r_8.2, r_8.1, b2, limit3, wasBalanced8, wasPartitioned9))
    else
      slices_pdqsortOrdered_int_j65 self_ data_ w_data_ a1 b2 limit3 length10 pivot11
  else
    slices_pdqsortOrdered_int_j65 self_ data_ w_data_ a1 b2 limit3 length10 pivot11
noncomputable def slices_pdqsortOrdered_int_j45 (self_ : (List Int) → Int → Int → Int → Option (List Int)) (data_ : (List Int)) (w_data_ : (List Int)) (a1 : Int) (b2 : Int) (limit3 : Int) (wasBalanced8 : Bool) (wasPartitioned9 : Bool) (length10 : Int) (pivot11 : Int) (hint12 : Int) : Option (Lp ((List Int) × Int × Int × Int × Bool × Bool) (List Int)) :=
  if wasBalanced8 then
    if wasPartitioned9 then
      if (hint12 == 1) then
        (slices_partialInsertionSortOrdered_int w_data_ a1 b2).bind fun r_6 =>
        if r_6.1 then
          if r_6.2.length = data_.length then
            some (.out r_6.2)
          else none
        else
          slices_pdqsortOrdered_int_j55 self_ data_ r_6.2 a1 b2 limit3 true true length10 pivot11
      else
        slices_pdqsortOrdered_int_j55 self_ data_ w_data_ a1 b2 limit3 true true length10 pivot11
    else
      slices_pdqsortOrdered_int_j55 self_ data_ w_data_ a1 b2 limit3 true false length10 pivot11
  else
    slices_pdqsortOrdered_int_j55 self_ data_ w_data_ a1 b2 limit3 false wasPartitioned9 length10 pivot11
noncomputable def slices_pdqsortOrdered_int_j33 (self_ : (List Int) → Int → Int → Int → Option (List Int)) (data_ : (List Int)) (w_data_ : (List Int)) (a1 : Int) (b2 : Int) (limit3 : Int) (wasBalanced8 : Bool) (wasPartitioned9 : Bool) (length10 : Int) : Option (Lp ((List Int) × Int × Int × Int × Bool × Bool) (List Int)) :=
  (slices_choosePivotOrdered_int w_data_ a1 b2).bind fun r_4 =>
  if (r_4.2 == 2) then
    (slices_reverseRangeOrdered_int w_data_ a1 b2).bind fun r_5 =>
    slices_pdqsortOrdered_int_j45 self_ data_ r_5 a1 b2 limit3 wasBalanced8 wasPartitioned9 length10 (IntKind.wrap .i64 ((IntKind.wrap .i64 (b2 - 1)) - (IntKind.wrap .i64 (r_4.1 - a1)))) 1
  else
    slices_pdqsortOrdered_int_j45 self_ data_ w_data_ a1 b2 limit3 wasBalanced8 wasPartitioned9 length10 r_4.1 r_4.2
noncomputable def slices_pdqsortOrdered_int_l5 (self_ : (List Int) → Int → Int → Int → Option (List Int)) (data_ : (List Int)) (w_data_ : (List Int)) (a1 : Int) (b2 : Int) (limit3 : Int) (wasBalanced8 : Bool) (wasPartitioned9 : Bool) : Option (Lp ((List Int) × Int × Int × Int × Bool × Bool) (List Int)) :=
  if (decide ((IntKind.wrap .i64 (b2 - a1)) ≤ 12)) then
    (slices_insertionSortOrdered_int w_data_ a1 b2).bind fun r_1 =>
    if r_1.length = data_.length then
      some (.out r_1)
    else none
  else
    if (limit3 == 0) then
      (slices_heapSortOrdered_int w_data_ a1 b2).bind fun r_2 =>
      if r_2.length = data_.length then
        some (.out r_2)
      else none
    else
      if (!wasBalanced8) then
        (slices_breakPatternsOrdered_int w_data_ a1 b2).bind fun r_3 =>
        slices_pdqsortOrdered_int_j33 self_ data_ r_3 a1 b2 (IntKind.wrap .i64 (limit3 - 1)) wasBalanced8 wasPartitioned9 (IntKind.wrap .i64 (b2 - a1))
      else
        slices_pdqsortOrdered_int_j33 self_ data_ w_data_ a1 b2 limit3 wasBalanced8 wasPartitioned9 (IntKind.wrap .i64 (b2 - a1))
/-- slices.pdqsortOrdered[int] -/
noncomputable def slices_pdqsortOrdered_int_b (self_ : (List Int) → Int → Int → Int → Option (List Int)) (data_ : (List Int)) (a_ : Int) (b_ : Int) (limit_ : Int) : Option (List Int) :=
  (loopO (fun x : ((List Int) × Int × Int × Int × Bool × Bool) => slices_pdqsortOrdered_int_l5 self_ data_ x.1 x.2.1 x.2.2.1 x.2.2.2.1 x.2.2.2.2.1 x.2.2.2.2.2) (data_, a_, b_, limit_, true, true)).bind fun e_1 =>
  some e_1
noncomputable def slices_pdqsortOrdered_int : Nat → (List Int) → Int → Int → Int → Option (List Int)
  | 0, _, _, _, _ => none
  | n_ + 1, data_, a_, b_, limit_ => slices_pdqsortOrdered_int_b (slices_pdqsortOrdered_int n_) data_ a_ b_ limit_
/-- slices.Sort[[]int,int] -/
noncomputable def slices_Sort_Lint (x_ : (List Int)) : Option (List Int) :=
  (math_bits_Len (IntKind.wrap .u64 (x_.length : Int))).bind fun r_1 =>
  (slices_pdqsortOrdered_int 64 x_ 0 (x_.length : Int) r_1).bind fun r_2 =>
  some r_2
noncomputable def mz_sites_l26 (out9 : (List Int)) (b0 : (List Int)) (n2 : Int) (at8 : Int) (t45 : Int) (t46 : Int) : Option (Lp ((List Int) × Int) (List Int)) :=
  if (decide (t46 < t45)) then
    (cutL b0 (IntKind.wrap .i64 (at8 + (IntKind.wrap .i64 (4 * t46)))) (IntKind.wrap .i64 ((IntKind.wrap .i64 (at8 + (IntKind.wrap .i64 (4 * t46)))) + 4))).bind fun z_1 =>
    (index_From z_1).bind fun r_1 =>
    (index_Source_Word r_1).bind fun r_2 =>
    (index_Source_Word r_2.2).bind fun r_3 =>
    (bits_Linear r_3.1 r_2.1).bind fun r_4 =>
    (grow 8 out9 ([(IntKind.wrap .i64 r_4)] : List Int)).bind fun z_2 =>
    some (.next (z_2, (IntKind.wrap .i64 (t46 + 1))))
  else
    some (.out out9)
noncomputable def mz_sites_l49 (out9 : (List Int)) (n2 : Int) (t74 : (List Int)) (t75 : Int) (t76 : Int) : Option (Lp Int (((List Int) × Int) ⊕ Unit)) :=
  if (decide (t76 < t75)) then
    (idx t74 t76).bind fun z_1 =>
    if (decide (z_1 > (IntKind.wrap .i64 (n2 - 2)))) then
      some (.out (.inl (([] : List Int), 3)))
    else
      if (decide (t76 > 0)) then
        (idx out9 (IntKind.wrap .i64 (t76 - 1))).bind fun z_2 =>
        if (decide ((IntKind.wrap .i64 (z_1 - z_2)) < 2)) then
          some (.out (.inl (([] : List Int), 3)))
        else
          some (.next (IntKind.wrap .i64 (t76 + 1)))
      else
        some (.next (IntKind.wrap .i64 (t76 + 1)))
  else
    some (.out (.inr ()))
/-- hansom/mz.sites -/
noncomputable def mz_sites (b_ : (List Int)) (h_ : Header) (n_ : Int) : Option ((List Int) × Int) :=
  if (decide (h_.relocs > 4000)) then
    some (([] : List Int), 8)
  else
    if (decide ((b_.length : Int) < (IntKind.wrap .i64 ((IntKind.wrap .i64 h_.table) + (IntKind.wrap .i64 (4 * (IntKind.wrap .i64 h_.relocs))))))) then
      some (([] : List Int), 2)
    else
      if (decide ((IntKind.wrap .i64 ((IntKind.wrap .i64 h_.table) + (IntKind.wrap .i64 (4 * (IntKind.wrap .i64 h_.relocs))))) > (IntKind.wrap .i64 ((IntKind.wrap .i64 h_.paras) * 16)))) then
        some (([] : List Int), 2)
      else
        (loopO (fun x : ((List Int) × Int) => mz_sites_l26 x.1 b_ n_ (IntKind.wrap .i64 h_.table) (IntKind.wrap .i64 h_.relocs) x.2) (([] : List Int), 0)).bind fun e_1 =>
        (slices_Sort_Lint e_1).bind fun r_1 =>
        (loopO (fun x : Int => mz_sites_l49 r_1 n_ r_1 (r_1.length : Int) x) 0).bind fun e_2 =>
        match e_2 with
        | .inl e_3 =>
          some e_3
        | .inr e_4 =>
          some (r_1, 0)
/-- slices.Clone[[]byte,byte] -/
noncomputable def slices_Clone_Lbyte (s_ : List Int) : Option (List Int) := grow 1 [] s_
/-- hansom/bits.Paras -/
noncomputable def bits_Paras (n_ : Int) : Option Int :=
  if (decide (n_ < 1)) then
    some 0
  else
    some (IntKind.wrap .i64 ((IntKind.wrap .i64 (Int.tdiv (IntKind.wrap .i64 (n_ - 1)) 16)) + 1))
noncomputable def mz_May_l14 (x1 : Image) (t31 : (List Int)) (t32 : Int) (t33 : Int) : Option (Lp Int (Bool ⊕ Unit)) :=
  if (decide (t33 < t32)) then
    (idx t31 t33).bind fun z_1 =>
    if (decide (z_1 < 0)) then
      some (.out (.inl false))
    else
      if (decide (z_1 > (IntKind.wrap .i64 ((x1.Bytes.length : Int) - 2)))) then
        some (.out (.inl false))
      else
        if (decide (t33 > 0)) then
          (idx x1.Relocs (IntKind.wrap .i64 (t33 - 1))).bind fun z_2 =>
          if (decide ((IntKind.wrap .i64 (z_1 - z_2)) < 2)) then
            some (.out (.inl false))
          else
            some (.next (IntKind.wrap .i64 (t33 + 1)))
        else
          some (.next (IntKind.wrap .i64 (t33 + 1)))
  else
    some (.out (.inr ()))
/-- hansom/mz.May -/
noncomputable def mz_May (x_ : Image) : Option Bool :=
  if (decide ((x_.Bytes.length : Int) > 655360)) then
    some false
  else
    if (decide (x_.Min < 0)) then
      some false
    else
      (bits_Paras (x_.Bytes.length : Int)).bind fun r_1 =>
      if (decide (x_.Min > (IntKind.wrap .i64 (40960 - r_1)))) then
        some false
      else
        if (decide ((x_.Relocs.length : Int) > 4000)) then
          some false
        else
          (loopO (fun x : Int => mz_May_l14 x_ x_.Relocs (x_.Relocs.length : Int) x) 0).bind fun e_1 =>
          match e_1 with
          | .inl e_2 =>
            some e_2
          | .inr e_3 =>
            some true
/-- hansom/mz.Read -/
noncomputable def mz_Read (b_ : (List Int)) : Option (Image × Int) :=
  (mz_first b_).bind fun r_1 =>
  if (r_1.2 != 0) then
    some (({ Bytes := ([] : List Int), Relocs := ([] : List Int), CS := 0, IP := 0, SS := 0, SP := 0, Min := 0 } : Image), r_1.2)
  else
    (mz_size r_1.1).bind fun r_2 =>
    if (!r_2.2) then
      some (({ Bytes := ([] : List Int), Relocs := ([] : List Int), CS := 0, IP := 0, SS := 0, SP := 0, Min := 0 } : Image), 3)
    else
      if (decide ((IntKind.wrap .i64 ((IntKind.wrap .i64 r_1.1.paras) * 16)) < 28)) then
        some (({ Bytes := ([] : List Int), Relocs := ([] : List Int), CS := 0, IP := 0, SS := 0, SP := 0, Min := 0 } : Image), 3)
      else
        if (decide ((b_.length : Int) < r_2.1)) then
          some (({ Bytes := ([] : List Int), Relocs := ([] : List Int), CS := 0, IP := 0, SS := 0, SP := 0, Min := 0 } : Image), 2)
        else
          (mz_sites b_ r_1.1 (IntKind.wrap .i64 (r_2.1 - (IntKind.wrap .i64 ((IntKind.wrap .i64 r_1.1.paras) * 16))))).bind fun r_3 =>
          if (r_3.2 != 0) then
            some (({ Bytes := ([] : List Int), Relocs := ([] : List Int), CS := 0, IP := 0, SS := 0, SP := 0, Min := 0 } : Image), r_3.2)
          else
            (cutL b_ (IntKind.wrap .i64 ((IntKind.wrap .i64 r_1.1.paras) * 16)) r_2.1).bind fun z_1 =>
            (slices_Clone_Lbyte z_1).bind fun r_4 =>
            (mz_May ({ Bytes := r_4, Relocs := r_3.1, CS := r_1.1.cs_, IP := r_1.1.ip, SS := r_1.1.ss, SP := r_1.1.sp, Min := (IntKind.wrap .i64 r_1.1.min) } : Image)).bind fun r_5 =>
            if (!r_5) then
              some (({ Bytes := ([] : List Int), Relocs := ([] : List Int), CS := 0, IP := 0, SS := 0, SP := 0, Min := 0 } : Image), 8)
            else
              some (({ Bytes := r_4, Relocs := r_3.1, CS := r_1.1.cs_, IP := r_1.1.ip, SS := r_1.1.ss, SP := r_1.1.sp, Min := (IntKind.wrap .i64 r_1.1.min) } : Image), 0)
/-- hansom/bits.Up -/
noncomputable def bits_Up (n_ : Int) (step_ : Int) : Option Int :=
  if (decide (step_ < 1)) then
    some (bitsOp .andNot .i64 (IntKind.wrap .i64 ((IntKind.wrap .i64 ((mnI (mxI n_ 0) 16777216) + 1)) - 1)) (IntKind.wrap .i64 (1 - 1)))
  else
    if (decide (step_ > 4096)) then
      some (bitsOp .andNot .i64 (IntKind.wrap .i64 ((IntKind.wrap .i64 ((mnI (mxI n_ 0) 16777216) + 1)) - 1)) (IntKind.wrap .i64 (1 - 1)))
    else
      if ((bitsOp .and .i64 step_ (IntKind.wrap .i64 (step_ - 1))) != 0) then
        some (bitsOp .andNot .i64 (IntKind.wrap .i64 ((IntKind.wrap .i64 ((mnI (mxI n_ 0) 16777216) + 1)) - 1)) (IntKind.wrap .i64 (1 - 1)))
      else
        some (bitsOp .andNot .i64 (IntKind.wrap .i64 ((IntKind.wrap .i64 ((mnI (mxI n_ 0) 16777216) + step_)) - 1)) (IntKind.wrap .i64 (step_ - 1)))
/-- hansom/mz.head -/
noncomputable def mz_head (relocs_ : Int) : Option Int :=
  (bits_Up (IntKind.wrap .i64 (28 + (IntKind.wrap .i64 (4 * relocs_)))) 16).bind fun r_1 =>
  some r_1
/-- hansom/bits.Low -/
noncomputable def bits_Low (w_ : Int) : Option Int :=
  some (IntKind.wrap .u8 w_)
/-- hansom/bits.High -/
noncomputable def bits_High (w_ : Int) : Option Int :=
  some (IntKind.wrap .u8 (shrI .u16 w_ 8))
/-- hansom/index.Two -/
noncomputable def index_Two (w_ : Int) : Option (List Int) :=
  (bits_Low w_).bind fun r_1 =>
  (bits_High w_).bind fun r_2 =>
  some ([r_1, r_2] : List Int)
/-- hansom/bits.Normal -/
noncomputable def bits_Normal (at_ : Int) : Option (Int × Int) :=
  some ((IntKind.wrap .u16 (shrI .u32 (bitsOp .and .u32 at_ 1048575) 4)), (IntKind.wrap .u16 (bitsOp .and .u32 (bitsOp .and .u32 at_ 1048575) 15)))
noncomputable def mz_Write_l22 (x1 : Image) (b_53 : (List Int)) (n4 : Int) (t54 : (List Int)) (t55 : Int) (t56 : Int) : Option (Lp ((List Int) × Int) (List Int)) :=
  if (decide (t56 < t55)) then
    (idx t54 t56).bind fun z_1 =>
    (index_Two z_1).bind fun r_3 =>
    (grow 1 b_53 r_3).bind fun z_2 =>
    some (.next (z_2, (IntKind.wrap .i64 (t56 + 1))))
  else
    some (.out b_53)
noncomputable def mz_Write_l39 (x1 : Image) (b_53 : (List Int)) (n4 : Int) (t66 : (List Int)) (t67 : Int) (t68 : Int) : Option (Lp ((List Int) × Int) (List Int)) :=
  if (decide (t68 < t67)) then
    (idx t66 t68).bind fun z_1 =>
    (bits_Normal (IntKind.wrap .u32 z_1)).bind fun r_3 =>
    (index_Two r_3.2).bind fun r_4 =>
    (grow 1 b_53 r_4).bind fun z_2 =>
    (index_Two r_3.1).bind fun r_5 =>
    (grow 1 z_2 r_5).bind fun z_3 =>
    some (.next (z_3, (IntKind.wrap .i64 (t68 + 1))))
  else
    some (.out b_53)
/-- hansom/mz.Write -/
noncomputable def mz_Write (x_ : Image) : Option ((List Int) × Int) :=
  (mz_May x_).bind fun r_1 =>
  if (!r_1) then
    some (([] : List Int), 1)
  else
    (mz_head (x_.Relocs.length : Int)).bind fun r_2 =>
    (loopO (fun x : ((List Int) × Int) => mz_Write_l22 x_ x.1 r_2 ([(IntKind.wrap .u16 (Int.tmod (IntKind.wrap .i64 (r_2 + (x_.Bytes.length : Int))) 512)), (IntKind.wrap .u16 (IntKind.wrap .i64 (Int.tdiv (IntKind.wrap .i64 ((IntKind.wrap .i64 ((IntKind.wrap .i64 (r_2 + (x_.Bytes.length : Int))) + 512)) - 1)) 512))), (IntKind.wrap .u16 (x_.Relocs.length : Int)), (IntKind.wrap .u16 (IntKind.wrap .i64 (Int.tdiv r_2 16))), (IntKind.wrap .u16 x_.Min), 65535, x_.SS, x_.SP, 0, x_.IP, x_.CS, 28, 0] : List Int) (([(IntKind.wrap .u16 (Int.tmod (IntKind.wrap .i64 (r_2 + (x_.Bytes.length : Int))) 512)), (IntKind.wrap .u16 (IntKind.wrap .i64 (Int.tdiv (IntKind.wrap .i64 ((IntKind.wrap .i64 ((IntKind.wrap .i64 (r_2 + (x_.Bytes.length : Int))) + 512)) - 1)) 512))), (IntKind.wrap .u16 (x_.Relocs.length : Int)), (IntKind.wrap .u16 (IntKind.wrap .i64 (Int.tdiv r_2 16))), (IntKind.wrap .u16 x_.Min), 65535, x_.SS, x_.SP, 0, x_.IP, x_.CS, 28, 0] : List Int).length : Int) x.2) (([77, 90] : List Int), 0)).bind fun e_1 =>
    (loopO (fun x : ((List Int) × Int) => mz_Write_l39 x_ x.1 r_2 x_.Relocs (x_.Relocs.length : Int) x.2) (e_1, 0)).bind fun e_2 =>
    (growZ 1 0 e_2 (IntKind.wrap .i64 (r_2 - (e_2.length : Int)))).bind fun z_1 =>
    (grow 1 z_1 x_.Bytes).bind fun z_2 =>
    some (z_2, 0)
noncomputable def hansomref44_Same_l14 (a2 : Image) (b3 : Image) (i5 : Int) : Option (Lp Int (Bool ⊕ Unit)) :=
  if (decide (i5 < (a2.Relocs.length : Int))) then
    (idx a2.Relocs i5).bind fun z_1 =>
    (idx b3.Relocs i5).bind fun z_2 =>
    if (z_1 != z_2) then
      some (.out (.inl false))
    else
      some (.next (IntKind.wrap .i64 (i5 + 1)))
  else
    some (.out (.inr ()))
/-- hansom/hansomref44.Same -/
noncomputable def hansomref44_Same (a_ : Image) (b_ : Image) : Option Bool :=
  if ((b2s a_.Bytes) != (b2s b_.Bytes)) then
    some false
  else
    if ((a_.Relocs.length : Int) != (b_.Relocs.length : Int)) then
      some false
    else
      if (a_.CS != b_.CS) then
        some false
      else
        if (a_.IP != b_.IP) then
          some false
        else
          if (a_.SS != b_.SS) then
            some false
          else
            if (a_.SP != b_.SP) then
              some false
            else
              if (a_.Min != b_.Min) then
                some false
              else
                (loopO (fun x : Int => hansomref44_Same_l14 a_ b_ x) 0).bind fun e_1 =>
                match e_1 with
                | .inl e_2 =>
                  some e_2
                | .inr e_3 =>
                  some true
noncomputable def hansomlaw44_MzAny_j14 (s7 : (List Int)) : Option Bool :=
  (mz_Read s7).bind fun r_3 =>
  if (r_3.2 != 0) then
    (hansomlaw44_awake).bind fun r_4 =>
    if r_4 then
      if ((IntKind.wrap .i64 ((r_3.1.Bytes.length : Int) + (r_3.1.Relocs.length : Int))) == 0) then
        if (r_3.2 == 2) then
          some true
        else
          if (r_3.2 == 440) then
            some true
          else
            if (r_3.2 == 3) then
              some true
            else
              some (r_3.2 == 8)
      else
        some false
    else
      some false
  else
    (mz_Write r_3.1).bind fun r_5 =>
    (mz_Read r_5.1).bind fun r_6 =>
    (hansomlaw44_awake).bind fun r_7 =>
    if r_7 then
      (mz_May r_3.1).bind fun r_8 =>
      if r_8 then
        if (r_5.2 == 0) then
          if (r_6.2 == 0) then
            (hansomref44_Same r_3.1 r_6.1).bind fun r_9 =>
            if r_9 then
              some (decide ((r_3.1.Bytes.length : Int) ≤ (s7.length : Int)))
            else
              some false
          else
            some false
        else
          some false
      else
        some false
    else
      some false
/-- hansom/hansomlaw44.MzAny -/
noncomputable def hansomlaw44_MzAny (x_ : Image) (at_ : (A2 Int)) (by_ : (List Int)) : Option Bool :=
  (hansomref44_Near x_).bind fun r_1 =>
  (hansomref44_Write r_1).bind fun r_2 =>
  (remI .i64 (bitsOp .and .i64 at_.a0 255) (mnI ((s2b r_2).length : Int) 48)).bind fun z_1 =>
  (idx (s2b r_2) z_1).bind fun z_2 =>
  (idx (s2b r_2) z_1).bind fun z_3 =>
  if ((bitsOp .and .i64 (shrI .i64 at_.a1 8) 7) == 0) then
    (cutL by_ 0 (mnI (by_.length : Int) 80)).bind fun z_4 =>
    hansomlaw44_MzAny_j14 z_4
  else
    hansomlaw44_MzAny_j14 (List.set (s2b r_2) (z_1).toNat (bitsOp .xor .u8 z_2 (IntKind.wrap .u8 (IntKind.wrap .i64 ((Int.tmod (bitsOp .and .i64 at_.a1 255) 255) + 1)))))
end Go.Es.Mza
