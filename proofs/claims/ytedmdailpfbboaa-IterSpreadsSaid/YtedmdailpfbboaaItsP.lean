/- What the functions that the law IterSpreads reaches answer, in plain Lean. No condition. -/
import Derived.Test.YtedmdailpfbboaaEsD
set_option linter.unusedVariables false
set_option linter.unusedSimpArgs false
set_option maxRecDepth 100000
set_option maxHeartbeats 4000000
namespace Go.Es.Its
structure Block where
  Times : Int
  Bytes : (List Int)
  Blocks : (List D)
  deriving Inhabited
def Block.cs (x : Block) : List D := [.int .i64 x.Times, .sl (List.map (D.int .u8) x.Bytes), .sl (List.map id x.Blocks)]
def Block.d (x : Block) : D := .agg (Block.cs x)
inductive Block.wf : Block → Prop where
  | mk (x : Block) (h0 : (wfI .i64) x.Times) (h1 : (wfL (wfI .u8)) x.Bytes) (bs2 : List Block) (hb2 : x.Blocks = bs2.map Block.d) (hl2 : bs2.length ≤ maxLen) (hw2 : ∀ b ∈ bs2, Block.wf b) : Block.wf x
/-- hansom/hansomlaw24.awake -/
noncomputable def hansomlaw24_awake : Option Bool := some true
noncomputable def hansomref24_Near_l12 (self_ : Block → Int → Option Block) (b2 : Block) (b_902_4 : (List D)) (x4_0 : Int) (deep1 : Int) (i5 : Int) : Option (Lp ((List D) × Int) (List D)) :=
  if (decide (i5 < (b2.Blocks.length : Int))) then
    if (decide (i5 < 3)) then
      (idx b2.Blocks i5).bind fun z_1 =>
      (ofD Block.d z_1).bind fun z_2 =>
      (self_ z_2 (IntKind.wrap .i64 (deep1 - 1))).bind fun r_1 =>
      (grow 56 b_902_4 ([(Block.d r_1)] : List D)).bind fun z_3 =>
      some (.next (z_3, (IntKind.wrap .i64 (i5 + 1))))
    else
      some (.out b_902_4)
  else
    some (.out b_902_4)
noncomputable def hansomref24_Near_j7 (self_ : Block → Int → Option Block) (b2 : Block) (b_902_4 : (List D)) (x4_0 : Int) (deep1 : Int) (t18 : Bool) : Option Block :=
  if t18 then
    (loopO (fun x : ((List D) × Int) => hansomref24_Near_l12 self_ b2 x.1 x4_0 deep1 x.2) (b_902_4, 0)).bind fun e_1 =>
    some ({ Times := x4_0, Bytes := ([] : List Int), Blocks := e_1 } : Block)
  else
    (cutL b2.Bytes 0 (mnI (b2.Bytes.length : Int) 5)).bind fun z_1 =>
    (grow 1 ([(IntKind.wrap .u8 b2.Times)] : List Int) z_1).bind fun z_2 =>
    some ({ Times := x4_0, Bytes := z_2, Blocks := b_902_4 } : Block)
/-- hansom/hansomref24.Near -/
noncomputable def hansomref24_Near_b (self_ : Block → Int → Option Block) (b_ : Block) (deep_ : Int) : Option Block :=
  if (decide (deep_ > 1)) then
    hansomref24_Near_j7 self_ b_ ([] : List D) (IntKind.wrap .i64 ((bitsOp .and .i64 b_.Times 3) + 1)) deep_ (decide ((b_.Blocks.length : Int) > 0))
  else
    hansomref24_Near_j7 self_ b_ ([] : List D) (IntKind.wrap .i64 ((bitsOp .and .i64 b_.Times 3) + 1)) deep_ false
noncomputable def hansomref24_Near : Nat → Block → Int → Option Block
  | 0, _, _ => none
  | n_ + 1, b_, deep_ => hansomref24_Near_b (hansomref24_Near n_) b_ deep_
noncomputable def hansomref24_Spread_l8 (self_ : Block → Option (List UInt8)) (b1 : Block) (once3 : (List UInt8)) (s4 : (List UInt8)) (i5 : Int) : Option (Lp ((List UInt8) × Int) (List UInt8)) :=
  if (decide (i5 < (b1.Blocks.length : Int))) then
    (idx b1.Blocks i5).bind fun z_1 =>
    (ofD Block.d z_1).bind fun z_2 =>
    (self_ z_2).bind fun r_1 =>
    (catS once3 r_1).bind fun z_3 =>
    some (.next (z_3, (IntKind.wrap .i64 (i5 + 1))))
  else
    some (.out once3)
noncomputable def hansomref24_Spread_l23 (self_ : Block → Option (List UInt8)) (b1 : Block) (once3 : (List UInt8)) (s4 : (List UInt8)) (i6 : Int) : Option (Lp ((List UInt8) × Int) (List UInt8)) :=
  if (decide (i6 < b1.Times)) then
    (catS s4 once3).bind fun z_1 =>
    some (.next (z_1, (IntKind.wrap .i64 (i6 + 1))))
  else
    some (.out s4)
/-- hansom/hansomref24.Spread -/
noncomputable def hansomref24_Spread_b (self_ : Block → Option (List UInt8)) (b_ : Block) : Option (List UInt8) :=
  (loopO (fun x : ((List UInt8) × Int) => hansomref24_Spread_l8 self_ b_ x.1 ([] : List UInt8) x.2) ((b2s b_.Bytes), 0)).bind fun e_1 =>
  (loopO (fun x : ((List UInt8) × Int) => hansomref24_Spread_l23 self_ b_ e_1 x.1 x.2) (([] : List UInt8), 0)).bind fun e_2 =>
  some e_2
noncomputable def hansomref24_Spread : Nat → Block → Option (List UInt8)
  | 0, _ => none
  | n_ + 1, b_ => hansomref24_Spread_b (hansomref24_Spread n_) b_
noncomputable def iter_may_l30 (self_ : Block → Int → Option Bool) (depth1 : Int) (t44 : (List D)) (t45 : Int) (t46 : Int) : Option (Lp Int (Bool ⊕ Unit)) :=
  if (decide (t46 < t45)) then
    (idx t44 t46).bind fun z_1 =>
    (ofD Block.d z_1).bind fun z_2 =>
    (self_ z_2 (IntKind.wrap .i64 (depth1 + 1))).bind fun r_1 =>
    if (!r_1) then
      some (.out (.inl false))
    else
      some (.next (IntKind.wrap .i64 (t46 + 1)))
  else
    some (.out (.inr ()))
/-- hansom/iter.may -/
noncomputable def iter_may_b (self_ : Block → Int → Option Bool) (b_ : Block) (depth_ : Int) : Option Bool :=
  if (decide (depth_ > 8)) then
    some false
  else
    if (decide (b_.Times < 1)) then
      some false
    else
      if (decide (b_.Times > 65535)) then
        some false
      else
        if (decide ((b_.Blocks.length : Int) > 65535)) then
          some false
        else
          if ((b_.Blocks.length : Int) == 0) then
            if (decide ((b_.Bytes.length : Int) ≥ 1)) then
              some (decide ((b_.Bytes.length : Int) ≤ 255))
            else
              some false
          else
            if (decide ((b_.Bytes.length : Int) > 0)) then
              some false
            else
              (loopO (fun x : Int => iter_may_l30 self_ depth_ b_.Blocks (b_.Blocks.length : Int) x) 0).bind fun e_1 =>
              match e_1 with
              | .inl e_2 =>
                some e_2
              | .inr e_3 =>
                some true
noncomputable def iter_may : Nat → Block → Int → Option Bool
  | 0, _, _ => none
  | n_ + 1, b_, depth_ => iter_may_b (iter_may n_) b_ depth_
/-- hansom/iter.May -/
noncomputable def iter_May (b_ : Block) : Option Bool :=
  (iter_may 64 b_ 1).bind fun r_1 =>
  some r_1
noncomputable def iter_Size_l8 (self_ : Block → Option Int) (b1 : Block) (n3 : Int) (t10 : (List D)) (t11 : Int) (t12 : Int) : Option (Lp (Int × Int) Int) :=
  if (decide (t12 < t11)) then
    (idx t10 t12).bind fun z_1 =>
    (ofD Block.d z_1).bind fun z_2 =>
    (self_ z_2).bind fun r_1 =>
    some (.next ((mnI (IntKind.wrap .i64 (n3 + r_1)) 65537), (IntKind.wrap .i64 (t12 + 1))))
  else
    some (.out n3)
/-- hansom/iter.Size -/
noncomputable def iter_Size_b (self_ : Block → Option Int) (b_ : Block) : Option Int :=
  (loopO (fun x : (Int × Int) => iter_Size_l8 self_ b_ x.1 b_.Blocks (b_.Blocks.length : Int) x.2) ((b_.Bytes.length : Int), 0)).bind fun e_1 =>
  some (mnI (IntKind.wrap .i64 (e_1 * (mnI (mxI b_.Times 0) 65537))) 65537)
noncomputable def iter_Size : Nat → Block → Option Int
  | 0, _ => none
  | n_ + 1, b_ => iter_Size_b (iter_Size n_) b_
/-- slices.Clone[[]byte,byte] -/
noncomputable def slices_Clone_Lbyte (s_ : List Int) : Option (List Int) := grow 1 [] s_
/-- math/bits.Mul64 -/
noncomputable def math_bits_Mul64 (x_ : Int) (y_ : Int) : Option (Int × Int) :=
  some ((IntKind.wrap .u64 ((IntKind.wrap .u64 ((IntKind.wrap .u64 ((shrI .u64 x_ 32) * (shrI .u64 y_ 32))) + (shrI .u64 (IntKind.wrap .u64 ((IntKind.wrap .u64 ((shrI .u64 x_ 32) * (bitsOp .and .u64 y_ 4294967295))) + (shrI .u64 (IntKind.wrap .u64 ((bitsOp .and .u64 x_ 4294967295) * (bitsOp .and .u64 y_ 4294967295))) 32))) 32))) + (shrI .u64 (IntKind.wrap .u64 ((bitsOp .and .u64 (IntKind.wrap .u64 ((IntKind.wrap .u64 ((shrI .u64 x_ 32) * (bitsOp .and .u64 y_ 4294967295))) + (shrI .u64 (IntKind.wrap .u64 ((bitsOp .and .u64 x_ 4294967295) * (bitsOp .and .u64 y_ 4294967295))) 32))) 4294967295) + (IntKind.wrap .u64 ((bitsOp .and .u64 x_ 4294967295) * (shrI .u64 y_ 32))))) 32))), (IntKind.wrap .u64 (x_ * y_)))
/-- math/bits.Mul -/
noncomputable def math_bits_Mul (x_ : Int) (y_ : Int) : Option (Int × Int) :=
  (math_bits_Mul64 x_ y_).bind fun r_1 =>
  some (r_1.1, r_1.2)
noncomputable def slices_Repeat_Lbyte_l22 (b_30 : (List Int)) (n8 : Int) : Option (Lp ((List Int) × Int) (List Int)) :=
  if (decide (n8 < (b_30.length : Int))) then
    (cutL b_30 n8 (b_30.length : Int)).bind fun z_2 =>
    (cutL b_30 0 n8).bind fun z_3 =>
    some (.next ((cpy b_30 (0 + (n8).toNat) ((b_30.length : Int).toNat - (n8).toNat) z_3), (IntKind.wrap .i64 (n8 + ((min z_3.length ((b_30.length : Int).toNat - (n8).toNat) : Nat) : Int)))))
  else
    some (.out b_30)
/-- slices.Repeat[[]byte,byte] -/
noncomputable def slices_Repeat_Lbyte (x_ : (List Int)) (count_ : Int) : Option (List Int) :=
  if (decide (count_ < 0)) then
    none
  else
    (math_bits_Mul (IntKind.wrap .u64 (x_.length : Int)) (IntKind.wrap .u64 count_)).bind fun r_1 =>
    if (decide (r_1.1 > 0)) then
      none
    else
      if (decide (r_1.2 > 9223372036854775807)) then
        none
      else
        (mk 1 0 (IntKind.wrap .i64 r_1.2)).bind fun z_1 =>
        (loopO (fun x : ((List Int) × Int) => slices_Repeat_Lbyte_l22 x.1 x.2) ((cpy z_1 0 (List.map (D.int .u8) z_1).length x_), ((min x_.length (List.map (D.int .u8) z_1).length : Nat) : Int))).bind fun e_1 =>
        some e_1
noncomputable def iter_Spread_l16 (self_ : Block → Option ((List Int) × Bool)) (b1 : Block) (b_19 : (List Int)) (t21 : (List D)) (t22 : Int) (t23 : Int) : Option (Lp ((List Int) × Int) (List Int)) :=
  if (decide (t23 < t22)) then
    (idx t21 t23).bind fun z_1 =>
    (ofD Block.d z_1).bind fun z_2 =>
    (self_ z_2).bind fun r_4 =>
    (grow 1 b_19 r_4.1).bind fun z_3 =>
    some (.next (z_3, (IntKind.wrap .i64 (t23 + 1))))
  else
    some (.out b_19)
/-- hansom/iter.Spread -/
noncomputable def iter_Spread_b (self_ : Block → Option ((List Int) × Bool)) (b_ : Block) : Option ((List Int) × Bool) :=
  (iter_May b_).bind fun r_1 =>
  if (!r_1) then
    some (([] : List Int), false)
  else
    (iter_Size 64 b_).bind fun r_2 =>
    if (decide (r_2 > 65536)) then
      some (([] : List Int), false)
    else
      (slices_Clone_Lbyte b_.Bytes).bind fun r_3 =>
      (loopO (fun x : ((List Int) × Int) => iter_Spread_l16 self_ b_ x.1 b_.Blocks (b_.Blocks.length : Int) x.2) (r_3, 0)).bind fun e_1 =>
      (slices_Repeat_Lbyte e_1 b_.Times).bind fun r_4 =>
      some (r_4, true)
noncomputable def iter_Spread : Nat → Block → Option ((List Int) × Bool)
  | 0, _ => none
  | n_ + 1, b_ => iter_Spread_b (iter_Spread n_) b_
/-- hansom/bits.Low -/
noncomputable def bits_Low (w_ : Int) : Option Int :=
  some (IntKind.wrap .u8 w_)
/-- hansom/bits.High -/
noncomputable def bits_High (w_ : Int) : Option Int :=
  some (IntKind.wrap .u8 (shrI .u16 w_ 8))
/-- hansom/index.Two -/
noncomputable def index_Two (w_ : Int) : Option (List Int) :=
  (bits_Low w_).bind fun r_1 =>
  (bits_High w_).bind fun r_2 =>
  some ([r_1, r_2] : List Int)
/-- hansom/index.Name -/
noncomputable def index_Name (s_ : (List UInt8)) : Option (List Int) :=
  (cutL s_ 0 (mnI (s_.length : Int) 255)).bind fun z_1 =>
  (grow 1 ([(IntKind.wrap .u8 (z_1.length : Int))] : List Int) (s2b z_1)).bind fun z_2 =>
  some z_2
noncomputable def iter_Put_l16 (self_ : Block → Option (List Int)) (b_9 : (List Int)) (t27 : (List D)) (t28 : Int) (t29 : Int) : Option (Lp ((List Int) × Int) (List Int)) :=
  if (decide (t29 < t28)) then
    (idx t27 t29).bind fun z_3 =>
    (ofD Block.d z_3).bind fun z_4 =>
    (self_ z_4).bind fun r_4 =>
    (grow 1 b_9 r_4).bind fun z_5 =>
    some (.next (z_5, (IntKind.wrap .i64 (t29 + 1))))
  else
    some (.out b_9)
/-- hansom/iter.Put -/
noncomputable def iter_Put_b (self_ : Block → Option (List Int)) (b_ : Block) : Option (List Int) :=
  (index_Two (IntKind.wrap .u16 b_.Times)).bind fun r_1 =>
  (index_Two (IntKind.wrap .u16 (b_.Blocks.length : Int))).bind fun r_2 =>
  (grow 1 r_1 r_2).bind fun z_1 =>
  if ((b_.Blocks.length : Int) == 0) then
    (index_Name (b2s b_.Bytes)).bind fun r_3 =>
    (grow 1 z_1 r_3).bind fun z_2 =>
    some z_2
  else
    (loopO (fun x : ((List Int) × Int) => iter_Put_l16 self_ x.1 b_.Blocks (b_.Blocks.length : Int) x.2) (z_1, 0)).bind fun e_1 =>
    some e_1
noncomputable def iter_Put : Nat → Block → Option (List Int)
  | 0, _ => none
  | n_ + 1, b_ => iter_Put_b (iter_Put n_) b_
noncomputable def hansomref18_Bytes_l8 (n0 : Int) (many1 : Int) (s5 : (List UInt8)) (i6 : Int) : Option (Lp (Int × (List UInt8) × Int) (List UInt8)) :=
  if (decide (i6 < many1)) then
    (catS s5 (b2s ([(IntKind.wrap .u8 (Int.tmod n0 256))] : List Int))).bind fun z_1 =>
    some (.next ((IntKind.wrap .u64 (Int.tdiv n0 256)), z_1, (IntKind.wrap .i64 (i6 + 1))))
  else
    some (.out s5)
/-- hansom/hansomref18.Bytes -/
noncomputable def hansomref18_Bytes (n_ : Int) (many_ : Int) : Option (List UInt8) :=
  (loopO (fun x : (Int × (List UInt8) × Int) => hansomref18_Bytes_l8 x.1 many_ x.2.1 x.2.2) (n_, ([] : List UInt8), 0)).bind fun e_1 =>
  some e_1
/-- hansom/hansomref18.Name -/
noncomputable def hansomref18_Name (s_ : (List UInt8)) : Option (List UInt8) :=
  if (decide ((s_.length : Int) > 255)) then
    (cutL s_ 0 255).bind fun z_1 =>
    (catS (b2s ([(IntKind.wrap .u8 (z_1.length : Int))] : List Int)) z_1).bind fun z_2 =>
    some z_2
  else
    (catS (b2s ([(IntKind.wrap .u8 (s_.length : Int))] : List Int)) s_).bind fun z_3 =>
    some z_3
noncomputable def hansomref24_Put_l16 (self_ : Block → Option (List UInt8)) (b1 : Block) (s3 : (List UInt8)) (i4 : Int) : Option (Lp ((List UInt8) × Int) (List UInt8)) :=
  if (decide (i4 < (b1.Blocks.length : Int))) then
    (idx b1.Blocks i4).bind fun z_3 =>
    (ofD Block.d z_3).bind fun z_4 =>
    (self_ z_4).bind fun r_4 =>
    (catS s3 r_4).bind fun z_5 =>
    some (.next (z_5, (IntKind.wrap .i64 (i4 + 1))))
  else
    some (.out s3)
/-- hansom/hansomref24.Put -/
noncomputable def hansomref24_Put_b (self_ : Block → Option (List UInt8)) (b_ : Block) : Option (List UInt8) :=
  (hansomref18_Bytes (IntKind.wrap .u64 b_.Times) 2).bind fun r_1 =>
  (hansomref18_Bytes (IntKind.wrap .u64 (b_.Blocks.length : Int)) 2).bind fun r_2 =>
  (catS r_1 r_2).bind fun z_1 =>
  if ((b_.Blocks.length : Int) == 0) then
    (hansomref18_Name (b2s b_.Bytes)).bind fun r_3 =>
    (catS z_1 r_3).bind fun z_2 =>
    some z_2
  else
    (loopO (fun x : ((List UInt8) × Int) => hansomref24_Put_l16 self_ b_ x.1 x.2) (z_1, 0)).bind fun e_1 =>
    some e_1
noncomputable def hansomref24_Put : Nat → Block → Option (List UInt8)
  | 0, _ => none
  | n_ + 1, b_ => hansomref24_Put_b (hansomref24_Put n_) b_
/-- hansom/hansomlaw24.IterSpreads -/
noncomputable def hansomlaw24_IterSpreads (b_ : Block) (deep_ : Int) : Option Bool :=
  (hansomref24_Near 64 b_ (IntKind.wrap .i64 ((bitsOp .and .i64 deep_ 3) + 1))).bind fun r_1 =>
  (hansomref24_Spread 64 r_1).bind fun r_2 =>
  (iter_Spread 64 r_1).bind fun r_3 =>
  (hansomlaw24_awake).bind fun r_4 =>
  if r_4 then
    (iter_May r_1).bind fun r_5 =>
    if r_5 then
      if r_3.2 then
        if ((b2s r_3.1) == r_2) then
          (iter_Size 64 r_1).bind fun r_6 =>
          if (r_6 == (r_2.length : Int)) then
            (iter_Put 64 r_1).bind fun r_7 =>
            (hansomref24_Put 64 r_1).bind fun r_8 =>
            some ((b2s r_7) == r_8)
          else
            some false
        else
          some false
      else
        some false
    else
      some false
  else
    some false
end Go.Es.Its
