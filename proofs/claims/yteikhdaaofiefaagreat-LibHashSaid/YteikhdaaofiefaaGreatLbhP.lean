/- What the functions that the law LibHash reaches answer, in plain Lean. No condition. -/
import Derived.Test.YteikhdaaofiefaaGreatEsD
set_option linter.unusedVariables false
set_option linter.unusedSimpArgs false
set_option maxRecDepth 100000
set_option maxHeartbeats 4000000
namespace Go.Es.Lbh
structure Where where
  Block : Int
  Bucket : Int
  BlockD : Int
  BuckD : Int
  deriving DecidableEq, Inhabited
def Where.cs (x : Where) : List D := [.int .i64 x.Block, .int .i64 x.Bucket, .int .i64 x.BlockD, .int .i64 x.BuckD]
def Where.d (x : Where) : D := .agg (Where.cs x)
def Where.wf (x : Where) : Prop := wfI .i64 x.Block ∧ wfI .i64 x.Bucket ∧ wfI .i64 x.BlockD ∧ wfI .i64 x.BuckD
/-- hansom/hansomref18.Name -/
noncomputable def hansomref18_Name (s_ : (List UInt8)) : Option (List UInt8) :=
  if (decide ((s_.length : Int) > 255)) then
    (cutL s_ 0 255).bind fun z_1 =>
    (catS (b2s ([(IntKind.wrap .u8 (z_1.length : Int))] : List Int)) z_1).bind fun z_2 =>
    some z_2
  else
    (catS (b2s ([(IntKind.wrap .u8 (s_.length : Int))] : List Int)) s_).bind fun z_3 =>
    some z_3
/-- hansom/index.Name -/
noncomputable def index_Name (s_ : (List UInt8)) : Option (List Int) :=
  (cutL s_ 0 (mnI (s_.length : Int) 255)).bind fun z_1 =>
  (grow 1 ([(IntKind.wrap .u8 (z_1.length : Int))] : List Int) (s2b z_1)).bind fun z_2 =>
  some z_2
/-- math/bits.RotateLeft16 -/
noncomputable def math_bits_RotateLeft16 (x_ : Int) (k_ : Int) : Option Int :=
  (shlO .u16 x_ (bitsOp .and .u64 (IntKind.wrap .u64 k_) 15)).bind fun z_1 =>
  (shrO .u16 x_ (IntKind.wrap .u64 (16 - (bitsOp .and .u64 (IntKind.wrap .u64 k_) 15)))).bind fun z_2 =>
  some (bitsOp .or .u16 z_1 z_2)
noncomputable def lib_Hash_l12 (b_4 : Where) (blocks1 : Int) (b5 : (List Int)) (block6 : Int) (blockD7 : Int) (bucket8 : Int) (bucketD9 : Int) (t19 : Int) (t20 : Int) : Option (Lp (Int × Int × Int × Int × Int) (Int × Int × Int × Int)) :=
  if (decide (t20 < t19)) then
    (idx b5 t20).bind fun z_1 =>
    (idx b5 (IntKind.wrap .i64 ((IntKind.wrap .i64 ((b5.length : Int) - 1)) - t20))).bind fun z_2 =>
    (math_bits_RotateLeft16 block6 2).bind fun r_2 =>
    (math_bits_RotateLeft16 bucketD9 (-2)).bind fun r_3 =>
    (math_bits_RotateLeft16 bucket8 (-2)).bind fun r_4 =>
    (math_bits_RotateLeft16 blockD7 2).bind fun r_5 =>
    some (.next ((bitsOp .xor .u16 r_2 (IntKind.wrap .u16 (bitsOp .or .u8 z_1 32))), (bitsOp .xor .u16 r_5 (IntKind.wrap .u16 (bitsOp .or .u8 z_2 32))), (bitsOp .xor .u16 r_4 (IntKind.wrap .u16 (bitsOp .or .u8 z_2 32))), (bitsOp .xor .u16 r_3 (IntKind.wrap .u16 (bitsOp .or .u8 z_1 32))), (IntKind.wrap .i64 (t20 + 1))))
  else
    some (.out (block6, blockD7, bucket8, bucketD9))
/-- hansom/lib.Hash -/
noncomputable def lib_Hash (name_ : (List UInt8)) (blocks_ : Int) : Option Where :=
  (index_Name name_).bind fun r_1 =>
  (loopO (fun x : (Int × Int × Int × Int × Int) => lib_Hash_l12 ({ Block := 0, Bucket := 0, BlockD := 0, BuckD := 0 } : Where) (mxI blocks_ 1) r_1 x.1 x.2.1 x.2.2.1 x.2.2.2.1 (IntKind.wrap .i64 ((r_1.length : Int) - 1)) x.2.2.2.2) (0, 0, 0, 0, 0)).bind fun e_1 =>
  (remI .i64 (IntKind.wrap .i64 e_1.1) (mxI blocks_ 1)).bind fun z_1 =>
  (remI .i64 (IntKind.wrap .i64 e_1.2.1) (mxI blocks_ 1)).bind fun z_2 =>
  some ({ Block := z_1, Bucket := (Int.tmod (IntKind.wrap .i64 e_1.2.2.1) 37), BlockD := (mxI z_2 1), BuckD := (mxI (Int.tmod (IntKind.wrap .i64 e_1.2.2.2) 37) 1) } : Where)
def hansomlaw27_awake : Option Bool := some true

noncomputable def hansomlaw27_LibHash_j37 (v8 : (A4 Int)) (t5 : (List UInt8)) (n6 : Int) (b7 : (List UInt8)) (i9 : Int) (f10 : Int) (g11 : Int) : Option (Lp ((A4 Int) × Int) (A4 Int)) :=
  some (.next (({ a0 := (bitsOp .xor .i64 (IntKind.wrap .i64 ((Int.tmod (IntKind.wrap .i64 (v8.a0 * 4)) 65536) + (IntKind.wrap .i64 (Int.tdiv v8.a0 16384)))) f10), a1 := (bitsOp .xor .i64 (IntKind.wrap .i64 ((IntKind.wrap .i64 (Int.tdiv v8.a1 4)) + (IntKind.wrap .i64 ((Int.tmod v8.a1 4) * 16384)))) g11), a2 := (bitsOp .xor .i64 (IntKind.wrap .i64 ((Int.tmod (IntKind.wrap .i64 (v8.a2 * 4)) 65536) + (IntKind.wrap .i64 (Int.tdiv v8.a2 16384)))) g11), a3 := (bitsOp .xor .i64 (IntKind.wrap .i64 ((IntKind.wrap .i64 (Int.tdiv v8.a3 4)) + (IntKind.wrap .i64 ((Int.tmod v8.a3 4) * 16384)))) f10) } : (A4 Int)), (IntKind.wrap .i64 (i9 + 1))))
noncomputable def hansomlaw27_LibHash_j31 (v8 : (A4 Int)) (t5 : (List UInt8)) (n6 : Int) (b7 : (List UInt8)) (i9 : Int) (f10 : Int) (g11 : Int) : Option (Lp ((A4 Int) × Int) (A4 Int)) :=
  if ((Int.tmod (IntKind.wrap .i64 (Int.tdiv g11 32)) 2) == 0) then
    hansomlaw27_LibHash_j37 v8 t5 n6 b7 i9 f10 (IntKind.wrap .i64 (g11 + 32))
  else
    hansomlaw27_LibHash_j37 v8 t5 n6 b7 i9 f10 g11
noncomputable def hansomlaw27_LibHash_l14 (v8 : (A4 Int)) (t5 : (List UInt8)) (n6 : Int) (b7 : (List UInt8)) (i9 : Int) : Option (Lp ((A4 Int) × Int) (A4 Int)) :=
  if (decide (i9 < (t5.length : Int))) then
    (idx b7 i9).bind fun z_2 =>
    (idx b7 (IntKind.wrap .i64 ((IntKind.wrap .i64 ((b7.length : Int) - 1)) - i9))).bind fun z_3 =>
    if ((Int.tmod (IntKind.wrap .i64 (Int.tdiv (IntKind.wrap .i64 (z_2.toNat : Int)) 32)) 2) == 0) then
      hansomlaw27_LibHash_j31 v8 t5 n6 b7 i9 (IntKind.wrap .i64 ((IntKind.wrap .i64 (z_2.toNat : Int)) + 32)) (IntKind.wrap .i64 (z_3.toNat : Int))
    else
      hansomlaw27_LibHash_j31 v8 t5 n6 b7 i9 (IntKind.wrap .i64 (z_2.toNat : Int)) (IntKind.wrap .i64 (z_3.toNat : Int))
  else
    some (.out v8)
/-- hansom/hansomlaw27.LibHash -/
noncomputable def hansomlaw27_LibHash (s_ : (List UInt8)) (blocks_ : Int) : Option Bool :=
  (cutL s_ 0 (mnI (s_.length : Int) 255)).bind fun z_1 =>
  (hansomref18_Name z_1).bind fun r_1 =>
  (loopO (fun x : ((A4 Int) × Int) => hansomlaw27_LibHash_l14 x.1 z_1 (IntKind.wrap .i64 ((bitsOp .and .i64 blocks_ 1023) + 1)) r_1 x.2) (({ a0 := 0, a1 := 0, a2 := 0, a3 := 0 } : (A4 Int)), 0)).bind fun e_1 =>
  (hansomlaw27_awake).bind fun r_2 =>
  if r_2 then
    (lib_Hash z_1 (IntKind.wrap .i64 ((bitsOp .and .i64 blocks_ 1023) + 1))).bind fun r_3 =>
    (remI .i64 e_1.a0 (IntKind.wrap .i64 ((bitsOp .and .i64 blocks_ 1023) + 1))).bind fun z_2 =>
    (remI .i64 e_1.a2 (IntKind.wrap .i64 ((bitsOp .and .i64 blocks_ 1023) + 1))).bind fun z_3 =>
    if (r_3.Block == z_2 && (r_3.Bucket == (Int.tmod e_1.a1 37) && (r_3.BlockD == (mxI z_3 1) && (r_3.BuckD == (mxI (Int.tmod e_1.a3 37) 1) && true)))) then
      (lib_Hash z_1 (IntKind.wrap .i64 (0 - (IntKind.wrap .i64 ((bitsOp .and .i64 blocks_ 1023) + 1))))).bind fun r_4 =>
      (lib_Hash z_1 1).bind fun r_5 =>
      some (r_4.Block == r_5.Block && (r_4.Bucket == r_5.Bucket && (r_4.BlockD == r_5.BlockD && (r_4.BuckD == r_5.BuckD && true))))
    else
      some false
  else
    some false
end Go.Es.Lbh
