/- What the functions that the law ApplyValues reaches answer, in plain Lean. No condition. -/
import Derived.Test.YtbogbgbpahonoaaEsD
set_option linter.unusedVariables false
set_option linter.unusedSimpArgs false
set_option maxRecDepth 100000
set_option maxHeartbeats 4000000
namespace Go.Es.Apv
structure Fixup where
  At : Int
  Loc : Int
  Self : Bool
  Frame : Int
  FrameN : Int
  Target : Int
  N : Int
  Disp : Int
  deriving DecidableEq, Inhabited
def Fixup.cs (x : Fixup) : List D := [.int .i64 x.At, .int .i64 x.Loc, .bool x.Self, .int .i64 x.Frame, .int .i64 x.FrameN, .int .i64 x.Target, .int .i64 x.N, .int .u16 x.Disp]
def Fixup.d (x : Fixup) : D := .agg (Fixup.cs x)
structure Spot where
  At : Int
  Para : Int
  Fixed : Bool
  deriving DecidableEq, Inhabited
def Spot.cs (x : Spot) : List D := [.int .i64 x.At, .int .i64 x.Para, .bool x.Fixed]
def Spot.d (x : Spot) : D := .agg (Spot.cs x)
def Fixup.wf (x : Fixup) : Prop := wfI .i64 x.At ∧ wfI .i64 x.Loc ∧ (fun _ => True) x.Self ∧ wfI .i64 x.Frame ∧ wfI .i64 x.FrameN ∧ wfI .i64 x.Target ∧ wfI .i64 x.N ∧ wfI .u16 x.Disp
def Spot.wf (x : Spot) : Prop := wfI .i64 x.At ∧ wfI .i64 x.Para ∧ (fun _ => True) x.Fixed
/-- hansom/hansomlaw42.awake -/
noncomputable def hansomlaw42_awake : Option Bool := some true
/-- hansom/hansomref25.Size -/
noncomputable def hansomref25_Size (loc_ : Int) : Option Int :=
  if (loc_ == 0) then
    some 1
  else
    if (loc_ == 4) then
      some 1
    else
      if (loc_ == 3) then
        some 4
      else
        some 2
noncomputable def hansomref25_Near_l12 (f3 : Fixup) (many5 : (A3 Int)) (x6 : Fixup) : Option (Lp Fixup Fixup) :=
  (idx many5.l x6.Target).bind fun z_2 =>
  if (z_2 == 0) then
    some (.next ({ x6 with Target := (Int.tmod (IntKind.wrap .i64 (x6.Target + 1)) 3) } : Fixup))
  else
    some (.out x6)
noncomputable def hansomref25_Near_j33 (f3 : Fixup) (many5 : (A3 Int)) (x6 : Fixup) : Option Fixup :=
  (idx many5.l x6.Target).bind fun z_3 =>
  (remI .i64 (bitsOp .and .i64 f3.N 255) z_3).bind fun z_4 =>
  if (decide (x6.Frame < 3)) then
    (idx many5.l x6.Frame).bind fun z_5 =>
    (remI .i64 (bitsOp .and .i64 f3.FrameN 255) z_5).bind fun z_6 =>
    some ({ x6 with FrameN := (IntKind.wrap .i64 (z_6 + 1)), N := (IntKind.wrap .i64 (z_4 + 1)), Disp := f3.Disp } : Fixup)
  else
    some ({ x6 with N := (IntKind.wrap .i64 (z_4 + 1)), Disp := f3.Disp } : Fixup)
noncomputable def hansomref25_Near_j27 (f3 : Fixup) (many5 : (A3 Int)) (x6 : Fixup) : Option Fixup :=
  if (decide (x6.Frame < 3)) then
    (idx many5.l x6.Frame).bind fun z_2 =>
    if (z_2 == 0) then
      hansomref25_Near_j33 f3 many5 ({ x6 with Frame := 5 } : Fixup)
    else
      hansomref25_Near_j33 f3 many5 x6
  else
    hansomref25_Near_j33 f3 many5 x6
noncomputable def hansomref25_Near_j6 (f3 : Fixup) (many5 : (A3 Int)) (x6 : Fixup) (n1 : Int) : Option Fixup :=
  (hansomref25_Size x6.Loc).bind fun r_1 =>
  (remI .i64 (bitsOp .and .i64 f3.At 65535) (mnI (IntKind.wrap .i64 ((IntKind.wrap .i64 (n1 - r_1)) + 1)) 1024)).bind fun z_1 =>
  (loopO (fun x : Fixup => hansomref25_Near_l12 f3 many5 x) ({ x6 with At := z_1, Frame := (Int.tmod (bitsOp .and .i64 f3.Frame 255) 5), Target := (Int.tmod (bitsOp .and .i64 f3.Target 255) 3) } : Fixup)).bind fun e_1 =>
  if (e_1.Frame == 3) then
    hansomref25_Near_j27 f3 many5 ({ e_1 with Frame := 5 } : Fixup)
  else
    hansomref25_Near_j27 f3 many5 e_1
/-- hansom/hansomref25.Near -/
noncomputable def hansomref25_Near (f_ : Fixup) (n_ : Int) (many_ : (A3 Int)) : Option Fixup :=
  if f_.Self then
    hansomref25_Near_j6 ({ f_ with Self := true } : Fixup) many_ ({ At := 0, Loc := (Int.tmod (bitsOp .and .i64 f_.Loc 255) 5), Self := (decide ((Int.tmod (bitsOp .and .i64 f_.Loc 255) 5) < 2)), Frame := 0, FrameN := 0, Target := 0, N := 0, Disp := 0 } : Fixup) n_
  else
    hansomref25_Near_j6 ({ f_ with Self := false } : Fixup) many_ ({ At := 0, Loc := (Int.tmod (bitsOp .and .i64 f_.Loc 255) 5), Self := false, Frame := 0, FrameN := 0, Target := 0, N := 0, Disp := 0 } : Fixup) n_
/-- hansom/fixup.Size -/
noncomputable def fixup_Size (loc_ : Int) : Option Int :=
  if (loc_ == 0) then
    some 1
  else
    if (loc_ == 4) then
      some 1
    else
      if (loc_ == 3) then
        some 4
      else
        some 2
/-- hansom/apply.Value -/
noncomputable def apply_Value (f_ : Fixup) (t_ : Spot) (frame_ : Spot) (at_ : Int) (fixed_ : Bool) : Option (Int × Int × Int) :=
  if (decide ((IntKind.wrap .i64 (t_.At - (shlI .i64 frame_.Para 4))) < 0)) then
    some (0, 0, 9)
  else
    if (decide ((IntKind.wrap .i64 (t_.At - (shlI .i64 frame_.Para 4))) ≥ 65536)) then
      some (0, 0, 9)
    else
      if (!f_.Self) then
        some ((IntKind.wrap .u16 (IntKind.wrap .i64 (t_.At - (shlI .i64 frame_.Para 4)))), (IntKind.wrap .u16 frame_.Para), 0)
      else
        (fixup_Size f_.Loc).bind fun r_1 =>
        if (fixed_ != t_.Fixed) then
          some (0, 0, 9)
        else
          if (decide ((IntKind.wrap .i64 ((IntKind.wrap .i64 (at_ + r_1)) - (shlI .i64 frame_.Para 4))) < 0)) then
            some (0, 0, 9)
          else
            if (decide ((IntKind.wrap .i64 ((IntKind.wrap .i64 (at_ + r_1)) - (shlI .i64 frame_.Para 4))) > 65536)) then
              some (0, 0, 9)
            else
              if (f_.Loc == 0) then
                if (decide ((IntKind.wrap .i64 (t_.At - (IntKind.wrap .i64 (at_ + r_1)))) < (-128))) then
                  some (0, 0, 9)
                else
                  if (decide ((IntKind.wrap .i64 (t_.At - (IntKind.wrap .i64 (at_ + r_1)))) > 127)) then
                    some (0, 0, 9)
                  else
                    some ((IntKind.wrap .u16 (IntKind.wrap .i64 (t_.At - (IntKind.wrap .i64 (at_ + r_1))))), 0, 0)
              else
                some ((IntKind.wrap .u16 (IntKind.wrap .i64 (t_.At - (IntKind.wrap .i64 (at_ + r_1))))), 0, 0)
noncomputable def hansomlaw42_ApplyValues_j48 (off11 : Int) (para12 : Int) (e13 : Int) (d16 : Int) (bad17 : Bool) : Option Bool :=
  if bad17 then
    (hansomlaw42_awake).bind fun r_6 =>
    if r_6 then
      some (e13 == 9)
    else
      some false
  else
    (hansomlaw42_awake).bind fun r_7 =>
    if r_7 then
      if (e13 == 0) then
        if (off11 == (IntKind.wrap .u16 d16)) then
          some (para12 == 0)
        else
          some false
      else
        some false
    else
      some false
noncomputable def hansomlaw42_ApplyValues_j29 (x7 : Fixup) (t8 : Spot) (frame9 : Spot) (fixed2 : Bool) (at10 : Int) (off11 : Int) (para12 : Int) (e13 : Int) (o14 : Int) (t85 : Bool) : Option Bool :=
  if t85 then
    (hansomlaw42_awake).bind fun r_3 =>
    if r_3 then
      if (e13 == 9) then
        if (off11 == 0) then
          some (para12 == 0)
        else
          some false
      else
        some false
    else
      some false
  else
    if (!x7.Self) then
      (hansomlaw42_awake).bind fun r_4 =>
      if r_4 then
        if (e13 == 0) then
          if ((IntKind.wrap .i64 off11) == o14) then
            some ((IntKind.wrap .i64 para12) == (Int.tmod frame9.Para 65536))
          else
            some false
        else
          some false
      else
        some false
    else
      (hansomref25_Size x7.Loc).bind fun r_5 =>
      if (fixed2 != t8.Fixed) then
        hansomlaw42_ApplyValues_j48 off11 para12 e13 (IntKind.wrap .i64 (t8.At - (IntKind.wrap .i64 (at10 + r_5)))) true
      else
        if (decide ((IntKind.wrap .i64 (at10 + r_5)) < (IntKind.wrap .i64 (16 * frame9.Para)))) then
          hansomlaw42_ApplyValues_j48 off11 para12 e13 (IntKind.wrap .i64 (t8.At - (IntKind.wrap .i64 (at10 + r_5)))) true
        else
          if (decide ((IntKind.wrap .i64 ((IntKind.wrap .i64 (at10 + r_5)) - (IntKind.wrap .i64 (16 * frame9.Para)))) > 65536)) then
            hansomlaw42_ApplyValues_j48 off11 para12 e13 (IntKind.wrap .i64 (t8.At - (IntKind.wrap .i64 (at10 + r_5)))) true
          else
            if (x7.Loc == 0) then
              if (decide ((IntKind.wrap .i64 (t8.At - (IntKind.wrap .i64 (at10 + r_5)))) < (-128))) then
                hansomlaw42_ApplyValues_j48 off11 para12 e13 (IntKind.wrap .i64 (t8.At - (IntKind.wrap .i64 (at10 + r_5)))) true
              else
                hansomlaw42_ApplyValues_j48 off11 para12 e13 (IntKind.wrap .i64 (t8.At - (IntKind.wrap .i64 (at10 + r_5)))) (decide ((IntKind.wrap .i64 (t8.At - (IntKind.wrap .i64 (at10 + r_5)))) > 127))
            else
              hansomlaw42_ApplyValues_j48 off11 para12 e13 (IntKind.wrap .i64 (t8.At - (IntKind.wrap .i64 (at10 + r_5)))) false
noncomputable def hansomlaw42_ApplyValues_j22 (x7 : Fixup) (t8 : Spot) (frame9 : Spot) (fixed2 : Bool) (at10 : Int) : Option Bool :=
  (apply_Value x7 t8 frame9 at10 fixed2).bind fun r_2 =>
  if (decide ((IntKind.wrap .i64 (t8.At - (IntKind.wrap .i64 (16 * frame9.Para)))) < 0)) then
    hansomlaw42_ApplyValues_j29 x7 t8 frame9 fixed2 at10 r_2.1 r_2.2.1 r_2.2.2 (IntKind.wrap .i64 (t8.At - (IntKind.wrap .i64 (16 * frame9.Para)))) true
  else
    hansomlaw42_ApplyValues_j29 x7 t8 frame9 fixed2 at10 r_2.1 r_2.2.1 r_2.2.2 (IntKind.wrap .i64 (t8.At - (IntKind.wrap .i64 (16 * frame9.Para)))) (decide ((IntKind.wrap .i64 (t8.At - (IntKind.wrap .i64 (16 * frame9.Para)))) > 65535))
noncomputable def hansomlaw42_ApplyValues_j14 (n4 : (A4 Int)) (x7 : Fixup) (t8 : Spot) (frame9 : Spot) (fixed2 : Bool) : Option Bool :=
  if (decide ((bitsOp .and .i64 n4.a3 4) > 0)) then
    hansomlaw42_ApplyValues_j22 x7 t8 frame9 fixed2 (mxI (IntKind.wrap .i64 ((IntKind.wrap .i64 (t8.At - (bitsOp .and .i64 n4.a2 511))) + 256)) 0)
  else
    hansomlaw42_ApplyValues_j22 x7 t8 frame9 fixed2 (bitsOp .and .i64 n4.a2 1048575)
/-- hansom/hansomlaw42.ApplyValues -/
noncomputable def hansomlaw42_ApplyValues (f_ : Fixup) (n_ : (A4 Int)) (fixed_ : Bool) : Option Bool :=
  (hansomref25_Near f_ 100 ({ a0 := 5, a1 := 5, a2 := 5 } : (A3 Int))).bind fun r_1 =>
  if (decide ((bitsOp .and .i64 n_.a3 2) > 0)) then
    hansomlaw42_ApplyValues_j14 n_ r_1 ({ At := (bitsOp .and .i64 n_.a0 1048575), Para := (shrI .i64 (bitsOp .and .i64 n_.a0 1048575) 4), Fixed := (decide ((bitsOp .and .i64 n_.a3 1) > 0)) } : Spot) ({ At := 0, Para := (bitsOp .and .i64 n_.a1 65535), Fixed := false } : Spot) fixed_
  else
    hansomlaw42_ApplyValues_j14 n_ r_1 ({ At := (bitsOp .and .i64 n_.a0 1048575), Para := (shrI .i64 (bitsOp .and .i64 n_.a0 1048575) 4), Fixed := (decide ((bitsOp .and .i64 n_.a3 1) > 0)) } : Spot) ({ At := 0, Para := (mxI (IntKind.wrap .i64 ((shrI .i64 (bitsOp .and .i64 n_.a0 1048575) 4) - (bitsOp .and .i64 n_.a1 8191))) 0), Fixed := false } : Spot) fixed_
end Go.Es.Apv
