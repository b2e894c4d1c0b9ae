/- What the functions that the law ApplyPuts reaches answer, in plain Lean. No condition. -/
import Derived.Test.YtbogbgbpahonoaaEsD
set_option linter.unusedVariables false
set_option linter.unusedSimpArgs false
set_option maxRecDepth 100000
set_option maxHeartbeats 4000000
namespace Go.Es.App
structure Fixup where
  At : Int
  Loc : Int
  Self : Bool
  Frame : Int
  FrameN : Int
  Target : Int
  N : Int
  Disp : Int
  deriving DecidableEq, Inhabited
def Fixup.cs (x : Fixup) : List D := [.int .i64 x.At, .int .i64 x.Loc, .bool x.Self, .int .i64 x.Frame, .int .i64 x.FrameN, .int .i64 x.Target, .int .i64 x.N, .int .u16 x.Disp]
def Fixup.d (x : Fixup) : D := .agg (Fixup.cs x)
def Fixup.wf (x : Fixup) : Prop := wfI .i64 x.At ∧ wfI .i64 x.Loc ∧ (fun _ => True) x.Self ∧ wfI .i64 x.Frame ∧ wfI .i64 x.FrameN ∧ wfI .i64 x.Target ∧ wfI .i64 x.N ∧ wfI .u16 x.Disp
/-- hansom/hansomlaw42.awake -/
noncomputable def hansomlaw42_awake : Option Bool := some true
/-- hansom/hansomref25.Size -/
noncomputable def hansomref25_Size (loc_ : Int) : Option Int :=
  if (loc_ == 0) then
    some 1
  else
    if (loc_ == 4) then
      some 1
    else
      if (loc_ == 3) then
        some 4
      else
        some 2
noncomputable def hansomref25_Near_l12 (f3 : Fixup) (many5 : (A3 Int)) (x6 : Fixup) : Option (Lp Fixup Fixup) :=
  (idx many5.l x6.Target).bind fun z_2 =>
  if (z_2 == 0) then
    some (.next ({ x6 with Target := (Int.tmod (IntKind.wrap .i64 (x6.Target + 1)) 3) } : Fixup))
  else
    some (.out x6)
noncomputable def hansomref25_Near_j33 (f3 : Fixup) (many5 : (A3 Int)) (x6 : Fixup) : Option Fixup :=
  (idx many5.l x6.Target).bind fun z_3 =>
  (remI .i64 (bitsOp .and .i64 f3.N 255) z_3).bind fun z_4 =>
  if (decide (x6.Frame < 3)) then
    (idx many5.l x6.Frame).bind fun z_5 =>
    (remI .i64 (bitsOp .and .i64 f3.FrameN 255) z_5).bind fun z_6 =>
    some ({ x6 with FrameN := (IntKind.wrap .i64 (z_6 + 1)), N := (IntKind.wrap .i64 (z_4 + 1)), Disp := f3.Disp } : Fixup)
  else
    some ({ x6 with N := (IntKind.wrap .i64 (z_4 + 1)), Disp := f3.Disp } : Fixup)
noncomputable def hansomref25_Near_j27 (f3 : Fixup) (many5 : (A3 Int)) (x6 : Fixup) : Option Fixup :=
  if (decide (x6.Frame < 3)) then
    (idx many5.l x6.Frame).bind fun z_2 =>
    if (z_2 == 0) then
      hansomref25_Near_j33 f3 many5 ({ x6 with Frame := 5 } : Fixup)
    else
      hansomref25_Near_j33 f3 many5 x6
  else
    hansomref25_Near_j33 f3 many5 x6
noncomputable def hansomref25_Near_j6 (f3 : Fixup) (many5 : (A3 Int)) (x6 : Fixup) (n1 : Int) : Option Fixup :=
  (hansomref25_Size x6.Loc).bind fun r_1 =>
  (remI .i64 (bitsOp .and .i64 f3.At 65535) (mnI (IntKind.wrap .i64 ((IntKind.wrap .i64 (n1 - r_1)) + 1)) 1024)).bind fun z_1 =>
  (loopO (fun x : Fixup => hansomref25_Near_l12 f3 many5 x) ({ x6 with At := z_1, Frame := (Int.tmod (bitsOp .and .i64 f3.Frame 255) 5), Target := (Int.tmod (bitsOp .and .i64 f3.Target 255) 3) } : Fixup)).bind fun e_1 =>
  if (e_1.Frame == 3) then
    hansomref25_Near_j27 f3 many5 ({ e_1 with Frame := 5 } : Fixup)
  else
    hansomref25_Near_j27 f3 many5 e_1
/-- hansom/hansomref25.Near -/
noncomputable def hansomref25_Near (f_ : Fixup) (n_ : Int) (many_ : (A3 Int)) : Option Fixup :=
  if f_.Self then
    hansomref25_Near_j6 ({ f_ with Self := true } : Fixup) many_ ({ At := 0, Loc := (Int.tmod (bitsOp .and .i64 f_.Loc 255) 5), Self := (decide ((Int.tmod (bitsOp .and .i64 f_.Loc 255) 5) < 2)), Frame := 0, FrameN := 0, Target := 0, N := 0, Disp := 0 } : Fixup) n_
  else
    hansomref25_Near_j6 ({ f_ with Self := false } : Fixup) many_ ({ At := 0, Loc := (Int.tmod (bitsOp .and .i64 f_.Loc 255) 5), Self := false, Frame := 0, FrameN := 0, Target := 0, N := 0, Disp := 0 } : Fixup) n_
/-- hansom/fixup.Size -/
noncomputable def fixup_Size (loc_ : Int) : Option Int :=
  if (loc_ == 0) then
    some 1
  else
    if (loc_ == 4) then
      some 1
    else
      if (loc_ == 3) then
        some 4
      else
        some 2
/-- hansom/apply.add -/
noncomputable def apply_add (b_ : (List Int)) (at_ : Int) (n_ : Int) : Option (List Int) :=
  (idx b_ at_).bind fun z_1 =>
  (idx b_ (IntKind.wrap .i64 (at_ + 1))).bind fun z_2 =>
  (idx b_ at_).bind fun z_3 =>
  (idx (List.set b_ (at_).toNat (IntKind.wrap .u8 (IntKind.wrap .u16 ((bitsOp .or .u16 (IntKind.wrap .u16 z_1) (shlI .u16 (IntKind.wrap .u16 z_2) 8)) + n_)))) (IntKind.wrap .i64 (at_ + 1))).bind fun z_4 =>
  some (List.set (List.set b_ (at_).toNat (IntKind.wrap .u8 (IntKind.wrap .u16 ((bitsOp .or .u16 (IntKind.wrap .u16 z_1) (shlI .u16 (IntKind.wrap .u16 z_2) 8)) + n_)))) ((IntKind.wrap .i64 (at_ + 1))).toNat (IntKind.wrap .u8 (shrI .u16 (IntKind.wrap .u16 ((bitsOp .or .u16 (IntKind.wrap .u16 z_1) (shlI .u16 (IntKind.wrap .u16 z_2) 8)) + n_)) 8)))
/-- hansom/apply.Put -/
noncomputable def apply_Put (b_ : (List Int)) (at_ : Int) (f_ : Fixup) (off_ : Int) (para_ : Int) : Option (Int × (List Int)) :=
  if (decide (at_ < 0)) then
    some ((-1), b_)
  else
    (fixup_Size f_.Loc).bind fun r_1 =>
    if (decide (at_ > (IntKind.wrap .i64 ((b_.length : Int) - r_1)))) then
      some ((-1), b_)
    else
      if (f_.Loc == 0) then
        (idx b_ at_).bind fun z_1 =>
        (idx b_ at_).bind fun z_2 =>
        some ((-1), (List.set b_ (at_).toNat (IntKind.wrap .u8 (z_1 + (IntKind.wrap .u8 off_)))))
      else
        if (f_.Loc == 4) then
          (idx b_ at_).bind fun z_3 =>
          (idx b_ at_).bind fun z_4 =>
          some ((-1), (List.set b_ (at_).toNat (IntKind.wrap .u8 (z_3 + (IntKind.wrap .u8 (shrI .u16 off_ 8))))))
        else
          if (f_.Loc == 2) then
            (apply_add b_ at_ para_).bind fun r_2 =>
            some (at_, r_2)
          else
            if (f_.Loc == 3) then
              (apply_add b_ at_ off_).bind fun r_3 =>
              (apply_add r_3 (IntKind.wrap .i64 (at_ + 2)) para_).bind fun r_4 =>
              some ((IntKind.wrap .i64 (at_ + 2)), r_4)
            else
              (apply_add b_ at_ off_).bind fun r_5 =>
              some ((-1), r_5)
/-- hansom/hansomlaw42.word2 -/
noncomputable def hansomlaw42_word2 (b_ : (List Int)) (at_ : Int) : Option Int :=
  if (decide (at_ < 0)) then
    some 0
  else
    if (decide ((IntKind.wrap .i64 (at_ + 1)) ≥ (b_.length : Int))) then
      some 0
    else
      (idx b_ at_).bind fun z_1 =>
      (idx b_ (IntKind.wrap .i64 (at_ + 1))).bind fun z_2 =>
      some (IntKind.wrap .u16 ((IntKind.wrap .u16 z_1) + (IntKind.wrap .u16 (256 * (IntKind.wrap .u16 z_2)))))
noncomputable def hansomlaw42_set_j7 (b_8 : (List Int)) (at1 : Int) (w2 : Int) (t19 : Bool) : Option (List Int) :=
  if t19 then
    (idx b_8 at1).bind fun z_2 =>
    (idx (List.set b_8 (at1).toNat (IntKind.wrap .u8 w2)) (IntKind.wrap .i64 (at1 + 1))).bind fun z_3 =>
    some (List.set (List.set b_8 (at1).toNat (IntKind.wrap .u8 w2)) ((IntKind.wrap .i64 (at1 + 1))).toNat (IntKind.wrap .u8 (shrI .u16 w2 8)))
  else
    some b_8
/-- hansom/hansomlaw42.set -/
noncomputable def hansomlaw42_set (b_ : (List Int)) (at_ : Int) (w_ : Int) : Option (List Int) :=
  (grow 1 ([] : List Int) b_).bind fun z_1 =>
  if (decide (at_ ≥ 0)) then
    hansomlaw42_set_j7 z_1 at_ w_ (decide ((IntKind.wrap .i64 (at_ + 1)) < (z_1.length : Int)))
  else
    hansomlaw42_set_j7 z_1 at_ w_ false
noncomputable def hansomlaw42_ApplyPuts_j14 (x8 : Fixup) (b_18 : (List Int)) (off9 : Int) (para10 : Int) (at11 : Int) : Option Bool :=
  (grow 1 ([] : List Int) b_18).bind fun z_3 =>
  (apply_Put b_18 at11 x8 off9 para10).bind fun r_2 =>
  (hansomref25_Size x8.Loc).bind fun r_3 =>
  if (decide (at11 < 0)) then
    (hansomlaw42_awake).bind fun r_4 =>
    if r_4 then
      if (r_2.1 == (-1)) then
        some ((b2s r_2.2) == (b2s z_3))
      else
        some false
    else
      some false
  else
    if (decide (at11 > (IntKind.wrap .i64 ((z_3.length : Int) - r_3)))) then
      (hansomlaw42_awake).bind fun r_5 =>
      if r_5 then
        if (r_2.1 == (-1)) then
          some ((b2s r_2.2) == (b2s z_3))
        else
          some false
      else
        some false
    else
      (hansomlaw42_word2 z_3 at11).bind fun r_6 =>
      (grow 1 ([] : List Int) z_3).bind fun z_4 =>
      if (x8.Loc == 0) then
        (idx z_4 at11).bind fun z_5 =>
        (idx z_4 at11).bind fun z_6 =>
        (hansomlaw42_awake).bind fun r_7 =>
        if r_7 then
          if (r_2.1 == (-1)) then
            some ((b2s r_2.2) == (b2s (List.set z_4 (at11).toNat (IntKind.wrap .u8 (z_5 + (IntKind.wrap .u8 off9))))))
          else
            some false
        else
          some false
      else
        if (x8.Loc == 4) then
          (idx z_4 at11).bind fun z_7 =>
          (idx z_4 at11).bind fun z_8 =>
          (hansomlaw42_awake).bind fun r_8 =>
          if r_8 then
            if (r_2.1 == (-1)) then
              some ((b2s r_2.2) == (b2s (List.set z_4 (at11).toNat (IntKind.wrap .u8 (z_7 + (IntKind.wrap .u8 (IntKind.wrap .u16 (Int.tdiv off9 256))))))))
            else
              some false
          else
            some false
        else
          if (x8.Loc == 1) then
            (hansomlaw42_set z_4 at11 (IntKind.wrap .u16 (r_6 + off9))).bind fun r_9 =>
            (hansomlaw42_awake).bind fun r_10 =>
            if r_10 then
              if (r_2.1 == (-1)) then
                some ((b2s r_2.2) == (b2s r_9))
              else
                some false
            else
              some false
          else
            if (x8.Loc == 2) then
              (hansomlaw42_set z_4 at11 (IntKind.wrap .u16 (r_6 + para10))).bind fun r_11 =>
              (hansomlaw42_awake).bind fun r_12 =>
              if r_12 then
                if (r_2.1 == at11) then
                  some ((b2s r_2.2) == (b2s r_11))
                else
                  some false
              else
                some false
            else
              (hansomlaw42_set z_4 at11 (IntKind.wrap .u16 (r_6 + off9))).bind fun r_13 =>
              (hansomlaw42_word2 z_3 (IntKind.wrap .i64 (at11 + 2))).bind fun r_14 =>
              (hansomlaw42_set r_13 (IntKind.wrap .i64 (at11 + 2)) (IntKind.wrap .u16 (r_14 + para10))).bind fun r_15 =>
              (hansomlaw42_awake).bind fun r_16 =>
              if r_16 then
                if (r_2.1 == (IntKind.wrap .i64 (at11 + 2))) then
                  some ((b2s r_2.2) == (b2s r_15))
                else
                  some false
              else
                some false
/-- hansom/hansomlaw42.ApplyPuts -/
noncomputable def hansomlaw42_ApplyPuts (b_ : (List Int)) (f_ : Fixup) (n_ : (A3 Int)) : Option Bool :=
  (cutL b_ 0 (mnI (b_.length : Int) 12)).bind fun z_1 =>
  (grow 1 ([] : List Int) z_1).bind fun z_2 =>
  (hansomref25_Near f_ 100 ({ a0 := 5, a1 := 5, a2 := 5 } : (A3 Int))).bind fun r_1 =>
  if (decide ((bitsOp .and .i64 n_.a2 16) > 0)) then
    hansomlaw42_ApplyPuts_j14 r_1 z_2 (IntKind.wrap .u16 n_.a0) (IntKind.wrap .u16 n_.a1) n_.a2
  else
    hansomlaw42_ApplyPuts_j14 r_1 z_2 (IntKind.wrap .u16 n_.a0) (IntKind.wrap .u16 n_.a1) (IntKind.wrap .i64 ((bitsOp .and .i64 n_.a2 15) - 1))
end Go.Es.App
