/- What the functions that the law PickOwn reaches answer, in plain Lean. No condition. -/
import Derived.Test.YtappijlcmhdilaaDoorEsD
set_option linter.unusedVariables false
set_option linter.unusedSimpArgs false
set_option maxRecDepth 100000
set_option maxHeartbeats 4000000
namespace Go.Es.Pko
structure Inst where
 Lock:Bool
 Rep:Int
 Seg:Int
 Op:Int
 Mod:Int
 Reg:Int
 RM:Int
 Disp:Int
 Imm:Int
 Sel:Int
 deriving DecidableEq,Inhabited
def Inst.cs (x:Inst):List D:=[.bool x.Lock,.int .i64 x.Rep,.int .i64 x.Seg,.int .u8 x.Op,.int .i64 x.Mod,.int .i64 x.Reg,.int .i64 x.RM,.int .u16 x.Disp,.int .u16 x.Imm,.int .u16 x.Sel]
def Inst.d (x:Inst):D:=.agg (Inst.cs x)
structure Row where
 Name:Int
 A:Int
 B:Int
 Mod:Bool
 deriving DecidableEq,Inhabited
def Row.cs (x:Row):List D:=[.int .i64 x.Name,.int .i64 x.A,.int .i64 x.B,.bool x.Mod]
def Row.d (x:Row):D:=.agg (Row.cs x)
structure api_Value where
 N:Int
 From:Int
 Which:Int
 Type_:Int
 Wants:Int
 Known:Bool
 deriving DecidableEq,Inhabited
def api_Value.cs (x:api_Value):List D:=[.int .i64 x.N,.int .i64 x.From,.int .i64 x.Which,.int .i64 x.Type_,.int .i64 x.Wants,.bool x.Known]
def api_Value.d (x:api_Value):D:=.agg (api_Value.cs x)
structure Operand where
 Kind:Int
 N:Int
 RM:Int
 V:api_Value
 Type_:Int
 Over:Int
 Short:Bool
 deriving DecidableEq,Inhabited
def Operand.cs (x:Operand):List D:=[.int .i64 x.Kind,.int .i64 x.N,.int .i64 x.RM,.int .i64 x.V.N,.int .i64 x.V.From,.int .i64 x.V.Which,.int .i64 x.V.Type_,.int .i64 x.V.Wants,.bool x.V.Known,.int .i64 x.Type_,.int .i64 x.Over,.bool x.Short]
def Operand.d (x:Operand):D:=.agg (Operand.cs x)
structure Choice where
 I:Inst
 Disp:api_Value
 Imm:api_Value
 HasD:Bool
 HasI:Bool
 Jumps:Bool
 deriving DecidableEq,Inhabited
def Choice.cs (x:Choice):List D:=[.bool x.I.Lock,.int .i64 x.I.Rep,.int .i64 x.I.Seg,.int .u8 x.I.Op,.int .i64 x.I.Mod,.int .i64 x.I.Reg,.int .i64 x.I.RM,.int .u16 x.I.Disp,.int .u16 x.I.Imm,.int .u16 x.I.Sel,.int .i64 x.Disp.N,.int .i64 x.Disp.From,.int .i64 x.Disp.Which,.int .i64 x.Disp.Type_,.int .i64 x.Disp.Wants,.bool x.Disp.Known,.int .i64 x.Imm.N,.int .i64 x.Imm.From,.int .i64 x.Imm.Which,.int .i64 x.Imm.Type_,.int .i64 x.Imm.Wants,.bool x.Imm.Known,.bool x.HasD,.bool x.HasI,.bool x.Jumps]
def Choice.d (x:Choice):D:=.agg (Choice.cs x)
def Inst.wf (x:Inst):Prop:=(fun _=>True) x.Lock∧wfI .i64 x.Rep∧wfI .i64 x.Seg∧wfI .u8 x.Op∧wfI .i64 x.Mod∧wfI .i64 x.Reg∧wfI .i64 x.RM∧wfI .u16 x.Disp∧wfI .u16 x.Imm∧wfI .u16 x.Sel
def Row.wf (x:Row):Prop:=wfI .i64 x.Name∧wfI .i64 x.A∧wfI .i64 x.B∧(fun _=>True) x.Mod
def api_Value.wf (x:api_Value):Prop:=wfI .i64 x.N∧wfI .i64 x.From∧wfI .i64 x.Which∧wfI .i64 x.Type_∧wfI .i64 x.Wants∧(fun _=>True) x.Known
def Operand.wf (x:Operand):Prop:=wfI .i64 x.Kind∧wfI .i64 x.N∧wfI .i64 x.RM∧api_Value.wf x.V∧wfI .i64 x.Type_∧wfI .i64 x.Over∧(fun _=>True) x.Short
def Choice.wf (x:Choice):Prop:=Inst.wf x.I∧api_Value.wf x.Disp∧api_Value.wf x.Imm∧(fun _=>True) x.HasD∧(fun _=>True) x.HasI∧(fun _=>True) x.Jumps
noncomputable def dt (a0_:(List UInt8)):Option (List (List UInt8)) :=
 if a0_=[65,68,68,32,79,82,32,65,68,67,32,83,66,66,32,65,78,68,32,83,85,66,32,88,79,82,32,67,77,80,32,80,85,83,72,32,80,79,80,32,68,65,65,32,68,65,83,32,65,65,65,32,65,65,83,32,73,78,67,32,68,69,67,32,74,79,32,74,78,79,32,74,66,32,74,78,66,32,74,90,32,74,78,90,32,74,66,69,32,74,65,32,74,83,32,74,78,83,32,74,80,32,74,78,80,32,74,76,32,74,71,69,32,74,76,69,32,74,71,32,84,69,83,84,32,88,67,72,71,32,77,79,86,32,76,69,65,32,67,66,87,32,67,87,68,32,67,65,76,76,32,67,65,76,76,70,32,87,65,73,84,32,80,85,83,72,70,32,80,79,80,70,32,83,65,72,70,32,76,65,72,70,32,77,79,86,83,66,32,77,79,86,83,87,32,67,77,80,83,66,32,67,77,80,83,87,32,83,84,79,83,66,32,83,84,79,83,87,32,76,79,68,83,66,32,76,79,68,83,87,32,83,67,65,83,66,32,83,67,65,83,87,32,82,69,84,32,82,69,84,70,32,76,69,83,32,76,68,83,32,73,78,84,32,73,78,84,79,32,73,82,69,84,32,82,79,76,32,82,79,82,32,82,67,76,32,82,67,82,32,83,72,76,32,83,72,82,32,83,65,82,32,65,65,77,32,65,65,68,32,88,76,65,84,32,69,83,67,32,76,79,79,80,78,90,32,76,79,79,80,90,32,76,79,79,80,32,74,67,88,90,32,73,78,32,79,85,84,32,74,77,80,32,74,77,80,70,32,72,76,84,32,67,77,67,32,78,79,84,32,78,69,71,32,77,85,76,32,73,77,85,76,32,68,73,86,32,73,68,73,86,32,67,76,67,32,83,84,67,32,67,76,73,32,83,84,73,32,67,76,68,32,83,84,68] then some [[65,68,68],[79,82],[65,68,67],[83,66,66],[65,78,68],[83,85,66],[88,79,82],[67,77,80],[80,85,83,72],[80,79,80],[68,65,65],[68,65,83],[65,65,65],[65,65,83],[73,78,67],[68,69,67],[74,79],[74,78,79],[74,66],[74,78,66],[74,90],[74,78,90],[74,66,69],[74,65],[74,83],[74,78,83],[74,80],[74,78,80],[74,76],[74,71,69],[74,76,69],[74,71],[84,69,83,84],[88,67,72,71],[77,79,86],[76,69,65],[67,66,87],[67,87,68],[67,65,76,76],[67,65,76,76,70],[87,65,73,84],[80,85,83,72,70],[80,79,80,70],[83,65,72,70],[76,65,72,70],[77,79,86,83,66],[77,79,86,83,87],[67,77,80,83,66],[67,77,80,83,87],[83,84,79,83,66],[83,84,79,83,87],[76,79,68,83,66],[76,79,68,83,87],[83,67,65,83,66],[83,67,65,83,87],[82,69,84],[82,69,84,70],[76,69,83],[76,68,83],[73,78,84],[73,78,84,79],[73,82,69,84],[82,79,76],[82,79,82],[82,67,76],[82,67,82],[83,72,76],[83,72,82],[83,65,82],[65,65,77],[65,65,68],[88,76,65,84],[69,83,67],[76,79,79,80,78,90],[76,79,79,80,90],[76,79,79,80],[74,67,88,90],[73,78],[79,85,84],[74,77,80],[74,77,80,70],[72,76,84],[67,77,67],[78,79,84],[78,69,71],[77,85,76],[73,77,85,76],[68,73,86],[73,68,73,86],[67,76,67],[83,84,67],[67,76,73],[83,84,73],[67,76,68],[83,84,68]] else
 if a0_=[65,88,32,67,88,32,68,88,32,66,88,32,83,80,32,66,80,32,83,73,32,68,73] then some [[65,88],[67,88],[68,88],[66,88],[83,80],[66,80],[83,73],[68,73]] else
 if a0_=[65,76,32,67,76,32,68,76,32,66,76,32,65,72,32,67,72,32,68,72,32,66,72] then some [[65,76],[67,76],[68,76],[66,76],[65,72],[67,72],[68,72],[66,72]] else
 if a0_=[69,83,32,67,83,32,83,83,32,68,83] then some [[69,83],[67,83],[83,83],[68,83]] else
 none
noncomputable def cP (b_:Int):Option Bool :=
 if (b_==38) then
  some true
 else
  if (b_==46) then
   some true
  else
   if (b_==54) then
    some true
   else
    if (b_==62) then
     some true
    else
     if (b_==240) then
      some true
     else
      if (b_==242) then
       some true
      else
       some (b_==243)
noncomputable def bk (s0:(List UInt8)) (n1:Int) (at5:Int) (k6:Int):Option (Lp Int Int) :=
 if (decide (at5<(s0.length:Int))) then
  (idx s0 at5).bind fun z_1 =>
  if ((z_1.toNat:Int) != 32) then
   some (.next (IntKind.wrap .i64 (at5+1)))
  else
   some (.out at5)
 else
  some (.out at5)
noncomputable def bZ (s0:(List UInt8)) (n1:Int) (at5:Int) (k6:Int):Option (Lp (Int × Int) Int) :=
 if (decide (k6<n1)) then
  if (decide (at5<(s0.length:Int))) then
   (cr (fun x:Int=>bk s0 n1 x k6) at5).bind fun e_1 =>
   some (.next ((IntKind.wrap .i64 (e_1+1)),(IntKind.wrap .i64 (k6+1))))
  else
   some (.out at5)
 else
  some (.out at5)
noncomputable def bl (s0:(List UInt8)) (at5:Int) (end7:Int):Option (Lp Int Int) :=
 if (decide (end7<(s0.length:Int))) then
  (idx s0 end7).bind fun z_1 =>
  if ((z_1.toNat:Int) != 32) then
   some (.next (IntKind.wrap .i64 (end7+1)))
  else
   some (.out end7)
 else
  some (.out end7)
noncomputable def bq (s_:(List UInt8)) (n_:Int):Option (List UInt8) :=
 (cr (fun x:(Int × Int)=>bZ s_ n_ x.1 x.2) (0,0)).bind fun e_1 =>
 (cr (fun x:Int=>bl s_ e_1 x) e_1).bind fun e_2 =>
 if (decide (e_1≥(s_.length:Int))) then
  some ([]:List UInt8)
 else
  (sY s_ e_1 e_2).bind fun z_1 =>
  some z_1
noncomputable def bu (s0:(List UInt8)) (mark1:Int) (n2:Int) (from7:Int) (i8:Int):Option (Lp (Int × Int × Int) ((List UInt8) ⊕ Unit)) :=
 if (decide (i8≤(s0.length:Int))) then
  if (decide (i8<(s0.length:Int))) then
   (idx s0 i8).bind fun z_1 =>
   if ((z_1.toNat:Int) != mark1) then
    some (.next (n2,from7,(IntKind.wrap .i64 (i8+1))))
   else
    if (n2==0) then
     (sY s0 from7 i8).bind fun z_2 =>
     some (.out (.inl z_2))
    else
     some (.next ((IntKind.wrap .i64 (n2 - 1)),(IntKind.wrap .i64 (i8+1)),(IntKind.wrap .i64 (i8+1))))
  else
   if (n2==0) then
    (sY s0 from7 i8).bind fun z_3 =>
    some (.out (.inl z_3))
   else
    some (.next ((IntKind.wrap .i64 (n2 - 1)),(IntKind.wrap .i64 (i8+1)),(IntKind.wrap .i64 (i8+1))))
 else
  some (.out (.inr ()))
noncomputable def aN (s_:(List UInt8)) (mark_:Int) (n_:Int):Option (List UInt8) :=
 (cr (fun x:(Int × Int × Int)=>bu s_ mark_ x.1 x.2.1 x.2.2) (n_,0,0)).bind fun e_1 =>
 match e_1 with
 | .inl e_2 =>
  some e_2
 | .inr e_3 =>
  some ([]:List UInt8)
noncomputable def cv (op_:Int) (reg_:Int):Option (List UInt8) :=
 (bq uI (IntKind.wrap .i64 op_)).bind fun r_1 =>
 if (decide ((r_1.length:Int)>0)) then
  (idx r_1 0).bind fun z_1 =>
  if ((z_1.toNat:Int)==47) then
   (aN r_1 47 (IntKind.wrap .i64 ((ak .and .i64 reg_ 7)+1))).bind fun r_2 =>
   some r_2
  else
   some r_1
 else
  some r_1
noncomputable def ca (s0:(List UInt8)) (w1:(List UInt8)) (n5:Int) (from6:Int) (i7:Int):Option (Lp (Int × Int × Int) (Int ⊕ Unit)) :=
 if (decide (i7<(s0.length:Int))) then
  (idx s0 i7).bind fun z_1 =>
  if ((z_1.toNat:Int) != 32) then
   some (.next (n5,from6,(IntKind.wrap .i64 (i7+1))))
  else
   (sY s0 from6 i7).bind fun z_2 =>
   if (z_2==w1) then
    some (.out (.inl n5))
   else
    some (.next ((IntKind.wrap .i64 (n5+1)),(IntKind.wrap .i64 (i7+1)),(IntKind.wrap .i64 (i7+1))))
 else
  some (.out (.inr ()))
noncomputable def aQ (s_:(List UInt8)) (w_:(List UInt8)):Option Int :=
 (cr (fun x:(Int × Int × Int)=>ca s_ w_ x.1 x.2.1 x.2.2) (1,0,0)).bind fun e_1 =>
 match e_1 with
 | .inl e_2 =>
  some e_2
 | .inr e_3 =>
  some 0
noncomputable def cJ (s_:(List UInt8)):Option Int :=
 (aQ lQ s_).bind fun r_1 =>
 some r_1
noncomputable def bm (k_:Int):Option Bool :=
 if (decide (k_≥1)) then
  if (decide (k_≤5)) then
   some true
  else
   if (k_==19) then
    some true
   else
    some (k_==20)
 else
  if (k_==19) then
   some true
  else
   some (k_==20)
noncomputable def cT (op_:Int) (reg_:Int):Option (Row × Bool) :=
 (cv op_ reg_).bind fun r_1 =>
 if (r_1==([45]:List UInt8)) then
  some (({ Name:=0,A:=0,B:=0,Mod:=false }:Row),false)
 else
  if (r_1==([]:List UInt8)) then
   some (({ Name:=0,A:=0,B:=0,Mod:=false }:Row),false)
  else
   (aN r_1 58 0).bind fun r_2 =>
   (cJ r_2).bind fun r_3 =>
   (aN r_1 58 1).bind fun r_4 =>
   (aQ nq r_4).bind fun r_5 =>
   (aN r_1 58 2).bind fun r_6 =>
   (aQ nq r_6).bind fun r_7 =>
   (bm r_5).bind fun r_8 =>
   if r_8 then
    some (({ Name:=r_3,A:=r_5,B:=r_7,Mod:=true }:Row),true)
   else
    (bm r_7).bind fun r_9 =>
    some (({ Name:=r_3,A:=r_5,B:=r_7,Mod:=r_9 }:Row),true)
noncomputable def bn (i_:Inst):Option (Row × Bool) :=
 (cP i_.Op).bind fun r_1 =>
 if r_1 then
  some (({ Name:=0,A:=0,B:=0,Mod:=false }:Row),false)
 else
  (cT i_.Op i_.Reg).bind fun r_2 =>
  some (r_2.1,r_2.2)
noncomputable def bA (t3:Int) (t4:Bool):Option Int :=
 if t4 then
  some 1
 else
  if (t3==7) then
   some 2
  else
   if (t3==10) then
    some 2
   else
    if (t3==12) then
     some 2
    else
     if (t3==13) then
      some 2
     else
      if (t3==11) then
       some 4
      else
       some 0
noncomputable def bR (k_:Int):Option Int :=
 if (k_==6) then
  bA k_ true
 else
  if (k_==8) then
   bA k_ true
  else
   bA k_ (k_==9)
noncomputable def br (n_:Int):Option (List UInt8) :=
 if (decide (n_<1)) then
  some ([63]:List UInt8)
 else
  if (decide (n_>95)) then
   some ([63]:List UInt8)
  else
   (bq lQ (IntKind.wrap .i64 (n_ - 1))).bind fun r_1 =>
   some r_1
noncomputable def aJ (t4:(List UInt8)) (t5:Bool):Option Int :=
 if t5 then
  some 1
 else
  if (t4==([67,77,80,83,66]:List UInt8)) then
   some 2
  else
   if (t4==([67,77,80,83,87]:List UInt8)) then
    some 2
   else
    if (t4==([83,67,65,83,66]:List UInt8)) then
     some 2
    else
     if (t4==([83,67,65,83,87]:List UInt8)) then
      some 2
     else
      some 0
noncomputable def ba (n_:Int):Option Int :=
 (br n_).bind fun r_1 =>
 if (r_1==([77,79,86,83,66]:List UInt8)) then
  aJ r_1 true
 else
  if (r_1==([77,79,86,83,87]:List UInt8)) then
   aJ r_1 true
  else
   if (r_1==([83,84,79,83,66]:List UInt8)) then
    aJ r_1 true
   else
    if (r_1==([83,84,79,83,87]:List UInt8)) then
     aJ r_1 true
    else
     if (r_1==([76,79,68,83,66]:List UInt8)) then
      aJ r_1 true
     else
      aJ r_1 (r_1==([76,79,68,83,87]:List UInt8))
noncomputable def bL (w_:Int):Option Bool :=
 if (decide (w_<128)) then
  some true
 else
  some (decide (w_≥65408))
noncomputable def bS (mod_:Int) (rm_:Int):Option Int :=
 if (mod_==1) then
  some 1
 else
  if (mod_==2) then
   some 2
  else
   if (mod_==0) then
    if (rm_==6) then
     some 2
    else
     some 0
   else
    some 0
noncomputable def bv (i1:Inst) (t155:Int) (t181:Bool):Option Bool :=
 if t181 then
  (bL i1.Imm).bind fun r_4 =>
  if r_4 then
   some (i1.Sel==0)
  else
   some false
 else
  if (t155==7) then
   some (i1.Sel==0)
  else
   if (t155==10) then
    some (i1.Sel==0)
   else
    if (t155==12) then
     some (i1.Sel==0)
    else
     if (t155==13) then
      some (i1.Sel==0)
     else
      if (t155==11) then
       some true
      else
       if (i1.Imm==0) then
        some (i1.Sel==0)
       else
        some false
noncomputable def cb (i1:Inst) (r3:Row) (k7:Int):Option Bool :=
 if (k7==6) then
  if (decide (i1.Imm<256)) then
   if (i1.Sel==0) then
    if (r3.Name != 70) then
     if (r3.Name != 71) then
      some true
     else
      some (i1.Imm==10)
    else
     some (i1.Imm==10)
   else
    some false
  else
   some false
 else
  if (k7==8) then
   bv i1 k7 true
  else
   bv i1 k7 (k7==9)
noncomputable def aP (i1:Inst) (r3:Row):Option Bool :=
 (bR r3.A).bind fun r_3 =>
 if (r_3==0) then
  cb i1 r3 r3.B
 else
  cb i1 r3 r3.A
noncomputable def ce (i1:Inst) (r3:Row):Option Bool :=
 (bS i1.Mod i1.RM).bind fun r_5 =>
 if (r_5==0) then
  if (i1.Disp != 0) then
   some false
  else
   if (r_5==1) then
    (bL i1.Disp).bind fun r_6 =>
    if (!r_6) then
     some false
    else
     aP i1 r3
   else
    aP i1 r3
 else
  if (r_5==1) then
   (bL i1.Disp).bind fun r_7 =>
   if (!r_7) then
    some false
   else
    aP i1 r3
  else
   aP i1 r3
noncomputable def bc (i1:Inst) (r3:Row):Option Bool :=
 if (!r3.Mod) then
  if (i1.Mod != 0) then
   some false
  else
   if (i1.Reg != 0) then
    some false
   else
    if (i1.RM != 0) then
     some false
    else
     if (i1.Disp != 0) then
      some false
     else
      aP i1 r3
 else
  if (decide (i1.Mod<0)) then
   some false
  else
   if (decide (i1.Mod>3)) then
    some false
   else
    if (decide (i1.Reg<0)) then
     some false
    else
     if (decide (i1.Reg>7)) then
      some false
     else
      if (decide (i1.RM<0)) then
       some false
      else
       if (decide (i1.RM>7)) then
        some false
       else
        if (i1.Mod==3) then
         if (r3.A==19) then
          some false
         else
          if (r3.A==20) then
           some false
          else
           if (r3.B==19) then
            some false
           else
            if (r3.B==20) then
             some false
            else
             ce i1 r3
        else
         ce i1 r3
noncomputable def cg (i_:Inst):Option Bool :=
 (bn i_).bind fun r_1 =>
 if (!r_1.2) then
  some false
 else
  if (decide (i_.Seg<0)) then
   some false
  else
   if (decide (i_.Seg>4)) then
    some false
   else
    (ba r_1.1.Name).bind fun r_2 =>
    if (decide (i_.Rep<0)) then
     some false
    else
     if (decide (i_.Rep>2)) then
      some false
     else
      if (i_.Rep==1) then
       if (decide (r_2<2)) then
        some false
       else
        if (i_.Rep==2) then
         if (decide (r_2<1)) then
          some false
         else
          bc i_ r_1.1
        else
         bc i_ r_1.1
      else
       if (i_.Rep==2) then
        if (decide (r_2<1)) then
         some false
        else
         bc i_ r_1.1
       else
        bc i_ r_1.1
noncomputable def cl (b_:Int):Option Int :=
 if (decide (b_<128)) then
  some (IntKind.wrap .u16 b_)
 else
  some (IntKind.wrap .u16 (65280+(IntKind.wrap .u16 b_)))
noncomputable def aK (x1:Inst) (i2:Inst):Option Inst :=
 if (decide ((ak .and .i64 x1.Seg 7)≤4)) then
  (cg ({ i2 with Seg:=(ak .and .i64 x1.Seg 7) }:Inst)).bind fun r_4 =>
  if (!r_4) then
   some ({ Lock:=false,Rep:=0,Seg:=0,Op:=144,Mod:=0,Reg:=0,RM:=0,Disp:=0,Imm:=0,Sel:=0 }:Inst)
  else
   some ({ i2 with Seg:=(ak .and .i64 x1.Seg 7) }:Inst)
 else
  (cg i2).bind fun r_5 =>
  if (!r_5) then
   some ({ Lock:=false,Rep:=0,Seg:=0,Op:=144,Mod:=0,Reg:=0,RM:=0,Disp:=0,Imm:=0,Sel:=0 }:Inst)
  else
   some i2
noncomputable def aI (x1:Inst) (i2:Inst) (r3:Row):Option Inst :=
 (ba r3.Name).bind fun r_3 =>
 if (decide (r_3>0)) then
  if (decide ((ak .and .i64 x1.Rep 3)>0)) then
   if (r_3==2) then
    if ((ak .and .i64 x1.Rep 1)==1) then
     aK x1 ({ i2 with Rep:=1 }:Inst)
    else
     aK x1 ({ i2 with Rep:=2 }:Inst)
   else
    aK x1 ({ i2 with Rep:=2 }:Inst)
  else
   aK x1 i2
 else
  aK x1 i2
noncomputable def aW (x1:Inst) (i2:Inst) (r3:Row) (t61:Int) (t86:Bool):Option Inst :=
 if t86 then
  aI x1 ({ i2 with Imm:=x1.Imm }:Inst) r3
 else
  if (t61==11) then
   aI x1 ({ i2 with Imm:=x1.Imm,Sel:=x1.Sel }:Inst) r3
  else
   aI x1 i2 r3
noncomputable def bM (x1:Inst) (i2:Inst) (r3:Row) (t61:Int) (t77:Bool):Option Inst :=
 if t77 then
  (cl (IntKind.wrap .u8 (Int.tmod x1.Imm 256))).bind fun r_6 =>
  aI x1 ({ i2 with Imm:=r_6 }:Inst) r3
 else
  if (t61==7) then
   aW x1 i2 r3 t61 true
  else
   if (t61==10) then
    aW x1 i2 r3 t61 true
   else
    if (t61==12) then
     aW x1 i2 r3 t61 true
    else
     aW x1 i2 r3 t61 (t61==13)
noncomputable def bN (x1:Inst) (i2:Inst) (r3:Row) (k5:Int):Option Inst :=
 if (k5==6) then
  if (r3.Name==70) then
   aI x1 ({ i2 with Imm:=10 }:Inst) r3
  else
   if (r3.Name==71) then
    aI x1 ({ i2 with Imm:=10 }:Inst) r3
   else
    aI x1 ({ i2 with Imm:=(Int.tmod x1.Imm 256) }:Inst) r3
 else
  if (k5==8) then
   bM x1 i2 r3 k5 true
  else
   bM x1 i2 r3 k5 (k5==9)
noncomputable def aX (x1:Inst) (i2:Inst) (r3:Row):Option Inst :=
 (bR r3.A).bind fun r_2 =>
 if (r_2==0) then
  bN x1 i2 r3 r3.B
 else
  bN x1 i2 r3 r3.A
noncomputable def cK (x_:Inst):Option Inst :=
 (bn ({ x_ with Rep:=0,Seg:=0,Mod:=0,Reg:=(ak .and .i64 x_.Reg 7),RM:=0,Disp:=0,Imm:=0,Sel:=0 }:Inst)).bind fun r_1 =>
 if (!r_1.2) then
  some ({ Lock:=false,Rep:=0,Seg:=0,Op:=144,Mod:=0,Reg:=0,RM:=0,Disp:=0,Imm:=0,Sel:=0 }:Inst)
 else
  if (!r_1.1.Mod) then
   aX x_ ({ x_ with Rep:=0,Seg:=0,Mod:=0,Reg:=0,RM:=0,Disp:=0,Imm:=0,Sel:=0 }:Inst) r_1.1
  else
   (bS (ak .and .i64 x_.Mod 3) (ak .and .i64 x_.RM 7)).bind fun r_7 =>
   if (r_7==1) then
    (cl (IntKind.wrap .u8 (Int.tmod x_.Disp 256))).bind fun r_8 =>
    aX x_ ({ x_ with Rep:=0,Seg:=0,Mod:=(ak .and .i64 x_.Mod 3),Reg:=(ak .and .i64 x_.Reg 7),RM:=(ak .and .i64 x_.RM 7),Disp:=r_8,Imm:=0,Sel:=0 }:Inst) r_1.1
   else
    if (r_7==2) then
     aX x_ ({ x_ with Rep:=0,Seg:=0,Mod:=(ak .and .i64 x_.Mod 3),Reg:=(ak .and .i64 x_.Reg 7),RM:=(ak .and .i64 x_.RM 7),Imm:=0,Sel:=0 }:Inst) r_1.1
    else
     aX x_ ({ x_ with Rep:=0,Seg:=0,Mod:=(ak .and .i64 x_.Mod 3),Reg:=(ak .and .i64 x_.Reg 7),RM:=(ak .and .i64 x_.RM 7),Disp:=0,Imm:=0,Sel:=0 }:Inst) r_1.1
noncomputable def aZ (i_:Inst) (size_:Int):Option Operand :=
 if (i_.Mod==0) then
  if (i_.RM==6) then
   if (i_.Mod==2) then
    some ({ Kind:=5,N:=0,RM:=8,V:=({ N:=(IntKind.wrap .i64 (IntKind.wrap .i16 i_.Disp)),From:=0,Which:=0,Type_:=0,Wants:=0,Known:=true }:api_Value),Type_:=size_,Over:=0,Short:=false }:Operand)
   else
    some ({ Kind:=5,N:=0,RM:=8,V:=({ N:=(IntKind.wrap .i64 i_.Disp),From:=0,Which:=0,Type_:=0,Wants:=0,Known:=true }:api_Value),Type_:=size_,Over:=0,Short:=false }:Operand)
  else
   if (i_.Mod==2) then
    some ({ Kind:=5,N:=0,RM:=i_.RM,V:=({ N:=(IntKind.wrap .i64 (IntKind.wrap .i16 i_.Disp)),From:=0,Which:=0,Type_:=0,Wants:=0,Known:=true }:api_Value),Type_:=size_,Over:=0,Short:=false }:Operand)
   else
    some ({ Kind:=5,N:=0,RM:=i_.RM,V:=({ N:=(IntKind.wrap .i64 (IntKind.wrap .i16 i_.Disp)),From:=0,Which:=0,Type_:=0,Wants:=0,Known:=true }:api_Value),Type_:=size_,Over:=0,Short:=false }:Operand)
 else
  if (i_.Mod==2) then
   some ({ Kind:=5,N:=0,RM:=i_.RM,V:=({ N:=(IntKind.wrap .i64 (IntKind.wrap .i16 i_.Disp)),From:=0,Which:=0,Type_:=0,Wants:=0,Known:=true }:api_Value),Type_:=size_,Over:=0,Short:=false }:Operand)
  else
   some ({ Kind:=5,N:=0,RM:=i_.RM,V:=({ N:=(IntKind.wrap .i64 (IntKind.wrap .i16 i_.Disp)),From:=0,Which:=0,Type_:=0,Wants:=0,Known:=true }:api_Value),Type_:=size_,Over:=0,Short:=false }:Operand)
noncomputable def a8 (w_:Int):Option Operand :=
 some ({ Kind:=4,N:=0,RM:=8,V:=({ N:=(IntKind.wrap .i64 w_),From:=0,Which:=0,Type_:=0,Wants:=0,Known:=true }:api_Value),Type_:=0,Over:=0,Short:=false }:Operand)
noncomputable def bh (i2:Inst) (b_4:Operand) (k1:Int) (t6:Int) (t70:Bool):Option Operand :=
 if t70 then
  some ({ Kind:=1,N:=(IntKind.wrap .i64 (k1 - 14)),RM:=0,V:=({ N:=0,From:=0,Which:=0,Type_:=0,Wants:=0,Known:=false }:api_Value),Type_:=0,Over:=0,Short:=false }:Operand)
 else
  if (t6==16) then
   some ({ Kind:=2,N:=0,RM:=0,V:=({ N:=0,From:=0,Which:=0,Type_:=0,Wants:=0,Known:=false }:api_Value),Type_:=0,Over:=0,Short:=false }:Operand)
  else
   if (t6==17) then
    some ({ Kind:=2,N:=2,RM:=0,V:=({ N:=0,From:=0,Which:=0,Type_:=0,Wants:=0,Known:=false }:api_Value),Type_:=0,Over:=0,Short:=false }:Operand)
   else
    if (t6==18) then
     (a8 1).bind fun r_5 =>
     some r_5
    else
     if (t6==19) then
      (aZ i2 4).bind fun r_6 =>
      some r_6
     else
      if (t6==20) then
       (aZ i2 0).bind fun r_7 =>
       some r_7
      else
       if (t6==21) then
        some ({ Kind:=1,N:=(IntKind.wrap .i64 (Int.tmod i2.Op 8)),RM:=0,V:=({ N:=0,From:=0,Which:=0,Type_:=0,Wants:=0,Known:=false }:api_Value),Type_:=0,Over:=0,Short:=false }:Operand)
       else
        if (t6==22) then
         some ({ Kind:=2,N:=(IntKind.wrap .i64 (Int.tmod i2.Op 8)),RM:=0,V:=({ N:=0,From:=0,Which:=0,Type_:=0,Wants:=0,Known:=false }:api_Value),Type_:=0,Over:=0,Short:=false }:Operand)
        else
         if (t6==23) then
          some ({ Kind:=3,N:=(IntKind.wrap .i64 (Int.tmod (IntKind.wrap .u8 (Int.tdiv i2.Op 8)) 4)),RM:=0,V:=({ N:=0,From:=0,Which:=0,Type_:=0,Wants:=0,Known:=false }:api_Value),Type_:=0,Over:=0,Short:=false }:Operand)
         else
          if (t6==24) then
           (a8 3).bind fun r_8 =>
           some r_8
          else
           some ({ Kind:=0,N:=0,RM:=0,V:=({ N:=0,From:=0,Which:=0,Type_:=0,Wants:=0,Known:=false }:api_Value),Type_:=0,Over:=0,Short:=false }:Operand)
noncomputable def bi (i2:Inst) (b_4:Operand) (k1:Int) (t6:Int) (t60:Bool):Option Operand :=
 if t60 then
  some ({ Kind:=5,N:=0,RM:=8,V:=({ N:=(IntKind.wrap .i64 i2.Imm),From:=0,Which:=0,Type_:=0,Wants:=0,Known:=true }:api_Value),Type_:=(IntKind.wrap .i64 (k1 - 11)),Over:=0,Short:=false }:Operand)
 else
  if (t6==14) then
   bh i2 b_4 k1 t6 true
  else
   bh i2 b_4 k1 t6 (t6==15)
noncomputable def bj (i2:Inst) (b_4:Operand) (k1:Int) (t6:Int) (t42:Bool):Option Operand :=
 if t42 then
  (a8 i2.Imm).bind fun r_3 =>
  some r_3
 else
  if (t6==8) then
   (a8 i2.Imm).bind fun r_4 =>
   some ({ Kind:=r_4.Kind,N:=r_4.N,RM:=r_4.RM,V:=({ r_4.V with N:=(IntKind.wrap .i64 (IntKind.wrap .i16 i2.Imm)) }:api_Value),Type_:=r_4.Type_,Over:=r_4.Over,Short:=r_4.Short }:Operand)
  else
   if (t6==12) then
    bi i2 b_4 k1 t6 true
   else
    bi i2 b_4 k1 t6 (t6==13)
noncomputable def bw (i_:Inst) (k_:Int):Option Operand :=
 if (k_==1) then
  if (i_.Mod==3) then
   some ({ Kind:=1,N:=i_.RM,RM:=0,V:=({ N:=0,From:=0,Which:=0,Type_:=0,Wants:=0,Known:=false }:api_Value),Type_:=0,Over:=0,Short:=false }:Operand)
  else
   (aZ i_ 1).bind fun r_1 =>
   some r_1
 else
  if (k_==2) then
   if (i_.Mod==3) then
    some ({ Kind:=2,N:=i_.RM,RM:=0,V:=({ N:=0,From:=0,Which:=0,Type_:=0,Wants:=0,Known:=false }:api_Value),Type_:=0,Over:=0,Short:=false }:Operand)
   else
    (aZ i_ 2).bind fun r_2 =>
    some r_2
  else
   if (k_==3) then
    some ({ Kind:=1,N:=i_.Reg,RM:=0,V:=({ N:=0,From:=0,Which:=0,Type_:=0,Wants:=0,Known:=false }:api_Value),Type_:=0,Over:=0,Short:=false }:Operand)
   else
    if (k_==4) then
     some ({ Kind:=2,N:=i_.Reg,RM:=0,V:=({ N:=0,From:=0,Which:=0,Type_:=0,Wants:=0,Known:=false }:api_Value),Type_:=0,Over:=0,Short:=false }:Operand)
    else
     if (k_==5) then
      some ({ Kind:=3,N:=i_.Reg,RM:=0,V:=({ N:=0,From:=0,Which:=0,Type_:=0,Wants:=0,Known:=false }:api_Value),Type_:=0,Over:=0,Short:=false }:Operand)
     else
      if (k_==6) then
       bj i_ ({ Kind:=0,N:=0,RM:=0,V:=({ N:=0,From:=0,Which:=0,Type_:=0,Wants:=0,Known:=false }:api_Value),Type_:=0,Over:=0,Short:=false }:Operand) k_ k_ true
      else
       bj i_ ({ Kind:=0,N:=0,RM:=0,V:=({ N:=0,From:=0,Which:=0,Type_:=0,Wants:=0,Known:=false }:api_Value),Type_:=0,Over:=0,Short:=false }:Operand) k_ k_ (k_==7)
noncomputable def cL (i_:Inst):Option ((A2 Operand) × Bool) :=
 (bn i_).bind fun r_1 =>
 (bw i_ r_1.1.A).bind fun r_2 =>
 (bw i_ r_1.1.B).bind fun r_3 =>
 if (r_1.1.A != 9) then
  if (r_1.1.A != 10) then
   some (({ a0:=r_2,a1:=r_3 }:(A2 Operand)),(r_1.1.A != 11))
  else
   some (({ a0:=r_2,a1:=r_3 }:(A2 Operand)),false)
 else
  some (({ a0:=r_2,a1:=r_3 }:(A2 Operand)),false)
noncomputable def dW (s0:(List UInt8)) (t3:(List UInt8)) (t11:Bool):Option (List UInt8) :=
 if t11 then
  some ([74,78,66]:List UInt8)
 else
  if (t3==([74,78,65]:List UInt8)) then
   some ([74,66,69]:List UInt8)
  else
   if (t3==([74,78,66,69]:List UInt8)) then
    some ([74,65]:List UInt8)
   else
    if (t3==([74,80,69]:List UInt8)) then
     some ([74,80]:List UInt8)
    else
     if (t3==([74,80,79]:List UInt8)) then
      some ([74,78,80]:List UInt8)
     else
      if (t3==([74,78,71,69]:List UInt8)) then
       some ([74,76]:List UInt8)
      else
       if (t3==([74,78,76]:List UInt8)) then
        some ([74,71,69]:List UInt8)
       else
        if (t3==([74,78,71]:List UInt8)) then
         some ([74,76,69]:List UInt8)
        else
         if (t3==([74,78,76,69]:List UInt8)) then
          some ([74,71]:List UInt8)
         else
          if (t3==([76,79,79,80,69]:List UInt8)) then
           some ([76,79,79,80,90]:List UInt8)
          else
           if (t3==([76,79,79,80,78,69]:List UInt8)) then
            some ([76,79,79,80,78,90]:List UInt8)
           else
            if (t3==([83,65,76]:List UInt8)) then
             some ([83,72,76]:List UInt8)
            else
             some s0
noncomputable def dX (s0:(List UInt8)) (t3:(List UInt8)) (t8:Bool):Option (List UInt8) :=
 if t8 then
  some ([74,66]:List UInt8)
 else
  if (t3==([74,78,67]:List UInt8)) then
   dW s0 t3 true
  else
   dW s0 t3 (t3==([74,65,69]:List UInt8))
noncomputable def dY (s_:(List UInt8)):Option (List UInt8) :=
 if (s_==([74,69]:List UInt8)) then
  some ([74,90]:List UInt8)
 else
  if (s_==([74,78,69]:List UInt8)) then
   some ([74,78,90]:List UInt8)
  else
   if (s_==([74,67]:List UInt8)) then
    dX s_ s_ true
   else
    dX s_ s_ (s_==([74,78,65,69]:List UInt8))
noncomputable def bT (s0:(List UInt8)) (t5:(List (List UInt8))) (t6:Int) (t7:Int):Option (Lp Int (Int ⊕ Unit)) :=
 if (decide (t7<t6)) then
  (idx t5 t7).bind fun z_1 =>
  if (z_1==s0) then
   some (.out (.inl (IntKind.wrap .i64 (t7+1))))
  else
   some (.next (IntKind.wrap .i64 (t7+1)))
 else
  some (.out (.inr ()))
noncomputable def hD (s_:(List UInt8)):Option Int :=
 (dt qe).bind fun r_1 =>
 (cr (fun x:Int=>bT s_ r_1 (r_1.length:Int) x) 0).bind fun e_1 =>
 match e_1 with
 | .inl e_2 =>
  some e_2
 | .inr e_3 =>
  some 0
noncomputable def hH (s_:(List UInt8)):Option (Int × Int) :=
 (dY s_).bind fun r_1 =>
 (hD r_1).bind fun r_2 =>
 if (r_2==80) then
  some (r_2,81)
 else
  if (r_2==39) then
   some (r_2,40)
  else
   some (r_2,0)
noncomputable def dB (op_:Int):Option Bool :=
 if (op_==128) then
  some true
 else
  if (op_==129) then
   some true
  else
   if (op_==131) then
    some true
   else
    if (op_==143) then
     some true
    else
     if (op_==198) then
      some true
     else
      if (op_==199) then
       some true
      else
       if (op_==208) then
        some true
       else
        if (op_==209) then
         some true
        else
         if (op_==210) then
          some true
         else
          if (op_==211) then
           some true
          else
           if (op_==246) then
            some true
           else
            if (op_==247) then
             some true
            else
             if (op_==254) then
              some true
             else
              if (op_==255) then
               some true
              else
               some false
noncomputable def dF (b_:Int):Option Bool :=
 if (b_==38) then
  some true
 else
  if (b_==46) then
   some true
  else
   if (b_==54) then
    some true
   else
    if (b_==62) then
     some true
    else
     if (b_==240) then
      some true
     else
      if (b_==242) then
       some true
      else
       if (b_==243) then
        some true
       else
        some false
noncomputable def aL (name_:Int) (a_:Int) (b_:Int):Option (Row × Bool) :=
 some (({ Name:=name_,A:=a_,B:=b_,Mod:=true }:Row),true)
noncomputable def aE (name_:Int) (a_:Int) (b_:Int):Option (Row × Bool) :=
 some (({ Name:=name_,A:=a_,B:=b_,Mod:=false }:Row),true)
noncomputable def cj :Option (Row × Bool) :=
 some (({ Name:=0,A:=0,B:=0,Mod:=false }:Row),false)
noncomputable def fH (b_2:Row) (t47:Int) (t56:Bool):Option (Row × Bool) :=
 if t56 then
  (aE 10 23 0).bind fun r_8 =>
  some (r_8.1,r_8.2)
 else
  if (t47==39) then
   (aE 11 0 0).bind fun r_9 =>
   some (r_9.1,r_9.2)
  else
   if (t47==47) then
    (aE 12 0 0).bind fun r_10 =>
    some (r_10.1,r_10.2)
   else
    if (t47==55) then
     (aE 13 0 0).bind fun r_11 =>
     some (r_11.1,r_11.2)
    else
     if (t47==63) then
      (aE 14 0 0).bind fun r_12 =>
      some (r_12.1,r_12.2)
     else
      (cj).bind fun r_13 =>
      some (r_13.1,r_13.2)
noncomputable def eF (b_2:Row) (t47:Int) (t48:Bool):Option (Row × Bool) :=
 if t48 then
  (aE 9 23 0).bind fun r_7 =>
  some (r_7.1,r_7.2)
 else
  if (t47==7) then
   fH b_2 t47 true
  else
   if (t47==23) then
    fH b_2 t47 true
   else
    fH b_2 t47 (t47==31)
noncomputable def nz (op_:Int):Option (Row × Bool) :=
 if ((ak .and .u8 op_ 7)==0) then
  (aL (IntKind.wrap .i64 (1+(IntKind.wrap .i64 (bd .u8 op_ 3)))) 1 3).bind fun r_1 =>
  some (r_1.1,r_1.2)
 else
  if ((ak .and .u8 op_ 7)==1) then
   (aL (IntKind.wrap .i64 (1+(IntKind.wrap .i64 (bd .u8 op_ 3)))) 2 4).bind fun r_2 =>
   some (r_2.1,r_2.2)
  else
   if ((ak .and .u8 op_ 7)==2) then
    (aL (IntKind.wrap .i64 (1+(IntKind.wrap .i64 (bd .u8 op_ 3)))) 3 1).bind fun r_3 =>
    some (r_3.1,r_3.2)
   else
    if ((ak .and .u8 op_ 7)==3) then
     (aL (IntKind.wrap .i64 (1+(IntKind.wrap .i64 (bd .u8 op_ 3)))) 4 2).bind fun r_4 =>
     some (r_4.1,r_4.2)
    else
     if ((ak .and .u8 op_ 7)==4) then
      (aE (IntKind.wrap .i64 (1+(IntKind.wrap .i64 (bd .u8 op_ 3)))) 14 6).bind fun r_5 =>
      some (r_5.1,r_5.2)
     else
      if ((ak .and .u8 op_ 7)==5) then
       (aE (IntKind.wrap .i64 (1+(IntKind.wrap .i64 (bd .u8 op_ 3)))) 16 7).bind fun r_6 =>
       some (r_6.1,r_6.2)
      else
       if (op_==6) then
        eF ({ Name:=0,A:=0,B:=0,Mod:=false }:Row) op_ true
       else
        if (op_==14) then
         eF ({ Name:=0,A:=0,B:=0,Mod:=false }:Row) op_ true
        else
         if (op_==22) then
          eF ({ Name:=0,A:=0,B:=0,Mod:=false }:Row) op_ true
         else
          eF ({ Name:=0,A:=0,B:=0,Mod:=false }:Row) op_ (op_==30)
noncomputable def lh (op_:Int) (reg_:Int):Option (Row × Bool) :=
 if (op_==128) then
  (aL (IntKind.wrap .i64 (1+reg_)) 1 6).bind fun r_1 =>
  some (r_1.1,r_1.2)
 else
  if (op_==129) then
   (aL (IntKind.wrap .i64 (1+reg_)) 2 7).bind fun r_2 =>
   some (r_2.1,r_2.2)
  else
   if (op_==131) then
    if (reg_==1) then
     (cj).bind fun r_3 =>
     some (r_3.1,r_3.2)
    else
     if (reg_==4) then
      (cj).bind fun r_4 =>
      some (r_4.1,r_4.2)
     else
      if (reg_==6) then
       (cj).bind fun r_5 =>
       some (r_5.1,r_5.2)
      else
       (aL (IntKind.wrap .i64 (1+reg_)) 2 8).bind fun r_6 =>
       some (r_6.1,r_6.2)
   else
    if (op_==132) then
     (aL 33 1 3).bind fun r_7 =>
     some (r_7.1,r_7.2)
    else
     if (op_==133) then
      (aL 33 2 4).bind fun r_8 =>
      some (r_8.1,r_8.2)
     else
      if (op_==134) then
       (aL 34 1 3).bind fun r_9 =>
       some (r_9.1,r_9.2)
      else
       if (op_==135) then
        (aL 34 2 4).bind fun r_10 =>
        some (r_10.1,r_10.2)
       else
        if (op_==136) then
         (aL 35 1 3).bind fun r_11 =>
         some (r_11.1,r_11.2)
        else
         if (op_==137) then
          (aL 35 2 4).bind fun r_12 =>
          some (r_12.1,r_12.2)
         else
          if (op_==138) then
           (aL 35 3 1).bind fun r_13 =>
           some (r_13.1,r_13.2)
          else
           if (op_==139) then
            (aL 35 4 2).bind fun r_14 =>
            some (r_14.1,r_14.2)
           else
            if (op_==140) then
             if (decide (reg_<4)) then
              (aL 35 2 5).bind fun r_15 =>
              some (r_15.1,r_15.2)
             else
              (cj).bind fun r_16 =>
              some (r_16.1,r_16.2)
            else
             if (op_==141) then
              (aL 36 4 20).bind fun r_17 =>
              some (r_17.1,r_17.2)
             else
              if (op_==142) then
               if (decide (reg_<4)) then
                if (reg_ != 1) then
                 (aL 35 5 2).bind fun r_18 =>
                 some (r_18.1,r_18.2)
                else
                 (cj).bind fun r_19 =>
                 some (r_19.1,r_19.2)
               else
                (cj).bind fun r_20 =>
                some (r_20.1,r_20.2)
              else
               if (op_==143) then
                if (reg_==0) then
                 (aL 10 2 0).bind fun r_21 =>
                 some (r_21.1,r_21.2)
                else
                 (cj).bind fun r_22 =>
                 some (r_22.1,r_22.2)
               else
                (cj).bind fun r_23 =>
                some (r_23.1,r_23.2)
noncomputable def li (op_:Int):Option (Row × Bool) :=
 if (decide (op_<152)) then
  (aE 34 16 22).bind fun r_1 =>
  some (r_1.1,r_1.2)
 else
  if (op_==154) then
   (aE 40 11 0).bind fun r_2 =>
   some (r_2.1,r_2.2)
  else
   (idx ([37,38,0,41,42,43,44,45]:List Int) (IntKind.wrap .u8 (op_ - 152))).bind fun z_1 =>
   (aE z_1 0 0).bind fun r_3 =>
   some (r_3.1,r_3.2)
noncomputable def lj (op_:Int):Option (Row × Bool) :=
 if (op_==160) then
  (aE 35 14 12).bind fun r_1 =>
  some (r_1.1,r_1.2)
 else
  if (op_==161) then
   (aE 35 16 13).bind fun r_2 =>
   some (r_2.1,r_2.2)
  else
   if (op_==162) then
    (aE 35 12 14).bind fun r_3 =>
    some (r_3.1,r_3.2)
   else
    if (op_==163) then
     (aE 35 13 16).bind fun r_4 =>
     some (r_4.1,r_4.2)
    else
     if (op_==168) then
      (aE 33 14 6).bind fun r_5 =>
      some (r_5.1,r_5.2)
     else
      if (op_==169) then
       (aE 33 16 7).bind fun r_6 =>
       some (r_6.1,r_6.2)
      else
       if (decide (op_<168)) then
        (aE (IntKind.wrap .i64 (46+(IntKind.wrap .i64 (IntKind.wrap .u8 (op_ - 164))))) 0 0).bind fun r_7 =>
        some (r_7.1,r_7.2)
       else
        (aE (IntKind.wrap .i64 (50+(IntKind.wrap .i64 (IntKind.wrap .u8 (op_ - 170))))) 0 0).bind fun r_8 =>
        some (r_8.1,r_8.2)
noncomputable def lk (op_:Int) (reg_:Int):Option (Row × Bool) :=
 if (op_==194) then
  (aE 56 7 0).bind fun r_1 =>
  some (r_1.1,r_1.2)
 else
  if (op_==195) then
   (aE 56 0 0).bind fun r_2 =>
   some (r_2.1,r_2.2)
  else
   if (op_==196) then
    (aL 58 4 19).bind fun r_3 =>
    some (r_3.1,r_3.2)
   else
    if (op_==197) then
     (aL 59 4 19).bind fun r_4 =>
     some (r_4.1,r_4.2)
    else
     if (op_==198) then
      if (reg_==0) then
       (aL 35 1 6).bind fun r_5 =>
       some (r_5.1,r_5.2)
      else
       (cj).bind fun r_6 =>
       some (r_6.1,r_6.2)
     else
      if (op_==199) then
       if (reg_==0) then
        (aL 35 2 7).bind fun r_7 =>
        some (r_7.1,r_7.2)
       else
        (cj).bind fun r_8 =>
        some (r_8.1,r_8.2)
      else
       if (op_==202) then
        (aE 57 7 0).bind fun r_9 =>
        some (r_9.1,r_9.2)
       else
        if (op_==203) then
         (aE 57 0 0).bind fun r_10 =>
         some (r_10.1,r_10.2)
        else
         if (op_==204) then
          (aE 60 24 0).bind fun r_11 =>
          some (r_11.1,r_11.2)
         else
          if (op_==205) then
           (aE 60 6 0).bind fun r_12 =>
           some (r_12.1,r_12.2)
          else
           if (op_==206) then
            (aE 61 0 0).bind fun r_13 =>
            some (r_13.1,r_13.2)
           else
            if (op_==207) then
             (aE 62 0 0).bind fun r_14 =>
             some (r_14.1,r_14.2)
            else
             (cj).bind fun r_15 =>
             some (r_15.1,r_15.2)
noncomputable def ll (op_:Int) (reg_:Int):Option (Row × Bool) :=
 if (decide (op_<212)) then
  if (reg_==6) then
   (cj).bind fun r_1 =>
   some (r_1.1,r_1.2)
  else
   (idx ([63,64,65,66,67,68,0,69]:List Int) reg_).bind fun z_1 =>
   if ((ak .and .u8 op_ 1)==1) then
    if ((ak .and .u8 op_ 2) != 0) then
     (aL z_1 2 15).bind fun r_2 =>
     some (r_2.1,r_2.2)
    else
     (aL z_1 2 18).bind fun r_3 =>
     some (r_3.1,r_3.2)
   else
    if ((ak .and .u8 op_ 2) != 0) then
     (aL z_1 1 15).bind fun r_4 =>
     some (r_4.1,r_4.2)
    else
     (aL z_1 1 18).bind fun r_5 =>
     some (r_5.1,r_5.2)
 else
  if (op_==212) then
   (aE 70 6 0).bind fun r_6 =>
   some (r_6.1,r_6.2)
  else
   if (op_==213) then
    (aE 71 6 0).bind fun r_7 =>
    some (r_7.1,r_7.2)
   else
    if (op_==215) then
     (aE 72 0 0).bind fun r_8 =>
     some (r_8.1,r_8.2)
    else
     if (decide (op_≥216)) then
      (aL 73 2 0).bind fun r_9 =>
      some (r_9.1,r_9.2)
     else
      (cj).bind fun r_10 =>
      some (r_10.1,r_10.2)
noncomputable def eG (b_2:Row) (op0:Int) (t4:Int) (t5:Bool):Option (Row × Bool) :=
 if t5 then
  (aE (IntKind.wrap .i64 (74+(IntKind.wrap .i64 (IntKind.wrap .u8 (op0 - 224))))) 9 0).bind fun r_1 =>
  some (r_1.1,r_1.2)
 else
  if (t4==228) then
   (aE 78 14 6).bind fun r_2 =>
   some (r_2.1,r_2.2)
  else
   if (t4==229) then
    (aE 78 16 6).bind fun r_3 =>
    some (r_3.1,r_3.2)
   else
    if (t4==230) then
     (aE 79 6 14).bind fun r_4 =>
     some (r_4.1,r_4.2)
    else
     if (t4==231) then
      (aE 79 6 16).bind fun r_5 =>
      some (r_5.1,r_5.2)
     else
      if (t4==232) then
       (aE 39 10 0).bind fun r_6 =>
       some (r_6.1,r_6.2)
      else
       if (t4==233) then
        (aE 80 10 0).bind fun r_7 =>
        some (r_7.1,r_7.2)
       else
        if (t4==234) then
         (aE 81 11 0).bind fun r_8 =>
         some (r_8.1,r_8.2)
        else
         if (t4==235) then
          (aE 80 9 0).bind fun r_9 =>
          some (r_9.1,r_9.2)
         else
          if (t4==236) then
           (aE 78 14 17).bind fun r_10 =>
           some (r_10.1,r_10.2)
          else
           if (t4==237) then
            (aE 78 16 17).bind fun r_11 =>
            some (r_11.1,r_11.2)
           else
            if (t4==238) then
             (aE 79 17 14).bind fun r_12 =>
             some (r_12.1,r_12.2)
            else
             (aE 79 17 16).bind fun r_13 =>
             some (r_13.1,r_13.2)
noncomputable def nA (op_:Int):Option (Row × Bool) :=
 if (op_==224) then
  eG ({ Name:=0,A:=0,B:=0,Mod:=false }:Row) op_ op_ true
 else
  if (op_==225) then
   eG ({ Name:=0,A:=0,B:=0,Mod:=false }:Row) op_ op_ true
  else
   if (op_==226) then
    eG ({ Name:=0,A:=0,B:=0,Mod:=false }:Row) op_ op_ true
   else
    eG ({ Name:=0,A:=0,B:=0,Mod:=false }:Row) op_ op_ (op_==227)
noncomputable def g4 (b_4:Row) (op0:Int) (reg1:Int) (e6:Int) (i7:Int):Option (Row × Bool) :=
 if (decide (op0<248)) then
  if (reg1==0) then
   (aL 33 e6 i7).bind fun r_5 =>
   some (r_5.1,r_5.2)
  else
   if (reg1==1) then
    (cj).bind fun r_6 =>
    some (r_6.1,r_6.2)
   else
    (aL (IntKind.wrap .i64 ((IntKind.wrap .i64 (84+reg1)) - 2)) e6 0).bind fun r_7 =>
    some (r_7.1,r_7.2)
 else
  if (decide (reg1<2)) then
   (aL (IntKind.wrap .i64 (15+reg1)) e6 0).bind fun r_8 =>
   some (r_8.1,r_8.2)
  else
   if (op0==254) then
    (cj).bind fun r_9 =>
    some (r_9.1,r_9.2)
   else
    if (reg1==7) then
     (cj).bind fun r_10 =>
     some (r_10.1,r_10.2)
    else
     (idx ([39,40,80,81,9]:List Int) (IntKind.wrap .i64 (reg1 - 2))).bind fun z_1 =>
     if (reg1==3) then
      (aL z_1 19 0).bind fun r_11 =>
      some (r_11.1,r_11.2)
     else
      if (reg1==5) then
       (aL z_1 19 0).bind fun r_12 =>
       some (r_12.1,r_12.2)
      else
       (aL z_1 e6 0).bind fun r_13 =>
       some (r_13.1,r_13.2)
noncomputable def g5 (b_4:Row) (op0:Int) (reg1:Int) (t21:Bool):Option (Row × Bool) :=
 if t21 then
  (aE (IntKind.wrap .i64 (90+(IntKind.wrap .i64 (IntKind.wrap .u8 (op0 - 248))))) 0 0).bind fun r_3 =>
  some (r_3.1,r_3.2)
 else
  if (decide (op0<246)) then
   (cj).bind fun r_4 =>
   some (r_4.1,r_4.2)
  else
   if ((ak .and .u8 op0 1)==1) then
    g4 b_4 op0 reg1 2 7
   else
    g4 b_4 op0 reg1 1 6
noncomputable def nB (op_:Int) (reg_:Int):Option (Row × Bool) :=
 if (op_==244) then
  (aE 82 0 0).bind fun r_1 =>
  some (r_1.1,r_1.2)
 else
  if (op_==245) then
   (aE 83 0 0).bind fun r_2 =>
   some (r_2.1,r_2.2)
  else
   if (decide (op_≥248)) then
    g5 ({ Name:=0,A:=0,B:=0,Mod:=false }:Row) op_ reg_ (decide (op_<254))
   else
    g5 ({ Name:=0,A:=0,B:=0,Mod:=false }:Row) op_ reg_ false
noncomputable def gG (op_:Int) (reg_:Int):Option (Row × Bool) :=
 if (decide (op_<64)) then
  (nz op_).bind fun r_1 =>
  some (r_1.1,r_1.2)
 else
  if (decide (op_<96)) then
   (idx ([15,16,9,10]:List Int) (bd .u8 (IntKind.wrap .u8 (op_ - 64)) 3)).bind fun z_1 =>
   (aE z_1 22 0).bind fun r_2 =>
   some (r_2.1,r_2.2)
  else
   if (decide (op_<112)) then
    (cj).bind fun r_3 =>
    some (r_3.1,r_3.2)
   else
    if (decide (op_<128)) then
     (aE (IntKind.wrap .i64 (17+(IntKind.wrap .i64 (IntKind.wrap .u8 (op_ - 112))))) 9 0).bind fun r_4 =>
     some (r_4.1,r_4.2)
    else
     if (decide (op_<144)) then
      (lh op_ (ak .and .i64 reg_ 7)).bind fun r_5 =>
      some (r_5.1,r_5.2)
     else
      if (decide (op_<160)) then
       (li op_).bind fun r_6 =>
       some (r_6.1,r_6.2)
      else
       if (decide (op_<176)) then
        (lj op_).bind fun r_7 =>
        some (r_7.1,r_7.2)
       else
        if (decide (op_<184)) then
         (aE 35 21 6).bind fun r_8 =>
         some (r_8.1,r_8.2)
        else
         if (decide (op_<192)) then
          (aE 35 22 7).bind fun r_9 =>
          some (r_9.1,r_9.2)
         else
          if (decide (op_<208)) then
           (lk op_ (ak .and .i64 reg_ 7)).bind fun r_10 =>
           some (r_10.1,r_10.2)
          else
           if (decide (op_<224)) then
            (ll op_ (ak .and .i64 reg_ 7)).bind fun r_11 =>
            some (r_11.1,r_11.2)
           else
            if (decide (op_<240)) then
             (nA op_).bind fun r_12 =>
             some (r_12.1,r_12.2)
            else
             (nB op_ (ak .and .i64 reg_ 7)).bind fun r_13 =>
             some (r_13.1,r_13.2)
noncomputable def cZ (o_:Operand) (size_:Int):Option Bool :=
 if (o_.Kind==5) then
  if (o_.Type_==size_) then
   some true
  else
   if (o_.Type_==0) then
    some true
   else
    some (size_==0)
 else
  some false
noncomputable def cH (v_:api_Value):Option Bool :=
 if (v_.From==0) then
  some (v_.Wants==0)
 else
  some false
noncomputable def dG (o_:Operand):Option Bool :=
 if (o_.Kind==4) then
  (cH o_.V).bind fun r_1 =>
  if r_1 then
   some o_.V.Known
  else
   some false
 else
  some false
noncomputable def dZ (n_:Int) (size_:Int):Option Bool :=
 if (size_==1) then
  if (decide (n_≥(-128))) then
   some (decide (n_≤255))
  else
   some false
 else
  if (decide (n_≥(-32768))) then
   some (decide (n_≤65535))
  else
   some false
noncomputable def fj (o_:Operand):Option Bool :=
 if (o_.Kind==4) then
  (cH o_.V).bind fun r_1 =>
  if r_1 then
   some true
  else
   some (o_.V.Wants != 0)
 else
  some false
noncomputable def kw (w_:Int):Option Int :=
 some (IntKind.wrap .u8 w_)
noncomputable def hT (b_:Int):Option Int :=
 some (IntKind.wrap .u16 (IntKind.wrap .i16 (IntKind.wrap .i8 b_)))
noncomputable def fk (w_:Int):Option Bool :=
 (kw w_).bind fun r_1 =>
 (hT r_1).bind fun r_2 =>
 some (r_2==w_)
noncomputable def d4 (n_:Int):Option Bool :=
 (fk (IntKind.wrap .u16 n_)).bind fun r_1 =>
 if r_1 then
  (dZ n_ 2).bind fun r_2 =>
  some r_2
 else
  some false
noncomputable def d5 (o_:Operand) (far_:Bool):Option Bool :=
 if (o_.Kind != 4) then
  some false
 else
  if (o_.V.Wants != 0) then
   some false
  else
   (cH o_.V).bind fun r_1 =>
   if r_1 then
    if o_.V.Known then
     some false
    else
     some ((o_.Type_==102)==far_)
   else
    some ((o_.Type_==102)==far_)
noncomputable def d6 (o_:Operand) (size_:Int):Option Bool :=
 (cZ o_ size_).bind fun r_1 =>
 if r_1 then
  some (o_.RM==8)
 else
  some false
noncomputable def gj (op_:Int) (o_:Operand) (first_:Int):Option Bool :=
 if (op_==14) then
  if (o_.Kind==1) then
   some (o_.N==0)
  else
   some false
 else
  if (op_==15) then
   if (o_.Kind==1) then
    some (o_.N==1)
   else
    some false
  else
   if (op_==16) then
    if (o_.Kind==2) then
     some (o_.N==0)
    else
     some false
   else
    if (op_==17) then
     if (o_.Kind==2) then
      some (o_.N==2)
     else
      some false
    else
     if (op_==18) then
      (dG o_).bind fun r_1 =>
      if r_1 then
       some (o_.V.N==1)
      else
       some false
     else
      if (op_==24) then
       (dG o_).bind fun r_2 =>
       if r_2 then
        some (o_.V.N==3)
       else
        some false
      else
       if (op_==21) then
        if (o_.Kind==1) then
         some (o_.N==(IntKind.wrap .i64 (ak .and .u8 first_ 7)))
        else
         some false
       else
        if (op_==22) then
         if (o_.Kind==2) then
          some (o_.N==(IntKind.wrap .i64 (ak .and .u8 first_ 7)))
         else
          some false
        else
         if (op_==23) then
          if (o_.Kind==3) then
           some (o_.N==(IntKind.wrap .i64 (ak .and .u8 (bd .u8 first_ 3) 3)))
          else
           some false
         else
          some false
noncomputable def eH (op_:Int) (o_:Operand) (first_:Int):Option Bool :=
 if (op_==0) then
  some (o_.Kind==0)
 else
  if (op_==1) then
   if (o_.Kind==1) then
    some true
   else
    (cZ o_ 1).bind fun r_1 =>
    some r_1
  else
   if (op_==2) then
    if (o_.Kind==2) then
     some true
    else
     (cZ o_ 2).bind fun r_2 =>
     some r_2
   else
    if (op_==3) then
     some (o_.Kind==1)
    else
     if (op_==4) then
      some (o_.Kind==2)
     else
      if (op_==5) then
       some (o_.Kind==3)
      else
       if (op_==6) then
        (dG o_).bind fun r_3 =>
        if r_3 then
         (dZ o_.V.N 1).bind fun r_4 =>
         some r_4
        else
         some false
       else
        if (op_==7) then
         (fj o_).bind fun r_5 =>
         if r_5 then
          (cH o_.V).bind fun r_6 =>
          if (!r_6) then
           some true
          else
           (dZ o_.V.N 2).bind fun r_7 =>
           some r_7
         else
          some false
        else
         if (op_==8) then
          (dG o_).bind fun r_8 =>
          if r_8 then
           (d4 o_.V.N).bind fun r_9 =>
           some r_9
          else
           some false
         else
          if (op_==9) then
           (d5 o_ false).bind fun r_10 =>
           some r_10
          else
           if (op_==10) then
            (d5 o_ false).bind fun r_11 =>
            if r_11 then
             some (!o_.Short)
            else
             some false
           else
            if (op_==11) then
             (d5 o_ true).bind fun r_12 =>
             if r_12 then
              some (!o_.Short)
             else
              some false
            else
             if (op_==12) then
              (d6 o_ 1).bind fun r_13 =>
              some r_13
             else
              if (op_==13) then
               (d6 o_ 2).bind fun r_14 =>
               some r_14
              else
               if (op_==20) then
                (cZ o_ 0).bind fun r_15 =>
                some r_15
               else
                if (op_==19) then
                 if (o_.Kind==5) then
                  if (o_.Type_==4) then
                   some true
                  else
                   some (o_.Type_==0)
                 else
                  some false
                else
                 (gj op_ o_ first_).bind fun r_16 =>
                 some r_16
noncomputable def da (t3:Int) (t4:Bool):Option Int :=
 if t4 then
  some 1
 else
  if (t3==7) then
   some 2
  else
   if (t3==10) then
    some 2
   else
    if (t3==12) then
     some 2
    else
     if (t3==13) then
      some 2
     else
      if (t3==11) then
       some 4
      else
       some 0
noncomputable def cq (op_:Int):Option Int :=
 if (op_==6) then
  da op_ true
 else
  if (op_==8) then
   da op_ true
  else
   da op_ (op_==9)
noncomputable def aO (r2:Row) (ops3:(A2 Operand)) (k5:Int) (t12:(A2 Int)) (t13:Int) (t50:Bool):Option (Lp Int (Bool ⊕ Unit)) :=
 if t50 then
  (idx ops3.l (IntKind.wrap .i64 (1 - k5))).bind fun z_4 =>
  if (z_4.Kind != 1) then
   if (z_4.Kind != 2) then
    if (z_4.Kind != 3) then
     some (.out (.inl false))
    else
     (cq r2.B).bind fun r_1 =>
     if (r_1==0) then
      if (r2.B==15) then
       some (.out (.inl false))
      else
       some (.next (IntKind.wrap .i64 (t13+1)))
     else
      some (.next (IntKind.wrap .i64 (t13+1)))
   else
    (cq r2.B).bind fun r_2 =>
    if (r_2==0) then
     if (r2.B==15) then
      some (.out (.inl false))
     else
      some (.next (IntKind.wrap .i64 (t13+1)))
    else
     some (.next (IntKind.wrap .i64 (t13+1)))
  else
   (cq r2.B).bind fun r_3 =>
   if (r_3==0) then
    if (r2.B==15) then
     some (.out (.inl false))
    else
     some (.next (IntKind.wrap .i64 (t13+1)))
   else
    some (.next (IntKind.wrap .i64 (t13+1)))
 else
  some (.next (IntKind.wrap .i64 (t13+1)))
noncomputable def cI (r2:Row) (ops3:(A2 Operand)) (t12:(A2 Int)) (t13:Int):Option (Lp Int (Bool ⊕ Unit)) :=
 if (decide (t13<2)) then
  (idx t12.l t13).bind fun z_1 =>
  if (z_1==1) then
   (idx ops3.l t13).bind fun z_2 =>
   if (z_2.Kind==5) then
    (idx ops3.l t13).bind fun z_3 =>
    aO r2 ops3 t13 t12 t13 (z_3.Type_==0)
   else
    aO r2 ops3 t13 t12 t13 false
  else
   if (z_1==2) then
    (idx ops3.l t13).bind fun z_5 =>
    if (z_5.Kind==5) then
     (idx ops3.l t13).bind fun z_6 =>
     aO r2 ops3 t13 t12 t13 (z_6.Type_==0)
    else
     aO r2 ops3 t13 t12 t13 false
   else
    if (z_1==19) then
     if (r2.Name != 58) then
      if (r2.Name != 59) then
       (idx ops3.l t13).bind fun z_7 =>
       if (z_7.Kind==5) then
        (idx ops3.l t13).bind fun z_8 =>
        aO r2 ops3 t13 t12 t13 (z_8.Type_==0)
       else
        aO r2 ops3 t13 t12 t13 false
      else
       aO r2 ops3 t13 t12 t13 false
     else
      aO r2 ops3 t13 t12 t13 false
    else
     aO r2 ops3 t13 t12 t13 false
 else
  some (.out (.inr ()))
noncomputable def d7 (r_:Row) (ops_:(A2 Operand)):Option Bool :=
 (cr (fun x:Int=>cI r_ ops_ ({ a0:=r_.A,a1:=r_.B }:(A2 Int)) x) 0).bind fun e_1 =>
 match e_1 with
 | .inl e_2 =>
  some e_2
 | .inr e_3 =>
  some true
noncomputable def gk (op_:Int):Option Bool :=
 if (op_==1) then
  some true
 else
  if (op_==2) then
   some true
  else
   if (op_==19) then
    some true
   else
    some (op_==20)
noncomputable def cm (mod_:Int) (rm_:Int):Option Int :=
 if (mod_==1) then
  some 1
 else
  if (mod_==2) then
   some 2
  else
   if (mod_==0) then
    if (rm_==6) then
     some 2
    else
     some 0
   else
    some 0
noncomputable def cB (c3:Choice) (o5:Operand) (b_6:Choice) (known7:Bool) (t39:Bool):Option Choice :=
 if t39 then
  (cm 0 c3.I.RM).bind fun r_4 =>
  some ({ I:=({ c3.I with Mod:=0 }:Inst),Disp:=c3.Disp,Imm:=c3.Imm,HasD:=(r_4==2),HasI:=c3.HasI,Jumps:=c3.Jumps }:Choice)
 else
  if known7 then
   (d4 o5.V.N).bind fun r_5 =>
   if r_5 then
    (cm 1 c3.I.RM).bind fun r_6 =>
    some ({ I:=({ c3.I with Mod:=1 }:Inst),Disp:=c3.Disp,Imm:=c3.Imm,HasD:=(r_6==2),HasI:=c3.HasI,Jumps:=c3.Jumps }:Choice)
   else
    (cm 2 c3.I.RM).bind fun r_7 =>
    some ({ I:=({ c3.I with Mod:=2 }:Inst),Disp:=c3.Disp,Imm:=c3.Imm,HasD:=(r_7==2),HasI:=c3.HasI,Jumps:=c3.Jumps }:Choice)
  else
   (cm 2 c3.I.RM).bind fun r_8 =>
   some ({ I:=({ c3.I with Mod:=2 }:Inst),Disp:=c3.Disp,Imm:=c3.Imm,HasD:=(r_8==2),HasI:=c3.HasI,Jumps:=c3.Jumps }:Choice)
noncomputable def cU (c3:Choice) (o5:Operand) (b_6:Choice) (known7:Bool):Option Choice :=
 if (o5.RM==8) then
  (cm 0 6).bind fun r_3 =>
  some ({ I:=({ c3.I with Mod:=0,RM:=6,Disp:=(IntKind.wrap .u16 o5.V.N) }:Inst),Disp:=c3.Disp,Imm:=c3.Imm,HasD:=(r_3==2),HasI:=c3.HasI,Jumps:=c3.Jumps }:Choice)
 else
  if known7 then
   if (o5.V.N==0) then
    cB ({ I:=({ c3.I with RM:=o5.RM,Disp:=(IntKind.wrap .u16 o5.V.N) }:Inst),Disp:=c3.Disp,Imm:=c3.Imm,HasD:=c3.HasD,HasI:=c3.HasI,Jumps:=c3.Jumps }:Choice) o5 b_6 true (o5.RM != 6)
   else
    cB ({ I:=({ c3.I with RM:=o5.RM,Disp:=(IntKind.wrap .u16 o5.V.N) }:Inst),Disp:=c3.Disp,Imm:=c3.Imm,HasD:=c3.HasD,HasI:=c3.HasI,Jumps:=c3.Jumps }:Choice) o5 b_6 true false
  else
   cB ({ I:=({ c3.I with RM:=o5.RM,Disp:=(IntKind.wrap .u16 o5.V.N) }:Inst),Disp:=c3.Disp,Imm:=c3.Imm,HasD:=c3.HasD,HasI:=c3.HasI,Jumps:=c3.Jumps }:Choice) o5 b_6 false false
noncomputable def cQ (c3:Choice) (o5:Operand) (b_6:Choice) (op1:Int) (t73:Bool):Option Choice :=
 if t73 then
  some ({ I:=({ c3.I with Reg:=o5.N }:Inst),Disp:=c3.Disp,Imm:=c3.Imm,HasD:=c3.HasD,HasI:=c3.HasI,Jumps:=c3.Jumps }:Choice)
 else
  (gk op1).bind fun r_1 =>
  if (!r_1) then
   some c3
  else
   if (o5.Kind != 5) then
    some ({ I:=({ c3.I with Mod:=3,RM:=o5.N }:Inst),Disp:=c3.Disp,Imm:=c3.Imm,HasD:=c3.HasD,HasI:=c3.HasI,Jumps:=c3.Jumps }:Choice)
   else
    (cH o5.V).bind fun r_2 =>
    if r_2 then
     cU ({ c3 with Disp:=o5.V }:Choice) o5 b_6 o5.V.Known
    else
     cU ({ c3 with Disp:=o5.V }:Choice) o5 b_6 false
noncomputable def fm (c_:Choice) (op_:Int) (o_:Operand):Option Choice :=
 if (op_==3) then
  cQ c_ o_ ({ I:=({ Lock:=false,Rep:=0,Seg:=0,Op:=0,Mod:=0,Reg:=0,RM:=0,Disp:=0,Imm:=0,Sel:=0 }:Inst),Disp:=({ N:=0,From:=0,Which:=0,Type_:=0,Wants:=0,Known:=false }:api_Value),Imm:=({ N:=0,From:=0,Which:=0,Type_:=0,Wants:=0,Known:=false }:api_Value),HasD:=false,HasI:=false,Jumps:=false }:Choice) op_ true
 else
  if (op_==4) then
   cQ c_ o_ ({ I:=({ Lock:=false,Rep:=0,Seg:=0,Op:=0,Mod:=0,Reg:=0,RM:=0,Disp:=0,Imm:=0,Sel:=0 }:Inst),Disp:=({ N:=0,From:=0,Which:=0,Type_:=0,Wants:=0,Known:=false }:api_Value),Imm:=({ N:=0,From:=0,Which:=0,Type_:=0,Wants:=0,Known:=false }:api_Value),HasD:=false,HasI:=false,Jumps:=false }:Choice) op_ true
  else
   cQ c_ o_ ({ I:=({ Lock:=false,Rep:=0,Seg:=0,Op:=0,Mod:=0,Reg:=0,RM:=0,Disp:=0,Imm:=0,Sel:=0 }:Inst),Disp:=({ N:=0,From:=0,Which:=0,Type_:=0,Wants:=0,Known:=false }:api_Value),Imm:=({ N:=0,From:=0,Which:=0,Type_:=0,Wants:=0,Known:=false }:api_Value),HasD:=false,HasI:=false,Jumps:=false }:Choice) op_ (op_==5)
noncomputable def dK (c3:Choice) (o5:Operand) (b_6:Choice) (t7:Int) (t39:Bool):Option Choice :=
 if t39 then
  some ({ c3 with Imm:=o5.V,HasI:=true,Jumps:=true }:Choice)
 else
  if (t7==11) then
   some ({ c3 with Imm:=o5.V,HasI:=true }:Choice)
  else
   some c3
noncomputable def cV (c3:Choice) (o5:Operand) (b_6:Choice) (t7:Int) (t25:Bool):Option Choice :=
 if t25 then
  some ({ I:=({ c3.I with Imm:=(IntKind.wrap .u16 o5.V.N) }:Inst),Disp:=c3.Disp,Imm:=o5.V,HasD:=c3.HasD,HasI:=true,Jumps:=c3.Jumps }:Choice)
 else
  if (t7==9) then
   dK c3 o5 b_6 t7 true
  else
   dK c3 o5 b_6 t7 (t7==10)
noncomputable def fp (c_:Choice) (op_:Int) (o_:Operand):Option Choice :=
 if (op_==6) then
  some ({ I:=({ c_.I with Imm:=(ak .and .u16 (IntKind.wrap .u16 o_.V.N) 255) }:Inst),Disp:=c_.Disp,Imm:=c_.Imm,HasD:=c_.HasD,HasI:=c_.HasI,Jumps:=c_.Jumps }:Choice)
 else
  if (op_==8) then
   some ({ I:=({ c_.I with Imm:=(IntKind.wrap .u16 o_.V.N) }:Inst),Disp:=c_.Disp,Imm:=c_.Imm,HasD:=c_.HasD,HasI:=c_.HasI,Jumps:=c_.Jumps }:Choice)
  else
   if (op_==7) then
    cV c_ o_ ({ I:=({ Lock:=false,Rep:=0,Seg:=0,Op:=0,Mod:=0,Reg:=0,RM:=0,Disp:=0,Imm:=0,Sel:=0 }:Inst),Disp:=({ N:=0,From:=0,Which:=0,Type_:=0,Wants:=0,Known:=false }:api_Value),Imm:=({ N:=0,From:=0,Which:=0,Type_:=0,Wants:=0,Known:=false }:api_Value),HasD:=false,HasI:=false,Jumps:=false }:Choice) op_ true
   else
    if (op_==12) then
     cV c_ o_ ({ I:=({ Lock:=false,Rep:=0,Seg:=0,Op:=0,Mod:=0,Reg:=0,RM:=0,Disp:=0,Imm:=0,Sel:=0 }:Inst),Disp:=({ N:=0,From:=0,Which:=0,Type_:=0,Wants:=0,Known:=false }:api_Value),Imm:=({ N:=0,From:=0,Which:=0,Type_:=0,Wants:=0,Known:=false }:api_Value),HasD:=false,HasI:=false,Jumps:=false }:Choice) op_ true
    else
     cV c_ o_ ({ I:=({ Lock:=false,Rep:=0,Seg:=0,Op:=0,Mod:=0,Reg:=0,RM:=0,Disp:=0,Imm:=0,Sel:=0 }:Inst),Disp:=({ N:=0,From:=0,Which:=0,Type_:=0,Wants:=0,Known:=false }:api_Value),Imm:=({ N:=0,From:=0,Which:=0,Type_:=0,Wants:=0,Known:=false }:api_Value),HasD:=false,HasI:=false,Jumps:=false }:Choice) op_ (op_==13)
noncomputable def bE (ops7:(A2 Operand)) (b_8:Choice) (c9:Choice) (t28:(A2 Int)) (t29:Int):Option (Lp (Choice × Int) Choice) :=
 if (decide (t29<2)) then
  (idx t28.l t29).bind fun z_1 =>
  (idx ops7.l t29).bind fun z_2 =>
  (fm c9 z_1 z_2).bind fun r_2 =>
  (idx ops7.l t29).bind fun z_3 =>
  (fp r_2 z_1 z_3).bind fun r_3 =>
  some (.next (r_3,(IntKind.wrap .i64 (t29+1))))
 else
  some (.out c9)
noncomputable def bU (r6:Row) (ops7:(A2 Operand)) (b_8:Choice) (c9:Choice):Option Choice :=
 (cr (fun x:(Choice × Int)=>bE ops7 b_8 x.1 ({ a0:=r6.A,a1:=r6.B }:(A2 Int)) x.2) (c9,0)).bind fun e_1 =>
 some e_1
noncomputable def d9 (first_:Int) (reg_:Int) (r_:Row) (ops_:(A2 Operand)):Option Choice :=
 if r_.Mod then
  (dB first_).bind fun r_1 =>
  if r_1 then
   bU ({ r_ with Mod:=true }:Row) ops_ ({ I:=({ Lock:=false,Rep:=0,Seg:=0,Op:=0,Mod:=0,Reg:=0,RM:=0,Disp:=0,Imm:=0,Sel:=0 }:Inst),Disp:=({ N:=0,From:=0,Which:=0,Type_:=0,Wants:=0,Known:=false }:api_Value),Imm:=({ N:=0,From:=0,Which:=0,Type_:=0,Wants:=0,Known:=false }:api_Value),HasD:=false,HasI:=false,Jumps:=false }:Choice) ({ I:=({ Lock:=false,Rep:=0,Seg:=0,Op:=first_,Mod:=0,Reg:=reg_,RM:=0,Disp:=0,Imm:=0,Sel:=0 }:Inst),Disp:=({ N:=0,From:=0,Which:=0,Type_:=0,Wants:=0,Known:=false }:api_Value),Imm:=({ N:=0,From:=0,Which:=0,Type_:=0,Wants:=0,Known:=false }:api_Value),HasD:=false,HasI:=false,Jumps:=false }:Choice)
  else
   bU ({ r_ with Mod:=true }:Row) ops_ ({ I:=({ Lock:=false,Rep:=0,Seg:=0,Op:=0,Mod:=0,Reg:=0,RM:=0,Disp:=0,Imm:=0,Sel:=0 }:Inst),Disp:=({ N:=0,From:=0,Which:=0,Type_:=0,Wants:=0,Known:=false }:api_Value),Imm:=({ N:=0,From:=0,Which:=0,Type_:=0,Wants:=0,Known:=false }:api_Value),HasD:=false,HasI:=false,Jumps:=false }:Choice) ({ I:=({ Lock:=false,Rep:=0,Seg:=0,Op:=first_,Mod:=0,Reg:=0,RM:=0,Disp:=0,Imm:=0,Sel:=0 }:Inst),Disp:=({ N:=0,From:=0,Which:=0,Type_:=0,Wants:=0,Known:=false }:api_Value),Imm:=({ N:=0,From:=0,Which:=0,Type_:=0,Wants:=0,Known:=false }:api_Value),HasD:=false,HasI:=false,Jumps:=false }:Choice)
 else
  bU ({ r_ with Mod:=false }:Row) ops_ ({ I:=({ Lock:=false,Rep:=0,Seg:=0,Op:=0,Mod:=0,Reg:=0,RM:=0,Disp:=0,Imm:=0,Sel:=0 }:Inst),Disp:=({ N:=0,From:=0,Which:=0,Type_:=0,Wants:=0,Known:=false }:api_Value),Imm:=({ N:=0,From:=0,Which:=0,Type_:=0,Wants:=0,Known:=false }:api_Value),HasD:=false,HasI:=false,Jumps:=false }:Choice) ({ I:=({ Lock:=false,Rep:=0,Seg:=0,Op:=first_,Mod:=0,Reg:=0,RM:=0,Disp:=0,Imm:=0,Sel:=0 }:Inst),Disp:=({ N:=0,From:=0,Which:=0,Type_:=0,Wants:=0,Known:=false }:api_Value),Imm:=({ N:=0,From:=0,Which:=0,Type_:=0,Wants:=0,Known:=false }:api_Value),HasD:=false,HasI:=false,Jumps:=false }:Choice)
noncomputable def fI (i_:Inst):Option (Row × Bool) :=
 (dF i_.Op).bind fun r_1 =>
 if r_1 then
  some (({ Name:=0,A:=0,B:=0,Mod:=false }:Row),false)
 else
  (gG i_.Op i_.Reg).bind fun r_2 =>
  some (r_2.1,r_2.2)
noncomputable def cW (i2:Inst):Option Bool :=
 (cm i2.Mod i2.RM).bind fun r_1 =>
 if (r_1==0) then
  some (i2.Disp==0)
 else
  if (r_1==1) then
   (fk i2.Disp).bind fun r_2 =>
   some r_2
  else
   some true
noncomputable def ec (i_:Inst) (r_:Row):Option Bool :=
 if (!r_.Mod) then
  if (i_.Mod==0) then
   if (i_.Reg==0) then
    if (i_.RM==0) then
     some (i_.Disp==0)
    else
     some false
   else
    some false
  else
   some false
 else
  if (decide (i_.Mod<0)) then
   some false
  else
   if (decide (i_.Mod>3)) then
    some false
   else
    if (decide (i_.Reg<0)) then
     some false
    else
     if (decide (i_.Reg>7)) then
      some false
     else
      if (decide (i_.RM<0)) then
       some false
      else
       if (decide (i_.RM>7)) then
        some false
       else
        if (i_.Mod==3) then
         if (r_.A==19) then
          some false
         else
          if (r_.B==19) then
           some false
          else
           if (r_.B==20) then
            some false
           else
            cW i_
        else
         cW i_
noncomputable def dL (i2:Inst) (r3:Row) (t11:(A2 Int)) (t12:Int) (t15:Int) (t41:Bool):Option (Lp Int (Bool ⊕ Unit)) :=
 if t41 then
  (fk i2.Imm).bind fun r_1 =>
  if r_1 then
   some (.out (.inl (i2.Sel==0)))
  else
   some (.out (.inl false))
 else
  if (t15==7) then
   some (.out (.inl (i2.Sel==0)))
  else
   if (t15==10) then
    some (.out (.inl (i2.Sel==0)))
   else
    if (t15==12) then
     some (.out (.inl (i2.Sel==0)))
    else
     if (t15==13) then
      some (.out (.inl (i2.Sel==0)))
     else
      if (t15==11) then
       some (.out (.inl true))
      else
       some (.next (IntKind.wrap .i64 (t12+1)))
noncomputable def bV (i2:Inst) (r3:Row) (t11:(A2 Int)) (t12:Int):Option (Lp Int (Bool ⊕ Unit)) :=
 if (decide (t12<2)) then
  (idx t11.l t12).bind fun z_1 =>
  if (z_1==6) then
   if (decide (i2.Imm<256)) then
    if (i2.Sel==0) then
     if (r3.Name != 70) then
      if (r3.Name != 71) then
       some (.out (.inl true))
      else
       some (.out (.inl (i2.Imm==10)))
     else
      some (.out (.inl (i2.Imm==10)))
    else
     some (.out (.inl false))
   else
    some (.out (.inl false))
  else
   if (z_1==8) then
    dL i2 r3 t11 t12 z_1 true
   else
    dL i2 r3 t11 t12 z_1 (z_1==9)
 else
  some (.out (.inr ()))
noncomputable def dC (i_:Inst) (r_:Row):Option Bool :=
 (cr (fun x:Int=>bV i_ r_ ({ a0:=r_.A,a1:=r_.B }:(A2 Int)) x) 0).bind fun e_1 =>
 match e_1 with
 | .inl e_2 =>
  some e_2
 | .inr e_3 =>
  if (i_.Imm==0) then
   some (i_.Sel==0)
  else
   some false
noncomputable def bH (t3:Int) (t4:Bool):Option Int :=
 if t4 then
  some 1
 else
  if (t3==48) then
   some 2
  else
   if (t3==49) then
    some 2
   else
    if (t3==54) then
     some 2
    else
     if (t3==55) then
      some 2
     else
      some 0
noncomputable def fq (name_:Int):Option Int :=
 if (name_==46) then
  bH name_ true
 else
  if (name_==47) then
   bH name_ true
  else
   if (name_==50) then
    bH name_ true
   else
    if (name_==51) then
     bH name_ true
    else
     if (name_==52) then
      bH name_ true
     else
      bH name_ (name_==53)
noncomputable def dm (i_:Inst) (r_:Row):Option Bool :=
 (fq r_.Name).bind fun r_1 =>
 if (i_.Rep==0) then
  if (decide (i_.Seg≥0)) then
   some (decide (i_.Seg≤4))
  else
   some false
 else
  if (i_.Rep==1) then
   if (decide (r_1<2)) then
    some false
   else
    if (decide (i_.Seg≥0)) then
     some (decide (i_.Seg≤4))
    else
     some false
  else
   if (i_.Rep==2) then
    if (decide (r_1<1)) then
     some false
    else
     if (decide (i_.Seg≥0)) then
      some (decide (i_.Seg≤4))
     else
      some false
   else
    some false
noncomputable def fJ (i_:Inst):Option Bool :=
 (fI i_).bind fun r_1 =>
 if r_1.2 then
  (ec i_ r_1.1).bind fun r_2 =>
  if r_2 then
   (dC i_ r_1.1).bind fun r_3 =>
   if r_3 then
    (dm i_ r_1.1).bind fun r_4 =>
    some r_4
   else
    some false
  else
   some false
 else
  some false
noncomputable def gl (r_:Row):Option Int :=
 (cq r_.A).bind fun r_1 =>
 (cq r_.B).bind fun r_2 =>
 some (IntKind.wrap .i64 (r_1+r_2))
noncomputable def eI (i1:Inst) (r3:Row) (n5:Int):Option Int :=
 if (decide (i1.Seg>0)) then
  if r3.Mod then
   (cm i1.Mod i1.RM).bind fun r_4 =>
   some (IntKind.wrap .i64 ((IntKind.wrap .i64 (n5+1))+(IntKind.wrap .i64 (1+r_4))))
  else
   some (IntKind.wrap .i64 (n5+1))
 else
  if r3.Mod then
   (cm i1.Mod i1.RM).bind fun r_5 =>
   some (IntKind.wrap .i64 (n5+(IntKind.wrap .i64 (1+r_5))))
  else
   some n5
noncomputable def db (i1:Inst) (r3:Row) (n5:Int):Option Int :=
 if (decide (i1.Rep>0)) then
  eI i1 r3 (IntKind.wrap .i64 (n5+1))
 else
  eI i1 r3 n5
noncomputable def ed (i_:Inst):Option Int :=
 (fJ i_).bind fun r_1 =>
 if (!r_1) then
  some 0
 else
  (fI i_).bind fun r_2 =>
  (gl r_2.1).bind fun r_3 =>
  if i_.Lock then
   db ({ i_ with Lock:=true }:Inst) r_2.1 (IntKind.wrap .i64 ((IntKind.wrap .i64 (1+r_3))+1))
  else
   db ({ i_ with Lock:=false }:Inst) r_2.1 (IntKind.wrap .i64 (1+r_3))
noncomputable def bo (out3:(List Choice)) (l0:(List Choice)) (n4:Int) (t11:(List Choice)) (t12:Int) (t13:Int):Option (Lp ((List Choice) × Int) (List Choice)) :=
 if (decide (t13<t12)) then
  (idx t11 t13).bind fun z_1 =>
  (ed z_1.I).bind fun r_1 =>
  if (r_1==n4) then
   (p9 168 out3 ([z_1]:List Choice)).bind fun z_2 =>
   some (.next (z_2,(IntKind.wrap .i64 (t13+1))))
  else
   some (.next (out3,(IntKind.wrap .i64 (t13+1))))
 else
  some (.out out3)
noncomputable def bW (out3:(List Choice)) (l0:(List Choice)) (n4:Int):Option (Lp ((List Choice) × Int) (List Choice)) :=
 if (decide (n4≤12)) then
  (cr (fun x:((List Choice) × Int)=>bo x.1 l0 n4 l0 (l0.length:Int) x.2) (out3,0)).bind fun e_1 =>
  some (.next (e_1,(IntKind.wrap .i64 (n4+1))))
 else
  some (.out out3)
noncomputable def dD (l_:(List Choice)):Option (List Choice) :=
 (cr (fun x:((List Choice) × Int)=>bW x.1 l_ x.2) (([]:List Choice),1)).bind fun e_1 =>
 some e_1
noncomputable def de (ops3:(A2 Operand)) (out5:(List Choice)) (name0:Int) (first7:Int) (reg8:Int) (t12:Int):Option (Lp ((List Choice) × Int) (List Choice)) :=
 (gG first7 reg8).bind fun r_3 =>
 if (!r_3.2) then
  some (.next (out5,(IntKind.wrap .i64 (t12+1))))
 else
  if (r_3.1.Name != name0) then
   some (.next (out5,(IntKind.wrap .i64 (t12+1))))
  else
   (eH r_3.1.A ops3.a0 first7).bind fun r_4 =>
   if (!r_4) then
    some (.next (out5,(IntKind.wrap .i64 (t12+1))))
   else
    (eH r_3.1.B ops3.a1 first7).bind fun r_5 =>
    if (!r_5) then
     some (.next (out5,(IntKind.wrap .i64 (t12+1))))
    else
     (d7 r_3.1 ops3).bind fun r_6 =>
     if (!r_6) then
      some (.next (out5,(IntKind.wrap .i64 (t12+1))))
     else
      (d9 first7 reg8 r_3.1 ops3).bind fun r_7 =>
      (fJ r_7.I).bind fun r_8 =>
      if r_8 then
       (p9 168 out5 ([r_7]:List Choice)).bind fun z_1 =>
       some (.next (z_1,(IntKind.wrap .i64 (t12+1))))
      else
       some (.next (out5,(IntKind.wrap .i64 (t12+1))))
noncomputable def ci (ops3:(A2 Operand)) (out5:(List Choice)) (name0:Int) (t12:Int):Option (Lp ((List Choice) × Int) (List Choice)) :=
 if (decide (t12<2048)) then
  if (decide ((ak .and .i64 t12 7)>0)) then
   (dB (IntKind.wrap .u8 (bd .i64 t12 3))).bind fun r_1 =>
   if (!r_1) then
    some (.next (out5,(IntKind.wrap .i64 (t12+1))))
   else
    (dF (IntKind.wrap .u8 (bd .i64 t12 3))).bind fun r_2 =>
    if r_2 then
     some (.next (out5,(IntKind.wrap .i64 (t12+1))))
    else
     de ops3 out5 name0 (IntKind.wrap .u8 (bd .i64 t12 3)) (ak .and .i64 t12 7) t12
  else
   (dF (IntKind.wrap .u8 (bd .i64 t12 3))).bind fun r_9 =>
   if r_9 then
    some (.next (out5,(IntKind.wrap .i64 (t12+1))))
   else
    de ops3 out5 name0 (IntKind.wrap .u8 (bd .i64 t12 3)) (ak .and .i64 t12 7) t12
 else
  some (.out out5)
noncomputable def dg (name_:Int) (ops_:(A2 Operand)):Option (List Choice) :=
 (cr (fun x:((List Choice) × Int)=>ci ops_ x.1 name_ x.2) (([]:List Choice),0)).bind fun e_1 =>
 (dD e_1).bind fun r_1 =>
 some r_1
noncomputable def gq (b_6:Choice) (b_18:(List Choice)) (long2:Bool):Option (Choice × Int) :=
 if ((b_18.length:Int)==0) then
  some (({ I:=({ Lock:=false,Rep:=0,Seg:=0,Op:=0,Mod:=0,Reg:=0,RM:=0,Disp:=0,Imm:=0,Sel:=0 }:Inst),Disp:=({ N:=0,From:=0,Which:=0,Type_:=0,Wants:=0,Known:=false }:api_Value),Imm:=({ N:=0,From:=0,Which:=0,Type_:=0,Wants:=0,Known:=false }:api_Value),HasD:=false,HasI:=false,Jumps:=false }:Choice),6)
 else
  if long2 then
   (idx b_18 0).bind fun z_2 =>
   if z_2.Jumps then
    if (decide ((b_18.length:Int)>1)) then
     (idx b_18 1).bind fun z_3 =>
     some (z_3,0)
    else
     (idx b_18 0).bind fun z_4 =>
     some (z_4,0)
   else
    (idx b_18 0).bind fun z_5 =>
    some (z_5,0)
  else
   (idx b_18 0).bind fun z_6 =>
   some (z_6,0)
noncomputable def du (word_:(List UInt8)) (ops_:(A2 Operand)) (long_:Bool):Option (Choice × Int) :=
 (hH word_).bind fun r_1 =>
 (dg r_1.1 ops_).bind fun r_2 =>
 if (decide (r_1.2>0)) then
  (dg r_1.2 ops_).bind fun r_3 =>
  (p9 168 r_2 r_3).bind fun z_1 =>
  gq ({ I:=({ Lock:=false,Rep:=0,Seg:=0,Op:=0,Mod:=0,Reg:=0,RM:=0,Disp:=0,Imm:=0,Sel:=0 }:Inst),Disp:=({ N:=0,From:=0,Which:=0,Type_:=0,Wants:=0,Known:=false }:api_Value),Imm:=({ N:=0,From:=0,Which:=0,Type_:=0,Wants:=0,Known:=false }:api_Value),HasD:=false,HasI:=false,Jumps:=false }:Choice) z_1 long_
 else
  gq ({ I:=({ Lock:=false,Rep:=0,Seg:=0,Op:=0,Mod:=0,Reg:=0,RM:=0,Disp:=0,Imm:=0,Sel:=0 }:Inst),Disp:=({ N:=0,From:=0,Which:=0,Type_:=0,Wants:=0,Known:=false }:api_Value),Imm:=({ N:=0,From:=0,Which:=0,Type_:=0,Wants:=0,Known:=false }:api_Value),HasD:=false,HasI:=false,Jumps:=false }:Choice) r_2 long_
noncomputable def bX :Option Bool :=
 (du ([73,78,67]:List UInt8) ({ a0:=({ Kind:=2,N:=0,RM:=0,V:=({ N:=0,From:=0,Which:=0,Type_:=0,Wants:=0,Known:=false }:api_Value),Type_:=0,Over:=0,Short:=false }:Operand),a1:=({ Kind:=0,N:=0,RM:=0,V:=({ N:=0,From:=0,Which:=0,Type_:=0,Wants:=0,Known:=false }:api_Value),Type_:=0,Over:=0,Short:=false }:Operand) }:(A2 Operand)) false).bind fun r_1 =>
 (du ([77,79,86]:List UInt8) ({ a0:=({ Kind:=3,N:=1,RM:=0,V:=({ N:=0,From:=0,Which:=0,Type_:=0,Wants:=0,Known:=false }:api_Value),Type_:=0,Over:=0,Short:=false }:Operand),a1:=({ Kind:=2,N:=0,RM:=0,V:=({ N:=0,From:=0,Which:=0,Type_:=0,Wants:=0,Known:=false }:api_Value),Type_:=0,Over:=0,Short:=false }:Operand) }:(A2 Operand)) false).bind fun r_2 =>
 if (r_1.2==0) then
  if (r_1.1.I.Op==64) then
   some (r_2.2==6)
  else
   some false
 else
  some false
noncomputable def aR (i3:Inst) (r4:Row) (c11:Inst) (l8:(List Choice)) (found9:Bool) (k10:Int):Option (Lp (Bool × Int) (Bool ⊕ Bool)) :=
 (bn c11).bind fun r_9 =>
 if (r_9.1.Name != r4.Name) then
  some (.out (.inl false))
 else
  if found9 then
   some (.next (true,(IntKind.wrap .i64 (k10+1))))
  else
   if (c11.Lock==i3.Lock && (c11.Rep==i3.Rep && (c11.Seg==i3.Seg && (c11.Op==i3.Op && (c11.Mod==i3.Mod && (c11.Reg==i3.Reg && (c11.RM==i3.RM && (c11.Disp==i3.Disp && (c11.Imm==i3.Imm && (c11.Sel==i3.Sel && true)))))))))) then
    some (.next (true,(IntKind.wrap .i64 (k10+1))))
   else
    if (c11.Op==i3.Op) then
     some (.next ((decide (c11.Mod<i3.Mod)),(IntKind.wrap .i64 (k10+1))))
    else
     some (.next (false,(IntKind.wrap .i64 (k10+1))))
noncomputable def aM (i3:Inst) (r4:Row) (l8:(List Choice)) (found9:Bool) (k10:Int):Option (Lp (Bool × Int) (Bool ⊕ Bool)) :=
 if (decide (k10<(l8.length:Int))) then
  (idx l8 k10).bind fun z_1 =>
  (cg z_1.I).bind fun r_6 =>
  if (!r_6) then
   some (.out (.inl false))
  else
   if (decide (k10>0)) then
    (ed z_1.I).bind fun r_7 =>
    (idx l8 (IntKind.wrap .i64 (k10 - 1))).bind fun z_2 =>
    (ed z_2.I).bind fun r_8 =>
    if (decide (r_7<r_8)) then
     some (.out (.inl false))
    else
     aR i3 r4 z_1.I l8 found9 k10
   else
    aR i3 r4 z_1.I l8 found9 k10
 else
  some (.out (.inr found9))
noncomputable def cE (x_:Inst):Option Bool :=
 (cK x_).bind fun r_1 =>
 (bn ({ r_1 with Lock:=false,Rep:=0,Seg:=0 }:Inst)).bind fun r_2 =>
 (cL ({ r_1 with Lock:=false,Rep:=0,Seg:=0 }:Inst)).bind fun r_3 =>
 if (!r_3.2) then
  (bX).bind fun r_4 =>
  some r_4
 else
  (dg r_2.1.Name r_3.1).bind fun r_5 =>
  if ((r_5.length:Int)==0) then
   some false
  else
   (cr (fun x:(Bool × Int)=>aM ({ r_1 with Lock:=false,Rep:=0,Seg:=0 }:Inst) r_2.1 r_5 x.1 x.2) (false,0)).bind fun e_1 =>
   match e_1 with
   | .inl e_2 =>
    some e_2
   | .inr e_3 =>
    (bX).bind fun r_6 =>
    if r_6 then
     if e_3 then
      some true
     else
      if (decide (r_1.Op≥216)) then
       if (decide (r_1.Op≤223)) then
        some true
       else
        if (r_2.1.B==8) then
         some true
        else
         if (decide (r_1.Mod>0)) then
          if (r_1.RM==6) then
           some (decide (r_1.Mod<3))
          else
           some false
         else
          some false
      else
       if (r_2.1.B==8) then
        some true
       else
        if (decide (r_1.Mod>0)) then
         if (r_1.RM==6) then
          some (decide (r_1.Mod<3))
         else
          some false
        else
         some false
    else
     some false
end Go.Es.Pko
