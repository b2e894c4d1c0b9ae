/- The interpreter answers as plain Lean does: part 2. No condition. -/
import Derived.Test.YtappijlcmhdilaaDoorPkoF
import Derived.Test.YtappijlcmhdilaaDoorPkoP
import Derived.KernelRfl
import Derived.Test.YtappijlcmhdilaaDoorPkoS0
set_option linter.unusedVariables false
set_option linter.unusedSimpArgs false
set_option maxRecDepth 100000
set_option maxHeartbeats 4000000
namespace Go.Es.Pko
theorem eW (op_:Int) (b_2:Row) (op0:Int) (t4:Int) (t5:Bool) (r:(Row × Bool)) (h:eG b_2 op0 t4 t5=some r):Runs L zC (fP b_2 op0 t4 t5) (kB 0 (kS L zD (qA op_ r))):=by
 unfold eG at h
 cases hb_2:(t5:Bool) with
 | true =>
  replace h:=aa hb_2 h
  refine Ct<|Sq<|Ro<|Rc 4 [vy op0,vy (IntKind.wrap .u8 (op0 - 224)),vi (IntKind.wrap .i64 (IntKind.wrap .u8 (op0 - 224))),vi (IntKind.wrap .i64 (74+(IntKind.wrap .i64 (IntKind.wrap .u8 (op0 - 224)))))] ?_
  obtain ⟨r_1,hr_1,h⟩:=ah h
  have hc_1:=aB (IntKind.wrap .i64 (74+(IntKind.wrap .i64 (IntKind.wrap .u8 (op0 - 224))))) 9 0 r_1 hr_1
  refine Rt (some 14) (.callf 41) [] none [.i (IntKind.wrap .i64 (74+(IntKind.wrap .i64 (IntKind.wrap .u8 (op0 - 224))))),.i 9,.i 0] (.tup [.d (Row.d r_1.1),.b r_1.2]) [] (cc hc_1)<|Rc 4 [⟨.d (Row.d r_1.1),[]⟩,vb r_1.2,⟨.tup [],[([2],some (.cells [.i r_1.1.Name,.i r_1.1.A,.i r_1.1.B,.b r_1.1.Mod] 0))]⟩,vb r_1.2]<|Rk<|Runs.ret<|aj<|ae ?_
  cases h
  exact Fq
 | false =>
  replace h:=ab hb_2 h
  refine Cf<|Sq<|Ro<|Rc 2 [vb (t4==228),vb (t4==228)]<|Rk ?_
  cases hb_3:((t4==228):Bool) with
  | true =>
   replace h:=aa hb_3 h
   refine Ct<|Sq<|Ro ?_
   obtain ⟨r_2,hr_2,h⟩:=ah h
   have hc_2:=aB 78 14 6 r_2 hr_2
   refine Rt (some 19) (.callf 41) [] none [.i 78,.i 14,.i 6] (.tup [.d (Row.d r_2.1),.b r_2.2]) [] (cc hc_2)<|Rc 4 [⟨.d (Row.d r_2.1),[]⟩,vb r_2.2,⟨.tup [],[([2],some (.cells [.i r_2.1.Name,.i r_2.1.A,.i r_2.1.B,.b r_2.1.Mod] 0))]⟩,vb r_2.2]<|Rk<|Runs.ret<|aj<|ae ?_
   cases h
   exact Fq
  | false =>
   replace h:=ab hb_3 h
   refine Cf<|Sq<|Ro<|Rc 2 [vb (t4==229),vb (t4==229)]<|Rk ?_
   cases hb_4:((t4==229):Bool) with
   | true =>
    replace h:=aa hb_4 h
    refine Ct<|Sq<|Ro ?_
    obtain ⟨r_3,hr_3,h⟩:=ah h
    have hc_3:=aB 78 16 6 r_3 hr_3
    refine Rt (some 24) (.callf 41) [] none [.i 78,.i 16,.i 6] (.tup [.d (Row.d r_3.1),.b r_3.2]) [] (cc hc_3)<|Rc 4 [⟨.d (Row.d r_3.1),[]⟩,vb r_3.2,⟨.tup [],[([2],some (.cells [.i r_3.1.Name,.i r_3.1.A,.i r_3.1.B,.b r_3.1.Mod] 0))]⟩,vb r_3.2]<|Rk<|Runs.ret<|aj<|ae ?_
    cases h
    exact Fq
   | false =>
    replace h:=ab hb_4 h
    refine Cf<|Sq<|Ro<|Rc 2 [vb (t4==230),vb (t4==230)]<|Rk ?_
    cases hb_5:((t4==230):Bool) with
    | true =>
     replace h:=aa hb_5 h
     refine Ct<|Sq<|Ro ?_
     obtain ⟨r_4,hr_4,h⟩:=ah h
     have hc_4:=aB 79 6 14 r_4 hr_4
     refine Rt (some 29) (.callf 41) [] none [.i 79,.i 6,.i 14] (.tup [.d (Row.d r_4.1),.b r_4.2]) [] (cc hc_4)<|Rc 4 [⟨.d (Row.d r_4.1),[]⟩,vb r_4.2,⟨.tup [],[([2],some (.cells [.i r_4.1.Name,.i r_4.1.A,.i r_4.1.B,.b r_4.1.Mod] 0))]⟩,vb r_4.2]<|Rk<|Runs.ret<|aj<|ae ?_
     cases h
     exact Fq
    | false =>
     replace h:=ab hb_5 h
     refine Cf<|Sq<|Ro<|Rc 2 [vb (t4==231),vb (t4==231)]<|Rk ?_
     cases hb_6:((t4==231):Bool) with
     | true =>
      replace h:=aa hb_6 h
      refine Ct<|Sq<|Ro ?_
      obtain ⟨r_5,hr_5,h⟩:=ah h
      have hc_5:=aB 79 6 16 r_5 hr_5
      refine Rt (some 34) (.callf 41) [] none [.i 79,.i 6,.i 16] (.tup [.d (Row.d r_5.1),.b r_5.2]) [] (cc hc_5)<|Rc 4 [⟨.d (Row.d r_5.1),[]⟩,vb r_5.2,⟨.tup [],[([2],some (.cells [.i r_5.1.Name,.i r_5.1.A,.i r_5.1.B,.b r_5.1.Mod] 0))]⟩,vb r_5.2]<|Rk<|Runs.ret<|aj<|ae ?_
      cases h
      exact Fq
     | false =>
      replace h:=ab hb_6 h
      refine Cf<|Sq<|Ro<|Rc 2 [vb (t4==232),vb (t4==232)]<|Rk ?_
      cases hb_7:((t4==232):Bool) with
      | true =>
       replace h:=aa hb_7 h
       refine Ct<|Sq<|Ro ?_
       obtain ⟨r_6,hr_6,h⟩:=ah h
       have hc_6:=aB 39 10 0 r_6 hr_6
       refine Rt (some 39) (.callf 41) [] none [.i 39,.i 10,.i 0] (.tup [.d (Row.d r_6.1),.b r_6.2]) [] (cc hc_6)<|Rc 4 [⟨.d (Row.d r_6.1),[]⟩,vb r_6.2,⟨.tup [],[([2],some (.cells [.i r_6.1.Name,.i r_6.1.A,.i r_6.1.B,.b r_6.1.Mod] 0))]⟩,vb r_6.2]<|Rk<|Runs.ret<|aj<|ae ?_
       cases h
       exact Fq
      | false =>
       replace h:=ab hb_7 h
       refine Cf<|Sq<|Ro<|Rc 2 [vb (t4==233),vb (t4==233)]<|Rk ?_
       cases hb_8:((t4==233):Bool) with
       | true =>
        replace h:=aa hb_8 h
        refine Ct<|Sq<|Ro ?_
        obtain ⟨r_7,hr_7,h⟩:=ah h
        have hc_7:=aB 80 10 0 r_7 hr_7
        refine Rt (some 44) (.callf 41) [] none [.i 80,.i 10,.i 0] (.tup [.d (Row.d r_7.1),.b r_7.2]) [] (cc hc_7)<|Rc 4 [⟨.d (Row.d r_7.1),[]⟩,vb r_7.2,⟨.tup [],[([2],some (.cells [.i r_7.1.Name,.i r_7.1.A,.i r_7.1.B,.b r_7.1.Mod] 0))]⟩,vb r_7.2]<|Rk<|Runs.ret<|aj<|ae ?_
        cases h
        exact Fq
       | false =>
        replace h:=ab hb_8 h
        refine Cf<|Sq<|Ro<|Rc 2 [vb (t4==234),vb (t4==234)]<|Rk ?_
        cases hb_9:((t4==234):Bool) with
        | true =>
         replace h:=aa hb_9 h
         refine Ct<|Sq<|Ro ?_
         obtain ⟨r_8,hr_8,h⟩:=ah h
         have hc_8:=aB 81 11 0 r_8 hr_8
         refine Rt (some 49) (.callf 41) [] none [.i 81,.i 11,.i 0] (.tup [.d (Row.d r_8.1),.b r_8.2]) [] (cc hc_8)<|Rc 4 [⟨.d (Row.d r_8.1),[]⟩,vb r_8.2,⟨.tup [],[([2],some (.cells [.i r_8.1.Name,.i r_8.1.A,.i r_8.1.B,.b r_8.1.Mod] 0))]⟩,vb r_8.2]<|Rk<|Runs.ret<|aj<|ae ?_
         cases h
         exact Fq
        | false =>
         replace h:=ab hb_9 h
         refine Cf<|Sq<|Ro<|Rc 2 [vb (t4==235),vb (t4==235)]<|Rk ?_
         cases hb_10:((t4==235):Bool) with
         | true =>
          replace h:=aa hb_10 h
          refine Ct<|Sq<|Ro ?_
          obtain ⟨r_9,hr_9,h⟩:=ah h
          have hc_9:=aB 80 9 0 r_9 hr_9
          refine Rt (some 54) (.callf 41) [] none [.i 80,.i 9,.i 0] (.tup [.d (Row.d r_9.1),.b r_9.2]) [] (cc hc_9)<|Rc 4 [⟨.d (Row.d r_9.1),[]⟩,vb r_9.2,⟨.tup [],[([2],some (.cells [.i r_9.1.Name,.i r_9.1.A,.i r_9.1.B,.b r_9.1.Mod] 0))]⟩,vb r_9.2]<|Rk<|Runs.ret<|aj<|ae ?_
          cases h
          exact Fq
         | false =>
          replace h:=ab hb_10 h
          refine Cf<|Sq<|Ro<|Rc 2 [vb (t4==236),vb (t4==236)]<|Rk ?_
          cases hb_11:((t4==236):Bool) with
          | true =>
           replace h:=aa hb_11 h
           refine Ct<|Sq<|Ro ?_
           obtain ⟨r_10,hr_10,h⟩:=ah h
           have hc_10:=aB 78 14 17 r_10 hr_10
           refine Rt (some 59) (.callf 41) [] none [.i 78,.i 14,.i 17] (.tup [.d (Row.d r_10.1),.b r_10.2]) [] (cc hc_10)<|Rc 4 [⟨.d (Row.d r_10.1),[]⟩,vb r_10.2,⟨.tup [],[([2],some (.cells [.i r_10.1.Name,.i r_10.1.A,.i r_10.1.B,.b r_10.1.Mod] 0))]⟩,vb r_10.2]<|Rk<|Runs.ret<|aj<|ae ?_
           cases h
           exact Fq
          | false =>
           replace h:=ab hb_11 h
           refine Cf<|Sq<|Ro<|Rc 2 [vb (t4==237),vb (t4==237)]<|Rk ?_
           cases hb_12:((t4==237):Bool) with
           | true =>
            replace h:=aa hb_12 h
            refine Ct<|Sq<|Ro ?_
            obtain ⟨r_11,hr_11,h⟩:=ah h
            have hc_11:=aB 78 16 17 r_11 hr_11
            refine Rt (some 64) (.callf 41) [] none [.i 78,.i 16,.i 17] (.tup [.d (Row.d r_11.1),.b r_11.2]) [] (cc hc_11)<|Rc 4 [⟨.d (Row.d r_11.1),[]⟩,vb r_11.2,⟨.tup [],[([2],some (.cells [.i r_11.1.Name,.i r_11.1.A,.i r_11.1.B,.b r_11.1.Mod] 0))]⟩,vb r_11.2]<|Rk<|Runs.ret<|aj<|ae ?_
            cases h
            exact Fq
           | false =>
            replace h:=ab hb_12 h
            refine Cf<|Sq<|Ro<|Rc 2 [vb (t4==238),vb (t4==238)]<|Rk ?_
            cases hb_13:((t4==238):Bool) with
            | true =>
             replace h:=aa hb_13 h
             refine Ct<|Sq<|Ro ?_
             obtain ⟨r_12,hr_12,h⟩:=ah h
             have hc_12:=aB 79 17 14 r_12 hr_12
             refine Rt (some 69) (.callf 41) [] none [.i 79,.i 17,.i 14] (.tup [.d (Row.d r_12.1),.b r_12.2]) [] (cc hc_12)<|Rc 4 [⟨.d (Row.d r_12.1),[]⟩,vb r_12.2,⟨.tup [],[([2],some (.cells [.i r_12.1.Name,.i r_12.1.A,.i r_12.1.B,.b r_12.1.Mod] 0))]⟩,vb r_12.2]<|Rk<|Runs.ret<|aj<|ae ?_
             cases h
             exact Fq
            | false =>
             replace h:=ab hb_13 h
             refine Cf<|Runs.skip<|az<|ai<|Sq<|Ro ?_
             obtain ⟨r_13,hr_13,h⟩:=ah h
             have hc_13:=aB 79 17 16 r_13 hr_13
             refine Rt (some 72) (.callf 41) [] none [.i 79,.i 17,.i 16] (.tup [.d (Row.d r_13.1),.b r_13.2]) [] (cc hc_13)<|Rc 4 [⟨.d (Row.d r_13.1),[]⟩,vb r_13.2,⟨.tup [],[([2],some (.cells [.i r_13.1.Name,.i r_13.1.A,.i r_13.1.B,.b r_13.1.Mod] 0))]⟩,vb r_13.2]<|Rk<|Runs.ret ?_
             cases h
             exact Fq
theorem ve (op_:Int) (r:(Row × Bool)) (h:nA op_=some r):Runs L F48.body ⟨a9 [.y op_] 0,ay (fun _=>none) []⟩ (qA op_ r):=by
 unfold nA at h
 refine Sq<|Ro<|Rc 2 [⟨.ptr [2] 0 0,[([2],some (.cells [.i 0,.i 0,.i 0,.b false] 0))]⟩,vb false]<|Rk<|Sq<|Sq<|Ro<|Rc 1 [vy op_]<|Rk<|Runs.block<|Sq<|Sq<|Ro<|Rc 2 [vb (op_==224),vb (op_==224)]<|Rk ?_
 cases hb_1:((op_==224):Bool) with
 | true =>
  replace h:=aa hb_1 h
  refine Ct<|Runs.skip<|ai<|Runs.canon (fP ({ Name:=0,A:=0,B:=0,Mod:=false }:Row) op_ op_ true) Cz ?_
  exact eW op_ ({ Name:=0,A:=0,B:=0,Mod:=false }:Row) op_ op_ true r h
 | false =>
  replace h:=ab hb_1 h
  refine Cf<|Sq<|Ro<|Rc 2 [vb (op_==225),vb (op_==225)]<|Rk ?_
  cases hb_14:((op_==225):Bool) with
  | true =>
   replace h:=aa hb_14 h
   refine Ct<|Runs.skip<|ai<|Runs.canon (fP ({ Name:=0,A:=0,B:=0,Mod:=false }:Row) op_ op_ true) Cz ?_
   exact eW op_ ({ Name:=0,A:=0,B:=0,Mod:=false }:Row) op_ op_ true r h
  | false =>
   replace h:=ab hb_14 h
   refine Cf<|Sq<|Ro<|Rc 2 [vb (op_==226),vb (op_==226)]<|Rk ?_
   cases hb_15:((op_==226):Bool) with
   | true =>
    replace h:=aa hb_15 h
    refine Ct<|Runs.skip<|ai<|Runs.canon (fP ({ Name:=0,A:=0,B:=0,Mod:=false }:Row) op_ op_ true) Cz ?_
    exact eW op_ ({ Name:=0,A:=0,B:=0,Mod:=false }:Row) op_ op_ true r h
   | false =>
    replace h:=ab hb_15 h
    refine Cf<|Ro<|Rc 2 [vb (op_==227),vb (op_==227)]<|Rk<|Runs.canon (fP ({ Name:=0,A:=0,B:=0,Mod:=false }:Row) op_ op_ (op_==227)) Cz ?_
    exact eW op_ ({ Name:=0,A:=0,B:=0,Mod:=false }:Row) op_ op_ (op_==227) r h
theorem wQ (op_:Int) (r:(Row × Bool)) (h:nA op_=some r):L 48 [.y op_]=some (.tup [.d (Row.d r.1),.b r.2],[.y op_]):=by
 obtain ⟨p,⟨hne,hf⟩,hr⟩:=ve op_ r h
 obtain ⟨k,hk⟩:=aD (F:=F48) (args:=[.y op_]) (ap:=[.y op_]) (bx0:=ay (fun _=>none) []) rfl rfl (by kernel_rfl) ⟨p,⟨hne,hf⟩,hr⟩
 exact aA (k:=k) rfl hk
def jH (b_4:Row) (op0:Int) (reg1:Int) (t21:Bool):St:=⟨tab [(0,.y op0),(1,.i reg1),(4,.ptr [4] 0 0),(21,.b t21)],be [([4],some (.cells [.i b_4.Name,.i b_4.A,.i b_4.B,.b b_4.Mod] 0))]⟩
def jI (b_4:Row) (op0:Int) (reg1:Int) (e6:Int) (i7:Int):St:=⟨tab [(0,.y op0),(1,.i reg1),(4,.ptr [4] 0 0),(6,.i e6),(7,.i i7)],be [([4],some (.cells [.i b_4.Name,.i b_4.A,.i b_4.B,.b b_4.Mod] 0))]⟩
def mV (op_:Int) (reg_:Int) (r:(Row × Bool)) (p:Out × St):Prop:=(∀ i,p.1≠.exit i)∧aV F49 [.y op_,.i reg_] p.2=some (.tup [.d (Row.d r.1),.b r.2],[.y op_,.i reg_])
theorem jU (op_:Int) (reg_:Int) (b_4:Row) (op0:Int) (reg1:Int) (e6:Int) (i7:Int) (r:(Row × Bool)) (h:g4 b_4 op0 reg1 e6 i7=some r):Runs L zF (jI b_4 op0 reg1 e6 i7) (mV op_ reg_ r):=by
 unfold g4 at h
 refine Sq<|Sq<|Ro<|Rc 2 [vy op0,vb (decide (op0<248))]<|Rk ?_
 cases hb_7:((decide (op0<248)):Bool) with
 | true =>
  replace h:=aa hb_7 h
  refine Ct<|Sq<|Sq<|Ro<|Rc 1 [vi reg1]<|Rk<|Runs.block<|Sq<|Ro<|Rc 2 [vb (reg1==0),vb (reg1==0)]<|Rk ?_
  cases hb_8:((reg1==0):Bool) with
  | true =>
   replace h:=aa hb_8 h
   refine Ct<|Sq<|Ro<|Rc 2 [vi e6,vi i7] ?_
   obtain ⟨r_5,hr_5,h⟩:=ah h
   have hc_5:=aF 33 e6 i7 r_5 hr_5
   refine Rt (some 51) (.callf 68) [] none [.i 33,.i e6,.i i7] (.tup [.d (Row.d r_5.1),.b r_5.2]) [] (cc hc_5)<|Rc 4 [⟨.d (Row.d r_5.1),[]⟩,vb r_5.2,⟨.tup [],[([4],some (.cells [.i r_5.1.Name,.i r_5.1.A,.i r_5.1.B,.b r_5.1.Mod] 0))]⟩,vb r_5.2]<|Rk<|Runs.ret<|aj<|ae<|ae ?_
   cases h
   exact Fq
  | false =>
   replace h:=ab hb_8 h
   refine Cf<|Sq<|Ro<|Rc 2 [vb (reg1==1),vb (reg1==1)]<|Rk ?_
   cases hb_9:((reg1==1):Bool) with
   | true =>
    replace h:=aa hb_9 h
    refine Ct<|Sq<|Ro ?_
    obtain ⟨r_6,hr_6,h⟩:=ah h
    have hc_6:=bt r_6 hr_6
    refine Rt (some 56) (.callf 42) [] none [] (.tup [.d (Row.d r_6.1),.b r_6.2]) [] (cc hc_6)<|Rc 4 [⟨.d (Row.d r_6.1),[]⟩,vb r_6.2,⟨.tup [],[([4],some (.cells [.i r_6.1.Name,.i r_6.1.A,.i r_6.1.B,.b r_6.1.Mod] 0))]⟩,vb r_6.2]<|Rk<|Runs.ret<|aj<|ae<|ae ?_
    cases h
    exact Fq
   | false =>
    replace h:=ab hb_9 h
    refine Cf<|Runs.skip<|az<|ai<|Sq<|Ro<|Rc 4 [vi reg1,vi (IntKind.wrap .i64 (84+reg1)),vi (IntKind.wrap .i64 ((IntKind.wrap .i64 (84+reg1)) - 2)),vi e6] ?_
    obtain ⟨r_7,hr_7,h⟩:=ah h
    have hc_7:=aF (IntKind.wrap .i64 ((IntKind.wrap .i64 (84+reg1)) - 2)) e6 0 r_7 hr_7
    refine Rt (some 63) (.callf 68) [] none [.i (IntKind.wrap .i64 ((IntKind.wrap .i64 (84+reg1)) - 2)),.i e6,.i 0] (.tup [.d (Row.d r_7.1),.b r_7.2]) [] (cc hc_7)<|Rc 4 [⟨.d (Row.d r_7.1),[]⟩,vb r_7.2,⟨.tup [],[([4],some (.cells [.i r_7.1.Name,.i r_7.1.A,.i r_7.1.B,.b r_7.1.Mod] 0))]⟩,vb r_7.2]<|Rk<|Runs.ret<|ae ?_
    cases h
    exact Fq
 | false =>
  replace h:=ab hb_7 h
  refine Cf<|Runs.skip<|ai<|Sq<|Runs.block<|Sq<|Ro<|Rc 3 [vi reg1,vb (decide (reg1<2)),vb (decide (reg1<2))]<|Rk ?_
  cases hb_10:((decide (reg1<2)):Bool) with
  | true =>
   replace h:=aa hb_10 h
   refine Ct<|Sq<|Ro<|Rc 3 [vi reg1,vi (IntKind.wrap .i64 (15+reg1)),vi e6] ?_
   obtain ⟨r_8,hr_8,h⟩:=ah h
   have hc_8:=aF (IntKind.wrap .i64 (15+reg1)) e6 0 r_8 hr_8
   refine Rt (some 72) (.callf 68) [] none [.i (IntKind.wrap .i64 (15+reg1)),.i e6,.i 0] (.tup [.d (Row.d r_8.1),.b r_8.2]) [] (cc hc_8)<|Rc 4 [⟨.d (Row.d r_8.1),[]⟩,vb r_8.2,⟨.tup [],[([4],some (.cells [.i r_8.1.Name,.i r_8.1.A,.i r_8.1.B,.b r_8.1.Mod] 0))]⟩,vb r_8.2]<|Rk<|Runs.ret<|aj<|ae ?_
   cases h
   exact Fq
  | false =>
   replace h:=ab hb_10 h
   refine Cf<|Sq<|Ro<|Rc 3 [vy op0,vb (op0==254),vb (op0==254)] ?_
   cases hb_11:((op0==254):Bool) with
   | true =>
    replace h:=aa hb_11 h
    refine Rc 4 [vn,vn,vb true,vb true]<|Rk<|Ct<|Sq<|Ro ?_
    obtain ⟨r_9,hr_9,h⟩:=ah h
    have hc_9:=bt r_9 hr_9
    refine Rt (some 82) (.callf 42) [] none [] (.tup [.d (Row.d r_9.1),.b r_9.2]) [] (cc hc_9)<|Rc 4 [⟨.d (Row.d r_9.1),[]⟩,vb r_9.2,⟨.tup [],[([4],some (.cells [.i r_9.1.Name,.i r_9.1.A,.i r_9.1.B,.b r_9.1.Mod] 0))]⟩,vb r_9.2]<|Rk<|Runs.ret<|aj<|ae ?_
    cases h
    exact Fq
   | false =>
    replace h:=ab hb_11 h
    refine Rc 4 [vi reg1,vb (reg1==7),vb (reg1==7),vb (reg1==7)]<|Rk ?_
    cases hb_12:((reg1==7):Bool) with
    | true =>
     replace h:=aa hb_12 h
     refine Ct<|Sq<|Ro ?_
     obtain ⟨r_10,hr_10,h⟩:=ah h
     have hc_10:=bt r_10 hr_10
     refine Rt (some 82) (.callf 42) [] none [] (.tup [.d (Row.d r_10.1),.b r_10.2]) [] (cc hc_10)<|Rc 4 [⟨.d (Row.d r_10.1),[]⟩,vb r_10.2,⟨.tup [],[([4],some (.cells [.i r_10.1.Name,.i r_10.1.A,.i r_10.1.B,.b r_10.1.Mod] 0))]⟩,vb r_10.2]<|Rk<|Runs.ret<|aj<|ae ?_
     cases h
     exact Fq
    | false =>
     replace h:=ab hb_12 h
     refine Cf<|Runs.skip<|az<|ai<|Sq<|Ro<|Rc 3 [⟨.ref [85] 0 0 (List.map (D.int .i64) ([39,40,80,81,9]:List Int)).length 1,[([85],some (.arr (List.map (D.int .i64) ([39,40,80,81,9]:List Int)) 0 false))]⟩,vi reg1,vi (IntKind.wrap .i64 (reg1 - 2))] ?_
     obtain ⟨z_1,hz_1,h⟩:=ah h
     refine Rt (some 88) (.iaddrS 1) [] none [.ref [85] 0 0 (List.map (D.int .i64) ([39,40,80,81,9]:List Int)).length 1,.i (IntKind.wrap .i64 (reg1 - 2))] (.eref [85] 0 (0+((IntKind.wrap .i64 (reg1 - 2))).toNat) 0) [] (gV (e:=(D.int .i64)) (l:=([39,40,80,81,9]:List Int)) hz_1 rfl)<|Rt (some 89) (.load none) [] none [.eref [85] 0 (0+((IntKind.wrap .i64 (reg1 - 2))).toNat) 0] (.i z_1) [] (eE (e:=(D.int .i64)) (l:=([39,40,80,81,9]:List Int)) (fz:=false) (y:=z_1) (by kernel_rfl) hz_1 (by kernel_rfl) (by kernel_rfl))<|Rc 1 [vi z_1]<|Rk<|Sq<|Sq<|Ro<|Rc 3 [vi reg1,vb (reg1==3),vb (reg1==3)] ?_
     cases hb_13:((reg1==3):Bool) with
     | true =>
      replace h:=aa hb_13 h
      refine Rc 3 [vn,vn,vb true]<|Rk<|Ct<|Ro<|Rc 1 [vi 19]<|Rk<|Sq<|Ro<|Rc 2 [vi z_1,vi 19] ?_
      obtain ⟨r_11,hr_11,h⟩:=ah h
      have hc_11:=aF z_1 19 0 r_11 hr_11
      refine Rt (some 98) (.callf 68) [] none [.i z_1,.i 19,.i 0] (.tup [.d (Row.d r_11.1),.b r_11.2]) [] (cc hc_11)<|Rc 4 [⟨.d (Row.d r_11.1),[]⟩,vb r_11.2,⟨.tup [],[([4],some (.cells [.i r_11.1.Name,.i r_11.1.A,.i r_11.1.B,.b r_11.1.Mod] 0))]⟩,vb r_11.2]<|Rk<|Runs.ret ?_
      cases h
      exact Fq
     | false =>
      replace h:=ab hb_13 h
      refine Rc 3 [vi reg1,vb (reg1==5),vb (reg1==5)]<|Rk ?_
      cases hb_14:((reg1==5):Bool) with
      | true =>
       replace h:=aa hb_14 h
       refine Ct<|Ro<|Rc 1 [vi 19]<|Rk<|Sq<|Ro<|Rc 2 [vi z_1,vi 19] ?_
       obtain ⟨r_12,hr_12,h⟩:=ah h
       have hc_12:=aF z_1 19 0 r_12 hr_12
       refine Rt (some 98) (.callf 68) [] none [.i z_1,.i 19,.i 0] (.tup [.d (Row.d r_12.1),.b r_12.2]) [] (cc hc_12)<|Rc 4 [⟨.d (Row.d r_12.1),[]⟩,vb r_12.2,⟨.tup [],[([4],some (.cells [.i r_12.1.Name,.i r_12.1.A,.i r_12.1.B,.b r_12.1.Mod] 0))]⟩,vb r_12.2]<|Rk<|Runs.ret ?_
       cases h
       exact Fq
      | false =>
       replace h:=ab hb_14 h
       refine Cf<|Runs.skip<|ai<|Sq<|Ro<|Rc 2 [vi z_1,vi e6] ?_
       obtain ⟨r_13,hr_13,h⟩:=ah h
       have hc_13:=aF z_1 e6 0 r_13 hr_13
       refine Rt (some 98) (.callf 68) [] none [.i z_1,.i e6,.i 0] (.tup [.d (Row.d r_13.1),.b r_13.2]) [] (cc hc_13)<|Rc 4 [⟨.d (Row.d r_13.1),[]⟩,vb r_13.2,⟨.tup [],[([4],some (.cells [.i r_13.1.Name,.i r_13.1.A,.i r_13.1.B,.b r_13.1.Mod] 0))]⟩,vb r_13.2]<|Rk<|Runs.ret ?_
       cases h
       exact Fq
theorem jV (op_:Int) (reg_:Int) (b_4:Row) (op0:Int) (reg1:Int) (t21:Bool) (r:(Row × Bool)) (h:g5 b_4 op0 reg1 t21=some r):Runs L zE (jH b_4 op0 reg1 t21) (kB 0 (kS L zG (mV op_ reg_ r))):=by
 unfold g5 at h
 cases hb_4:(t21:Bool) with
 | true =>
  replace h:=aa hb_4 h
  refine Ct<|Sq<|Ro<|Rc 4 [vy op0,vy (IntKind.wrap .u8 (op0 - 248)),vi (IntKind.wrap .i64 (IntKind.wrap .u8 (op0 - 248))),vi (IntKind.wrap .i64 (90+(IntKind.wrap .i64 (IntKind.wrap .u8 (op0 - 248)))))] ?_
  obtain ⟨r_3,hr_3,h⟩:=ah h
  have hc_3:=aB (IntKind.wrap .i64 (90+(IntKind.wrap .i64 (IntKind.wrap .u8 (op0 - 248))))) 0 0 r_3 hr_3
  refine Rt (some 32) (.callf 41) [] none [.i (IntKind.wrap .i64 (90+(IntKind.wrap .i64 (IntKind.wrap .u8 (op0 - 248))))),.i 0,.i 0] (.tup [.d (Row.d r_3.1),.b r_3.2]) [] (cc hc_3)<|Rc 4 [⟨.d (Row.d r_3.1),[]⟩,vb r_3.2,⟨.tup [],[([4],some (.cells [.i r_3.1.Name,.i r_3.1.A,.i r_3.1.B,.b r_3.1.Mod] 0))]⟩,vb r_3.2]<|Rk<|Runs.ret<|aj<|ae ?_
  cases h
  exact Fq
 | false =>
  replace h:=ab hb_4 h
  refine Cf<|Sq<|Ro<|Rc 3 [vy op0,vb (decide (op0<246)),vb (decide (op0<246))]<|Rk ?_
  cases hb_5:((decide (op0<246)):Bool) with
  | true =>
   replace h:=aa hb_5 h
   refine Ct<|Sq<|Ro ?_
   obtain ⟨r_4,hr_4,h⟩:=ah h
   have hc_4:=bt r_4 hr_4
   refine Rt (some 38) (.callf 42) [] none [] (.tup [.d (Row.d r_4.1),.b r_4.2]) [] (cc hc_4)<|Rc 4 [⟨.d (Row.d r_4.1),[]⟩,vb r_4.2,⟨.tup [],[([4],some (.cells [.i r_4.1.Name,.i r_4.1.A,.i r_4.1.B,.b r_4.1.Mod] 0))]⟩,vb r_4.2]<|Rk<|Runs.ret<|aj<|ae ?_
   cases h
   exact Fq
  | false =>
   replace h:=ab hb_5 h
   refine Cf<|Runs.skip<|az<|ai<|Sq<|Ro<|Rc 2 [vi 1,vi 6]<|Rk<|Sq<|Sq<|Ro<|Rc 3 [vy op0,vy (ak .and .u8 op0 1),vb ((ak .and .u8 op0 1)==1)]<|Rk ?_
   cases hb_6:(((ak .and .u8 op0 1)==1):Bool) with
   | true =>
    replace h:=aa hb_6 h
    refine Ct<|Ro<|Rc 2 [vi 2,vi 7]<|Rk<|Runs.canon (jI b_4 op0 reg1 2 7) Cz ?_
    exact jU op_ reg_ b_4 op0 reg1 2 7 r h
   | false =>
    replace h:=ab hb_6 h
    refine Cf<|Runs.skip<|ai<|Runs.canon (jI b_4 op0 reg1 1 6) Cz ?_
    exact jU op_ reg_ b_4 op0 reg1 1 6 r h
theorem vf (op_:Int) (reg_:Int) (r:(Row × Bool)) (h:nB op_ reg_=some r):Runs L F49.body ⟨a9 [.y op_,.i reg_] 0,ay (fun _=>none) []⟩ (mV op_ reg_ r):=by
 unfold nB at h
 refine Sq<|Ro<|Rc 2 [⟨.ptr [4] 0 0,[([4],some (.cells [.i 0,.i 0,.i 0,.b false] 0))]⟩,vb false]<|Rk<|Sq<|Runs.block<|Sq<|Ro<|Rc 3 [vy op_,vb (op_==244),vb (op_==244)]<|Rk ?_
 cases hb_1:((op_==244):Bool) with
 | true =>
  replace h:=aa hb_1 h
  refine Ct<|Sq<|Ro ?_
  obtain ⟨r_1,hr_1,h⟩:=ah h
  have hc_1:=aB 82 0 0 r_1 hr_1
  refine Rt (some 12) (.callf 41) [] none [.i 82,.i 0,.i 0] (.tup [.d (Row.d r_1.1),.b r_1.2]) [] (cc hc_1)<|Rc 4 [⟨.d (Row.d r_1.1),[]⟩,vb r_1.2,⟨.tup [],[([4],some (.cells [.i r_1.1.Name,.i r_1.1.A,.i r_1.1.B,.b r_1.1.Mod] 0))]⟩,vb r_1.2]<|Rk<|Runs.ret<|aj<|ae ?_
  cases h
  exact Fq
 | false =>
  replace h:=ab hb_1 h
  refine Cf<|Sq<|Ro<|Rc 3 [vy op_,vb (op_==245),vb (op_==245)]<|Rk ?_
  cases hb_2:((op_==245):Bool) with
  | true =>
   replace h:=aa hb_2 h
   refine Ct<|Sq<|Ro ?_
   obtain ⟨r_2,hr_2,h⟩:=ah h
   have hc_2:=aB 83 0 0 r_2 hr_2
   refine Rt (some 18) (.callf 41) [] none [.i 83,.i 0,.i 0] (.tup [.d (Row.d r_2.1),.b r_2.2]) [] (cc hc_2)<|Rc 4 [⟨.d (Row.d r_2.1),[]⟩,vb r_2.2,⟨.tup [],[([4],some (.cells [.i r_2.1.Name,.i r_2.1.A,.i r_2.1.B,.b r_2.1.Mod] 0))]⟩,vb r_2.2]<|Rk<|Runs.ret<|aj<|ae ?_
   cases h
   exact Fq
  | false =>
   replace h:=ab hb_2 h
   refine Cf<|Sq<|Ro<|Rc 3 [vy op_,vb (decide (op_≥248)),vb (decide (op_≥248))] ?_
   cases hb_3:((decide (op_≥248)):Bool) with
   | true =>
    replace h:=aa hb_3 h
    refine Rc 4 [vy op_,vb (decide (op_<254)),vb (decide (op_<254)),vb (decide (op_<254))]<|Rk<|Runs.canon (jH ({ Name:=0,A:=0,B:=0,Mod:=false }:Row) op_ reg_ (decide (op_<254))) Cz ?_
    exact jV op_ reg_ ({ Name:=0,A:=0,B:=0,Mod:=false }:Row) op_ reg_ (decide (op_<254)) r h
   | false =>
    replace h:=ab hb_3 h
    refine Rc 4 [vn,vn,vb false,vb false]<|Rk<|Runs.canon (jH ({ Name:=0,A:=0,B:=0,Mod:=false }:Row) op_ reg_ false) Cz ?_
    exact jV op_ reg_ ({ Name:=0,A:=0,B:=0,Mod:=false }:Row) op_ reg_ false r h
theorem wR (op_:Int) (reg_:Int) (r:(Row × Bool)) (h:nB op_ reg_=some r):L 49 [.y op_,.i reg_]=some (.tup [.d (Row.d r.1),.b r.2],[.y op_,.i reg_]):=by
 obtain ⟨p,⟨hne,hf⟩,hr⟩:=vf op_ reg_ r h
 obtain ⟨k,hk⟩:=aD (F:=F49) (args:=[.y op_,.i reg_]) (ap:=[.y op_,.i reg_]) (bx0:=ay (fun _=>none) []) rfl rfl (by kernel_rfl) ⟨p,⟨hne,hf⟩,hr⟩
 exact aA (k:=k) rfl hk
def AC (op_:Int) (reg_:Int) (r:(Row × Bool)) (p:Out × St):Prop:=(∀ i,p.1≠.exit i)∧aV F21 [.y op_,.i reg_] p.2=some (.tup [.d (Row.d r.1),.b r.2],[.y op_,.i reg_])
theorem yz (op_:Int) (reg_:Int) (r:(Row × Bool)) (h:gG op_ reg_=some r):Runs L F21.body ⟨a9 [.y op_,.i reg_] 0,ay (fun _=>none) []⟩ (AC op_ reg_ r):=by
 unfold gG at h
 refine Sq<|Ro<|Rc 2 [⟨.ptr [4] 0 0,[([4],some (.cells [.i 0,.i 0,.i 0,.b false] 0))]⟩,vb false]<|Rk<|Sq<|Ro<|Rc 3 [vi reg_,vi (ak .and .i64 reg_ 7),vi (ak .and .i64 reg_ 7)]<|Rk<|Sq<|Runs.block<|Sq<|Ro<|Rc 3 [vy op_,vb (decide (op_<64)),vb (decide (op_<64))]<|Rk ?_
 cases hb_1:((decide (op_<64)):Bool) with
 | true =>
  replace h:=aa hb_1 h
  refine Ct<|Sq<|Ro<|Rc 1 [vy op_] ?_
  obtain ⟨r_1,hr_1,h⟩:=ah h
  have hc_1:=wP op_ r_1 hr_1
  refine Rt (some 13) (.callf 40) [] none [.y op_] (.tup [.d (Row.d r_1.1),.b r_1.2]) [] (cc hc_1)<|Rc 4 [⟨.d (Row.d r_1.1),[]⟩,vb r_1.2,⟨.tup [],[([4],some (.cells [.i r_1.1.Name,.i r_1.1.A,.i r_1.1.B,.b r_1.1.Mod] 0))]⟩,vb r_1.2]<|Rk<|Runs.ret<|aj<|ae ?_
  cases h
  exact Fq
 | false =>
  replace h:=ab hb_1 h
  refine Cf<|Sq<|Ro<|Rc 3 [vy op_,vb (decide (op_<96)),vb (decide (op_<96))]<|Rk ?_
  cases hb_2:((decide (op_<96)):Bool) with
  | true =>
   replace h:=aa hb_2 h
   refine Ct<|Sq<|Ro<|Rc 4 [⟨.ref [19] 0 0 (List.map (D.int .i64) ([15,16,9,10]:List Int)).length 1,[([19],some (.arr (List.map (D.int .i64) ([15,16,9,10]:List Int)) 0 false))]⟩,vy op_,vy (IntKind.wrap .u8 (op_ - 64)),vy (bd .u8 (IntKind.wrap .u8 (op_ - 64)) 3)] ?_
   obtain ⟨z_1,hz_1,h⟩:=ah h
   refine Rt (some 23) (.iaddrS 1) [] none [.ref [19] 0 0 (List.map (D.int .i64) ([15,16,9,10]:List Int)).length 1,.y (bd .u8 (IntKind.wrap .u8 (op_ - 64)) 3)] (.eref [19] 0 (0+((bd .u8 (IntKind.wrap .u8 (op_ - 64)) 3)).toNat) 0) [] (gV (e:=(D.int .i64)) (l:=([15,16,9,10]:List Int)) hz_1 rfl)<|Rt (some 24) (.load none) [] none [.eref [19] 0 (0+((bd .u8 (IntKind.wrap .u8 (op_ - 64)) 3)).toNat) 0] (.i z_1) [] (eE (e:=(D.int .i64)) (l:=([15,16,9,10]:List Int)) (fz:=false) (y:=z_1) (by kernel_rfl) hz_1 (by kernel_rfl) (by kernel_rfl))<|Rc 1 [vi z_1]<|Rk<|Sq<|Ro<|Rc 1 [vi z_1] ?_
   obtain ⟨r_2,hr_2,h⟩:=ah h
   have hc_2:=aB z_1 22 0 r_2 hr_2
   refine Rt (some 26) (.callf 41) [] none [.i z_1,.i 22,.i 0] (.tup [.d (Row.d r_2.1),.b r_2.2]) [] (cc hc_2)<|Rc 4 [⟨.d (Row.d r_2.1),[]⟩,vb r_2.2,⟨.tup [],[([4],some (.cells [.i r_2.1.Name,.i r_2.1.A,.i r_2.1.B,.b r_2.1.Mod] 0))]⟩,vb r_2.2]<|Rk<|Runs.ret<|aj<|ae ?_
   cases h
   exact Fq
  | false =>
   replace h:=ab hb_2 h
   refine Cf<|Sq<|Ro<|Rc 3 [vy op_,vb (decide (op_<112)),vb (decide (op_<112))]<|Rk ?_
   cases hb_3:((decide (op_<112)):Bool) with
   | true =>
    replace h:=aa hb_3 h
    refine Ct<|Sq<|Ro ?_
    obtain ⟨r_3,hr_3,h⟩:=ah h
    have hc_3:=bt r_3 hr_3
    refine Rt (some 32) (.callf 42) [] none [] (.tup [.d (Row.d r_3.1),.b r_3.2]) [] (cc hc_3)<|Rc 4 [⟨.d (Row.d r_3.1),[]⟩,vb r_3.2,⟨.tup [],[([4],some (.cells [.i r_3.1.Name,.i r_3.1.A,.i r_3.1.B,.b r_3.1.Mod] 0))]⟩,vb r_3.2]<|Rk<|Runs.ret<|aj<|ae ?_
    cases h
    exact Fq
   | false =>
    replace h:=ab hb_3 h
    refine Cf<|Sq<|Ro<|Rc 3 [vy op_,vb (decide (op_<128)),vb (decide (op_<128))]<|Rk ?_
    cases hb_4:((decide (op_<128)):Bool) with
    | true =>
     replace h:=aa hb_4 h
     refine Ct<|Sq<|Ro<|Rc 4 [vy op_,vy (IntKind.wrap .u8 (op_ - 112)),vi (IntKind.wrap .i64 (IntKind.wrap .u8 (op_ - 112))),vi (IntKind.wrap .i64 (17+(IntKind.wrap .i64 (IntKind.wrap .u8 (op_ - 112)))))] ?_
     obtain ⟨r_4,hr_4,h⟩:=ah h
     have hc_4:=aB (IntKind.wrap .i64 (17+(IntKind.wrap .i64 (IntKind.wrap .u8 (op_ - 112))))) 9 0 r_4 hr_4
     refine Rt (some 42) (.callf 41) [] none [.i (IntKind.wrap .i64 (17+(IntKind.wrap .i64 (IntKind.wrap .u8 (op_ - 112))))),.i 9,.i 0] (.tup [.d (Row.d r_4.1),.b r_4.2]) [] (cc hc_4)<|Rc 4 [⟨.d (Row.d r_4.1),[]⟩,vb r_4.2,⟨.tup [],[([4],some (.cells [.i r_4.1.Name,.i r_4.1.A,.i r_4.1.B,.b r_4.1.Mod] 0))]⟩,vb r_4.2]<|Rk<|Runs.ret<|aj<|ae ?_
     cases h
     exact Fq
    | false =>
     replace h:=ab hb_4 h
     refine Cf<|Sq<|Ro<|Rc 3 [vy op_,vb (decide (op_<144)),vb (decide (op_<144))]<|Rk ?_
     cases hb_5:((decide (op_<144)):Bool) with
     | true =>
      replace h:=aa hb_5 h
      refine Ct<|Sq<|Ro<|Rc 2 [vy op_,vi (ak .and .i64 reg_ 7)] ?_
      obtain ⟨r_5,hr_5,h⟩:=ah h
      have hc_5:=u2 op_ (ak .and .i64 reg_ 7) r_5 hr_5
      refine Rt (some 50) (.callf 43) [] none [.y op_,.i (ak .and .i64 reg_ 7)] (.tup [.d (Row.d r_5.1),.b r_5.2]) [] (cc hc_5)<|Rc 4 [⟨.d (Row.d r_5.1),[]⟩,vb r_5.2,⟨.tup [],[([4],some (.cells [.i r_5.1.Name,.i r_5.1.A,.i r_5.1.B,.b r_5.1.Mod] 0))]⟩,vb r_5.2]<|Rk<|Runs.ret<|aj<|ae ?_
      cases h
      exact Fq
     | false =>
      replace h:=ab hb_5 h
      refine Cf<|Sq<|Ro<|Rc 3 [vy op_,vb (decide (op_<160)),vb (decide (op_<160))]<|Rk ?_
      cases hb_6:((decide (op_<160)):Bool) with
      | true =>
       replace h:=aa hb_6 h
       refine Ct<|Sq<|Ro<|Rc 1 [vy op_] ?_
       obtain ⟨r_6,hr_6,h⟩:=ah h
       have hc_6:=u4 op_ r_6 hr_6
       refine Rt (some 57) (.callf 44) [] none [.y op_] (.tup [.d (Row.d r_6.1),.b r_6.2]) [] (cc hc_6)<|Rc 4 [⟨.d (Row.d r_6.1),[]⟩,vb r_6.2,⟨.tup [],[([4],some (.cells [.i r_6.1.Name,.i r_6.1.A,.i r_6.1.B,.b r_6.1.Mod] 0))]⟩,vb r_6.2]<|Rk<|Runs.ret<|aj<|ae ?_
       cases h
       exact Fq
      | false =>
       replace h:=ab hb_6 h
       refine Cf<|Sq<|Ro<|Rc 3 [vy op_,vb (decide (op_<176)),vb (decide (op_<176))]<|Rk ?_
       cases hb_7:((decide (op_<176)):Bool) with
       | true =>
        replace h:=aa hb_7 h
        refine Ct<|Sq<|Ro<|Rc 1 [vy op_] ?_
        obtain ⟨r_7,hr_7,h⟩:=ah h
        have hc_7:=u6 op_ r_7 hr_7
        refine Rt (some 64) (.callf 45) [] none [.y op_] (.tup [.d (Row.d r_7.1),.b r_7.2]) [] (cc hc_7)<|Rc 4 [⟨.d (Row.d r_7.1),[]⟩,vb r_7.2,⟨.tup [],[([4],some (.cells [.i r_7.1.Name,.i r_7.1.A,.i r_7.1.B,.b r_7.1.Mod] 0))]⟩,vb r_7.2]<|Rk<|Runs.ret<|aj<|ae ?_
        cases h
        exact Fq
       | false =>
        replace h:=ab hb_7 h
        refine Cf<|Sq<|Ro<|Rc 3 [vy op_,vb (decide (op_<184)),vb (decide (op_<184))]<|Rk ?_
        cases hb_8:((decide (op_<184)):Bool) with
        | true =>
         replace h:=aa hb_8 h
         refine Ct<|Sq<|Ro ?_
         obtain ⟨r_8,hr_8,h⟩:=ah h
         have hc_8:=aB 35 21 6 r_8 hr_8
         refine Rt (some 70) (.callf 41) [] none [.i 35,.i 21,.i 6] (.tup [.d (Row.d r_8.1),.b r_8.2]) [] (cc hc_8)<|Rc 4 [⟨.d (Row.d r_8.1),[]⟩,vb r_8.2,⟨.tup [],[([4],some (.cells [.i r_8.1.Name,.i r_8.1.A,.i r_8.1.B,.b r_8.1.Mod] 0))]⟩,vb r_8.2]<|Rk<|Runs.ret<|aj<|ae ?_
         cases h
         exact Fq
        | false =>
         replace h:=ab hb_8 h
         refine Cf<|Sq<|Ro<|Rc 3 [vy op_,vb (decide (op_<192)),vb (decide (op_<192))]<|Rk ?_
         cases hb_9:((decide (op_<192)):Bool) with
         | true =>
          replace h:=aa hb_9 h
          refine Ct<|Sq<|Ro ?_
          obtain ⟨r_9,hr_9,h⟩:=ah h
          have hc_9:=aB 35 22 7 r_9 hr_9
          refine Rt (some 76) (.callf 41) [] none [.i 35,.i 22,.i 7] (.tup [.d (Row.d r_9.1),.b r_9.2]) [] (cc hc_9)<|Rc 4 [⟨.d (Row.d r_9.1),[]⟩,vb r_9.2,⟨.tup [],[([4],some (.cells [.i r_9.1.Name,.i r_9.1.A,.i r_9.1.B,.b r_9.1.Mod] 0))]⟩,vb r_9.2]<|Rk<|Runs.ret<|aj<|ae ?_
          cases h
          exact Fq
         | false =>
          replace h:=ab hb_9 h
          refine Cf<|Sq<|Ro<|Rc 3 [vy op_,vb (decide (op_<208)),vb (decide (op_<208))]<|Rk ?_
          cases hb_10:((decide (op_<208)):Bool) with
          | true =>
           replace h:=aa hb_10 h
           refine Ct<|Sq<|Ro<|Rc 2 [vy op_,vi (ak .and .i64 reg_ 7)] ?_
           obtain ⟨r_10,hr_10,h⟩:=ah h
           have hc_10:=u9 op_ (ak .and .i64 reg_ 7) r_10 hr_10
           refine Rt (some 84) (.callf 46) [] none [.y op_,.i (ak .and .i64 reg_ 7)] (.tup [.d (Row.d r_10.1),.b r_10.2]) [] (cc hc_10)<|Rc 4 [⟨.d (Row.d r_10.1),[]⟩,vb r_10.2,⟨.tup [],[([4],some (.cells [.i r_10.1.Name,.i r_10.1.A,.i r_10.1.B,.b r_10.1.Mod] 0))]⟩,vb r_10.2]<|Rk<|Runs.ret<|aj<|ae ?_
           cases h
           exact Fq
          | false =>
           replace h:=ab hb_10 h
           refine Cf<|Sq<|Ro<|Rc 3 [vy op_,vb (decide (op_<224)),vb (decide (op_<224))]<|Rk ?_
           cases hb_11:((decide (op_<224)):Bool) with
           | true =>
            replace h:=aa hb_11 h
            refine Ct<|Sq<|Ro<|Rc 2 [vy op_,vi (ak .and .i64 reg_ 7)] ?_
            obtain ⟨r_11,hr_11,h⟩:=ah h
            have hc_11:=vd op_ (ak .and .i64 reg_ 7) r_11 hr_11
            refine Rt (some 92) (.callf 47) [] none [.y op_,.i (ak .and .i64 reg_ 7)] (.tup [.d (Row.d r_11.1),.b r_11.2]) [] (cc hc_11)<|Rc 4 [⟨.d (Row.d r_11.1),[]⟩,vb r_11.2,⟨.tup [],[([4],some (.cells [.i r_11.1.Name,.i r_11.1.A,.i r_11.1.B,.b r_11.1.Mod] 0))]⟩,vb r_11.2]<|Rk<|Runs.ret<|aj<|ae ?_
            cases h
            exact Fq
           | false =>
            replace h:=ab hb_11 h
            refine Cf<|Sq<|Ro<|Rc 3 [vy op_,vb (decide (op_<240)),vb (decide (op_<240))]<|Rk ?_
            cases hb_12:((decide (op_<240)):Bool) with
            | true =>
             replace h:=aa hb_12 h
             refine Ct<|Sq<|Ro<|Rc 1 [vy op_] ?_
             obtain ⟨r_12,hr_12,h⟩:=ah h
             have hc_12:=wQ op_ r_12 hr_12
             refine Rt (some 99) (.callf 48) [] none [.y op_] (.tup [.d (Row.d r_12.1),.b r_12.2]) [] (cc hc_12)<|Rc 4 [⟨.d (Row.d r_12.1),[]⟩,vb r_12.2,⟨.tup [],[([4],some (.cells [.i r_12.1.Name,.i r_12.1.A,.i r_12.1.B,.b r_12.1.Mod] 0))]⟩,vb r_12.2]<|Rk<|Runs.ret<|aj<|ae ?_
             cases h
             exact Fq
            | false =>
             replace h:=ab hb_12 h
             refine Cf<|Runs.skip<|az<|ai<|Sq<|Ro<|Rc 2 [vy op_,vi (ak .and .i64 reg_ 7)] ?_
             obtain ⟨r_13,hr_13,h⟩:=ah h
             have hc_13:=wR op_ (ak .and .i64 reg_ 7) r_13 hr_13
             refine Rt (some 104) (.callf 49) [] none [.y op_,.i (ak .and .i64 reg_ 7)] (.tup [.d (Row.d r_13.1),.b r_13.2]) [] (cc hc_13)<|Rc 4 [⟨.d (Row.d r_13.1),[]⟩,vb r_13.2,⟨.tup [],[([4],some (.cells [.i r_13.1.Name,.i r_13.1.A,.i r_13.1.B,.b r_13.1.Mod] 0))]⟩,vb r_13.2]<|Rk<|Runs.ret ?_
             cases h
             exact Fq
theorem vg (op_:Int) (reg_:Int) (r:(Row × Bool)) (h:gG op_ reg_=some r):L 21 [.y op_,.i reg_]=some (.tup [.d (Row.d r.1),.b r.2],[.y op_,.i reg_]):=by
 obtain ⟨p,⟨hne,hf⟩,hr⟩:=yz op_ reg_ r h
 obtain ⟨k,hk⟩:=aD (F:=F21) (args:=[.y op_,.i reg_]) (ap:=[.y op_,.i reg_]) (bx0:=ay (fun _=>none) []) rfl rfl (by kernel_rfl) ⟨p,⟨hne,hf⟩,hr⟩
 exact aA (k:=k) rfl hk
def rb (o_:Operand) (size_:Int) (r:Bool) (p:Out × St):Prop:=(∀ i,p.1≠.exit i)∧aV F50 [.d (Operand.d o_),.i size_] p.2=some (.b r,[.d (Operand.d o_),.i size_])
theorem qB (o_:Operand) (size_:Int) (r:Bool) (h:cZ o_ size_=some r):Runs L F50.body ⟨a9 [.d (Operand.d o_),.i size_] 0,ay (fun _=>none) []⟩ (rb o_ size_ r):=by
 unfold cZ at h
 refine Sq<|Ro<|Rc 2 [⟨.ptr [2] 0 0,[([2],some (.cells [.i o_.Kind,.i o_.N,.i o_.RM,.i o_.V.N,.i o_.V.From,.i o_.V.Which,.i o_.V.Type_,.i o_.V.Wants,.b o_.V.Known,.i o_.Type_,.i o_.Over,.b o_.Short] 0))]⟩,vb false]<|Rk<|Sq<|Ro<|Rc 4 [vp [2] 0 0,vi o_.Kind,vb (o_.Kind==5),vb (o_.Kind==5)] ?_
 cases hb_1:((o_.Kind==5):Bool) with
 | true =>
  replace h:=aa hb_1 h
  refine Rc 5 [vp [2] 0 9,vi o_.Type_,vi size_,vb (o_.Type_==size_),vb (o_.Type_==size_)] ?_
  cases hb_2:((o_.Type_==size_):Bool) with
  | true =>
   replace h:=aa hb_2 h
   refine Rc 10 [vn,vn,vn,vb true,vb true,vn,vn,vb true,vb true,vb true]<|Rk<|Runs.ret ?_
   cases h
   exact Fq
  | false =>
   replace h:=ab hb_2 h
   refine Rc 5 [vp [2] 0 9,vi o_.Type_,vb (o_.Type_==0),vb (o_.Type_==0),vb (o_.Type_==0)] ?_
   cases hb_3:((o_.Type_==0):Bool) with
   | true =>
    replace h:=aa hb_3 h
    refine Rc 5 [vn,vn,vb true,vb true,vb true]<|Rk<|Runs.ret ?_
    cases h
    exact Fq
   | false =>
    replace h:=ab hb_3 h
    refine Rc 5 [vi size_,vb (size_==0),vb (size_==0),vb (size_==0),vb (size_==0)]<|Rk<|Runs.ret ?_
    cases h
    exact Fq
 | false =>
  replace h:=ab hb_1 h
  refine Rc 15 [vn,vn,vn,vn,vn,vn,vn,vn,vn,vn,vn,vn,vn,vb false,vb false]<|Rk<|Runs.ret ?_
  cases h
  exact Fq
theorem gu (o_:Operand) (size_:Int) (r:Bool) (h:cZ o_ size_=some r):L 50 [.d (Operand.d o_),.i size_]=some (.b r,[.d (Operand.d o_),.i size_]):=by
 obtain ⟨p,⟨hne,hf⟩,hr⟩:=qB o_ size_ r h
 obtain ⟨k,hk⟩:=aD (F:=F50) (args:=[.d (Operand.d o_),.i size_]) (ap:=[.d (Operand.d o_),.i size_]) (bx0:=ay (fun _=>none) []) rfl rfl (by kernel_rfl) ⟨p,⟨hne,hf⟩,hr⟩
 exact aA (k:=k) rfl hk
def rc (v_:api_Value) (r:Bool) (p:Out × St):Prop:=(∀ i,p.1≠.exit i)∧aV F54 [.d (api_Value.d v_)] p.2=some (.b r,[.d (api_Value.d v_)])
theorem qC (v_:api_Value) (r:Bool) (h:cH v_=some r):Runs L F54.body ⟨a9 [.d (api_Value.d v_)] 0,ay (fun _=>none) []⟩ (rc v_ r):=by
 unfold cH at h
 refine Sq<|Ro<|Rc 2 [⟨.ptr [1] 0 0,[([1],some (.cells [.i v_.N,.i v_.From,.i v_.Which,.i v_.Type_,.i v_.Wants,.b v_.Known] 0))]⟩,vb false]<|Rk<|Sq<|Ro<|Rc 4 [vp [1] 0 1,vi v_.From,vb (v_.From==0),vb (v_.From==0)] ?_
 cases hb_1:((v_.From==0):Bool) with
 | true =>
  replace h:=aa hb_1 h
  refine Rc 5 [vp [1] 0 4,vi v_.Wants,vb (v_.Wants==0),vb (v_.Wants==0),vb (v_.Wants==0)]<|Rk<|Runs.ret ?_
  cases h
  exact Fq
 | false =>
  replace h:=ab hb_1 h
  refine Rc 5 [vn,vn,vn,vb false,vb false]<|Rk<|Runs.ret ?_
  cases h
  exact Fq
theorem eT (v_:api_Value) (r:Bool) (h:cH v_=some r):L 54 [.d (api_Value.d v_)]=some (.b r,[.d (api_Value.d v_)]):=by
 obtain ⟨p,⟨hne,hf⟩,hr⟩:=qC v_ r h
 obtain ⟨k,hk⟩:=aD (F:=F54) (args:=[.d (api_Value.d v_)]) (ap:=[.d (api_Value.d v_)]) (bx0:=ay (fun _=>none) []) rfl rfl (by kernel_rfl) ⟨p,⟨hne,hf⟩,hr⟩
 exact aA (k:=k) rfl hk
def tI (o_:Operand) (r:Bool) (p:Out × St):Prop:=(∀ i,p.1≠.exit i)∧aV F51 [.d (Operand.d o_)] p.2=some (.b r,[.d (Operand.d o_)])
theorem re (o_:Operand) (r:Bool) (h:dG o_=some r):Runs L F51.body ⟨a9 [.d (Operand.d o_)] 0,ay (fun _=>none) []⟩ (tI o_ r):=by
 unfold dG at h
 refine Sq<|Ro<|Rc 2 [⟨.ptr [1] 0 0,[([1],some (.cells [.i o_.Kind,.i o_.N,.i o_.RM,.i o_.V.N,.i o_.V.From,.i o_.V.Which,.i o_.V.Type_,.i o_.V.Wants,.b o_.V.Known,.i o_.Type_,.i o_.Over,.b o_.Short] 0))]⟩,vb false]<|Rk<|Sq<|Ro<|Rc 4 [vp [1] 0 0,vi o_.Kind,vb (o_.Kind==4),vb (o_.Kind==4)] ?_
 cases hb_1:((o_.Kind==4):Bool) with
 | true =>
  replace h:=aa hb_1 h
  refine Rc 2 [vp [1] 0 3,⟨.d (api_Value.d o_.V),[]⟩] ?_
  obtain ⟨r_1,hr_1,h⟩:=ah h
  have hc_1:=eT o_.V r_1 hr_1
  refine Rt (some 9) (.callf 54) [] none [.d (api_Value.d o_.V)] (.b r_1) [] (cc hc_1)<|Rc 2 [vb r_1,vb r_1] ?_
  cases hb_2:(r_1:Bool) with
  | true =>
   replace h:=aa hb_2 h
   refine Rc 5 [vp [1] 0 3,vp [1] 0 8,vb o_.V.Known,vb o_.V.Known,vb o_.V.Known]<|Rk<|Runs.ret ?_
   cases h
   exact Fq
  | false =>
   replace h:=ab hb_2 h
   refine Rc 5 [vn,vn,vn,vb false,vb false]<|Rk<|Runs.ret ?_
   cases h
   exact Fq
 | false =>
  replace h:=ab hb_1 h
  refine Rc 10 [vn,vn,vn,vb false,vb false,vn,vn,vn,vb false,vb false]<|Rk<|Runs.ret ?_
  cases h
  exact Fq
theorem g7 (o_:Operand) (r:Bool) (h:dG o_=some r):L 51 [.d (Operand.d o_)]=some (.b r,[.d (Operand.d o_)]):=by
 obtain ⟨p,⟨hne,hf⟩,hr⟩:=re o_ r h
 obtain ⟨k,hk⟩:=aD (F:=F51) (args:=[.d (Operand.d o_)]) (ap:=[.d (Operand.d o_)]) (bx0:=ay (fun _=>none) []) rfl rfl (by kernel_rfl) ⟨p,⟨hne,hf⟩,hr⟩
 exact aA (k:=k) rfl hk
def tJ (n_:Int) (size_:Int) (r:Bool) (p:Out × St):Prop:=(∀ i,p.1≠.exit i)∧aV F52 [.i n_,.i size_] p.2=some (.b r,[.i n_,.i size_])
theorem rf (n_:Int) (size_:Int) (r:Bool) (h:dZ n_ size_=some r):Runs L F52.body ⟨a9 [.i n_,.i size_] 0,ay (fun _=>none) []⟩ (tJ n_ size_ r):=by
 unfold dZ at h
 refine Sq<|Ro<|Rc 1 [vb false]<|Rk<|Sq<|Sq<|Ro<|Rc 2 [vi size_,vb (size_==1)]<|Rk ?_
 cases hb_1:((size_==1):Bool) with
 | true =>
  replace h:=aa hb_1 h
  refine Ct<|Sq<|Ro<|Rc 3 [vi n_,vb (decide (n_≥(-128))),vb (decide (n_≥(-128)))] ?_
  cases hb_2:((decide (n_≥(-128))):Bool) with
  | true =>
   replace h:=aa hb_2 h
   refine Rc 4 [vi n_,vb (decide (n_≤255)),vb (decide (n_≤255)),vb (decide (n_≤255))]<|Rk<|Runs.ret<|ae ?_
   cases h
   exact Fq
  | false =>
   replace h:=ab hb_2 h
   refine Rc 4 [vn,vn,vb false,vb false]<|Rk<|Runs.ret<|ae ?_
   cases h
   exact Fq
 | false =>
  replace h:=ab hb_1 h
  refine Cf<|Runs.skip<|ai<|Sq<|Ro<|Rc 3 [vi n_,vb (decide (n_≥(-32768))),vb (decide (n_≥(-32768)))] ?_
  cases hb_3:((decide (n_≥(-32768))):Bool) with
  | true =>
   replace h:=aa hb_3 h
   refine Rc 4 [vi n_,vb (decide (n_≤65535)),vb (decide (n_≤65535)),vb (decide (n_≤65535))]<|Rk<|Runs.ret ?_
   cases h
   exact Fq
  | false =>
   replace h:=ab hb_3 h
   refine Rc 4 [vn,vn,vb false,vb false]<|Rk<|Runs.ret ?_
   cases h
   exact Fq
theorem jJ (n_:Int) (size_:Int) (r:Bool) (h:dZ n_ size_=some r):L 52 [.i n_,.i size_]=some (.b r,[.i n_,.i size_]):=by
 obtain ⟨p,⟨hne,hf⟩,hr⟩:=rf n_ size_ r h
 obtain ⟨k,hk⟩:=aD (F:=F52) (args:=[.i n_,.i size_]) (ap:=[.i n_,.i size_]) (bx0:=ay (fun _=>none) []) rfl rfl (by kernel_rfl) ⟨p,⟨hne,hf⟩,hr⟩
 exact aA (k:=k) rfl hk
def rg (o_:Operand) (r:Bool) (p:Out × St):Prop:=(∀ i,p.1≠.exit i)∧aV F53 [.d (Operand.d o_)] p.2=some (.b r,[.d (Operand.d o_)])
theorem qD (o_:Operand) (r:Bool) (h:fj o_=some r):Runs L F53.body ⟨a9 [.d (Operand.d o_)] 0,ay (fun _=>none) []⟩ (rg o_ r):=by
 unfold fj at h
 refine Sq<|Ro<|Rc 2 [⟨.ptr [1] 0 0,[([1],some (.cells [.i o_.Kind,.i o_.N,.i o_.RM,.i o_.V.N,.i o_.V.From,.i o_.V.Which,.i o_.V.Type_,.i o_.V.Wants,.b o_.V.Known,.i o_.Type_,.i o_.Over,.b o_.Short] 0))]⟩,vb false]<|Rk<|Sq<|Ro<|Rc 4 [vp [1] 0 0,vi o_.Kind,vb (o_.Kind==4),vb (o_.Kind==4)] ?_
 cases hb_1:((o_.Kind==4):Bool) with
 | true =>
  replace h:=aa hb_1 h
  refine Rc 2 [vp [1] 0 3,⟨.d (api_Value.d o_.V),[]⟩] ?_
  obtain ⟨r_1,hr_1,h⟩:=ah h
  have hc_1:=eT o_.V r_1 hr_1
  refine Rt (some 9) (.callf 54) [] none [.d (api_Value.d o_.V)] (.b r_1) [] (cc hc_1)<|Rc 1 [vb r_1] ?_
  cases hb_2:(r_1:Bool) with
  | true =>
   replace h:=aa hb_2 h
   refine Rc 7 [vn,vn,vn,vn,vb true,vb true,vb true]<|Rk<|Runs.ret ?_
   cases h
   exact Fq
  | false =>
   replace h:=ab hb_2 h
   refine Rc 7 [vp [1] 0 3,vp [1] 0 7,vi o_.V.Wants,vb (o_.V.Wants != 0),vb (o_.V.Wants != 0),vb (o_.V.Wants != 0),vb (o_.V.Wants != 0)]<|Rk<|Runs.ret ?_
   cases h
   exact Fq
 | false =>
  replace h:=ab hb_1 h
  refine Rc 11 [vn,vn,vn,vn,vn,vn,vn,vn,vn,vb false,vb false]<|Rk<|Runs.ret ?_
  cases h
  exact Fq
theorem rh (o_:Operand) (r:Bool) (h:fj o_=some r):L 53 [.d (Operand.d o_)]=some (.b r,[.d (Operand.d o_)]):=by
 obtain ⟨p,⟨hne,hf⟩,hr⟩:=qD o_ r h
 obtain ⟨k,hk⟩:=aD (F:=F53) (args:=[.d (Operand.d o_)]) (ap:=[.d (Operand.d o_)]) (bx0:=ay (fun _=>none) []) rfl rfl (by kernel_rfl) ⟨p,⟨hne,hf⟩,hr⟩
 exact aA (k:=k) rfl hk
def wS (w_:Int) (r:Int) (p:Out × St):Prop:=(∀ i,p.1≠.exit i)∧aV F74 [.w w_] p.2=some (.y r,[.w w_])
theorem vh (w_:Int) (r:Int) (h:kw w_=some r):Runs L F74.body ⟨a9 [.w w_] 0,ay (fun _=>none) []⟩ (wS w_ r):=by
 unfold kw at h
 refine Sq<|Ro<|Rc 1 [vy 0]<|Rk<|Sq<|Ro<|Rc 3 [vw w_,vy (IntKind.wrap .u8 w_),vy (IntKind.wrap .u8 w_)]<|Rk<|Runs.ret ?_
 cases h
 exact Fq
theorem wT (w_:Int) (r:Int) (h:kw w_=some r):L 74 [.w w_]=some (.y r,[.w w_]):=by
 obtain ⟨p,⟨hne,hf⟩,hr⟩:=vh w_ r h
 obtain ⟨k,hk⟩:=aD (F:=F74) (args:=[.w w_]) (ap:=[.w w_]) (bx0:=ay (fun _=>none) []) rfl rfl (by kernel_rfl) ⟨p,⟨hne,hf⟩,hr⟩
 exact aA (k:=k) rfl hk
def vj (b_:Int) (r:Int) (p:Out × St):Prop:=(∀ i,p.1≠.exit i)∧aV F73 [.y b_] p.2=some (.w r,[.y b_])
theorem tK (b_:Int) (r:Int) (h:hT b_=some r):Runs L F73.body ⟨a9 [.y b_] 0,ay (fun _=>none) []⟩ (vj b_ r):=by
 unfold hT at h
 refine Sq<|Ro<|Rc 1 [vw 0]<|Rk<|Sq<|Ro<|Rc 5 [vy b_,⟨.d (.int .i8 (IntKind.wrap .i8 b_)),[]⟩,⟨.d (.int .i16 (IntKind.wrap .i16 (IntKind.wrap .i8 b_))),[]⟩,vw (IntKind.wrap .u16 (IntKind.wrap .i16 (IntKind.wrap .i8 b_))),vw (IntKind.wrap .u16 (IntKind.wrap .i16 (IntKind.wrap .i8 b_)))]<|Rk<|Runs.ret ?_
 cases h
 exact Fq
theorem vl (b_:Int) (r:Int) (h:hT b_=some r):L 73 [.y b_]=some (.w r,[.y b_]):=by
 obtain ⟨p,⟨hne,hf⟩,hr⟩:=tK b_ r h
 obtain ⟨k,hk⟩:=aD (F:=F73) (args:=[.y b_]) (ap:=[.y b_]) (bx0:=ay (fun _=>none) []) rfl rfl (by kernel_rfl) ⟨p,⟨hne,hf⟩,hr⟩
 exact aA (k:=k) rfl hk
def vm (w_:Int) (r:Bool) (p:Out × St):Prop:=(∀ i,p.1≠.exit i)∧aV F69 [.w w_] p.2=some (.b r,[.w w_])
theorem tL (w_:Int) (r:Bool) (h:fk w_=some r):Runs L F69.body ⟨a9 [.w w_] 0,ay (fun _=>none) []⟩ (vm w_ r):=by
 unfold fk at h
 refine Sq<|Ro<|Rc 1 [vb false]<|Rk<|Sq<|Ro<|Rc 1 [vw w_] ?_
 obtain ⟨r_1,hr_1,h⟩:=ah h
 have hc_1:=wT w_ r_1 hr_1
 refine Rt (some 4) (.callf 74) [] none [.w w_] (.y r_1) [] (cc hc_1) ?_
 obtain ⟨r_2,hr_2,h⟩:=ah h
 have hc_2:=vl r_1 r_2 hr_2
 refine Rt (some 5) (.callf 73) [] none [.y r_1] (.w r_2) [] (cc hc_2)<|Rc 3 [vw w_,vb (r_2==w_),vb (r_2==w_)]<|Rk<|Runs.ret ?_
 cases h
 exact Fq
theorem kM (w_:Int) (r:Bool) (h:fk w_=some r):L 69 [.w w_]=some (.b r,[.w w_]):=by
 obtain ⟨p,⟨hne,hf⟩,hr⟩:=tL w_ r h
 obtain ⟨k,hk⟩:=aD (F:=F69) (args:=[.w w_]) (ap:=[.w w_]) (bx0:=ay (fun _=>none) []) rfl rfl (by kernel_rfl) ⟨p,⟨hne,hf⟩,hr⟩
 exact aA (k:=k) rfl hk
def ri (n_:Int) (r:Bool) (p:Out × St):Prop:=(∀ i,p.1≠.exit i)∧aV F55 [.i n_] p.2=some (.b r,[.i n_])
theorem qE (n_:Int) (r:Bool) (h:d4 n_=some r):Runs L F55.body ⟨a9 [.i n_] 0,ay (fun _=>none) []⟩ (ri n_ r):=by
 unfold d4 at h
 refine Sq<|Ro<|Rc 1 [vb false]<|Rk<|Sq<|Ro<|Rc 2 [vi n_,vw (IntKind.wrap .u16 n_)] ?_
 obtain ⟨r_1,hr_1,h⟩:=ah h
 have hc_1:=kM (IntKind.wrap .u16 n_) r_1 hr_1
 refine Rt (some 5) (.callf 69) [] none [.w (IntKind.wrap .u16 n_)] (.b r_1) [] (cc hc_1)<|Rc 1 [vb r_1] ?_
 cases hb_1:(r_1:Bool) with
 | true =>
  replace h:=aa hb_1 h
  refine Rc 1 [vi n_] ?_
  obtain ⟨r_2,hr_2,h⟩:=ah h
  have hc_2:=jJ n_ 2 r_2 hr_2
  refine Rt (some 8) (.callf 52) [] none [.i n_,.i 2] (.b r_2) [] (cc hc_2)<|Rc 2 [vb r_2,vb r_2]<|Rk<|Runs.ret ?_
  cases h
  exact Fq
 | false =>
  replace h:=ab hb_1 h
  refine Rc 4 [vn,vn,vb false,vb false]<|Rk<|Runs.ret ?_
  cases h
  exact Fq
theorem lS (n_:Int) (r:Bool) (h:d4 n_=some r):L 55 [.i n_]=some (.b r,[.i n_]):=by
 obtain ⟨p,⟨hne,hf⟩,hr⟩:=qE n_ r h
 obtain ⟨k,hk⟩:=aD (F:=F55) (args:=[.i n_]) (ap:=[.i n_]) (bx0:=ay (fun _=>none) []) rfl rfl (by kernel_rfl) ⟨p,⟨hne,hf⟩,hr⟩
 exact aA (k:=k) rfl hk
def tM (o_:Operand) (far_:Bool) (r:Bool) (p:Out × St):Prop:=(∀ i,p.1≠.exit i)∧aV F56 [.d (Operand.d o_),.b far_] p.2=some (.b r,[.d (Operand.d o_),.b far_])
theorem rj (o_:Operand) (far_:Bool) (r:Bool) (h:d5 o_ far_=some r):Runs L F56.body ⟨a9 [.d (Operand.d o_),.b far_] 0,ay (fun _=>none) []⟩ (tM o_ far_ r):=by
 unfold d5 at h
 refine Sq<|Ro<|Rc 2 [⟨.ptr [2] 0 0,[([2],some (.cells [.i o_.Kind,.i o_.N,.i o_.RM,.i o_.V.N,.i o_.V.From,.i o_.V.Which,.i o_.V.Type_,.i o_.V.Wants,.b o_.V.Known,.i o_.Type_,.i o_.Over,.b o_.Short] 0))]⟩,vb false]<|Rk<|Sq<|Sq<|Ro<|Rc 4 [vp [2] 0 0,vi o_.Kind,vb (o_.Kind != 4),vb (o_.Kind != 4)] ?_
 cases hb_1:((o_.Kind != 4):Bool) with
 | true =>
  replace h:=aa hb_1 h
  refine Rc 15 [vn,vn,vn,vn,vb true,vb true,vn,vn,vn,vn,vn,vn,vn,vn,vb true]<|Rk<|Ct<|Sq<|Ro<|Rc 1 [vb false]<|Rk<|Runs.ret<|ae ?_
  cases h
  exact Fq
 | false =>
  replace h:=ab hb_1 h
  refine Rc 6 [vp [2] 0 3,vp [2] 0 7,vi o_.V.Wants,vb (o_.V.Wants != 0),vb (o_.V.Wants != 0),vb (o_.V.Wants != 0)] ?_
  cases hb_2:((o_.V.Wants != 0):Bool) with
  | true =>
   replace h:=aa hb_2 h
   refine Rc 9 [vn,vn,vn,vn,vn,vn,vn,vn,vb true]<|Rk<|Ct<|Sq<|Ro<|Rc 1 [vb false]<|Rk<|Runs.ret<|ae ?_
   cases h
   exact Fq
  | false =>
   replace h:=ab hb_2 h
   refine Rc 2 [vp [2] 0 3,⟨.d (api_Value.d o_.V),[]⟩] ?_
   obtain ⟨r_1,hr_1,h⟩:=ah h
   have hc_1:=eT o_.V r_1 hr_1
   refine Rt (some 17) (.callf 54) [] none [.d (api_Value.d o_.V)] (.b r_1) [] (cc hc_1)<|Rc 1 [vb r_1] ?_
   cases hb_3:(r_1:Bool) with
   | true =>
    replace h:=aa hb_3 h
    refine Rc 5 [vp [2] 0 3,vp [2] 0 8,vb o_.V.Known,vb o_.V.Known,vb o_.V.Known]<|Rk ?_
    cases hb_4:(o_.V.Known:Bool) with
    | true =>
     replace h:=aa hb_4 h
     refine Ct<|Sq<|Ro<|Rc 1 [vb false]<|Rk<|Runs.ret<|ae ?_
     cases h
     exact Fq
    | false =>
     replace h:=ab hb_4 h
     refine Cf<|Runs.skip<|ai<|Sq<|Ro<|Rc 6 [vp [2] 0 9,vi o_.Type_,vb (o_.Type_==102),vb far_,vb ((o_.Type_==102)==far_),vb ((o_.Type_==102)==far_)]<|Rk<|Runs.ret ?_
     cases h
     exact Fq
   | false =>
    replace h:=ab hb_3 h
    refine Rc 5 [vn,vn,vn,vb false,vb false]<|Rk<|Cf<|Runs.skip<|ai<|Sq<|Ro<|Rc 6 [vp [2] 0 9,vi o_.Type_,vb (o_.Type_==102),vb far_,vb ((o_.Type_==102)==far_),vb ((o_.Type_==102)==far_)]<|Rk<|Runs.ret ?_
    cases h
    exact Fq
theorem jK (o_:Operand) (far_:Bool) (r:Bool) (h:d5 o_ far_=some r):L 56 [.d (Operand.d o_),.b far_]=some (.b r,[.d (Operand.d o_),.b far_]):=by
 obtain ⟨p,⟨hne,hf⟩,hr⟩:=rj o_ far_ r h
 obtain ⟨k,hk⟩:=aD (F:=F56) (args:=[.d (Operand.d o_),.b far_]) (ap:=[.d (Operand.d o_),.b far_]) (bx0:=ay (fun _=>none) []) rfl rfl (by kernel_rfl) ⟨p,⟨hne,hf⟩,hr⟩
 exact aA (k:=k) rfl hk
def rk (o_:Operand) (size_:Int) (r:Bool) (p:Out × St):Prop:=(∀ i,p.1≠.exit i)∧aV F57 [.d (Operand.d o_),.i size_] p.2=some (.b r,[.d (Operand.d o_),.i size_])
theorem qF (o_:Operand) (size_:Int) (r:Bool) (h:d6 o_ size_=some r):Runs L F57.body ⟨a9 [.d (Operand.d o_),.i size_] 0,ay (fun _=>none) []⟩ (rk o_ size_ r):=by
 unfold d6 at h
 refine Sq<|Ro<|Rc 2 [⟨.ptr [2] 0 0,[([2],some (.cells [.i o_.Kind,.i o_.N,.i o_.RM,.i o_.V.N,.i o_.V.From,.i o_.V.Which,.i o_.V.Type_,.i o_.V.Wants,.b o_.V.Known,.i o_.Type_,.i o_.Over,.b o_.Short] 0))]⟩,vb false]<|Rk<|Sq<|Ro<|Rc 2 [⟨.d (Operand.d o_),[]⟩,vi size_] ?_
 obtain ⟨r_1,hr_1,h⟩:=ah h
 have hc_1:=gu o_ size_ r_1 hr_1
 refine Rt (some 7) (.callf 50) [] none [.d (Operand.d o_),.i size_] (.b r_1) [] (cc hc_1)<|Rc 1 [vb r_1] ?_
 cases hb_1:(r_1:Bool) with
 | true =>
  replace h:=aa hb_1 h
  refine Rc 5 [vp [2] 0 2,vi o_.RM,vb (o_.RM==8),vb (o_.RM==8),vb (o_.RM==8)]<|Rk<|Runs.ret ?_
  cases h
  exact Fq
 | false =>
  replace h:=ab hb_1 h
  refine Rc 5 [vn,vn,vn,vb false,vb false]<|Rk<|Runs.ret ?_
  cases h
  exact Fq
theorem lT (o_:Operand) (size_:Int) (r:Bool) (h:d6 o_ size_=some r):L 57 [.d (Operand.d o_),.i size_]=some (.b r,[.d (Operand.d o_),.i size_]):=by
 obtain ⟨p,⟨hne,hf⟩,hr⟩:=qF o_ size_ r h
 obtain ⟨k,hk⟩:=aD (F:=F57) (args:=[.d (Operand.d o_),.i size_]) (ap:=[.d (Operand.d o_),.i size_]) (bx0:=ay (fun _=>none) []) rfl rfl (by kernel_rfl) ⟨p,⟨hne,hf⟩,hr⟩
 exact aA (k:=k) rfl hk
def tN (op_:Int) (o_:Operand) (first_:Int) (r:Bool) (p:Out × St):Prop:=(∀ i,p.1≠.exit i)∧aV F58 [.i op_,.d (Operand.d o_),.y first_] p.2=some (.b r,[.i op_,.d (Operand.d o_),.y first_])
theorem rl (op_:Int) (o_:Operand) (first_:Int) (r:Bool) (h:gj op_ o_ first_=some r):Runs L F58.body ⟨a9 [.i op_,.d (Operand.d o_),.y first_] 0,ay (fun _=>none) []⟩ (tN op_ o_ first_ r):=by
 unfold gj at h
 refine Sq<|Ro<|Rc 2 [⟨.ptr [4] 0 0,[([4],some (.cells [.i o_.Kind,.i o_.N,.i o_.RM,.i o_.V.N,.i o_.V.From,.i o_.V.Which,.i o_.V.Type_,.i o_.V.Wants,.b o_.V.Known,.i o_.Type_,.i o_.Over,.b o_.Short] 0))]⟩,vb false]<|Rk<|Sq<|Sq<|Ro<|Rc 1 [vi op_]<|Rk<|Runs.block<|Sq<|Ro<|Rc 2 [vb (op_==14),vb (op_==14)]<|Rk ?_
 cases hb_1:((op_==14):Bool) with
 | true =>
  replace h:=aa hb_1 h
  refine Ct<|Sq<|Ro<|Rc 4 [vp [4] 0 0,vi o_.Kind,vb (o_.Kind==1),vb (o_.Kind==1)] ?_
  cases hb_2:((o_.Kind==1):Bool) with
  | true =>
   replace h:=aa hb_2 h
   refine Rc 5 [vp [4] 0 1,vi o_.N,vb (o_.N==0),vb (o_.N==0),vb (o_.N==0)]<|Rk<|Runs.ret<|aj<|ae ?_
   cases h
   exact Fq
  | false =>
   replace h:=ab hb_2 h
   refine Rc 5 [vn,vn,vn,vb false,vb false]<|Rk<|Runs.ret<|aj<|ae ?_
   cases h
   exact Fq
 | false =>
  replace h:=ab hb_1 h
  refine Cf<|Sq<|Ro<|Rc 2 [vb (op_==15),vb (op_==15)]<|Rk ?_
  cases hb_3:((op_==15):Bool) with
  | true =>
   replace h:=aa hb_3 h
   refine Ct<|Sq<|Ro<|Rc 4 [vp [4] 0 0,vi o_.Kind,vb (o_.Kind==1),vb (o_.Kind==1)] ?_
   cases hb_4:((o_.Kind==1):Bool) with
   | true =>
    replace h:=aa hb_4 h
    refine Rc 5 [vp [4] 0 1,vi o_.N,vb (o_.N==1),vb (o_.N==1),vb (o_.N==1)]<|Rk<|Runs.ret<|aj<|ae ?_
    cases h
    exact Fq
   | false =>
    replace h:=ab hb_4 h
    refine Rc 5 [vn,vn,vn,vb false,vb false]<|Rk<|Runs.ret<|aj<|ae ?_
    cases h
    exact Fq
  | false =>
   replace h:=ab hb_3 h
   refine Cf<|Sq<|Ro<|Rc 2 [vb (op_==16),vb (op_==16)]<|Rk ?_
   cases hb_5:((op_==16):Bool) with
   | true =>
    replace h:=aa hb_5 h
    refine Ct<|Sq<|Ro<|Rc 4 [vp [4] 0 0,vi o_.Kind,vb (o_.Kind==2),vb (o_.Kind==2)] ?_
    cases hb_6:((o_.Kind==2):Bool) with
    | true =>
     replace h:=aa hb_6 h
     refine Rc 5 [vp [4] 0 1,vi o_.N,vb (o_.N==0),vb (o_.N==0),vb (o_.N==0)]<|Rk<|Runs.ret<|aj<|ae ?_
     cases h
     exact Fq
    | false =>
     replace h:=ab hb_6 h
     refine Rc 5 [vn,vn,vn,vb false,vb false]<|Rk<|Runs.ret<|aj<|ae ?_
     cases h
     exact Fq
   | false =>
    replace h:=ab hb_5 h
    refine Cf<|Sq<|Ro<|Rc 2 [vb (op_==17),vb (op_==17)]<|Rk ?_
    cases hb_7:((op_==17):Bool) with
    | true =>
     replace h:=aa hb_7 h
     refine Ct<|Sq<|Ro<|Rc 4 [vp [4] 0 0,vi o_.Kind,vb (o_.Kind==2),vb (o_.Kind==2)] ?_
     cases hb_8:((o_.Kind==2):Bool) with
     | true =>
      replace h:=aa hb_8 h
      refine Rc 5 [vp [4] 0 1,vi o_.N,vb (o_.N==2),vb (o_.N==2),vb (o_.N==2)]<|Rk<|Runs.ret<|aj<|ae ?_
      cases h
      exact Fq
     | false =>
      replace h:=ab hb_8 h
      refine Rc 5 [vn,vn,vn,vb false,vb false]<|Rk<|Runs.ret<|aj<|ae ?_
      cases h
      exact Fq
    | false =>
     replace h:=ab hb_7 h
     refine Cf<|Sq<|Ro<|Rc 2 [vb (op_==18),vb (op_==18)]<|Rk ?_
     cases hb_9:((op_==18):Bool) with
     | true =>
      replace h:=aa hb_9 h
      refine Ct<|Sq<|Ro<|Rc 1 [⟨.d (Operand.d o_),[]⟩] ?_
      obtain ⟨r_1,hr_1,h⟩:=ah h
      have hc_1:=g7 o_ r_1 hr_1
      refine Rt (some 51) (.callf 51) [] none [.d (Operand.d o_)] (.b r_1) [] (cc hc_1)<|Rc 1 [vb r_1] ?_
      cases hb_10:(r_1:Bool) with
      | true =>
       replace h:=aa hb_10 h
       refine Rc 6 [vp [4] 0 3,vp [4] 0 3,vi o_.V.N,vb (o_.V.N==1),vb (o_.V.N==1),vb (o_.V.N==1)]<|Rk<|Runs.ret<|aj<|ae ?_
       cases h
       exact Fq
      | false =>
       replace h:=ab hb_10 h
       refine Rc 6 [vn,vn,vn,vn,vb false,vb false]<|Rk<|Runs.ret<|aj<|ae ?_
       cases h
       exact Fq
     | false =>
      replace h:=ab hb_9 h
      refine Cf<|Sq<|Ro<|Rc 2 [vb (op_==24),vb (op_==24)]<|Rk ?_
      cases hb_11:((op_==24):Bool) with
      | true =>
       replace h:=aa hb_11 h
       refine Ct<|Sq<|Ro<|Rc 1 [⟨.d (Operand.d o_),[]⟩] ?_
       obtain ⟨r_2,hr_2,h⟩:=ah h
       have hc_2:=g7 o_ r_2 hr_2
       refine Rt (some 61) (.callf 51) [] none [.d (Operand.d o_)] (.b r_2) [] (cc hc_2)<|Rc 1 [vb r_2] ?_
       cases hb_12:(r_2:Bool) with
       | true =>
        replace h:=aa hb_12 h
        refine Rc 6 [vp [4] 0 3,vp [4] 0 3,vi o_.V.N,vb (o_.V.N==3),vb (o_.V.N==3),vb (o_.V.N==3)]<|Rk<|Runs.ret<|aj<|ae ?_
        cases h
        exact Fq
       | false =>
        replace h:=ab hb_12 h
        refine Rc 6 [vn,vn,vn,vn,vb false,vb false]<|Rk<|Runs.ret<|aj<|ae ?_
        cases h
        exact Fq
      | false =>
       replace h:=ab hb_11 h
       refine Cf<|Sq<|Ro<|Rc 2 [vb (op_==21),vb (op_==21)]<|Rk ?_
       cases hb_13:((op_==21):Bool) with
       | true =>
        replace h:=aa hb_13 h
        refine Ct<|Sq<|Ro<|Rc 4 [vp [4] 0 0,vi o_.Kind,vb (o_.Kind==1),vb (o_.Kind==1)] ?_
        cases hb_14:((o_.Kind==1):Bool) with
        | true =>
         replace h:=aa hb_14 h
         refine Rc 8 [vp [4] 0 1,vi o_.N,vy first_,vy (ak .and .u8 first_ 7),vi (IntKind.wrap .i64 (ak .and .u8 first_ 7)),vb (o_.N==(IntKind.wrap .i64 (ak .and .u8 first_ 7))),vb (o_.N==(IntKind.wrap .i64 (ak .and .u8 first_ 7))),vb (o_.N==(IntKind.wrap .i64 (ak .and .u8 first_ 7)))]<|Rk<|Runs.ret<|aj<|ae ?_
         cases h
         exact Fq
        | false =>
         replace h:=ab hb_14 h
         refine Rc 8 [vn,vn,vn,vn,vn,vn,vb false,vb false]<|Rk<|Runs.ret<|aj<|ae ?_
         cases h
         exact Fq
       | false =>
        replace h:=ab hb_13 h
        refine Cf<|Sq<|Ro<|Rc 2 [vb (op_==22),vb (op_==22)]<|Rk ?_
        cases hb_15:((op_==22):Bool) with
        | true =>
         replace h:=aa hb_15 h
         refine Ct<|Sq<|Ro<|Rc 4 [vp [4] 0 0,vi o_.Kind,vb (o_.Kind==2),vb (o_.Kind==2)] ?_
         cases hb_16:((o_.Kind==2):Bool) with
         | true =>
          replace h:=aa hb_16 h
          refine Rc 8 [vp [4] 0 1,vi o_.N,vy first_,vy (ak .and .u8 first_ 7),vi (IntKind.wrap .i64 (ak .and .u8 first_ 7)),vb (o_.N==(IntKind.wrap .i64 (ak .and .u8 first_ 7))),vb (o_.N==(IntKind.wrap .i64 (ak .and .u8 first_ 7))),vb (o_.N==(IntKind.wrap .i64 (ak .and .u8 first_ 7)))]<|Rk<|Runs.ret<|aj<|ae ?_
          cases h
          exact Fq
         | false =>
          replace h:=ab hb_16 h
          refine Rc 8 [vn,vn,vn,vn,vn,vn,vb false,vb false]<|Rk<|Runs.ret<|aj<|ae ?_
          cases h
          exact Fq
        | false =>
         replace h:=ab hb_15 h
         refine Cf<|Sq<|Ro<|Rc 2 [vb (op_==23),vb (op_==23)]<|Rk ?_
         cases hb_17:((op_==23):Bool) with
         | true =>
          replace h:=aa hb_17 h
          refine Ct<|Sq<|Ro<|Rc 4 [vp [4] 0 0,vi o_.Kind,vb (o_.Kind==3),vb (o_.Kind==3)] ?_
          cases hb_18:((o_.Kind==3):Bool) with
          | true =>
           replace h:=aa hb_18 h
           refine Rc 9 [vp [4] 0 1,vi o_.N,vy first_,vy (bd .u8 first_ 3),vy (ak .and .u8 (bd .u8 first_ 3) 3),vi (IntKind.wrap .i64 (ak .and .u8 (bd .u8 first_ 3) 3)),vb (o_.N==(IntKind.wrap .i64 (ak .and .u8 (bd .u8 first_ 3) 3))),vb (o_.N==(IntKind.wrap .i64 (ak .and .u8 (bd .u8 first_ 3) 3))),vb (o_.N==(IntKind.wrap .i64 (ak .and .u8 (bd .u8 first_ 3) 3)))]<|Rk<|Runs.ret<|aj<|ae ?_
           cases h
           exact Fq
          | false =>
           replace h:=ab hb_18 h
           refine Rc 9 [vn,vn,vn,vn,vn,vn,vn,vb false,vb false]<|Rk<|Runs.ret<|aj<|ae ?_
           cases h
           exact Fq
         | false =>
          replace h:=ab hb_17 h
          refine Cf<|Runs.skip<|az<|ai<|Sq<|Ro<|Rc 1 [vb false]<|Rk<|Runs.ret ?_
          cases h
          exact Fq
theorem tO (op_:Int) (o_:Operand) (first_:Int) (r:Bool) (h:gj op_ o_ first_=some r):L 58 [.i op_,.d (Operand.d o_),.y first_]=some (.b r,[.i op_,.d (Operand.d o_),.y first_]):=by
 obtain ⟨p,⟨hne,hf⟩,hr⟩:=rl op_ o_ first_ r h
 obtain ⟨k,hk⟩:=aD (F:=F58) (args:=[.i op_,.d (Operand.d o_),.y first_]) (ap:=[.i op_,.d (Operand.d o_),.y first_]) (bx0:=ay (fun _=>none) []) rfl rfl (by kernel_rfl) ⟨p,⟨hne,hf⟩,hr⟩
 exact aA (k:=k) rfl hk
def vo (op_:Int) (o_:Operand) (first_:Int) (r:Bool) (p:Out × St):Prop:=(∀ i,p.1≠.exit i)∧aV F22 [.i op_,.d (Operand.d o_),.y first_] p.2=some (.b r,[.i op_,.d (Operand.d o_),.y first_])
theorem tP (op_:Int) (o_:Operand) (first_:Int) (r:Bool) (h:eH op_ o_ first_=some r):Runs L F22.body ⟨a9 [.i op_,.d (Operand.d o_),.y first_] 0,ay (fun _=>none) []⟩ (vo op_ o_ first_ r):=by
 unfold eH at h
 refine Sq<|Ro<|Rc 2 [⟨.ptr [4] 0 0,[([4],some (.cells [.i o_.Kind,.i o_.N,.i o_.RM,.i o_.V.N,.i o_.V.From,.i o_.V.Which,.i o_.V.Type_,.i o_.V.Wants,.b o_.V.Known,.i o_.Type_,.i o_.Over,.b o_.Short] 0))]⟩,vb false]<|Rk<|Sq<|Sq<|Ro<|Rc 1 [vi op_]<|Rk<|Runs.block<|Sq<|Ro<|Rc 2 [vb (op_==0),vb (op_==0)]<|Rk ?_
 cases hb_1:((op_==0):Bool) with
 | true =>
  replace h:=aa hb_1 h
  refine Ct<|Sq<|Ro<|Rc 4 [vp [4] 0 0,vi o_.Kind,vb (o_.Kind==0),vb (o_.Kind==0)]<|Rk<|Runs.ret<|aj<|ae ?_
  cases h
  exact Fq
 | false =>
  replace h:=ab hb_1 h
  refine Cf<|Sq<|Ro<|Rc 2 [vb (op_==1),vb (op_==1)]<|Rk ?_
  cases hb_2:((op_==1):Bool) with
  | true =>
   replace h:=aa hb_2 h
   refine Ct<|Sq<|Ro<|Rc 4 [vp [4] 0 0,vi o_.Kind,vb (o_.Kind==1),vb (o_.Kind==1)] ?_
   cases hb_3:((o_.Kind==1):Bool) with
   | true =>
    replace h:=aa hb_3 h
    refine Rc 4 [vn,vn,vb true,vb true]<|Rk<|Runs.ret<|aj<|ae ?_
    cases h
    exact Fq
   | false =>
    replace h:=ab hb_3 h
    refine Rc 1 [⟨.d (Operand.d o_),[]⟩] ?_
    obtain ⟨r_1,hr_1,h⟩:=ah h
    have hc_1:=gu o_ 1 r_1 hr_1
    refine Rt (some 20) (.callf 50) [] none [.d (Operand.d o_),.i 1] (.b r_1) [] (cc hc_1)<|Rc 2 [vb r_1,vb r_1]<|Rk<|Runs.ret<|aj<|ae ?_
    cases h
    exact Fq
  | false =>
   replace h:=ab hb_2 h
   refine Cf<|Sq<|Ro<|Rc 2 [vb (op_==2),vb (op_==2)]<|Rk ?_
   cases hb_4:((op_==2):Bool) with
   | true =>
    replace h:=aa hb_4 h
    refine Ct<|Sq<|Ro<|Rc 4 [vp [4] 0 0,vi o_.Kind,vb (o_.Kind==2),vb (o_.Kind==2)] ?_
    cases hb_5:((o_.Kind==2):Bool) with
    | true =>
     replace h:=aa hb_5 h
     refine Rc 4 [vn,vn,vb true,vb true]<|Rk<|Runs.ret<|aj<|ae ?_
     cases h
     exact Fq
    | false =>
     replace h:=ab hb_5 h
     refine Rc 1 [⟨.d (Operand.d o_),[]⟩] ?_
     obtain ⟨r_2,hr_2,h⟩:=ah h
     have hc_2:=gu o_ 2 r_2 hr_2
     refine Rt (some 29) (.callf 50) [] none [.d (Operand.d o_),.i 2] (.b r_2) [] (cc hc_2)<|Rc 2 [vb r_2,vb r_2]<|Rk<|Runs.ret<|aj<|ae ?_
     cases h
     exact Fq
   | false =>
    replace h:=ab hb_4 h
    refine Cf<|Sq<|Ro<|Rc 2 [vb (op_==3),vb (op_==3)]<|Rk ?_
    cases hb_6:((op_==3):Bool) with
    | true =>
     replace h:=aa hb_6 h
     refine Ct<|Sq<|Ro<|Rc 4 [vp [4] 0 0,vi o_.Kind,vb (o_.Kind==1),vb (o_.Kind==1)]<|Rk<|Runs.ret<|aj<|ae ?_
     cases h
     exact Fq
    | false =>
     replace h:=ab hb_6 h
     refine Cf<|Sq<|Ro<|Rc 2 [vb (op_==4),vb (op_==4)]<|Rk ?_
     cases hb_7:((op_==4):Bool) with
     | true =>
      replace h:=aa hb_7 h
      refine Ct<|Sq<|Ro<|Rc 4 [vp [4] 0 0,vi o_.Kind,vb (o_.Kind==2),vb (o_.Kind==2)]<|Rk<|Runs.ret<|aj<|ae ?_
      cases h
      exact Fq
     | false =>
      replace h:=ab hb_7 h
      refine Cf<|Sq<|Ro<|Rc 2 [vb (op_==5),vb (op_==5)]<|Rk ?_
      cases hb_8:((op_==5):Bool) with
      | true =>
       replace h:=aa hb_8 h
       refine Ct<|Sq<|Ro<|Rc 4 [vp [4] 0 0,vi o_.Kind,vb (o_.Kind==3),vb (o_.Kind==3)]<|Rk<|Runs.ret<|aj<|ae ?_
       cases h
       exact Fq
      | false =>
       replace h:=ab hb_8 h
       refine Cf<|Sq<|Ro<|Rc 2 [vb (op_==6),vb (op_==6)]<|Rk ?_
       cases hb_9:((op_==6):Bool) with
       | true =>
        replace h:=aa hb_9 h
        refine Ct<|Sq<|Ro<|Rc 1 [⟨.d (Operand.d o_),[]⟩] ?_
        obtain ⟨r_3,hr_3,h⟩:=ah h
        have hc_3:=g7 o_ r_3 hr_3
        refine Rt (some 49) (.callf 51) [] none [.d (Operand.d o_)] (.b r_3) [] (cc hc_3)<|Rc 1 [vb r_3] ?_
        cases hb_10:(r_3:Bool) with
        | true =>
         replace h:=aa hb_10 h
         refine Rc 3 [vp [4] 0 3,vp [4] 0 3,vi o_.V.N] ?_
         obtain ⟨r_4,hr_4,h⟩:=ah h
         have hc_4:=jJ o_.V.N 1 r_4 hr_4
         refine Rt (some 54) (.callf 52) [] none [.i o_.V.N,.i 1] (.b r_4) [] (cc hc_4)<|Rc 2 [vb r_4,vb r_4]<|Rk<|Runs.ret<|aj<|ae ?_
         cases h
         exact Fq
        | false =>
         replace h:=ab hb_10 h
         refine Rc 6 [vn,vn,vn,vn,vb false,vb false]<|Rk<|Runs.ret<|aj<|ae ?_
         cases h
         exact Fq
       | false =>
        replace h:=ab hb_9 h
        refine Cf<|Sq<|Ro<|Rc 2 [vb (op_==7),vb (op_==7)]<|Rk ?_
        cases hb_11:((op_==7):Bool) with
        | true =>
         replace h:=aa hb_11 h
         refine Ct<|Sq<|Ro<|Rc 1 [⟨.d (Operand.d o_),[]⟩] ?_
         obtain ⟨r_5,hr_5,h⟩:=ah h
         have hc_5:=rh o_ r_5 hr_5
         refine Rt (some 59) (.callf 53) [] none [.d (Operand.d o_)] (.b r_5) [] (cc hc_5)<|Rc 1 [vb r_5] ?_
         cases hb_12:(r_5:Bool) with
         | true =>
          replace h:=aa hb_12 h
          refine Rc 2 [vp [4] 0 3,⟨.d (api_Value.d o_.V),[]⟩] ?_
          obtain ⟨r_6,hr_6,h⟩:=ah h
          have hc_6:=eT o_.V r_6 hr_6
          refine Rt (some 63) (.callf 54) [] none [.d (api_Value.d o_.V)] (.b r_6) [] (cc hc_6)<|Rc 2 [vb (!r_6),vb (!r_6)] ?_
          cases hb_13:((!r_6):Bool) with
          | true =>
           replace h:=aa hb_13 h
           refine Rc 7 [vn,vn,vn,vn,vb true,vb true,vb true]<|Rk<|Runs.ret<|aj<|ae ?_
           cases h
           exact Fq
          | false =>
           replace h:=ab hb_13 h
           refine Rc 3 [vp [4] 0 3,vp [4] 0 3,vi o_.V.N] ?_
           obtain ⟨r_7,hr_7,h⟩:=ah h
           have hc_7:=jJ o_.V.N 2 r_7 hr_7
           refine Rt (some 69) (.callf 52) [] none [.i o_.V.N,.i 2] (.b r_7) [] (cc hc_7)<|Rc 3 [vb r_7,vb r_7,vb r_7]<|Rk<|Runs.ret<|aj<|ae ?_
           cases h
           exact Fq
         | false =>
          replace h:=ab hb_12 h
          refine Rc 12 [vn,vn,vn,vn,vn,vn,vn,vn,vn,vn,vb false,vb false]<|Rk<|Runs.ret<|aj<|ae ?_
          cases h
          exact Fq
        | false =>
         replace h:=ab hb_11 h
         refine Cf<|Sq<|Ro<|Rc 2 [vb (op_==8),vb (op_==8)]<|Rk ?_
         cases hb_14:((op_==8):Bool) with
         | true =>
          replace h:=aa hb_14 h
          refine Ct<|Sq<|Ro<|Rc 1 [⟨.d (Operand.d o_),[]⟩] ?_
          obtain ⟨r_8,hr_8,h⟩:=ah h
          have hc_8:=g7 o_ r_8 hr_8
          refine Rt (some 75) (.callf 51) [] none [.d (Operand.d o_)] (.b r_8) [] (cc hc_8)<|Rc 1 [vb r_8] ?_
          cases hb_15:(r_8:Bool) with
          | true =>
           replace h:=aa hb_15 h
           refine Rc 3 [vp [4] 0 3,vp [4] 0 3,vi o_.V.N] ?_
           obtain ⟨r_9,hr_9,h⟩:=ah h
           have hc_9:=lS o_.V.N r_9 hr_9
           refine Rt (some 80) (.callf 55) [] none [.i o_.V.N] (.b r_9) [] (cc hc_9)<|Rc 2 [vb r_9,vb r_9]<|Rk<|Runs.ret<|aj<|ae ?_
           cases h
           exact Fq
          | false =>
           replace h:=ab hb_15 h
           refine Rc 6 [vn,vn,vn,vn,vb false,vb false]<|Rk<|Runs.ret<|aj<|ae ?_
           cases h
           exact Fq
         | false =>
          replace h:=ab hb_14 h
          refine Cf<|Sq<|Ro<|Rc 2 [vb (op_==9),vb (op_==9)]<|Rk ?_
          cases hb_16:((op_==9):Bool) with
          | true =>
           replace h:=aa hb_16 h
           refine Ct<|Sq<|Ro<|Rc 1 [⟨.d (Operand.d o_),[]⟩] ?_
           obtain ⟨r_10,hr_10,h⟩:=ah h
           have hc_10:=jK o_ false r_10 hr_10
           refine Rt (some 85) (.callf 56) [] none [.d (Operand.d o_),.b false] (.b r_10) [] (cc hc_10)<|Rc 1 [vb r_10]<|Rk<|Runs.ret<|aj<|ae ?_
           cases h
           exact Fq
          | false =>
           replace h:=ab hb_16 h
           refine Cf<|Sq<|Ro<|Rc 2 [vb (op_==10),vb (op_==10)]<|Rk ?_
           cases hb_17:((op_==10):Bool) with
           | true =>
            replace h:=aa hb_17 h
            refine Ct<|Sq<|Ro<|Rc 1 [⟨.d (Operand.d o_),[]⟩] ?_
            obtain ⟨r_11,hr_11,h⟩:=ah h
            have hc_11:=jK o_ false r_11 hr_11
            refine Rt (some 89) (.callf 56) [] none [.d (Operand.d o_),.b false] (.b r_11) [] (cc hc_11)<|Rc 1 [vb r_11] ?_
            cases hb_18:(r_11:Bool) with
            | true =>
             replace h:=aa hb_18 h
             refine Rc 5 [vp [4] 0 11,vb o_.Short,vb (!o_.Short),vb (!o_.Short),vb (!o_.Short)]<|Rk<|Runs.ret<|aj<|ae ?_
             cases h
             exact Fq
            | false =>
             replace h:=ab hb_18 h
             refine Rc 5 [vn,vn,vn,vb false,vb false]<|Rk<|Runs.ret<|aj<|ae ?_
             cases h
             exact Fq
           | false =>
            replace h:=ab hb_17 h
            refine Cf<|Sq<|Ro<|Rc 2 [vb (op_==11),vb (op_==11)]<|Rk ?_
            cases hb_19:((op_==11):Bool) with
            | true =>
             replace h:=aa hb_19 h
             refine Ct<|Sq<|Ro<|Rc 1 [⟨.d (Operand.d o_),[]⟩] ?_
             obtain ⟨r_12,hr_12,h⟩:=ah h
             have hc_12:=jK o_ true r_12 hr_12
             refine Rt (some 98) (.callf 56) [] none [.d (Operand.d o_),.b true] (.b r_12) [] (cc hc_12)<|Rc 1 [vb r_12] ?_
             cases hb_20:(r_12:Bool) with
             | true =>
              replace h:=aa hb_20 h
              refine Rc 5 [vp [4] 0 11,vb o_.Short,vb (!o_.Short),vb (!o_.Short),vb (!o_.Short)]<|Rk<|Runs.ret<|aj<|ae ?_
              cases h
              exact Fq
             | false =>
              replace h:=ab hb_20 h
              refine Rc 5 [vn,vn,vn,vb false,vb false]<|Rk<|Runs.ret<|aj<|ae ?_
              cases h
              exact Fq
            | false =>
             replace h:=ab hb_19 h
             refine Cf<|Sq<|Ro<|Rc 2 [vb (op_==12),vb (op_==12)]<|Rk ?_
             cases hb_21:((op_==12):Bool) with
             | true =>
              replace h:=aa hb_21 h
              refine Ct<|Sq<|Ro<|Rc 1 [⟨.d (Operand.d o_),[]⟩] ?_
              obtain ⟨r_13,hr_13,h⟩:=ah h
              have hc_13:=lT o_ 1 r_13 hr_13
              refine Rt (some 107) (.callf 57) [] none [.d (Operand.d o_),.i 1] (.b r_13) [] (cc hc_13)<|Rc 1 [vb r_13]<|Rk<|Runs.ret<|aj<|ae ?_
              cases h
              exact Fq
             | false =>
              replace h:=ab hb_21 h
              refine Cf<|Sq<|Ro<|Rc 2 [vb (op_==13),vb (op_==13)]<|Rk ?_
              cases hb_22:((op_==13):Bool) with
              | true =>
               replace h:=aa hb_22 h
               refine Ct<|Sq<|Ro<|Rc 1 [⟨.d (Operand.d o_),[]⟩] ?_
               obtain ⟨r_14,hr_14,h⟩:=ah h
               have hc_14:=lT o_ 2 r_14 hr_14
               refine Rt (some 111) (.callf 57) [] none [.d (Operand.d o_),.i 2] (.b r_14) [] (cc hc_14)<|Rc 1 [vb r_14]<|Rk<|Runs.ret<|aj<|ae ?_
               cases h
               exact Fq
              | false =>
               replace h:=ab hb_22 h
               refine Cf<|Sq<|Ro<|Rc 2 [vb (op_==20),vb (op_==20)]<|Rk ?_
               cases hb_23:((op_==20):Bool) with
               | true =>
                replace h:=aa hb_23 h
                refine Ct<|Sq<|Ro<|Rc 1 [⟨.d (Operand.d o_),[]⟩] ?_
                obtain ⟨r_15,hr_15,h⟩:=ah h
                have hc_15:=gu o_ 0 r_15 hr_15
                refine Rt (some 115) (.callf 50) [] none [.d (Operand.d o_),.i 0] (.b r_15) [] (cc hc_15)<|Rc 1 [vb r_15]<|Rk<|Runs.ret<|aj<|ae ?_
                cases h
                exact Fq
               | false =>
                replace h:=ab hb_23 h
                refine Cf<|Sq<|Ro<|Rc 2 [vb (op_==19),vb (op_==19)]<|Rk ?_
                cases hb_24:((op_==19):Bool) with
                | true =>
                 replace h:=aa hb_24 h
                 refine Ct<|Sq<|Ro<|Rc 4 [vp [4] 0 0,vi o_.Kind,vb (o_.Kind==5),vb (o_.Kind==5)] ?_
                 cases hb_25:((o_.Kind==5):Bool) with
                 | true =>
                  replace h:=aa hb_25 h
                  refine Rc 4 [vp [4] 0 9,vi o_.Type_,vb (o_.Type_==4),vb (o_.Type_==4)] ?_
                  cases hb_26:((o_.Type_==4):Bool) with
                  | true =>
                   replace h:=aa hb_26 h
                   refine Rc 6 [vn,vn,vn,vb true,vb true,vb true]<|Rk<|Runs.ret<|aj<|ae ?_
                   cases h
                   exact Fq
                  | false =>
                   replace h:=ab hb_26 h
                   refine Rc 6 [vp [4] 0 9,vi o_.Type_,vb (o_.Type_==0),vb (o_.Type_==0),vb (o_.Type_==0),vb (o_.Type_==0)]<|Rk<|Runs.ret<|aj<|ae ?_
                   cases h
                   exact Fq
                 | false =>
                  replace h:=ab hb_25 h
                  refine Rc 10 [vn,vn,vn,vn,vn,vn,vn,vn,vb false,vb false]<|Rk<|Runs.ret<|aj<|ae ?_
                  cases h
                  exact Fq
                | false =>
                 replace h:=ab hb_24 h
                 refine Cf<|Runs.skip<|az<|ai<|Sq<|Ro<|Rc 3 [vi op_,⟨.d (Operand.d o_),[]⟩,vy first_] ?_
                 obtain ⟨r_16,hr_16,h⟩:=ah h
                 have hc_16:=tO op_ o_ first_ r_16 hr_16
                 refine Rt (some 134) (.callf 58) [] none [.i op_,.d (Operand.d o_),.y first_] (.b r_16) [] (cc hc_16)<|Rc 1 [vb r_16]<|Rk<|Runs.ret ?_
                 cases h
                 exact Fq
theorem oO (op_:Int) (o_:Operand) (first_:Int) (r:Bool) (h:eH op_ o_ first_=some r):L 22 [.i op_,.d (Operand.d o_),.y first_]=some (.b r,[.i op_,.d (Operand.d o_),.y first_]):=by
 obtain ⟨p,⟨hne,hf⟩,hr⟩:=tP op_ o_ first_ r h
 obtain ⟨k,hk⟩:=aD (F:=F22) (args:=[.i op_,.d (Operand.d o_),.y first_]) (ap:=[.i op_,.d (Operand.d o_),.y first_]) (bx0:=ay (fun _=>none) []) rfl rfl (by kernel_rfl) ⟨p,⟨hne,hf⟩,hr⟩
 exact aA (k:=k) rfl hk
def dR (t3:Int) (t4:Bool):St:=⟨tab [(3,.i t3),(4,.b t4)],be []⟩
def jW (op_:Int) (r:Int) (p:Out × St):Prop:=(∀ i,p.1≠.exit i)∧aV F59 [.i op_] p.2=some (.i r,[.i op_])
theorem eA (op_:Int) (t3:Int) (t4:Bool) (r:Int) (h:da t3 t4=some r):Runs L zH (dR t3 t4) (kB 0 (kS L zI (jW op_ r))):=by
 unfold da at h
 cases hb_2:(t4:Bool) with
 | true =>
  replace h:=aa hb_2 h
  refine Ct<|Sq<|Ro<|Rc 1 [vi 1]<|Rk<|Runs.ret<|aj<|ae ?_
  cases h
  exact Fq
 | false =>
  replace h:=ab hb_2 h
  refine Cf<|Sq<|Sq<|Ro<|Rc 2 [vb (t3==7),vb (t3==7)]<|Rk ?_
  cases hb_3:((t3==7):Bool) with
  | true =>
   replace h:=aa hb_3 h
   refine Ct<|Runs.skip<|ai<|Ct<|Sq<|Ro<|Rc 1 [vi 2]<|Rk<|Runs.ret<|aj<|ae ?_
   cases h
   exact Fq
  | false =>
   replace h:=ab hb_3 h
   refine Cf<|Sq<|Ro<|Rc 2 [vb (t3==10),vb (t3==10)]<|Rk ?_
   cases hb_4:((t3==10):Bool) with
   | true =>
    replace h:=aa hb_4 h
    refine Ct<|Runs.skip<|ai<|Ct<|Sq<|Ro<|Rc 1 [vi 2]<|Rk<|Runs.ret<|aj<|ae ?_
    cases h
    exact Fq
   | false =>
    replace h:=ab hb_4 h
    refine Cf<|Sq<|Ro<|Rc 2 [vb (t3==12),vb (t3==12)]<|Rk ?_
    cases hb_5:((t3==12):Bool) with
    | true =>
     replace h:=aa hb_5 h
     refine Ct<|Runs.skip<|ai<|Ct<|Sq<|Ro<|Rc 1 [vi 2]<|Rk<|Runs.ret<|aj<|ae ?_
     cases h
     exact Fq
    | false =>
     replace h:=ab hb_5 h
     refine Cf<|Ro<|Rc 2 [vb (t3==13),vb (t3==13)]<|Rk ?_
     cases hb_6:((t3==13):Bool) with
     | true =>
      replace h:=aa hb_6 h
      refine Ct<|Sq<|Ro<|Rc 1 [vi 2]<|Rk<|Runs.ret<|aj<|ae ?_
      cases h
      exact Fq
     | false =>
      replace h:=ab hb_6 h
      refine Cf<|Sq<|Ro<|Rc 2 [vb (t3==11),vb (t3==11)]<|Rk ?_
      cases hb_7:((t3==11):Bool) with
      | true =>
       replace h:=aa hb_7 h
       refine Ct<|Sq<|Ro<|Rc 1 [vi 4]<|Rk<|Runs.ret<|aj<|ae ?_
       cases h
       exact Fq
      | false =>
       replace h:=ab hb_7 h
       refine Cf<|Runs.skip<|az<|ai<|Sq<|Ro<|Rc 1 [vi 0]<|Rk<|Runs.ret ?_
       cases h
       exact Fq
theorem ol (op_:Int) (r:Int) (h:cq op_=some r):Runs L F59.body ⟨a9 [.i op_] 0,ay (fun _=>none) []⟩ (jW op_ r):=by
 unfold cq at h
 refine Sq<|Ro<|Rc 1 [vi 0]<|Rk<|Sq<|Sq<|Ro<|Rc 1 [vi op_]<|Rk<|Runs.block<|Sq<|Sq<|Ro<|Rc 2 [vb (op_==6),vb (op_==6)]<|Rk ?_
 cases hb_1:((op_==6):Bool) with
 | true =>
  replace h:=aa hb_1 h
  refine Ct<|Runs.skip<|ai<|Runs.canon (dR op_ true) Cz ?_
  exact eA op_ op_ true r h
 | false =>
  replace h:=ab hb_1 h
  refine Cf<|Sq<|Ro<|Rc 2 [vb (op_==8),vb (op_==8)]<|Rk ?_
  cases hb_8:((op_==8):Bool) with
  | true =>
   replace h:=aa hb_8 h
   refine Ct<|Runs.skip<|ai<|Runs.canon (dR op_ true) Cz ?_
   exact eA op_ op_ true r h
  | false =>
   replace h:=ab hb_8 h
   refine Cf<|Ro<|Rc 2 [vb (op_==9),vb (op_==9)]<|Rk<|Runs.canon (dR op_ (op_==9)) Cz ?_
   exact eA op_ op_ (op_==9) r h
theorem dM (op_:Int) (r:Int) (h:cq op_=some r):L 59 [.i op_]=some (.i r,[.i op_]):=by
 obtain ⟨p,⟨hne,hf⟩,hr⟩:=ol op_ r h
 obtain ⟨k,hk⟩:=aD (F:=F59) (args:=[.i op_]) (ap:=[.i op_]) (bx0:=ay (fun _=>none) []) rfl rfl (by kernel_rfl) ⟨p,⟨hne,hf⟩,hr⟩
 exact aA (k:=k) rfl hk
def gw (r2:Row) (ops3:(A2 Operand)) (t12:(A2 Int)) (t13:Int):St:=⟨tab [(2,.ptr [2] 0 0),(3,.ptr [3] 0 0),(12,.d (.agg [.int .i64 t12.a0,.int .i64 t12.a1])),(13,.i t13)],be [([2],some (.cells [.i r2.Name,.i r2.A,.i r2.B,.b r2.Mod] 0)),([3],some (.cells [.i ops3.a0.Kind,.i ops3.a0.N,.i ops3.a0.RM,.i ops3.a0.V.N,.i ops3.a0.V.From,.i ops3.a0.V.Which,.i ops3.a0.V.Type_,.i ops3.a0.V.Wants,.b ops3.a0.V.Known,.i ops3.a0.Type_,.i ops3.a0.Over,.b ops3.a0.Short,.i ops3.a1.Kind,.i ops3.a1.N,.i ops3.a1.RM,.i ops3.a1.V.N,.i ops3.a1.V.From,.i ops3.a1.V.Which,.i ops3.a1.V.Type_,.i ops3.a1.V.Wants,.b ops3.a1.V.Known,.i ops3.a1.Type_,.i ops3.a1.Over,.b ops3.a1.Short] 0))]⟩
def bG (r2:Row) (ops3:(A2 Operand)) (k5:Int) (t12:(A2 Int)) (t13:Int) (t50:Bool):St:=⟨tab [(2,.ptr [2] 0 0),(3,.ptr [3] 0 0),(5,.i k5),(12,.d (.agg [.int .i64 t12.a0,.int .i64 t12.a1])),(13,.i t13),(50,.b t50)],be [([2],some (.cells [.i r2.Name,.i r2.A,.i r2.B,.b r2.Mod] 0)),([3],some (.cells [.i ops3.a0.Kind,.i ops3.a0.N,.i ops3.a0.RM,.i ops3.a0.V.N,.i ops3.a0.V.From,.i ops3.a0.V.Which,.i ops3.a0.V.Type_,.i ops3.a0.V.Wants,.b ops3.a0.V.Known,.i ops3.a0.Type_,.i ops3.a0.Over,.b ops3.a0.Short,.i ops3.a1.Kind,.i ops3.a1.N,.i ops3.a1.RM,.i ops3.a1.V.N,.i ops3.a1.V.From,.i ops3.a1.V.Which,.i ops3.a1.V.Type_,.i ops3.a1.V.Wants,.b ops3.a1.V.Known,.i ops3.a1.Type_,.i ops3.a1.Over,.b ops3.a1.Short] 0))]⟩
def qG :St:=⟨tab [],be []⟩
def tQ (r_:Row) (ops_:(A2 Operand)) (r:Bool) (p:Out × St):Prop:=(∀ i,p.1≠.exit i)∧aV F23 [.d (Row.d r_),.d (.agg [.int .i64 ops_.a0.Kind,.int .i64 ops_.a0.N,.int .i64 ops_.a0.RM,.int .i64 ops_.a0.V.N,.int .i64 ops_.a0.V.From,.int .i64 ops_.a0.V.Which,.int .i64 ops_.a0.V.Type_,.int .i64 ops_.a0.V.Wants,.bool ops_.a0.V.Known,.int .i64 ops_.a0.Type_,.int .i64 ops_.a0.Over,.bool ops_.a0.Short,.int .i64 ops_.a1.Kind,.int .i64 ops_.a1.N,.int .i64 ops_.a1.RM,.int .i64 ops_.a1.V.N,.int .i64 ops_.a1.V.From,.int .i64 ops_.a1.V.Which,.int .i64 ops_.a1.V.Type_,.int .i64 ops_.a1.V.Wants,.bool ops_.a1.V.Known,.int .i64 ops_.a1.Type_,.int .i64 ops_.a1.Over,.bool ops_.a1.Short])] p.2=some (.b r,[.d (Row.d r_),.d (.agg [.int .i64 ops_.a0.Kind,.int .i64 ops_.a0.N,.int .i64 ops_.a0.RM,.int .i64 ops_.a0.V.N,.int .i64 ops_.a0.V.From,.int .i64 ops_.a0.V.Which,.int .i64 ops_.a0.V.Type_,.int .i64 ops_.a0.V.Wants,.bool ops_.a0.V.Known,.int .i64 ops_.a0.Type_,.int .i64 ops_.a0.Over,.bool ops_.a0.Short,.int .i64 ops_.a1.Kind,.int .i64 ops_.a1.N,.int .i64 ops_.a1.RM,.int .i64 ops_.a1.V.N,.int .i64 ops_.a1.V.From,.int .i64 ops_.a1.V.Which,.int .i64 ops_.a1.V.Type_,.int .i64 ops_.a1.V.Wants,.bool ops_.a1.V.Known,.int .i64 ops_.a1.Type_,.int .i64 ops_.a1.Over,.bool ops_.a1.Short])])
def iT (r_:Row) (ops_:(A2 Operand)) (r2:Row) (ops3:(A2 Operand)) (t12:(A2 Int)) (e:(Bool ⊕ Unit)) (p:Out × St):Prop:=match e with
 | .inl x=>p.1=.ret∧aV F23 [.d (Row.d r_),.d (.agg [.int .i64 ops_.a0.Kind,.int .i64 ops_.a0.N,.int .i64 ops_.a0.RM,.int .i64 ops_.a0.V.N,.int .i64 ops_.a0.V.From,.int .i64 ops_.a0.V.Which,.int .i64 ops_.a0.V.Type_,.int .i64 ops_.a0.V.Wants,.bool ops_.a0.V.Known,.int .i64 ops_.a0.Type_,.int .i64 ops_.a0.Over,.bool ops_.a0.Short,.int .i64 ops_.a1.Kind,.int .i64 ops_.a1.N,.int .i64 ops_.a1.RM,.int .i64 ops_.a1.V.N,.int .i64 ops_.a1.V.From,.int .i64 ops_.a1.V.Which,.int .i64 ops_.a1.V.Type_,.int .i64 ops_.a1.V.Wants,.bool ops_.a1.V.Known,.int .i64 ops_.a1.Type_,.int .i64 ops_.a1.Over,.bool ops_.a1.Short])] p.2=some (.b x,[.d (Row.d r_),.d (.agg [.int .i64 ops_.a0.Kind,.int .i64 ops_.a0.N,.int .i64 ops_.a0.RM,.int .i64 ops_.a0.V.N,.int .i64 ops_.a0.V.From,.int .i64 ops_.a0.V.Which,.int .i64 ops_.a0.V.Type_,.int .i64 ops_.a0.V.Wants,.bool ops_.a0.V.Known,.int .i64 ops_.a0.Type_,.int .i64 ops_.a0.Over,.bool ops_.a0.Short,.int .i64 ops_.a1.Kind,.int .i64 ops_.a1.N,.int .i64 ops_.a1.RM,.int .i64 ops_.a1.V.N,.int .i64 ops_.a1.V.From,.int .i64 ops_.a1.V.Which,.int .i64 ops_.a1.V.Type_,.int .i64 ops_.a1.V.Wants,.bool ops_.a1.V.Known,.int .i64 ops_.a1.Type_,.int .i64 ops_.a1.Over,.bool ops_.a1.Short])])
 | .inr x=>p.1=.exit 0∧∃ g:Unit,Canon [] [] [] p.2 (qG)
theorem bf (r_:Row) (ops_:(A2 Operand)) (r2:Row) (ops3:(A2 Operand)) (k5:Int) (t12:(A2 Int)) (t13:Int) (t50:Bool) (r:(Lp Int (Bool ⊕ Unit))) (h:aO r2 ops3 k5 t12 t13 t50=some r):Runs L zu (bG r2 ops3 k5 t12 t13 t50) (kB 1 (kS L zw (LQ [] [2,3,12,13] [[2],[3]] (fun (x:Int) (g:Unit)=>gw r2 ops3 t12 x) (iT r_ ops_ r2 ops3 t12) r))):=by
 unfold aO at h
 cases hb_4:(t50:Bool) with
 | true =>
  replace h:=aa hb_4 h
  refine Ct<|Sq<|Ro<|Rc 2 [vi k5,vi (IntKind.wrap .i64 (1 - k5))] ?_
  obtain ⟨z_4,hz_4,h⟩:=ah h
  refine Rt (some 53) (.iaddrA 2 12) [] none [.ptr [3] 0 0,.i (IntKind.wrap .i64 (1 - k5))] (.ptr [3] 0 (0+((IntKind.wrap .i64 (1 - k5))).toNat*12+0)) [] (gX (l:=ops3.l) hz_4 rfl)<|Rt (some 54) (.load (some 12)) [] none [.ptr [3] 0 (0+((IntKind.wrap .i64 (1 - k5))).toNat*12+0)] (.d (Operand.d z_4)) [] (qd (f:=fun a=>(Operand.d a).cells) (z:=12) (l:=ops3.l) (y:=z_4) (xs:=(Operand.d z_4).cells) hz_4 (fun _=>rfl) (by kernel_rfl) (by kernel_rfl) (by kernel_rfl))<|Rc 2 [⟨.ptr [7] 0 0,[([7],some (.cells [.i 0,.i 0,.i 0,.i 0,.i 0,.i 0,.i 0,.i 0,.b false,.i 0,.i 0,.b false] 0))]⟩,⟨.tup [],[([7],some (.cells [.i z_4.Kind,.i z_4.N,.i z_4.RM,.i z_4.V.N,.i z_4.V.From,.i z_4.V.Which,.i z_4.V.Type_,.i z_4.V.Wants,.b z_4.V.Known,.i z_4.Type_,.i z_4.Over,.b z_4.Short] 0))]⟩]<|Rk<|Sq<|Ro<|Rc 4 [vp [7] 0 0,vi z_4.Kind,vb (z_4.Kind != 1),vb (z_4.Kind != 1)] ?_
  cases hb_5:((z_4.Kind != 1):Bool) with
  | true =>
   replace h:=aa hb_5 h
   refine Rc 5 [vp [7] 0 0,vi z_4.Kind,vb (z_4.Kind != 2),vb (z_4.Kind != 2),vb (z_4.Kind != 2)] ?_
   cases hb_6:((z_4.Kind != 2):Bool) with
   | true =>
    replace h:=aa hb_6 h
    refine Rc 5 [vp [7] 0 0,vi z_4.Kind,vb (z_4.Kind != 3),vb (z_4.Kind != 3),vb (z_4.Kind != 3)] ?_
    cases hb_7:((z_4.Kind != 3):Bool) with
    | true =>
     replace h:=aa hb_7 h
     refine Rc 10 [vn,vn,vn,vn,vn,vn,vn,vn,vn,vb true]<|Rk<|Ct<|Sq<|Ro<|Rc 1 [vb false]<|Rk<|Runs.ret<|aj<|ae ?_
     obtain rfl:=sj h
     exact ⟨nofun,rfl,(by kernel_rfl)⟩
    | false =>
     replace h:=ab hb_7 h
     refine Rc 2 [vp [2] 0 2,vi r2.B] ?_
     obtain ⟨r_1,hr_1,h⟩:=ah h
     have hc_1:=dM r2.B r_1 hr_1
     refine Rt (some 71) (.callf 59) [] none [.i r2.B] (.i r_1) [] (cc hc_1)<|Rc 2 [vb (r_1==0),vb (r_1==0)] ?_
     cases hb_8:((r_1==0):Bool) with
     | true =>
      replace h:=aa hb_8 h
      refine Rc 5 [vp [2] 0 2,vi r2.B,vb (r2.B==15),vb (r2.B==15),vb (r2.B==15)]<|Rk ?_
      cases hb_9:((r2.B==15):Bool) with
      | true =>
       replace h:=aa hb_9 h
       refine Ct<|Sq<|Ro<|Rc 1 [vb false]<|Rk<|Runs.ret<|aj<|ae ?_
       obtain rfl:=sj h
       exact ⟨nofun,rfl,(by kernel_rfl)⟩
      | false =>
       replace h:=ab hb_9 h
       refine Cf<|Runs.skip<|az<|ai<|Ro<|Rc 2 [vi (IntKind.wrap .i64 (t13+1)),vi (IntKind.wrap .i64 (t13+1))]<|Rd ?_
       obtain rfl:=sj h
       exact ⟨rfl,(),Cz⟩
     | false =>
      replace h:=ab hb_8 h
      refine Rc 5 [vn,vn,vn,vb false,vb false]<|Rk<|Cf<|Runs.skip<|az<|ai<|Ro<|Rc 2 [vi (IntKind.wrap .i64 (t13+1)),vi (IntKind.wrap .i64 (t13+1))]<|Rd ?_
      obtain rfl:=sj h
      exact ⟨rfl,(),Cz⟩
   | false =>
    replace h:=ab hb_6 h
    refine Rc 7 [vn,vn,vn,vb false,vb false,vp [2] 0 2,vi r2.B] ?_
    obtain ⟨r_2,hr_2,h⟩:=ah h
    have hc_2:=dM r2.B r_2 hr_2
    refine Rt (some 71) (.callf 59) [] none [.i r2.B] (.i r_2) [] (cc hc_2)<|Rc 2 [vb (r_2==0),vb (r_2==0)] ?_
    cases hb_10:((r_2==0):Bool) with
    | true =>
     replace h:=aa hb_10 h
     refine Rc 5 [vp [2] 0 2,vi r2.B,vb (r2.B==15),vb (r2.B==15),vb (r2.B==15)]<|Rk ?_
     cases hb_11:((r2.B==15):Bool) with
     | true =>
      replace h:=aa hb_11 h
      refine Ct<|Sq<|Ro<|Rc 1 [vb false]<|Rk<|Runs.ret<|aj<|ae ?_
      obtain rfl:=sj h
      exact ⟨nofun,rfl,(by kernel_rfl)⟩
     | false =>
      replace h:=ab hb_11 h
      refine Cf<|Runs.skip<|az<|ai<|Ro<|Rc 2 [vi (IntKind.wrap .i64 (t13+1)),vi (IntKind.wrap .i64 (t13+1))]<|Rd ?_
      obtain rfl:=sj h
      exact ⟨rfl,(),Cz⟩
    | false =>
     replace h:=ab hb_10 h
     refine Rc 5 [vn,vn,vn,vb false,vb false]<|Rk<|Cf<|Runs.skip<|az<|ai<|Ro<|Rc 2 [vi (IntKind.wrap .i64 (t13+1)),vi (IntKind.wrap .i64 (t13+1))]<|Rd ?_
     obtain rfl:=sj h
     exact ⟨rfl,(),Cz⟩
  | false =>
   replace h:=ab hb_5 h
   refine Rc 12 [vn,vn,vn,vb false,vb false,vn,vn,vn,vb false,vb false,vp [2] 0 2,vi r2.B] ?_
   obtain ⟨r_3,hr_3,h⟩:=ah h
   have hc_3:=dM r2.B r_3 hr_3
   refine Rt (some 71) (.callf 59) [] none [.i r2.B] (.i r_3) [] (cc hc_3)<|Rc 2 [vb (r_3==0),vb (r_3==0)] ?_
   cases hb_12:((r_3==0):Bool) with
   | true =>
    replace h:=aa hb_12 h
    refine Rc 5 [vp [2] 0 2,vi r2.B,vb (r2.B==15),vb (r2.B==15),vb (r2.B==15)]<|Rk ?_
    cases hb_13:((r2.B==15):Bool) with
    | true =>
     replace h:=aa hb_13 h
     refine Ct<|Sq<|Ro<|Rc 1 [vb false]<|Rk<|Runs.ret<|aj<|ae ?_
     obtain rfl:=sj h
     exact ⟨nofun,rfl,(by kernel_rfl)⟩
    | false =>
     replace h:=ab hb_13 h
     refine Cf<|Runs.skip<|az<|ai<|Ro<|Rc 2 [vi (IntKind.wrap .i64 (t13+1)),vi (IntKind.wrap .i64 (t13+1))]<|Rd ?_
     obtain rfl:=sj h
     exact ⟨rfl,(),Cz⟩
   | false =>
    replace h:=ab hb_12 h
    refine Rc 5 [vn,vn,vn,vb false,vb false]<|Rk<|Cf<|Runs.skip<|az<|ai<|Ro<|Rc 2 [vi (IntKind.wrap .i64 (t13+1)),vi (IntKind.wrap .i64 (t13+1))]<|Rd ?_
    obtain rfl:=sj h
    exact ⟨rfl,(),Cz⟩
 | false =>
  replace h:=ab hb_4 h
  refine Cf<|Runs.skip<|az<|ai<|Ro<|Rc 2 [vi (IntKind.wrap .i64 (t13+1)),vi (IntKind.wrap .i64 (t13+1))]<|Rd ?_
  obtain rfl:=sj h
  exact ⟨rfl,(),Cz⟩
theorem oo (r_:Row) (ops_:(A2 Operand)) (r2:Row) (ops3:(A2 Operand)) (t12:(A2 Int)) (t13:Int) (r:(Lp Int (Bool ⊕ Unit))) (h:cI r2 ops3 t12 t13=some r):Runs L CG (gw r2 ops3 t12 t13) (LQ [] [2,3,12,13] [[2],[3]] (fun (x:Int) (g:Unit)=>gw r2 ops3 t12 x) (iT r_ ops_ r2 ops3 t12) r):=by
 unfold cI at h
 refine Sq<|Ro<|Rc 1 [vb (decide (t13<2))]<|Rk<|Sq ?_
 cases hb_1:((decide (t13<2)):Bool) with
 | true =>
  replace h:=aa hb_1 h
  refine Ct<|Runs.skip<|ai<|Sq<|Runs.block<|Sq<|Ro<|Rc 1 [vi t13] ?_
  obtain ⟨z_1,hz_1,h⟩:=ah h
  refine Rt (some 16) (.indexA 2 1 none) [] none [.d (.agg [.int .i64 t12.a0,.int .i64 t12.a1]),.i t13] (.i z_1) [] (s7 (e:=(D.int .i64)) (l:=t12.l) hz_1 rfl)<|Rc 2 [vi t13,vi z_1]<|Rk<|Sq<|Ro<|Rc 3 [vi z_1,vb (z_1==1),vb (z_1==1)] ?_
  cases hb_2:((z_1==1):Bool) with
  | true =>
   replace h:=aa hb_2 h
   refine Rc 19 [vn,vn,vb true,vb true,vn,vn,vn,vn,vn,vn,vn,vn,vn,vn,vn,vn,vb true,vb true,vi t13] ?_
   obtain ⟨z_2,hz_2,h⟩:=ah h
   refine Rt (some 39) (.iaddrA 2 12) [] none [.ptr [3] 0 0,.i t13] (.ptr [3] 0 (0+(t13).toNat*12+0)) [] (gX (l:=ops3.l) hz_2 rfl)<|Rc 1 [⟨.ptr [3] 0 (0+(t13).toNat*12+0),[]⟩]<|Rt (some 41) (.load none) [] none [.ptr [3] 0 (0+(t13).toNat*12+0)] (.i z_2.Kind) [] (je (f:=fun a=>(Operand.d a).cells) (z:=12) (l:=ops3.l) (y:=z_2) (x:=.int .i64 z_2.Kind) hz_2 (fun _=>rfl) (by kernel_rfl) (by kernel_rfl) (by kernel_rfl))<|Rc 3 [vb (z_2.Kind==5),vb (z_2.Kind==5),vb (z_2.Kind==5)] ?_
   cases hb_3:((z_2.Kind==5):Bool) with
   | true =>
    replace h:=aa hb_3 h
    refine Rc 1 [vi t13] ?_
    obtain ⟨z_3,hz_3,h⟩:=ah h
    refine Rt (some 46) (.iaddrA 2 12) [] none [.ptr [3] 0 0,.i t13] (.ptr [3] 0 (0+(t13).toNat*12+0)) [] (gX (l:=ops3.l) hz_3 rfl)<|Rc 1 [⟨.ptr [3] 0 (0+(t13).toNat*12+9),[]⟩]<|Rt (some 48) (.load none) [] none [.ptr [3] 0 (0+(t13).toNat*12+9)] (.i z_3.Type_) [] (je (f:=fun a=>(Operand.d a).cells) (z:=12) (l:=ops3.l) (y:=z_3) (x:=.int .i64 z_3.Type_) hz_3 (fun _=>rfl) (by kernel_rfl) (by kernel_rfl) (by kernel_rfl))<|Rc 2 [vb (z_3.Type_==0),vb (z_3.Type_==0)]<|Rk<|Runs.canon (bG r2 ops3 t13 t12 t13 (z_3.Type_==0)) Cz ?_
    exact bf r_ ops_ r2 ops3 t13 t12 t13 (z_3.Type_==0) r h
   | false =>
    replace h:=ab hb_3 h
    refine Rc 6 [vn,vn,vn,vn,vn,vb false]<|Rk<|Runs.canon (bG r2 ops3 t13 t12 t13 false) Cz ?_
    exact bf r_ ops_ r2 ops3 t13 t12 t13 false r h
  | false =>
   replace h:=ab hb_2 h
   refine Rc 4 [vi z_1,vb (z_1==2),vb (z_1==2),vb (z_1==2)] ?_
   cases hb_14:((z_1==2):Bool) with
   | true =>
    replace h:=aa hb_14 h
    refine Rc 15 [vn,vn,vn,vn,vn,vn,vn,vn,vn,vn,vn,vn,vb true,vb true,vi t13] ?_
    obtain ⟨z_5,hz_5,h⟩:=ah h
    refine Rt (some 39) (.iaddrA 2 12) [] none [.ptr [3] 0 0,.i t13] (.ptr [3] 0 (0+(t13).toNat*12+0)) [] (gX (l:=ops3.l) hz_5 rfl)<|Rc 1 [⟨.ptr [3] 0 (0+(t13).toNat*12+0),[]⟩]<|Rt (some 41) (.load none) [] none [.ptr [3] 0 (0+(t13).toNat*12+0)] (.i z_5.Kind) [] (je (f:=fun a=>(Operand.d a).cells) (z:=12) (l:=ops3.l) (y:=z_5) (x:=.int .i64 z_5.Kind) hz_5 (fun _=>rfl) (by kernel_rfl) (by kernel_rfl) (by kernel_rfl))<|Rc 3 [vb (z_5.Kind==5),vb (z_5.Kind==5),vb (z_5.Kind==5)] ?_
    cases hb_15:((z_5.Kind==5):Bool) with
    | true =>
     replace h:=aa hb_15 h
     refine Rc 1 [vi t13] ?_
     obtain ⟨z_6,hz_6,h⟩:=ah h
     refine Rt (some 46) (.iaddrA 2 12) [] none [.ptr [3] 0 0,.i t13] (.ptr [3] 0 (0+(t13).toNat*12+0)) [] (gX (l:=ops3.l) hz_6 rfl)<|Rc 1 [⟨.ptr [3] 0 (0+(t13).toNat*12+9),[]⟩]<|Rt (some 48) (.load none) [] none [.ptr [3] 0 (0+(t13).toNat*12+9)] (.i z_6.Type_) [] (je (f:=fun a=>(Operand.d a).cells) (z:=12) (l:=ops3.l) (y:=z_6) (x:=.int .i64 z_6.Type_) hz_6 (fun _=>rfl) (by kernel_rfl) (by kernel_rfl) (by kernel_rfl))<|Rc 2 [vb (z_6.Type_==0),vb (z_6.Type_==0)]<|Rk<|Runs.canon (bG r2 ops3 t13 t12 t13 (z_6.Type_==0)) Cz ?_
     exact bf r_ ops_ r2 ops3 t13 t12 t13 (z_6.Type_==0) r h
    | false =>
     replace h:=ab hb_15 h
     refine Rc 6 [vn,vn,vn,vn,vn,vb false]<|Rk<|Runs.canon (bG r2 ops3 t13 t12 t13 false) Cz ?_
     exact bf r_ ops_ r2 ops3 t13 t12 t13 false r h
   | false =>
    replace h:=ab hb_14 h
    refine Rc 3 [vi z_1,vb (z_1==19),vb (z_1==19)] ?_
    cases hb_16:((z_1==19):Bool) with
    | true =>
     replace h:=aa hb_16 h
     refine Rc 5 [vp [2] 0 0,vi r2.Name,vb (r2.Name != 58),vb (r2.Name != 58),vb (r2.Name != 58)] ?_
     cases hb_17:((r2.Name != 58):Bool) with
     | true =>
      replace h:=aa hb_17 h
      refine Rc 6 [vp [2] 0 0,vi r2.Name,vb (r2.Name != 59),vb (r2.Name != 59),vb (r2.Name != 59),vb (r2.Name != 59)] ?_
      cases hb_18:((r2.Name != 59):Bool) with
      | true =>
       replace h:=aa hb_18 h
       refine Rc 1 [vi t13] ?_
       obtain ⟨z_7,hz_7,h⟩:=ah h
       refine Rt (some 39) (.iaddrA 2 12) [] none [.ptr [3] 0 0,.i t13] (.ptr [3] 0 (0+(t13).toNat*12+0)) [] (gX (l:=ops3.l) hz_7 rfl)<|Rc 1 [⟨.ptr [3] 0 (0+(t13).toNat*12+0),[]⟩]<|Rt (some 41) (.load none) [] none [.ptr [3] 0 (0+(t13).toNat*12+0)] (.i z_7.Kind) [] (je (f:=fun a=>(Operand.d a).cells) (z:=12) (l:=ops3.l) (y:=z_7) (x:=.int .i64 z_7.Kind) hz_7 (fun _=>rfl) (by kernel_rfl) (by kernel_rfl) (by kernel_rfl))<|Rc 3 [vb (z_7.Kind==5),vb (z_7.Kind==5),vb (z_7.Kind==5)] ?_
       cases hb_19:((z_7.Kind==5):Bool) with
       | true =>
        replace h:=aa hb_19 h
        refine Rc 1 [vi t13] ?_
        obtain ⟨z_8,hz_8,h⟩:=ah h
        refine Rt (some 46) (.iaddrA 2 12) [] none [.ptr [3] 0 0,.i t13] (.ptr [3] 0 (0+(t13).toNat*12+0)) [] (gX (l:=ops3.l) hz_8 rfl)<|Rc 1 [⟨.ptr [3] 0 (0+(t13).toNat*12+9),[]⟩]<|Rt (some 48) (.load none) [] none [.ptr [3] 0 (0+(t13).toNat*12+9)] (.i z_8.Type_) [] (je (f:=fun a=>(Operand.d a).cells) (z:=12) (l:=ops3.l) (y:=z_8) (x:=.int .i64 z_8.Type_) hz_8 (fun _=>rfl) (by kernel_rfl) (by kernel_rfl) (by kernel_rfl))<|Rc 2 [vb (z_8.Type_==0),vb (z_8.Type_==0)]<|Rk<|Runs.canon (bG r2 ops3 t13 t12 t13 (z_8.Type_==0)) Cz ?_
        exact bf r_ ops_ r2 ops3 t13 t12 t13 (z_8.Type_==0) r h
       | false =>
        replace h:=ab hb_19 h
        refine Rc 6 [vn,vn,vn,vn,vn,vb false]<|Rk<|Runs.canon (bG r2 ops3 t13 t12 t13 false) Cz ?_
        exact bf r_ ops_ r2 ops3 t13 t12 t13 false r h
      | false =>
       replace h:=ab hb_18 h
       refine Rc 13 [vn,vn,vn,vn,vn,vb false,vb false,vn,vn,vn,vn,vn,vb false]<|Rk<|Runs.canon (bG r2 ops3 t13 t12 t13 false) Cz ?_
       exact bf r_ ops_ r2 ops3 t13 t12 t13 false r h
     | false =>
      replace h:=ab hb_17 h
      refine Rc 19 [vn,vn,vn,vb false,vb false,vb false,vn,vn,vn,vn,vn,vb false,vb false,vn,vn,vn,vn,vn,vb false]<|Rk<|Runs.canon (bG r2 ops3 t13 t12 t13 false) Cz ?_
      exact bf r_ ops_ r2 ops3 t13 t12 t13 false r h
    | false =>
     replace h:=ab hb_16 h
     refine Rc 24 [vn,vn,vn,vb false,vb false,vn,vn,vn,vb false,vb false,vb false,vn,vn,vn,vn,vn,vb false,vb false,vn,vn,vn,vn,vn,vb false]<|Rk<|Runs.canon (bG r2 ops3 t13 t12 t13 false) Cz ?_
     exact bf r_ ops_ r2 ops3 t13 t12 t13 false r h
 | false =>
  replace h:=ab hb_1 h
  refine Cf<|Runs.exit<|bz ?_
  obtain rfl:=sj h
  exact ⟨nofun,rfl,(),Cz⟩
theorem rm (r_:Row) (ops_:(A2 Operand)) (r:Bool) (h:d7 r_ ops_=some r):Runs L F23.body ⟨a9 [.d (Row.d r_),.d (.agg [.int .i64 ops_.a0.Kind,.int .i64 ops_.a0.N,.int .i64 ops_.a0.RM,.int .i64 ops_.a0.V.N,.int .i64 ops_.a0.V.From,.int .i64 ops_.a0.V.Which,.int .i64 ops_.a0.V.Type_,.int .i64 ops_.a0.V.Wants,.bool ops_.a0.V.Known,.int .i64 ops_.a0.Type_,.int .i64 ops_.a0.Over,.bool ops_.a0.Short,.int .i64 ops_.a1.Kind,.int .i64 ops_.a1.N,.int .i64 ops_.a1.RM,.int .i64 ops_.a1.V.N,.int .i64 ops_.a1.V.From,.int .i64 ops_.a1.V.Which,.int .i64 ops_.a1.V.Type_,.int .i64 ops_.a1.V.Wants,.bool ops_.a1.V.Known,.int .i64 ops_.a1.Type_,.int .i64 ops_.a1.Over,.bool ops_.a1.Short])] 0,ay (fun _=>none) []⟩ (tQ r_ ops_ r):=by
 unfold d7 at h
 refine Sq<|Ro<|Rc 3 [⟨.ptr [2] 0 0,[([2],some (.cells [.i r_.Name,.i r_.A,.i r_.B,.b r_.Mod] 0))]⟩,⟨.ptr [3] 0 0,[([3],some (.cells [.i ops_.a0.Kind,.i ops_.a0.N,.i ops_.a0.RM,.i ops_.a0.V.N,.i ops_.a0.V.From,.i ops_.a0.V.Which,.i ops_.a0.V.Type_,.i ops_.a0.V.Wants,.b ops_.a0.V.Known,.i ops_.a0.Type_,.i ops_.a0.Over,.b ops_.a0.Short,.i ops_.a1.Kind,.i ops_.a1.N,.i ops_.a1.RM,.i ops_.a1.V.N,.i ops_.a1.V.From,.i ops_.a1.V.Which,.i ops_.a1.V.Type_,.i ops_.a1.V.Wants,.b ops_.a1.V.Known,.i ops_.a1.Type_,.i ops_.a1.Over,.b ops_.a1.Short] 0))]⟩,vb false]<|Rk<|Sq<|Sq<|Ro<|Rc 6 [vp [2] 0 1,vi r_.A,vp [2] 0 2,vi r_.B,⟨.d (.agg [.int .i64 r_.A,.int .i64 r_.B]),[]⟩,vi 0]<|Rk<|Runs.block ?_
 obtain ⟨e_1,he_1,h⟩:=ah h
 refine Runs.loop (fun x:Int=>cI r_ ops_ ({ a0:=r_.A,a1:=r_.B }:(A2 Int)) x) (fun (x:Int) (g:Unit)=>gw r_ ops_ ({ a0:=r_.A,a1:=r_.B }:(A2 Int)) x) (iT r_ ops_ r_ ops_ ({ a0:=r_.A,a1:=r_.B }:(A2 Int))) (fun x g r hr=>oo r_ ops_ r_ ops_ ({ a0:=r_.A,a1:=r_.B }:(A2 Int)) x  r hr) () he_1 Cz ?_
 rintro ⟨o,s⟩ hp
 cases e_1 with
 | inl e_2 =>
  obtain ⟨ho,hf⟩:=hp
  have ho':o=.ret:=ho
  subst ho'
  refine aj<|ae ?_
  obtain rfl:=sj h
  exact ⟨Out.ret_ne,hf⟩
 | inr e_3 =>
  obtain ⟨ho,g_1,hk_1⟩:=hp
  have ho':o=.exit 0:=ho
  subst ho'
  refine cN<|ai<|Runs.canon _ hk_1<|Sq<|Ro<|Rc 1 [vb true]<|Rk<|Runs.ret ?_
  cases h
  exact Fq
theorem tR (r_:Row) (ops_:(A2 Operand)) (r:Bool) (h:d7 r_ ops_=some r):L 23 [.d (Row.d r_),.d (.agg [.int .i64 ops_.a0.Kind,.int .i64 ops_.a0.N,.int .i64 ops_.a0.RM,.int .i64 ops_.a0.V.N,.int .i64 ops_.a0.V.From,.int .i64 ops_.a0.V.Which,.int .i64 ops_.a0.V.Type_,.int .i64 ops_.a0.V.Wants,.bool ops_.a0.V.Known,.int .i64 ops_.a0.Type_,.int .i64 ops_.a0.Over,.bool ops_.a0.Short,.int .i64 ops_.a1.Kind,.int .i64 ops_.a1.N,.int .i64 ops_.a1.RM,.int .i64 ops_.a1.V.N,.int .i64 ops_.a1.V.From,.int .i64 ops_.a1.V.Which,.int .i64 ops_.a1.V.Type_,.int .i64 ops_.a1.V.Wants,.bool ops_.a1.V.Known,.int .i64 ops_.a1.Type_,.int .i64 ops_.a1.Over,.bool ops_.a1.Short])]=some (.b r,[.d (Row.d r_),.d (.agg [.int .i64 ops_.a0.Kind,.int .i64 ops_.a0.N,.int .i64 ops_.a0.RM,.int .i64 ops_.a0.V.N,.int .i64 ops_.a0.V.From,.int .i64 ops_.a0.V.Which,.int .i64 ops_.a0.V.Type_,.int .i64 ops_.a0.V.Wants,.bool ops_.a0.V.Known,.int .i64 ops_.a0.Type_,.int .i64 ops_.a0.Over,.bool ops_.a0.Short,.int .i64 ops_.a1.Kind,.int .i64 ops_.a1.N,.int .i64 ops_.a1.RM,.int .i64 ops_.a1.V.N,.int .i64 ops_.a1.V.From,.int .i64 ops_.a1.V.Which,.int .i64 ops_.a1.V.Type_,.int .i64 ops_.a1.V.Wants,.bool ops_.a1.V.Known,.int .i64 ops_.a1.Type_,.int .i64 ops_.a1.Over,.bool ops_.a1.Short])]):=by
 obtain ⟨p,⟨hne,hf⟩,hr⟩:=rm r_ ops_ r h
 obtain ⟨k,hk⟩:=aD (F:=F23) (args:=[.d (Row.d r_),.d (.agg [.int .i64 ops_.a0.Kind,.int .i64 ops_.a0.N,.int .i64 ops_.a0.RM,.int .i64 ops_.a0.V.N,.int .i64 ops_.a0.V.From,.int .i64 ops_.a0.V.Which,.int .i64 ops_.a0.V.Type_,.int .i64 ops_.a0.V.Wants,.bool ops_.a0.V.Known,.int .i64 ops_.a0.Type_,.int .i64 ops_.a0.Over,.bool ops_.a0.Short,.int .i64 ops_.a1.Kind,.int .i64 ops_.a1.N,.int .i64 ops_.a1.RM,.int .i64 ops_.a1.V.N,.int .i64 ops_.a1.V.From,.int .i64 ops_.a1.V.Which,.int .i64 ops_.a1.V.Type_,.int .i64 ops_.a1.V.Wants,.bool ops_.a1.V.Known,.int .i64 ops_.a1.Type_,.int .i64 ops_.a1.Over,.bool ops_.a1.Short])]) (ap:=[.d (Row.d r_),.d (.agg [.int .i64 ops_.a0.Kind,.int .i64 ops_.a0.N,.int .i64 ops_.a0.RM,.int .i64 ops_.a0.V.N,.int .i64 ops_.a0.V.From,.int .i64 ops_.a0.V.Which,.int .i64 ops_.a0.V.Type_,.int .i64 ops_.a0.V.Wants,.bool ops_.a0.V.Known,.int .i64 ops_.a0.Type_,.int .i64 ops_.a0.Over,.bool ops_.a0.Short,.int .i64 ops_.a1.Kind,.int .i64 ops_.a1.N,.int .i64 ops_.a1.RM,.int .i64 ops_.a1.V.N,.int .i64 ops_.a1.V.From,.int .i64 ops_.a1.V.Which,.int .i64 ops_.a1.V.Type_,.int .i64 ops_.a1.V.Wants,.bool ops_.a1.V.Known,.int .i64 ops_.a1.Type_,.int .i64 ops_.a1.Over,.bool ops_.a1.Short])]) (bx0:=ay (fun _=>none) []) rfl rfl (by kernel_rfl) ⟨p,⟨hne,hf⟩,hr⟩
 exact aA (k:=k) rfl hk
def tS (op_:Int) (r:Bool) (p:Out × St):Prop:=(∀ i,p.1≠.exit i)∧aV F70 [.i op_] p.2=some (.b r,[.i op_])
theorem rn (op_:Int) (r:Bool) (h:gk op_=some r):Runs L F70.body ⟨a9 [.i op_] 0,ay (fun _=>none) []⟩ (tS op_ r):=by
 unfold gk at h
 refine Sq<|Ro<|Rc 1 [vb false]<|Rk<|Sq<|Ro<|Rc 3 [vi op_,vb (op_==1),vb (op_==1)] ?_
 cases hb_1:((op_==1):Bool) with
 | true =>
  replace h:=aa hb_1 h
  refine Rc 12 [vn,vn,vb true,vb true,vn,vn,vb true,vb true,vn,vn,vb true,vb true]<|Rk<|Runs.ret ?_
  cases h
  exact Fq
 | false =>
  replace h:=ab hb_1 h
  refine Rc 4 [vi op_,vb (op_==2),vb (op_==2),vb (op_==2)] ?_
  cases hb_2:((op_==2):Bool) with
  | true =>
   replace h:=aa hb_2 h
   refine Rc 8 [vn,vn,vb true,vb true,vn,vn,vb true,vb true]<|Rk<|Runs.ret ?_
   cases h
   exact Fq
  | false =>
   replace h:=ab hb_2 h
   refine Rc 4 [vi op_,vb (op_==19),vb (op_==19),vb (op_==19)] ?_
   cases hb_3:((op_==19):Bool) with
   | true =>
    replace h:=aa hb_3 h
    refine Rc 4 [vn,vn,vb true,vb true]<|Rk<|Runs.ret ?_
    cases h
    exact Fq
   | false =>
    replace h:=ab hb_3 h
    refine Rc 4 [vi op_,vb (op_==20),vb (op_==20),vb (op_==20)]<|Rk<|Runs.ret ?_
    cases h
    exact Fq
theorem tT (op_:Int) (r:Bool) (h:gk op_=some r):L 70 [.i op_]=some (.b r,[.i op_]):=by
 obtain ⟨p,⟨hne,hf⟩,hr⟩:=rn op_ r h
 obtain ⟨k,hk⟩:=aD (F:=F70) (args:=[.i op_]) (ap:=[.i op_]) (bx0:=ay (fun _=>none) []) rfl rfl (by kernel_rfl) ⟨p,⟨hne,hf⟩,hr⟩
 exact aA (k:=k) rfl hk
def tU (mod_:Int) (rm_:Int) (r:Int) (p:Out × St):Prop:=(∀ i,p.1≠.exit i)∧aV F30 [.i mod_,.i rm_] p.2=some (.i r,[.i mod_,.i rm_])
theorem ro (mod_:Int) (rm_:Int) (r:Int) (h:cm mod_ rm_=some r):Runs L F30.body ⟨a9 [.i mod_,.i rm_] 0,ay (fun _=>none) []⟩ (tU mod_ rm_ r):=by
 unfold cm at h
 refine Sq<|Ro<|Rc 1 [vi 0]<|Rk<|Sq<|Runs.block<|Sq<|Ro<|Rc 3 [vi mod_,vb (mod_==1),vb (mod_==1)]<|Rk ?_
 cases hb_1:((mod_==1):Bool) with
 | true =>
  replace h:=aa hb_1 h
  refine Ct<|Sq<|Ro<|Rc 1 [vi 1]<|Rk<|Runs.ret<|aj<|ae ?_
  cases h
  exact Fq
 | false =>
  replace h:=ab hb_1 h
  refine Cf<|Sq<|Sq<|Ro<|Rc 3 [vi mod_,vb (mod_==2),vb (mod_==2)]<|Rk ?_
  cases hb_2:((mod_==2):Bool) with
  | true =>
   replace h:=aa hb_2 h
   refine Ct<|Runs.skip<|ai<|Ct<|Sq<|Ro<|Rc 1 [vi 2]<|Rk<|Runs.ret<|aj<|ae ?_
   cases h
   exact Fq
  | false =>
   replace h:=ab hb_2 h
   refine Cf<|Ro<|Rc 3 [vi mod_,vb (mod_==0),vb (mod_==0)] ?_
   cases hb_3:((mod_==0):Bool) with
   | true =>
    replace h:=aa hb_3 h
    refine Rc 4 [vi rm_,vb (rm_==6),vb (rm_==6),vb (rm_==6)]<|Rk ?_
    cases hb_4:((rm_==6):Bool) with
    | true =>
     replace h:=aa hb_4 h
     refine Ct<|Sq<|Ro<|Rc 1 [vi 2]<|Rk<|Runs.ret<|aj<|ae ?_
     cases h
     exact Fq
    | false =>
     replace h:=ab hb_4 h
     refine Cf<|Runs.skip<|az<|ai<|Sq<|Ro<|Rc 1 [vi 0]<|Rk<|Runs.ret ?_
     cases h
     exact Fq
   | false =>
    replace h:=ab hb_3 h
    refine Rc 4 [vn,vn,vb false,vb false]<|Rk<|Cf<|Runs.skip<|az<|ai<|Sq<|Ro<|Rc 1 [vi 0]<|Rk<|Runs.ret ?_
    cases h
    exact Fq
theorem dk (mod_:Int) (rm_:Int) (r:Int) (h:cm mod_ rm_=some r):L 30 [.i mod_,.i rm_]=some (.i r,[.i mod_,.i rm_]):=by
 obtain ⟨p,⟨hne,hf⟩,hr⟩:=ro mod_ rm_ r h
 obtain ⟨k,hk⟩:=aD (F:=F30) (args:=[.i mod_,.i rm_]) (ap:=[.i mod_,.i rm_]) (bx0:=ay (fun _=>none) []) rfl rfl (by kernel_rfl) ⟨p,⟨hne,hf⟩,hr⟩
 exact aA (k:=k) rfl hk
def fQ (c3:Choice) (o5:Operand) (b_6:Choice) (op1:Int) (t73:Bool):St:=⟨tab [(1,.i op1),(3,.ptr [3] 0 0),(5,.ptr [5] 0 0),(6,.ptr [6] 0 0),(73,.b t73)],be [([3],some (.cells [.b c3.I.Lock,.i c3.I.Rep,.i c3.I.Seg,.y c3.I.Op,.i c3.I.Mod,.i c3.I.Reg,.i c3.I.RM,.w c3.I.Disp,.w c3.I.Imm,.w c3.I.Sel,.i c3.Disp.N,.i c3.Disp.From,.i c3.Disp.Which,.i c3.Disp.Type_,.i c3.Disp.Wants,.b c3.Disp.Known,.i c3.Imm.N,.i c3.Imm.From,.i c3.Imm.Which,.i c3.Imm.Type_,.i c3.Imm.Wants,.b c3.Imm.Known,.b c3.HasD,.b c3.HasI,.b c3.Jumps] 0)),([5],some (.cells [.i o5.Kind,.i o5.N,.i o5.RM,.i o5.V.N,.i o5.V.From,.i o5.V.Which,.i o5.V.Type_,.i o5.V.Wants,.b o5.V.Known,.i o5.Type_,.i o5.Over,.b o5.Short] 0)),([6],some (.cells [.b b_6.I.Lock,.i b_6.I.Rep,.i b_6.I.Seg,.y b_6.I.Op,.i b_6.I.Mod,.i b_6.I.Reg,.i b_6.I.RM,.w b_6.I.Disp,.w b_6.I.Imm,.w b_6.I.Sel,.i b_6.Disp.N,.i b_6.Disp.From,.i b_6.Disp.Which,.i b_6.Disp.Type_,.i b_6.Disp.Wants,.b b_6.Disp.Known,.i b_6.Imm.N,.i b_6.Imm.From,.i b_6.Imm.Which,.i b_6.Imm.Type_,.i b_6.Imm.Wants,.b b_6.Imm.Known,.b b_6.HasD,.b b_6.HasI,.b b_6.Jumps] 0))]⟩
def gI (c3:Choice) (o5:Operand) (b_6:Choice) (known7:Bool):St:=⟨tab [(3,.ptr [3] 0 0),(5,.ptr [5] 0 0),(6,.ptr [6] 0 0),(7,.b known7)],be [([3],some (.cells [.b c3.I.Lock,.i c3.I.Rep,.i c3.I.Seg,.y c3.I.Op,.i c3.I.Mod,.i c3.I.Reg,.i c3.I.RM,.w c3.I.Disp,.w c3.I.Imm,.w c3.I.Sel,.i c3.Disp.N,.i c3.Disp.From,.i c3.Disp.Which,.i c3.Disp.Type_,.i c3.Disp.Wants,.b c3.Disp.Known,.i c3.Imm.N,.i c3.Imm.From,.i c3.Imm.Which,.i c3.Imm.Type_,.i c3.Imm.Wants,.b c3.Imm.Known,.b c3.HasD,.b c3.HasI,.b c3.Jumps] 0)),([5],some (.cells [.i o5.Kind,.i o5.N,.i o5.RM,.i o5.V.N,.i o5.V.From,.i o5.V.Which,.i o5.V.Type_,.i o5.V.Wants,.b o5.V.Known,.i o5.Type_,.i o5.Over,.b o5.Short] 0)),([6],some (.cells [.b b_6.I.Lock,.i b_6.I.Rep,.i b_6.I.Seg,.y b_6.I.Op,.i b_6.I.Mod,.i b_6.I.Reg,.i b_6.I.RM,.w b_6.I.Disp,.w b_6.I.Imm,.w b_6.I.Sel,.i b_6.Disp.N,.i b_6.Disp.From,.i b_6.Disp.Which,.i b_6.Disp.Type_,.i b_6.Disp.Wants,.b b_6.Disp.Known,.i b_6.Imm.N,.i b_6.Imm.From,.i b_6.Imm.Which,.i b_6.Imm.Type_,.i b_6.Imm.Wants,.b b_6.Imm.Known,.b b_6.HasD,.b b_6.HasI,.b b_6.Jumps] 0))]⟩
def eX (c3:Choice) (o5:Operand) (b_6:Choice) (known7:Bool) (t39:Bool):St:=⟨tab [(3,.ptr [3] 0 0),(5,.ptr [5] 0 0),(6,.ptr [6] 0 0),(7,.b known7),(39,.b t39)],be [([3],some (.cells [.b c3.I.Lock,.i c3.I.Rep,.i c3.I.Seg,.y c3.I.Op,.i c3.I.Mod,.i c3.I.Reg,.i c3.I.RM,.w c3.I.Disp,.w c3.I.Imm,.w c3.I.Sel,.i c3.Disp.N,.i c3.Disp.From,.i c3.Disp.Which,.i c3.Disp.Type_,.i c3.Disp.Wants,.b c3.Disp.Known,.i c3.Imm.N,.i c3.Imm.From,.i c3.Imm.Which,.i c3.Imm.Type_,.i c3.Imm.Wants,.b c3.Imm.Known,.b c3.HasD,.b c3.HasI,.b c3.Jumps] 0)),([5],some (.cells [.i o5.Kind,.i o5.N,.i o5.RM,.i o5.V.N,.i o5.V.From,.i o5.V.Which,.i o5.V.Type_,.i o5.V.Wants,.b o5.V.Known,.i o5.Type_,.i o5.Over,.b o5.Short] 0)),([6],some (.cells [.b b_6.I.Lock,.i b_6.I.Rep,.i b_6.I.Seg,.y b_6.I.Op,.i b_6.I.Mod,.i b_6.I.Reg,.i b_6.I.RM,.w b_6.I.Disp,.w b_6.I.Imm,.w b_6.I.Sel,.i b_6.Disp.N,.i b_6.Disp.From,.i b_6.Disp.Which,.i b_6.Disp.Type_,.i b_6.Disp.Wants,.b b_6.Disp.Known,.i b_6.Imm.N,.i b_6.Imm.From,.i b_6.Imm.Which,.i b_6.Imm.Type_,.i b_6.Imm.Wants,.b b_6.Imm.Known,.b b_6.HasD,.b b_6.HasI,.b b_6.Jumps] 0))]⟩
def gx (c_:Choice) (op_:Int) (o_:Operand) (r:Choice) (p:Out × St):Prop:=(∀ i,p.1≠.exit i)∧aV F61 [.d (Choice.d c_),.i op_,.d (Operand.d o_)] p.2=some (.d (Choice.d r),[.d (Choice.d c_),.i op_,.d (Operand.d o_)])
theorem fe (c_:Choice) (op_:Int) (o_:Operand) (c3:Choice) (o5:Operand) (b_6:Choice) (known7:Bool) (t39:Bool) (r:Choice) (h:cB c3 o5 b_6 known7 t39=some r):Runs L zL (eX c3 o5 b_6 known7 t39) (kB 1 (kS L zM (kB 0 (kS L tf (gx c_ op_ o_ r))))):=by
 unfold cB at h
 cases hb_9:(t39:Bool) with
 | true =>
  replace h:=aa hb_9 h
  refine Ct<|Ro<|Rc 3 [vp [3] 0 0,vp [3] 0 4,⟨.tup [],[([3],some (.cells [.b c3.I.Lock,.i c3.I.Rep,.i c3.I.Seg,.y c3.I.Op,.i 0,.i c3.I.Reg,.i c3.I.RM,.w c3.I.Disp,.w c3.I.Imm,.w c3.I.Sel,.i c3.Disp.N,.i c3.Disp.From,.i c3.Disp.Which,.i c3.Disp.Type_,.i c3.Disp.Wants,.b c3.Disp.Known,.i c3.Imm.N,.i c3.Imm.From,.i c3.Imm.Which,.i c3.Imm.Type_,.i c3.Imm.Wants,.b c3.Imm.Known,.b c3.HasD,.b c3.HasI,.b c3.Jumps] 0))]⟩]<|Rd<|az<|ai<|Ro<|Rc 6 [vp [3] 0 0,vp [3] 0 4,vi 0,vp [3] 0 0,vp [3] 0 6,vi c3.I.RM] ?_
  obtain ⟨r_4,hr_4,h⟩:=ah h
  have hc_4:=dk 0 c3.I.RM r_4 hr_4
  refine Rt (some 70) (.callf 30) [] none [.i 0,.i c3.I.RM] (.i r_4) [] (cc hc_4)<|Rc 3 [vb (r_4==2),vp [3] 0 22,⟨.tup [],[([3],some (.cells [.b c3.I.Lock,.i c3.I.Rep,.i c3.I.Seg,.y c3.I.Op,.i 0,.i c3.I.Reg,.i c3.I.RM,.w c3.I.Disp,.w c3.I.Imm,.w c3.I.Sel,.i c3.Disp.N,.i c3.Disp.From,.i c3.Disp.Which,.i c3.Disp.Type_,.i c3.Disp.Wants,.b c3.Disp.Known,.i c3.Imm.N,.i c3.Imm.From,.i c3.Imm.Which,.i c3.Imm.Type_,.i c3.Imm.Wants,.b c3.Imm.Known,.b (r_4==2),.b c3.HasI,.b c3.Jumps] 0))]⟩]<|Rd<|az<|ai<|Sq<|Ro<|Rc 2 [⟨.d (.agg [.bool c3.I.Lock,.int .i64 c3.I.Rep,.int .i64 c3.I.Seg,.int .u8 c3.I.Op,.int .i64 0,.int .i64 c3.I.Reg,.int .i64 c3.I.RM,.int .u16 c3.I.Disp,.int .u16 c3.I.Imm,.int .u16 c3.I.Sel,.int .i64 c3.Disp.N,.int .i64 c3.Disp.From,.int .i64 c3.Disp.Which,.int .i64 c3.Disp.Type_,.int .i64 c3.Disp.Wants,.bool c3.Disp.Known,.int .i64 c3.Imm.N,.int .i64 c3.Imm.From,.int .i64 c3.Imm.Which,.int .i64 c3.Imm.Type_,.int .i64 c3.Imm.Wants,.bool c3.Imm.Known,.bool (r_4==2),.bool c3.HasI,.bool c3.Jumps]),[]⟩,⟨.tup [],[([6],some (.cells [.b c3.I.Lock,.i c3.I.Rep,.i c3.I.Seg,.y c3.I.Op,.i 0,.i c3.I.Reg,.i c3.I.RM,.w c3.I.Disp,.w c3.I.Imm,.w c3.I.Sel,.i c3.Disp.N,.i c3.Disp.From,.i c3.Disp.Which,.i c3.Disp.Type_,.i c3.Disp.Wants,.b c3.Disp.Known,.i c3.Imm.N,.i c3.Imm.From,.i c3.Imm.Which,.i c3.Imm.Type_,.i c3.Imm.Wants,.b c3.Imm.Known,.b (r_4==2),.b c3.HasI,.b c3.Jumps] 0))]⟩] ?_
  refine Rk<|Runs.ret ?_
  cases h
  exact Fq
 | false =>
  replace h:=ab hb_9 h
  refine Cf<|Sq<|Ro<|Rc 2 [vb known7,vb known7] ?_
  cases hb_10:(known7:Bool) with
  | true =>
   replace h:=aa hb_10 h
   refine Rc 3 [vp [5] 0 3,vp [5] 0 3,vi o5.V.N] ?_
   obtain ⟨r_5,hr_5,h⟩:=ah h
   have hc_5:=lS o5.V.N r_5 hr_5
   refine Rt (some 60) (.callf 55) [] none [.i o5.V.N] (.b r_5) [] (cc hc_5)<|Rc 2 [vb r_5,vb r_5]<|Rk ?_
   cases hb_11:(r_5:Bool) with
   | true =>
    replace h:=aa hb_11 h
    refine Ct<|Ro<|Rc 3 [vp [3] 0 0,vp [3] 0 4,⟨.tup [],[([3],some (.cells [.b c3.I.Lock,.i c3.I.Rep,.i c3.I.Seg,.y c3.I.Op,.i 1,.i c3.I.Reg,.i c3.I.RM,.w c3.I.Disp,.w c3.I.Imm,.w c3.I.Sel,.i c3.Disp.N,.i c3.Disp.From,.i c3.Disp.Which,.i c3.Disp.Type_,.i c3.Disp.Wants,.b c3.Disp.Known,.i c3.Imm.N,.i c3.Imm.From,.i c3.Imm.Which,.i c3.Imm.Type_,.i c3.Imm.Wants,.b c3.Imm.Known,.b c3.HasD,.b c3.HasI,.b c3.Jumps] 0))]⟩]<|Rd<|az<|ai<|Ro<|Rc 6 [vp [3] 0 0,vp [3] 0 4,vi 1,vp [3] 0 0,vp [3] 0 6,vi c3.I.RM] ?_
    obtain ⟨r_6,hr_6,h⟩:=ah h
    have hc_6:=dk 1 c3.I.RM r_6 hr_6
    refine Rt (some 70) (.callf 30) [] none [.i 1,.i c3.I.RM] (.i r_6) [] (cc hc_6)<|Rc 3 [vb (r_6==2),vp [3] 0 22,⟨.tup [],[([3],some (.cells [.b c3.I.Lock,.i c3.I.Rep,.i c3.I.Seg,.y c3.I.Op,.i 1,.i c3.I.Reg,.i c3.I.RM,.w c3.I.Disp,.w c3.I.Imm,.w c3.I.Sel,.i c3.Disp.N,.i c3.Disp.From,.i c3.Disp.Which,.i c3.Disp.Type_,.i c3.Disp.Wants,.b c3.Disp.Known,.i c3.Imm.N,.i c3.Imm.From,.i c3.Imm.Which,.i c3.Imm.Type_,.i c3.Imm.Wants,.b c3.Imm.Known,.b (r_6==2),.b c3.HasI,.b c3.Jumps] 0))]⟩]<|Rd<|az<|ai<|Sq<|Ro<|Rc 2 [⟨.d (.agg [.bool c3.I.Lock,.int .i64 c3.I.Rep,.int .i64 c3.I.Seg,.int .u8 c3.I.Op,.int .i64 1,.int .i64 c3.I.Reg,.int .i64 c3.I.RM,.int .u16 c3.I.Disp,.int .u16 c3.I.Imm,.int .u16 c3.I.Sel,.int .i64 c3.Disp.N,.int .i64 c3.Disp.From,.int .i64 c3.Disp.Which,.int .i64 c3.Disp.Type_,.int .i64 c3.Disp.Wants,.bool c3.Disp.Known,.int .i64 c3.Imm.N,.int .i64 c3.Imm.From,.int .i64 c3.Imm.Which,.int .i64 c3.Imm.Type_,.int .i64 c3.Imm.Wants,.bool c3.Imm.Known,.bool (r_6==2),.bool c3.HasI,.bool c3.Jumps]),[]⟩,⟨.tup [],[([6],some (.cells [.b c3.I.Lock,.i c3.I.Rep,.i c3.I.Seg,.y c3.I.Op,.i 1,.i c3.I.Reg,.i c3.I.RM,.w c3.I.Disp,.w c3.I.Imm,.w c3.I.Sel,.i c3.Disp.N,.i c3.Disp.From,.i c3.Disp.Which,.i c3.Disp.Type_,.i c3.Disp.Wants,.b c3.Disp.Known,.i c3.Imm.N,.i c3.Imm.From,.i c3.Imm.Which,.i c3.Imm.Type_,.i c3.Imm.Wants,.b c3.Imm.Known,.b (r_6==2),.b c3.HasI,.b c3.Jumps] 0))]⟩] ?_
    refine Rk<|Runs.ret ?_
    cases h
    exact Fq
   | false =>
    replace h:=ab hb_11 h
    refine Cf<|Ro<|Rc 3 [vp [3] 0 0,vp [3] 0 4,⟨.tup [],[([3],some (.cells [.b c3.I.Lock,.i c3.I.Rep,.i c3.I.Seg,.y c3.I.Op,.i 2,.i c3.I.Reg,.i c3.I.RM,.w c3.I.Disp,.w c3.I.Imm,.w c3.I.Sel,.i c3.Disp.N,.i c3.Disp.From,.i c3.Disp.Which,.i c3.Disp.Type_,.i c3.Disp.Wants,.b c3.Disp.Known,.i c3.Imm.N,.i c3.Imm.From,.i c3.Imm.Which,.i c3.Imm.Type_,.i c3.Imm.Wants,.b c3.Imm.Known,.b c3.HasD,.b c3.HasI,.b c3.Jumps] 0))]⟩]<|Rd<|az<|ai<|Ro<|Rc 6 [vp [3] 0 0,vp [3] 0 4,vi 2,vp [3] 0 0,vp [3] 0 6,vi c3.I.RM] ?_
    obtain ⟨r_7,hr_7,h⟩:=ah h
    have hc_7:=dk 2 c3.I.RM r_7 hr_7
    refine Rt (some 70) (.callf 30) [] none [.i 2,.i c3.I.RM] (.i r_7) [] (cc hc_7)<|Rc 3 [vb (r_7==2),vp [3] 0 22,⟨.tup [],[([3],some (.cells [.b c3.I.Lock,.i c3.I.Rep,.i c3.I.Seg,.y c3.I.Op,.i 2,.i c3.I.Reg,.i c3.I.RM,.w c3.I.Disp,.w c3.I.Imm,.w c3.I.Sel,.i c3.Disp.N,.i c3.Disp.From,.i c3.Disp.Which,.i c3.Disp.Type_,.i c3.Disp.Wants,.b c3.Disp.Known,.i c3.Imm.N,.i c3.Imm.From,.i c3.Imm.Which,.i c3.Imm.Type_,.i c3.Imm.Wants,.b c3.Imm.Known,.b (r_7==2),.b c3.HasI,.b c3.Jumps] 0))]⟩]<|Rd<|az<|ai<|Sq<|Ro<|Rc 2 [⟨.d (.agg [.bool c3.I.Lock,.int .i64 c3.I.Rep,.int .i64 c3.I.Seg,.int .u8 c3.I.Op,.int .i64 2,.int .i64 c3.I.Reg,.int .i64 c3.I.RM,.int .u16 c3.I.Disp,.int .u16 c3.I.Imm,.int .u16 c3.I.Sel,.int .i64 c3.Disp.N,.int .i64 c3.Disp.From,.int .i64 c3.Disp.Which,.int .i64 c3.Disp.Type_,.int .i64 c3.Disp.Wants,.bool c3.Disp.Known,.int .i64 c3.Imm.N,.int .i64 c3.Imm.From,.int .i64 c3.Imm.Which,.int .i64 c3.Imm.Type_,.int .i64 c3.Imm.Wants,.bool c3.Imm.Known,.bool (r_7==2),.bool c3.HasI,.bool c3.Jumps]),[]⟩,⟨.tup [],[([6],some (.cells [.b c3.I.Lock,.i c3.I.Rep,.i c3.I.Seg,.y c3.I.Op,.i 2,.i c3.I.Reg,.i c3.I.RM,.w c3.I.Disp,.w c3.I.Imm,.w c3.I.Sel,.i c3.Disp.N,.i c3.Disp.From,.i c3.Disp.Which,.i c3.Disp.Type_,.i c3.Disp.Wants,.b c3.Disp.Known,.i c3.Imm.N,.i c3.Imm.From,.i c3.Imm.Which,.i c3.Imm.Type_,.i c3.Imm.Wants,.b c3.Imm.Known,.b (r_7==2),.b c3.HasI,.b c3.Jumps] 0))]⟩] ?_
    refine Rk<|Runs.ret ?_
    cases h
    exact Fq
  | false =>
   replace h:=ab hb_10 h
   refine Rc 6 [vn,vn,vn,vn,vb false,vb false]<|Rk<|Cf<|Ro<|Rc 3 [vp [3] 0 0,vp [3] 0 4,⟨.tup [],[([3],some (.cells [.b c3.I.Lock,.i c3.I.Rep,.i c3.I.Seg,.y c3.I.Op,.i 2,.i c3.I.Reg,.i c3.I.RM,.w c3.I.Disp,.w c3.I.Imm,.w c3.I.Sel,.i c3.Disp.N,.i c3.Disp.From,.i c3.Disp.Which,.i c3.Disp.Type_,.i c3.Disp.Wants,.b c3.Disp.Known,.i c3.Imm.N,.i c3.Imm.From,.i c3.Imm.Which,.i c3.Imm.Type_,.i c3.Imm.Wants,.b c3.Imm.Known,.b c3.HasD,.b c3.HasI,.b c3.Jumps] 0))]⟩]<|Rd<|az<|ai<|Ro<|Rc 6 [vp [3] 0 0,vp [3] 0 4,vi 2,vp [3] 0 0,vp [3] 0 6,vi c3.I.RM] ?_
   obtain ⟨r_8,hr_8,h⟩:=ah h
   have hc_8:=dk 2 c3.I.RM r_8 hr_8
   refine Rt (some 70) (.callf 30) [] none [.i 2,.i c3.I.RM] (.i r_8) [] (cc hc_8)<|Rc 3 [vb (r_8==2),vp [3] 0 22,⟨.tup [],[([3],some (.cells [.b c3.I.Lock,.i c3.I.Rep,.i c3.I.Seg,.y c3.I.Op,.i 2,.i c3.I.Reg,.i c3.I.RM,.w c3.I.Disp,.w c3.I.Imm,.w c3.I.Sel,.i c3.Disp.N,.i c3.Disp.From,.i c3.Disp.Which,.i c3.Disp.Type_,.i c3.Disp.Wants,.b c3.Disp.Known,.i c3.Imm.N,.i c3.Imm.From,.i c3.Imm.Which,.i c3.Imm.Type_,.i c3.Imm.Wants,.b c3.Imm.Known,.b (r_8==2),.b c3.HasI,.b c3.Jumps] 0))]⟩]<|Rd<|az<|ai<|Sq<|Ro<|Rc 2 [⟨.d (.agg [.bool c3.I.Lock,.int .i64 c3.I.Rep,.int .i64 c3.I.Seg,.int .u8 c3.I.Op,.int .i64 2,.int .i64 c3.I.Reg,.int .i64 c3.I.RM,.int .u16 c3.I.Disp,.int .u16 c3.I.Imm,.int .u16 c3.I.Sel,.int .i64 c3.Disp.N,.int .i64 c3.Disp.From,.int .i64 c3.Disp.Which,.int .i64 c3.Disp.Type_,.int .i64 c3.Disp.Wants,.bool c3.Disp.Known,.int .i64 c3.Imm.N,.int .i64 c3.Imm.From,.int .i64 c3.Imm.Which,.int .i64 c3.Imm.Type_,.int .i64 c3.Imm.Wants,.bool c3.Imm.Known,.bool (r_8==2),.bool c3.HasI,.bool c3.Jumps]),[]⟩,⟨.tup [],[([6],some (.cells [.b c3.I.Lock,.i c3.I.Rep,.i c3.I.Seg,.y c3.I.Op,.i 2,.i c3.I.Reg,.i c3.I.RM,.w c3.I.Disp,.w c3.I.Imm,.w c3.I.Sel,.i c3.Disp.N,.i c3.Disp.From,.i c3.Disp.Which,.i c3.Disp.Type_,.i c3.Disp.Wants,.b c3.Disp.Known,.i c3.Imm.N,.i c3.Imm.From,.i c3.Imm.Which,.i c3.Imm.Type_,.i c3.Imm.Wants,.b c3.Imm.Known,.b (r_8==2),.b c3.HasI,.b c3.Jumps] 0))]⟩] ?_
   refine Rk<|Runs.ret ?_
   cases h
   exact Fq
theorem iv (c_:Choice) (op_:Int) (o_:Operand) (c3:Choice) (o5:Operand) (b_6:Choice) (known7:Bool) (r:Choice) (h:cU c3 o5 b_6 known7=some r):Runs L zN (gI c3 o5 b_6 known7) (kB 0 (kS L tf (gx c_ op_ o_ r))):=by
 unfold cU at h
 refine Sq<|Ro<|Rc 12 [vp [5] 0 2,vi o5.RM,vp [5] 0 3,vp [5] 0 3,vi o5.V.N,vw (IntKind.wrap .u16 o5.V.N),vp [3] 0 0,vp [3] 0 6,⟨.tup [],[([3],some (.cells [.b c3.I.Lock,.i c3.I.Rep,.i c3.I.Seg,.y c3.I.Op,.i c3.I.Mod,.i c3.I.Reg,.i o5.RM,.w c3.I.Disp,.w c3.I.Imm,.w c3.I.Sel,.i c3.Disp.N,.i c3.Disp.From,.i c3.Disp.Which,.i c3.Disp.Type_,.i c3.Disp.Wants,.b c3.Disp.Known,.i c3.Imm.N,.i c3.Imm.From,.i c3.Imm.Which,.i c3.Imm.Type_,.i c3.Imm.Wants,.b c3.Imm.Known,.b c3.HasD,.b c3.HasI,.b c3.Jumps] 0))]⟩,vp [3] 0 0,vp [3] 0 7,⟨.tup [],[([3],some (.cells [.b c3.I.Lock,.i c3.I.Rep,.i c3.I.Seg,.y c3.I.Op,.i c3.I.Mod,.i c3.I.Reg,.i o5.RM,.w (IntKind.wrap .u16 o5.V.N),.w c3.I.Imm,.w c3.I.Sel,.i c3.Disp.N,.i c3.Disp.From,.i c3.Disp.Which,.i c3.Disp.Type_,.i c3.Disp.Wants,.b c3.Disp.Known,.i c3.Imm.N,.i c3.Imm.From,.i c3.Imm.Which,.i c3.Imm.Type_,.i c3.Imm.Wants,.b c3.Imm.Known,.b c3.HasD,.b c3.HasI,.b c3.Jumps] 0))]⟩] ?_
 refine Rk<|Sq<|Runs.block<|Sq<|Ro<|Rc 4 [vp [5] 0 2,vi o5.RM,vb (o5.RM==8),vb (o5.RM==8)]<|Rk ?_
 cases hb_6:((o5.RM==8):Bool) with
 | true =>
  replace h:=aa hb_6 h
  refine Ct<|Ro<|Rc 6 [vp [3] 0 0,vp [3] 0 4,⟨.tup [],[([3],some (.cells [.b c3.I.Lock,.i c3.I.Rep,.i c3.I.Seg,.y c3.I.Op,.i 0,.i c3.I.Reg,.i o5.RM,.w (IntKind.wrap .u16 o5.V.N),.w c3.I.Imm,.w c3.I.Sel,.i c3.Disp.N,.i c3.Disp.From,.i c3.Disp.Which,.i c3.Disp.Type_,.i c3.Disp.Wants,.b c3.Disp.Known,.i c3.Imm.N,.i c3.Imm.From,.i c3.Imm.Which,.i c3.Imm.Type_,.i c3.Imm.Wants,.b c3.Imm.Known,.b c3.HasD,.b c3.HasI,.b c3.Jumps] 0))]⟩,vp [3] 0 0,vp [3] 0 6,⟨.tup [],[([3],some (.cells [.b c3.I.Lock,.i c3.I.Rep,.i c3.I.Seg,.y c3.I.Op,.i 0,.i c3.I.Reg,.i 6,.w (IntKind.wrap .u16 o5.V.N),.w c3.I.Imm,.w c3.I.Sel,.i c3.Disp.N,.i c3.Disp.From,.i c3.Disp.Which,.i c3.Disp.Type_,.i c3.Disp.Wants,.b c3.Disp.Known,.i c3.Imm.N,.i c3.Imm.From,.i c3.Imm.Which,.i c3.Imm.Type_,.i c3.Imm.Wants,.b c3.Imm.Known,.b c3.HasD,.b c3.HasI,.b c3.Jumps] 0))]⟩]<|Rd<|az<|ai ?_
  refine Ro<|Rc 6 [vp [3] 0 0,vp [3] 0 4,vi 0,vp [3] 0 0,vp [3] 0 6,vi 6] ?_
  obtain ⟨r_3,hr_3,h⟩:=ah h
  have hc_3:=dk 0 6 r_3 hr_3
  refine Rt (some 70) (.callf 30) [] none [.i 0,.i 6] (.i r_3) [] (cc hc_3)<|Rc 3 [vb (r_3==2),vp [3] 0 22,⟨.tup [],[([3],some (.cells [.b c3.I.Lock,.i c3.I.Rep,.i c3.I.Seg,.y c3.I.Op,.i 0,.i c3.I.Reg,.i 6,.w (IntKind.wrap .u16 o5.V.N),.w c3.I.Imm,.w c3.I.Sel,.i c3.Disp.N,.i c3.Disp.From,.i c3.Disp.Which,.i c3.Disp.Type_,.i c3.Disp.Wants,.b c3.Disp.Known,.i c3.Imm.N,.i c3.Imm.From,.i c3.Imm.Which,.i c3.Imm.Type_,.i c3.Imm.Wants,.b c3.Imm.Known,.b (r_3==2),.b c3.HasI,.b c3.Jumps] 0))]⟩]<|Rd<|az<|ai<|Sq<|Ro<|Rc 2 [⟨.d (.agg [.bool c3.I.Lock,.int .i64 c3.I.Rep,.int .i64 c3.I.Seg,.int .u8 c3.I.Op,.int .i64 0,.int .i64 c3.I.Reg,.int .i64 6,.int .u16 (IntKind.wrap .u16 o5.V.N),.int .u16 c3.I.Imm,.int .u16 c3.I.Sel,.int .i64 c3.Disp.N,.int .i64 c3.Disp.From,.int .i64 c3.Disp.Which,.int .i64 c3.Disp.Type_,.int .i64 c3.Disp.Wants,.bool c3.Disp.Known,.int .i64 c3.Imm.N,.int .i64 c3.Imm.From,.int .i64 c3.Imm.Which,.int .i64 c3.Imm.Type_,.int .i64 c3.Imm.Wants,.bool c3.Imm.Known,.bool (r_3==2),.bool c3.HasI,.bool c3.Jumps]),[]⟩,⟨.tup [],[([6],some (.cells [.b c3.I.Lock,.i c3.I.Rep,.i c3.I.Seg,.y c3.I.Op,.i 0,.i c3.I.Reg,.i 6,.w (IntKind.wrap .u16 o5.V.N),.w c3.I.Imm,.w c3.I.Sel,.i c3.Disp.N,.i c3.Disp.From,.i c3.Disp.Which,.i c3.Disp.Type_,.i c3.Disp.Wants,.b c3.Disp.Known,.i c3.Imm.N,.i c3.Imm.From,.i c3.Imm.Which,.i c3.Imm.Type_,.i c3.Imm.Wants,.b c3.Imm.Known,.b (r_3==2),.b c3.HasI,.b c3.Jumps] 0))]⟩] ?_
  refine Rk<|Runs.ret ?_
  cases h
  exact Fq
 | false =>
  replace h:=ab hb_6 h
  refine Cf<|Sq<|Ro<|Rc 2 [vb known7,vb known7] ?_
  cases hb_7:(known7:Bool) with
  | true =>
   replace h:=aa hb_7 h
   refine Rc 6 [vp [5] 0 3,vp [5] 0 3,vi o5.V.N,vb (o5.V.N==0),vb (o5.V.N==0),vb (o5.V.N==0)] ?_
   cases hb_8:((o5.V.N==0):Bool) with
   | true =>
    replace h:=aa hb_8 h
    refine Rc 5 [vp [5] 0 2,vi o5.RM,vb (o5.RM != 6),vb (o5.RM != 6),vb (o5.RM != 6)]<|Rk<|Runs.canon (eX ({ I:=({ c3.I with RM:=o5.RM,Disp:=(IntKind.wrap .u16 o5.V.N) }:Inst),Disp:=c3.Disp,Imm:=c3.Imm,HasD:=c3.HasD,HasI:=c3.HasI,Jumps:=c3.Jumps }:Choice) o5 b_6 true (o5.RM != 6)) Cz ?_
    exact fe c_ op_ o_ ({ I:=({ c3.I with RM:=o5.RM,Disp:=(IntKind.wrap .u16 o5.V.N) }:Inst),Disp:=c3.Disp,Imm:=c3.Imm,HasD:=c3.HasD,HasI:=c3.HasI,Jumps:=c3.Jumps }:Choice) o5 b_6 true (o5.RM != 6) r h
   | false =>
    replace h:=ab hb_8 h
    refine Rc 5 [vn,vn,vn,vb false,vb false]<|Rk<|Runs.canon (eX ({ I:=({ c3.I with RM:=o5.RM,Disp:=(IntKind.wrap .u16 o5.V.N) }:Inst),Disp:=c3.Disp,Imm:=c3.Imm,HasD:=c3.HasD,HasI:=c3.HasI,Jumps:=c3.Jumps }:Choice) o5 b_6 true false) Cz ?_
    exact fe c_ op_ o_ ({ I:=({ c3.I with RM:=o5.RM,Disp:=(IntKind.wrap .u16 o5.V.N) }:Inst),Disp:=c3.Disp,Imm:=c3.Imm,HasD:=c3.HasD,HasI:=c3.HasI,Jumps:=c3.Jumps }:Choice) o5 b_6 true false r h
  | false =>
   replace h:=ab hb_7 h
   refine Rc 11 [vn,vn,vn,vn,vb false,vb false,vn,vn,vn,vb false,vb false]<|Rk<|Runs.canon (eX ({ I:=({ c3.I with RM:=o5.RM,Disp:=(IntKind.wrap .u16 o5.V.N) }:Inst),Disp:=c3.Disp,Imm:=c3.Imm,HasD:=c3.HasD,HasI:=c3.HasI,Jumps:=c3.Jumps }:Choice) o5 b_6 false false) Cz ?_
   exact fe c_ op_ o_ ({ I:=({ c3.I with RM:=o5.RM,Disp:=(IntKind.wrap .u16 o5.V.N) }:Inst),Disp:=c3.Disp,Imm:=c3.Imm,HasD:=c3.HasD,HasI:=c3.HasI,Jumps:=c3.Jumps }:Choice) o5 b_6 false false r h
theorem fR (c_:Choice) (op_:Int) (o_:Operand) (c3:Choice) (o5:Operand) (b_6:Choice) (op1:Int) (t73:Bool) (r:Choice) (h:cQ c3 o5 b_6 op1 t73=some r):Runs L CK (fQ c3 o5 b_6 op1 t73) (kB 0 (kS L tf (gx c_ op_ o_ r))):=by
 unfold cQ at h
 cases hb_2:(t73:Bool) with
 | true =>
  replace h:=aa hb_2 h
  refine Ct<|Ro<|Rc 5 [vp [5] 0 1,vi o5.N,vp [3] 0 0,vp [3] 0 5,⟨.tup [],[([3],some (.cells [.b c3.I.Lock,.i c3.I.Rep,.i c3.I.Seg,.y c3.I.Op,.i c3.I.Mod,.i o5.N,.i c3.I.RM,.w c3.I.Disp,.w c3.I.Imm,.w c3.I.Sel,.i c3.Disp.N,.i c3.Disp.From,.i c3.Disp.Which,.i c3.Disp.Type_,.i c3.Disp.Wants,.b c3.Disp.Known,.i c3.Imm.N,.i c3.Imm.From,.i c3.Imm.Which,.i c3.Imm.Type_,.i c3.Imm.Wants,.b c3.Imm.Known,.b c3.HasD,.b c3.HasI,.b c3.Jumps] 0))]⟩]<|Rd<|az<|ai<|Sq<|Ro<|Rc 2 [⟨.d (.agg [.bool c3.I.Lock,.int .i64 c3.I.Rep,.int .i64 c3.I.Seg,.int .u8 c3.I.Op,.int .i64 c3.I.Mod,.int .i64 o5.N,.int .i64 c3.I.RM,.int .u16 c3.I.Disp,.int .u16 c3.I.Imm,.int .u16 c3.I.Sel,.int .i64 c3.Disp.N,.int .i64 c3.Disp.From,.int .i64 c3.Disp.Which,.int .i64 c3.Disp.Type_,.int .i64 c3.Disp.Wants,.bool c3.Disp.Known,.int .i64 c3.Imm.N,.int .i64 c3.Imm.From,.int .i64 c3.Imm.Which,.int .i64 c3.Imm.Type_,.int .i64 c3.Imm.Wants,.bool c3.Imm.Known,.bool c3.HasD,.bool c3.HasI,.bool c3.Jumps]),[]⟩,⟨.tup [],[([6],some (.cells [.b c3.I.Lock,.i c3.I.Rep,.i c3.I.Seg,.y c3.I.Op,.i c3.I.Mod,.i o5.N,.i c3.I.RM,.w c3.I.Disp,.w c3.I.Imm,.w c3.I.Sel,.i c3.Disp.N,.i c3.Disp.From,.i c3.Disp.Which,.i c3.Disp.Type_,.i c3.Disp.Wants,.b c3.Disp.Known,.i c3.Imm.N,.i c3.Imm.From,.i c3.Imm.Which,.i c3.Imm.Type_,.i c3.Imm.Wants,.b c3.Imm.Known,.b c3.HasD,.b c3.HasI,.b c3.Jumps] 0))]⟩] ?_
  refine Rk<|Runs.ret ?_
  cases h
  exact Fq
 | false =>
  replace h:=ab hb_2 h
  refine Cf<|Sq<|Ro<|Rc 1 [vi op1] ?_
  obtain ⟨r_1,hr_1,h⟩:=ah h
  have hc_1:=tT op1 r_1 hr_1
  refine Rt (some 90) (.callf 70) [] none [.i op1] (.b r_1) [] (cc hc_1)<|Rc 2 [vb (!r_1),vb (!r_1)]<|Rk ?_
  cases hb_3:((!r_1):Bool) with
  | true =>
   replace h:=aa hb_3 h
   refine Ct<|Runs.skip<|az<|ai<|Sq<|Ro<|Rc 2 [⟨.d (Choice.d c3),[]⟩,⟨.tup [],[([6],some (.cells [.b c3.I.Lock,.i c3.I.Rep,.i c3.I.Seg,.y c3.I.Op,.i c3.I.Mod,.i c3.I.Reg,.i c3.I.RM,.w c3.I.Disp,.w c3.I.Imm,.w c3.I.Sel,.i c3.Disp.N,.i c3.Disp.From,.i c3.Disp.Which,.i c3.Disp.Type_,.i c3.Disp.Wants,.b c3.Disp.Known,.i c3.Imm.N,.i c3.Imm.From,.i c3.Imm.Which,.i c3.Imm.Type_,.i c3.Imm.Wants,.b c3.Imm.Known,.b c3.HasD,.b c3.HasI,.b c3.Jumps] 0))]⟩]<|Rk<|Runs.ret ?_
   cases h
   exact Fq
  | false =>
   replace h:=ab hb_3 h
   refine Cf<|Sq<|Ro<|Rc 4 [vp [5] 0 0,vi o5.Kind,vb (o5.Kind != 5),vb (o5.Kind != 5)]<|Rk ?_
   cases hb_4:((o5.Kind != 5):Bool) with
   | true =>
    replace h:=aa hb_4 h
    refine Ct<|Ro<|Rc 8 [vp [5] 0 1,vi o5.N,vp [3] 0 0,vp [3] 0 4,⟨.tup [],[([3],some (.cells [.b c3.I.Lock,.i c3.I.Rep,.i c3.I.Seg,.y c3.I.Op,.i 3,.i c3.I.Reg,.i c3.I.RM,.w c3.I.Disp,.w c3.I.Imm,.w c3.I.Sel,.i c3.Disp.N,.i c3.Disp.From,.i c3.Disp.Which,.i c3.Disp.Type_,.i c3.Disp.Wants,.b c3.Disp.Known,.i c3.Imm.N,.i c3.Imm.From,.i c3.Imm.Which,.i c3.Imm.Type_,.i c3.Imm.Wants,.b c3.Imm.Known,.b c3.HasD,.b c3.HasI,.b c3.Jumps] 0))]⟩,vp [3] 0 0,vp [3] 0 6,⟨.tup [],[([3],some (.cells [.b c3.I.Lock,.i c3.I.Rep,.i c3.I.Seg,.y c3.I.Op,.i 3,.i c3.I.Reg,.i o5.N,.w c3.I.Disp,.w c3.I.Imm,.w c3.I.Sel,.i c3.Disp.N,.i c3.Disp.From,.i c3.Disp.Which,.i c3.Disp.Type_,.i c3.Disp.Wants,.b c3.Disp.Known,.i c3.Imm.N,.i c3.Imm.From,.i c3.Imm.Which,.i c3.Imm.Type_,.i c3.Imm.Wants,.b c3.Imm.Known,.b c3.HasD,.b c3.HasI,.b c3.Jumps] 0))]⟩]<|Rd ?_
    refine az<|ai<|Sq<|Ro<|Rc 2 [⟨.d (.agg [.bool c3.I.Lock,.int .i64 c3.I.Rep,.int .i64 c3.I.Seg,.int .u8 c3.I.Op,.int .i64 3,.int .i64 c3.I.Reg,.int .i64 o5.N,.int .u16 c3.I.Disp,.int .u16 c3.I.Imm,.int .u16 c3.I.Sel,.int .i64 c3.Disp.N,.int .i64 c3.Disp.From,.int .i64 c3.Disp.Which,.int .i64 c3.Disp.Type_,.int .i64 c3.Disp.Wants,.bool c3.Disp.Known,.int .i64 c3.Imm.N,.int .i64 c3.Imm.From,.int .i64 c3.Imm.Which,.int .i64 c3.Imm.Type_,.int .i64 c3.Imm.Wants,.bool c3.Imm.Known,.bool c3.HasD,.bool c3.HasI,.bool c3.Jumps]),[]⟩,⟨.tup [],[([6],some (.cells [.b c3.I.Lock,.i c3.I.Rep,.i c3.I.Seg,.y c3.I.Op,.i 3,.i c3.I.Reg,.i o5.N,.w c3.I.Disp,.w c3.I.Imm,.w c3.I.Sel,.i c3.Disp.N,.i c3.Disp.From,.i c3.Disp.Which,.i c3.Disp.Type_,.i c3.Disp.Wants,.b c3.Disp.Known,.i c3.Imm.N,.i c3.Imm.From,.i c3.Imm.Which,.i c3.Imm.Type_,.i c3.Imm.Wants,.b c3.Imm.Known,.b c3.HasD,.b c3.HasI,.b c3.Jumps] 0))]⟩]<|Rk<|Runs.ret ?_
    cases h
    exact Fq
   | false =>
    replace h:=ab hb_4 h
    refine Cf<|Sq<|Ro<|Rc 4 [vp [5] 0 3,⟨.d (api_Value.d o5.V),[]⟩,vp [3] 0 10,⟨.tup [],[([3],some (.cells [.b c3.I.Lock,.i c3.I.Rep,.i c3.I.Seg,.y c3.I.Op,.i c3.I.Mod,.i c3.I.Reg,.i c3.I.RM,.w c3.I.Disp,.w c3.I.Imm,.w c3.I.Sel,.i o5.V.N,.i o5.V.From,.i o5.V.Which,.i o5.V.Type_,.i o5.V.Wants,.b o5.V.Known,.i c3.Imm.N,.i c3.Imm.From,.i c3.Imm.Which,.i c3.Imm.Type_,.i c3.Imm.Wants,.b c3.Imm.Known,.b c3.HasD,.b c3.HasI,.b c3.Jumps] 0))]⟩]<|Rk<|Sq<|Ro<|Rc 2 [vp [5] 0 3,⟨.d (api_Value.d o5.V),[]⟩] ?_
    obtain ⟨r_2,hr_2,h⟩:=ah h
    have hc_2:=eT o5.V r_2 hr_2
    refine Rt (some 13) (.callf 54) [] none [.d (api_Value.d o5.V)] (.b r_2) [] (cc hc_2)<|Rc 1 [vb r_2] ?_
    cases hb_5:(r_2:Bool) with
    | true =>
     replace h:=aa hb_5 h
     refine Rc 5 [vp [5] 0 3,vp [5] 0 8,vb o5.V.Known,vb o5.V.Known,vb o5.V.Known]<|Rk<|Runs.canon (gI ({ c3 with Disp:=o5.V }:Choice) o5 b_6 o5.V.Known) Cz ?_
     exact iv c_ op_ o_ ({ c3 with Disp:=o5.V }:Choice) o5 b_6 o5.V.Known r h
    | false =>
     replace h:=ab hb_5 h
     refine Rc 5 [vn,vn,vn,vb false,vb false]<|Rk<|Runs.canon (gI ({ c3 with Disp:=o5.V }:Choice) o5 b_6 false) Cz ?_
     exact iv c_ op_ o_ ({ c3 with Disp:=o5.V }:Choice) o5 b_6 false r h
theorem qH (c_:Choice) (op_:Int) (o_:Operand) (r:Choice) (h:fm c_ op_ o_=some r):Runs L F61.body ⟨a9 [.d (Choice.d c_),.i op_,.d (Operand.d o_)] 0,ay (fun _=>none) []⟩ (gx c_ op_ o_ r):=by
 unfold fm at h
 refine Sq<|Ro<|Rc 3 [⟨.ptr [3] 0 0,[([3],some (.cells [.b c_.I.Lock,.i c_.I.Rep,.i c_.I.Seg,.y c_.I.Op,.i c_.I.Mod,.i c_.I.Reg,.i c_.I.RM,.w c_.I.Disp,.w c_.I.Imm,.w c_.I.Sel,.i c_.Disp.N,.i c_.Disp.From,.i c_.Disp.Which,.i c_.Disp.Type_,.i c_.Disp.Wants,.b c_.Disp.Known,.i c_.Imm.N,.i c_.Imm.From,.i c_.Imm.Which,.i c_.Imm.Type_,.i c_.Imm.Wants,.b c_.Imm.Known,.b c_.HasD,.b c_.HasI,.b c_.Jumps] 0))]⟩,⟨.ptr [5] 0 0,[([5],some (.cells [.i o_.Kind,.i o_.N,.i o_.RM,.i o_.V.N,.i o_.V.From,.i o_.V.Which,.i o_.V.Type_,.i o_.V.Wants,.b o_.V.Known,.i o_.Type_,.i o_.Over,.b o_.Short] 0))]⟩,⟨.ptr [6] 0 0,[([6],some (.cells [.b false,.i 0,.i 0,.y 0,.i 0,.i 0,.i 0,.w 0,.w 0,.w 0,.i 0,.i 0,.i 0,.i 0,.i 0,.b false,.i 0,.i 0,.i 0,.i 0,.i 0,.b false,.b false,.b false,.b false] 0))]⟩] ?_
 refine Rk<|Sq<|Runs.block<|Sq<|Ro<|Rc 3 [vi op_,vb (op_==3),vb (op_==3)] ?_
 cases hb_1:((op_==3):Bool) with
 | true =>
  replace h:=aa hb_1 h
  refine Rc 8 [vn,vn,vb true,vb true,vn,vn,vb true,vb true]<|Rk<|Runs.canon (fQ c_ o_ ({ I:=({ Lock:=false,Rep:=0,Seg:=0,Op:=0,Mod:=0,Reg:=0,RM:=0,Disp:=0,Imm:=0,Sel:=0 }:Inst),Disp:=({ N:=0,From:=0,Which:=0,Type_:=0,Wants:=0,Known:=false }:api_Value),Imm:=({ N:=0,From:=0,Which:=0,Type_:=0,Wants:=0,Known:=false }:api_Value),HasD:=false,HasI:=false,Jumps:=false }:Choice) op_ true) Cz ?_
  exact fR c_ op_ o_ c_ o_ ({ I:=({ Lock:=false,Rep:=0,Seg:=0,Op:=0,Mod:=0,Reg:=0,RM:=0,Disp:=0,Imm:=0,Sel:=0 }:Inst),Disp:=({ N:=0,From:=0,Which:=0,Type_:=0,Wants:=0,Known:=false }:api_Value),Imm:=({ N:=0,From:=0,Which:=0,Type_:=0,Wants:=0,Known:=false }:api_Value),HasD:=false,HasI:=false,Jumps:=false }:Choice) op_ true r h
 | false =>
  replace h:=ab hb_1 h
  refine Rc 4 [vi op_,vb (op_==4),vb (op_==4),vb (op_==4)] ?_
  cases hb_12:((op_==4):Bool) with
  | true =>
   replace h:=aa hb_12 h
   refine Rc 4 [vn,vn,vb true,vb true]<|Rk<|Runs.canon (fQ c_ o_ ({ I:=({ Lock:=false,Rep:=0,Seg:=0,Op:=0,Mod:=0,Reg:=0,RM:=0,Disp:=0,Imm:=0,Sel:=0 }:Inst),Disp:=({ N:=0,From:=0,Which:=0,Type_:=0,Wants:=0,Known:=false }:api_Value),Imm:=({ N:=0,From:=0,Which:=0,Type_:=0,Wants:=0,Known:=false }:api_Value),HasD:=false,HasI:=false,Jumps:=false }:Choice) op_ true) Cz ?_
   exact fR c_ op_ o_ c_ o_ ({ I:=({ Lock:=false,Rep:=0,Seg:=0,Op:=0,Mod:=0,Reg:=0,RM:=0,Disp:=0,Imm:=0,Sel:=0 }:Inst),Disp:=({ N:=0,From:=0,Which:=0,Type_:=0,Wants:=0,Known:=false }:api_Value),Imm:=({ N:=0,From:=0,Which:=0,Type_:=0,Wants:=0,Known:=false }:api_Value),HasD:=false,HasI:=false,Jumps:=false }:Choice) op_ true r h
  | false =>
   replace h:=ab hb_12 h
   refine Rc 4 [vi op_,vb (op_==5),vb (op_==5),vb (op_==5)]<|Rk<|Runs.canon (fQ c_ o_ ({ I:=({ Lock:=false,Rep:=0,Seg:=0,Op:=0,Mod:=0,Reg:=0,RM:=0,Disp:=0,Imm:=0,Sel:=0 }:Inst),Disp:=({ N:=0,From:=0,Which:=0,Type_:=0,Wants:=0,Known:=false }:api_Value),Imm:=({ N:=0,From:=0,Which:=0,Type_:=0,Wants:=0,Known:=false }:api_Value),HasD:=false,HasI:=false,Jumps:=false }:Choice) op_ (op_==5)) Cz ?_
   exact fR c_ op_ o_ c_ o_ ({ I:=({ Lock:=false,Rep:=0,Seg:=0,Op:=0,Mod:=0,Reg:=0,RM:=0,Disp:=0,Imm:=0,Sel:=0 }:Inst),Disp:=({ N:=0,From:=0,Which:=0,Type_:=0,Wants:=0,Known:=false }:api_Value),Imm:=({ N:=0,From:=0,Which:=0,Type_:=0,Wants:=0,Known:=false }:api_Value),HasD:=false,HasI:=false,Jumps:=false }:Choice) op_ (op_==5) r h
theorem rp (c_:Choice) (op_:Int) (o_:Operand) (r:Choice) (h:fm c_ op_ o_=some r):L 61 [.d (Choice.d c_),.i op_,.d (Operand.d o_)]=some (.d (Choice.d r),[.d (Choice.d c_),.i op_,.d (Operand.d o_)]):=by
 obtain ⟨p,⟨hne,hf⟩,hr⟩:=qH c_ op_ o_ r h
 obtain ⟨k,hk⟩:=aD (F:=F61) (args:=[.d (Choice.d c_),.i op_,.d (Operand.d o_)]) (ap:=[.d (Choice.d c_),.i op_,.d (Operand.d o_)]) (bx0:=ay (fun _=>none) []) rfl rfl (by kernel_rfl) ⟨p,⟨hne,hf⟩,hr⟩
 exact aA (k:=k) rfl hk
def eY (c3:Choice) (o5:Operand) (b_6:Choice) (t7:Int) (t25:Bool):St:=⟨tab [(3,.ptr [3] 0 0),(5,.ptr [5] 0 0),(6,.ptr [6] 0 0),(7,.i t7),(25,.b t25)],be [([3],some (.cells [.b c3.I.Lock,.i c3.I.Rep,.i c3.I.Seg,.y c3.I.Op,.i c3.I.Mod,.i c3.I.Reg,.i c3.I.RM,.w c3.I.Disp,.w c3.I.Imm,.w c3.I.Sel,.i c3.Disp.N,.i c3.Disp.From,.i c3.Disp.Which,.i c3.Disp.Type_,.i c3.Disp.Wants,.b c3.Disp.Known,.i c3.Imm.N,.i c3.Imm.From,.i c3.Imm.Which,.i c3.Imm.Type_,.i c3.Imm.Wants,.b c3.Imm.Known,.b c3.HasD,.b c3.HasI,.b c3.Jumps] 0)),([5],some (.cells [.i o5.Kind,.i o5.N,.i o5.RM,.i o5.V.N,.i o5.V.From,.i o5.V.Which,.i o5.V.Type_,.i o5.V.Wants,.b o5.V.Known,.i o5.Type_,.i o5.Over,.b o5.Short] 0)),([6],some (.cells [.b b_6.I.Lock,.i b_6.I.Rep,.i b_6.I.Seg,.y b_6.I.Op,.i b_6.I.Mod,.i b_6.I.Reg,.i b_6.I.RM,.w b_6.I.Disp,.w b_6.I.Imm,.w b_6.I.Sel,.i b_6.Disp.N,.i b_6.Disp.From,.i b_6.Disp.Which,.i b_6.Disp.Type_,.i b_6.Disp.Wants,.b b_6.Disp.Known,.i b_6.Imm.N,.i b_6.Imm.From,.i b_6.Imm.Which,.i b_6.Imm.Type_,.i b_6.Imm.Wants,.b b_6.Imm.Known,.b b_6.HasD,.b b_6.HasI,.b b_6.Jumps] 0))]⟩
def gJ (c3:Choice) (o5:Operand) (b_6:Choice) (t7:Int) (t39:Bool):St:=⟨tab [(3,.ptr [3] 0 0),(5,.ptr [5] 0 0),(6,.ptr [6] 0 0),(7,.i t7),(39,.b t39)],be [([3],some (.cells [.b c3.I.Lock,.i c3.I.Rep,.i c3.I.Seg,.y c3.I.Op,.i c3.I.Mod,.i c3.I.Reg,.i c3.I.RM,.w c3.I.Disp,.w c3.I.Imm,.w c3.I.Sel,.i c3.Disp.N,.i c3.Disp.From,.i c3.Disp.Which,.i c3.Disp.Type_,.i c3.Disp.Wants,.b c3.Disp.Known,.i c3.Imm.N,.i c3.Imm.From,.i c3.Imm.Which,.i c3.Imm.Type_,.i c3.Imm.Wants,.b c3.Imm.Known,.b c3.HasD,.b c3.HasI,.b c3.Jumps] 0)),([5],some (.cells [.i o5.Kind,.i o5.N,.i o5.RM,.i o5.V.N,.i o5.V.From,.i o5.V.Which,.i o5.V.Type_,.i o5.V.Wants,.b o5.V.Known,.i o5.Type_,.i o5.Over,.b o5.Short] 0)),([6],some (.cells [.b b_6.I.Lock,.i b_6.I.Rep,.i b_6.I.Seg,.y b_6.I.Op,.i b_6.I.Mod,.i b_6.I.Reg,.i b_6.I.RM,.w b_6.I.Disp,.w b_6.I.Imm,.w b_6.I.Sel,.i b_6.Disp.N,.i b_6.Disp.From,.i b_6.Disp.Which,.i b_6.Disp.Type_,.i b_6.Disp.Wants,.b b_6.Disp.Known,.i b_6.Imm.N,.i b_6.Imm.From,.i b_6.Imm.Which,.i b_6.Imm.Type_,.i b_6.Imm.Wants,.b b_6.Imm.Known,.b b_6.HasD,.b b_6.HasI,.b b_6.Jumps] 0))]⟩
def iU (c_:Choice) (op_:Int) (o_:Operand) (r:Choice) (p:Out × St):Prop:=(∀ i,p.1≠.exit i)∧aV F60 [.d (Choice.d c_),.i op_,.d (Operand.d o_)] p.2=some (.d (Choice.d r),[.d (Choice.d c_),.i op_,.d (Operand.d o_)])
theorem iw (c_:Choice) (op_:Int) (o_:Operand) (c3:Choice) (o5:Operand) (b_6:Choice) (t7:Int) (t39:Bool) (r:Choice) (h:dK c3 o5 b_6 t7 t39=some r):Runs L zJ (gJ c3 o5 b_6 t7 t39) (kB 0 (kS L wz (iU c_ op_ o_ r))):=by
 unfold dK at h
 cases hb_6:(t39:Bool) with
 | true =>
  replace h:=aa hb_6 h
  refine Ct<|Ro<|Rc 8 [vp [5] 0 3,⟨.d (api_Value.d o5.V),[]⟩,vp [3] 0 16,⟨.tup [],[([3],some (.cells [.b c3.I.Lock,.i c3.I.Rep,.i c3.I.Seg,.y c3.I.Op,.i c3.I.Mod,.i c3.I.Reg,.i c3.I.RM,.w c3.I.Disp,.w c3.I.Imm,.w c3.I.Sel,.i c3.Disp.N,.i c3.Disp.From,.i c3.Disp.Which,.i c3.Disp.Type_,.i c3.Disp.Wants,.b c3.Disp.Known,.i o5.V.N,.i o5.V.From,.i o5.V.Which,.i o5.V.Type_,.i o5.V.Wants,.b o5.V.Known,.b c3.HasD,.b c3.HasI,.b c3.Jumps] 0))]⟩,vp [3] 0 23,⟨.tup [],[([3],some (.cells [.b c3.I.Lock,.i c3.I.Rep,.i c3.I.Seg,.y c3.I.Op,.i c3.I.Mod,.i c3.I.Reg,.i c3.I.RM,.w c3.I.Disp,.w c3.I.Imm,.w c3.I.Sel,.i c3.Disp.N,.i c3.Disp.From,.i c3.Disp.Which,.i c3.Disp.Type_,.i c3.Disp.Wants,.b c3.Disp.Known,.i o5.V.N,.i o5.V.From,.i o5.V.Which,.i o5.V.Type_,.i o5.V.Wants,.b o5.V.Known,.b c3.HasD,.b true,.b c3.Jumps] 0))]⟩,vp [3] 0 24,⟨.tup [],[([3],some (.cells [.b c3.I.Lock,.i c3.I.Rep,.i c3.I.Seg,.y c3.I.Op,.i c3.I.Mod,.i c3.I.Reg,.i c3.I.RM,.w c3.I.Disp,.w c3.I.Imm,.w c3.I.Sel,.i c3.Disp.N,.i c3.Disp.From,.i c3.Disp.Which,.i c3.Disp.Type_,.i c3.Disp.Wants,.b c3.Disp.Known,.i o5.V.N,.i o5.V.From,.i o5.V.Which,.i o5.V.Type_,.i o5.V.Wants,.b o5.V.Known,.b c3.HasD,.b true,.b true] 0))]⟩] ?_
  refine Rd<|az<|ai<|Sq<|Ro<|Rc 2 [⟨.d (.agg [.bool c3.I.Lock,.int .i64 c3.I.Rep,.int .i64 c3.I.Seg,.int .u8 c3.I.Op,.int .i64 c3.I.Mod,.int .i64 c3.I.Reg,.int .i64 c3.I.RM,.int .u16 c3.I.Disp,.int .u16 c3.I.Imm,.int .u16 c3.I.Sel,.int .i64 c3.Disp.N,.int .i64 c3.Disp.From,.int .i64 c3.Disp.Which,.int .i64 c3.Disp.Type_,.int .i64 c3.Disp.Wants,.bool c3.Disp.Known,.int .i64 o5.V.N,.int .i64 o5.V.From,.int .i64 o5.V.Which,.int .i64 o5.V.Type_,.int .i64 o5.V.Wants,.bool o5.V.Known,.bool c3.HasD,.bool true,.bool true]),[]⟩,⟨.tup [],[([6],some (.cells [.b c3.I.Lock,.i c3.I.Rep,.i c3.I.Seg,.y c3.I.Op,.i c3.I.Mod,.i c3.I.Reg,.i c3.I.RM,.w c3.I.Disp,.w c3.I.Imm,.w c3.I.Sel,.i c3.Disp.N,.i c3.Disp.From,.i c3.Disp.Which,.i c3.Disp.Type_,.i c3.Disp.Wants,.b c3.Disp.Known,.i o5.V.N,.i o5.V.From,.i o5.V.Which,.i o5.V.Type_,.i o5.V.Wants,.b o5.V.Known,.b c3.HasD,.b true,.b true] 0))]⟩]<|Rk<|Runs.ret ?_
  cases h
  exact Fq
 | false =>
  replace h:=ab hb_6 h
  refine Cf<|Sq<|Ro<|Rc 2 [vb (t7==11),vb (t7==11)]<|Rk ?_
  cases hb_7:((t7==11):Bool) with
  | true =>
   replace h:=aa hb_7 h
   refine Ct<|Ro<|Rc 6 [vp [5] 0 3,⟨.d (api_Value.d o5.V),[]⟩,vp [3] 0 16,⟨.tup [],[([3],some (.cells [.b c3.I.Lock,.i c3.I.Rep,.i c3.I.Seg,.y c3.I.Op,.i c3.I.Mod,.i c3.I.Reg,.i c3.I.RM,.w c3.I.Disp,.w c3.I.Imm,.w c3.I.Sel,.i c3.Disp.N,.i c3.Disp.From,.i c3.Disp.Which,.i c3.Disp.Type_,.i c3.Disp.Wants,.b c3.Disp.Known,.i o5.V.N,.i o5.V.From,.i o5.V.Which,.i o5.V.Type_,.i o5.V.Wants,.b o5.V.Known,.b c3.HasD,.b c3.HasI,.b c3.Jumps] 0))]⟩,vp [3] 0 23,⟨.tup [],[([3],some (.cells [.b c3.I.Lock,.i c3.I.Rep,.i c3.I.Seg,.y c3.I.Op,.i c3.I.Mod,.i c3.I.Reg,.i c3.I.RM,.w c3.I.Disp,.w c3.I.Imm,.w c3.I.Sel,.i c3.Disp.N,.i c3.Disp.From,.i c3.Disp.Which,.i c3.Disp.Type_,.i c3.Disp.Wants,.b c3.Disp.Known,.i o5.V.N,.i o5.V.From,.i o5.V.Which,.i o5.V.Type_,.i o5.V.Wants,.b o5.V.Known,.b c3.HasD,.b true,.b c3.Jumps] 0))]⟩]<|Rd<|az<|ai<|Sq<|Ro<|Rc 2 [⟨.d (.agg [.bool c3.I.Lock,.int .i64 c3.I.Rep,.int .i64 c3.I.Seg,.int .u8 c3.I.Op,.int .i64 c3.I.Mod,.int .i64 c3.I.Reg,.int .i64 c3.I.RM,.int .u16 c3.I.Disp,.int .u16 c3.I.Imm,.int .u16 c3.I.Sel,.int .i64 c3.Disp.N,.int .i64 c3.Disp.From,.int .i64 c3.Disp.Which,.int .i64 c3.Disp.Type_,.int .i64 c3.Disp.Wants,.bool c3.Disp.Known,.int .i64 o5.V.N,.int .i64 o5.V.From,.int .i64 o5.V.Which,.int .i64 o5.V.Type_,.int .i64 o5.V.Wants,.bool o5.V.Known,.bool c3.HasD,.bool true,.bool c3.Jumps]),[]⟩,⟨.tup [],[([6],some (.cells [.b c3.I.Lock,.i c3.I.Rep,.i c3.I.Seg,.y c3.I.Op,.i c3.I.Mod,.i c3.I.Reg,.i c3.I.RM,.w c3.I.Disp,.w c3.I.Imm,.w c3.I.Sel,.i c3.Disp.N,.i c3.Disp.From,.i c3.Disp.Which,.i c3.Disp.Type_,.i c3.Disp.Wants,.b c3.Disp.Known,.i o5.V.N,.i o5.V.From,.i o5.V.Which,.i o5.V.Type_,.i o5.V.Wants,.b o5.V.Known,.b c3.HasD,.b true,.b c3.Jumps] 0))]⟩] ?_
   refine Rk<|Runs.ret ?_
   cases h
   exact Fq
  | false =>
   replace h:=ab hb_7 h
   refine Cf<|Runs.skip<|az<|ai<|Sq<|Ro<|Rc 2 [⟨.d (Choice.d c3),[]⟩,⟨.tup [],[([6],some (.cells [.b c3.I.Lock,.i c3.I.Rep,.i c3.I.Seg,.y c3.I.Op,.i c3.I.Mod,.i c3.I.Reg,.i c3.I.RM,.w c3.I.Disp,.w c3.I.Imm,.w c3.I.Sel,.i c3.Disp.N,.i c3.Disp.From,.i c3.Disp.Which,.i c3.Disp.Type_,.i c3.Disp.Wants,.b c3.Disp.Known,.i c3.Imm.N,.i c3.Imm.From,.i c3.Imm.Which,.i c3.Imm.Type_,.i c3.Imm.Wants,.b c3.Imm.Known,.b c3.HasD,.b c3.HasI,.b c3.Jumps] 0))]⟩]<|Rk<|Runs.ret ?_
   cases h
   exact Fq
theorem ff (c_:Choice) (op_:Int) (o_:Operand) (c3:Choice) (o5:Operand) (b_6:Choice) (t7:Int) (t25:Bool) (r:Choice) (h:cV c3 o5 b_6 t7 t25=some r):Runs L zK (eY c3 o5 b_6 t7 t25) (kB 0 (kS L wz (iU c_ op_ o_ r))):=by
 unfold cV at h
 cases hb_4:(t25:Bool) with
 | true =>
  replace h:=aa hb_4 h
  refine Ct<|Ro<|Rc 13 [vp [5] 0 3,vp [5] 0 3,vi o5.V.N,vw (IntKind.wrap .u16 o5.V.N),vp [5] 0 3,⟨.d (api_Value.d o5.V),[]⟩,vp [3] 0 0,vp [3] 0 8,⟨.tup [],[([3],some (.cells [.b c3.I.Lock,.i c3.I.Rep,.i c3.I.Seg,.y c3.I.Op,.i c3.I.Mod,.i c3.I.Reg,.i c3.I.RM,.w c3.I.Disp,.w (IntKind.wrap .u16 o5.V.N),.w c3.I.Sel,.i c3.Disp.N,.i c3.Disp.From,.i c3.Disp.Which,.i c3.Disp.Type_,.i c3.Disp.Wants,.b c3.Disp.Known,.i c3.Imm.N,.i c3.Imm.From,.i c3.Imm.Which,.i c3.Imm.Type_,.i c3.Imm.Wants,.b c3.Imm.Known,.b c3.HasD,.b c3.HasI,.b c3.Jumps] 0))]⟩,vp [3] 0 16,⟨.tup [],[([3],some (.cells [.b c3.I.Lock,.i c3.I.Rep,.i c3.I.Seg,.y c3.I.Op,.i c3.I.Mod,.i c3.I.Reg,.i c3.I.RM,.w c3.I.Disp,.w (IntKind.wrap .u16 o5.V.N),.w c3.I.Sel,.i c3.Disp.N,.i c3.Disp.From,.i c3.Disp.Which,.i c3.Disp.Type_,.i c3.Disp.Wants,.b c3.Disp.Known,.i o5.V.N,.i o5.V.From,.i o5.V.Which,.i o5.V.Type_,.i o5.V.Wants,.b o5.V.Known,.b c3.HasD,.b c3.HasI,.b c3.Jumps] 0))]⟩,vp [3] 0 23,⟨.tup [],[([3],some (.cells [.b c3.I.Lock,.i c3.I.Rep,.i c3.I.Seg,.y c3.I.Op,.i c3.I.Mod,.i c3.I.Reg,.i c3.I.RM,.w c3.I.Disp,.w (IntKind.wrap .u16 o5.V.N),.w c3.I.Sel,.i c3.Disp.N,.i c3.Disp.From,.i c3.Disp.Which,.i c3.Disp.Type_,.i c3.Disp.Wants,.b c3.Disp.Known,.i o5.V.N,.i o5.V.From,.i o5.V.Which,.i o5.V.Type_,.i o5.V.Wants,.b o5.V.Known,.b c3.HasD,.b true,.b c3.Jumps] 0))]⟩] ?_
  refine Rd<|az<|ai<|Sq<|Ro<|Rc 2 [⟨.d (.agg [.bool c3.I.Lock,.int .i64 c3.I.Rep,.int .i64 c3.I.Seg,.int .u8 c3.I.Op,.int .i64 c3.I.Mod,.int .i64 c3.I.Reg,.int .i64 c3.I.RM,.int .u16 c3.I.Disp,.int .u16 (IntKind.wrap .u16 o5.V.N),.int .u16 c3.I.Sel,.int .i64 c3.Disp.N,.int .i64 c3.Disp.From,.int .i64 c3.Disp.Which,.int .i64 c3.Disp.Type_,.int .i64 c3.Disp.Wants,.bool c3.Disp.Known,.int .i64 o5.V.N,.int .i64 o5.V.From,.int .i64 o5.V.Which,.int .i64 o5.V.Type_,.int .i64 o5.V.Wants,.bool o5.V.Known,.bool c3.HasD,.bool true,.bool c3.Jumps]),[]⟩,⟨.tup [],[([6],some (.cells [.b c3.I.Lock,.i c3.I.Rep,.i c3.I.Seg,.y c3.I.Op,.i c3.I.Mod,.i c3.I.Reg,.i c3.I.RM,.w c3.I.Disp,.w (IntKind.wrap .u16 o5.V.N),.w c3.I.Sel,.i c3.Disp.N,.i c3.Disp.From,.i c3.Disp.Which,.i c3.Disp.Type_,.i c3.Disp.Wants,.b c3.Disp.Known,.i o5.V.N,.i o5.V.From,.i o5.V.Which,.i o5.V.Type_,.i o5.V.Wants,.b o5.V.Known,.b c3.HasD,.b true,.b c3.Jumps] 0))]⟩]<|Rk<|Runs.ret ?_
  cases h
  exact Fq
 | false =>
  replace h:=ab hb_4 h
  refine Cf<|Sq<|Sq<|Ro<|Rc 2 [vb (t7==9),vb (t7==9)]<|Rk ?_
  cases hb_5:((t7==9):Bool) with
  | true =>
   replace h:=aa hb_5 h
   refine Ct<|Runs.skip<|ai<|Runs.canon (gJ c3 o5 b_6 t7 true) Cz ?_
   exact iw c_ op_ o_ c3 o5 b_6 t7 true r h
  | false =>
   replace h:=ab hb_5 h
   refine Cf<|Ro<|Rc 2 [vb (t7==10),vb (t7==10)]<|Rk<|Runs.canon (gJ c3 o5 b_6 t7 (t7==10)) Cz ?_
   exact iw c_ op_ o_ c3 o5 b_6 t7 (t7==10) r h
theorem qI (c_:Choice) (op_:Int) (o_:Operand) (r:Choice) (h:fp c_ op_ o_=some r):Runs L F60.body ⟨a9 [.d (Choice.d c_),.i op_,.d (Operand.d o_)] 0,ay (fun _=>none) []⟩ (iU c_ op_ o_ r):=by
 unfold fp at h
 refine Sq<|Ro<|Rc 3 [⟨.ptr [3] 0 0,[([3],some (.cells [.b c_.I.Lock,.i c_.I.Rep,.i c_.I.Seg,.y c_.I.Op,.i c_.I.Mod,.i c_.I.Reg,.i c_.I.RM,.w c_.I.Disp,.w c_.I.Imm,.w c_.I.Sel,.i c_.Disp.N,.i c_.Disp.From,.i c_.Disp.Which,.i c_.Disp.Type_,.i c_.Disp.Wants,.b c_.Disp.Known,.i c_.Imm.N,.i c_.Imm.From,.i c_.Imm.Which,.i c_.Imm.Type_,.i c_.Imm.Wants,.b c_.Imm.Known,.b c_.HasD,.b c_.HasI,.b c_.Jumps] 0))]⟩,⟨.ptr [5] 0 0,[([5],some (.cells [.i o_.Kind,.i o_.N,.i o_.RM,.i o_.V.N,.i o_.V.From,.i o_.V.Which,.i o_.V.Type_,.i o_.V.Wants,.b o_.V.Known,.i o_.Type_,.i o_.Over,.b o_.Short] 0))]⟩,⟨.ptr [6] 0 0,[([6],some (.cells [.b false,.i 0,.i 0,.y 0,.i 0,.i 0,.i 0,.w 0,.w 0,.w 0,.i 0,.i 0,.i 0,.i 0,.i 0,.b false,.i 0,.i 0,.i 0,.i 0,.i 0,.b false,.b false,.b false,.b false] 0))]⟩] ?_
 refine Rk<|Sq<|Sq<|Ro<|Rc 1 [vi op_]<|Rk<|Runs.block<|Sq<|Ro<|Rc 2 [vb (op_==6),vb (op_==6)]<|Rk ?_
 cases hb_1:((op_==6):Bool) with
 | true =>
  replace h:=aa hb_1 h
  refine Ct<|Ro<|Rc 8 [vp [5] 0 3,vp [5] 0 3,vi o_.V.N,vw (IntKind.wrap .u16 o_.V.N),vw (ak .and .u16 (IntKind.wrap .u16 o_.V.N) 255),vp [3] 0 0,vp [3] 0 8,⟨.tup [],[([3],some (.cells [.b c_.I.Lock,.i c_.I.Rep,.i c_.I.Seg,.y c_.I.Op,.i c_.I.Mod,.i c_.I.Reg,.i c_.I.RM,.w c_.I.Disp,.w (ak .and .u16 (IntKind.wrap .u16 o_.V.N) 255),.w c_.I.Sel,.i c_.Disp.N,.i c_.Disp.From,.i c_.Disp.Which,.i c_.Disp.Type_,.i c_.Disp.Wants,.b c_.Disp.Known,.i c_.Imm.N,.i c_.Imm.From,.i c_.Imm.Which,.i c_.Imm.Type_,.i c_.Imm.Wants,.b c_.Imm.Known,.b c_.HasD,.b c_.HasI,.b c_.Jumps] 0))]⟩]<|Rd<|az<|ai<|Sq<|Ro<|Rc 2 [⟨.d (.agg [.bool c_.I.Lock,.int .i64 c_.I.Rep,.int .i64 c_.I.Seg,.int .u8 c_.I.Op,.int .i64 c_.I.Mod,.int .i64 c_.I.Reg,.int .i64 c_.I.RM,.int .u16 c_.I.Disp,.int .u16 (ak .and .u16 (IntKind.wrap .u16 o_.V.N) 255),.int .u16 c_.I.Sel,.int .i64 c_.Disp.N,.int .i64 c_.Disp.From,.int .i64 c_.Disp.Which,.int .i64 c_.Disp.Type_,.int .i64 c_.Disp.Wants,.bool c_.Disp.Known,.int .i64 c_.Imm.N,.int .i64 c_.Imm.From,.int .i64 c_.Imm.Which,.int .i64 c_.Imm.Type_,.int .i64 c_.Imm.Wants,.bool c_.Imm.Known,.bool c_.HasD,.bool c_.HasI,.bool c_.Jumps]),[]⟩,⟨.tup [],[([6],some (.cells [.b c_.I.Lock,.i c_.I.Rep,.i c_.I.Seg,.y c_.I.Op,.i c_.I.Mod,.i c_.I.Reg,.i c_.I.RM,.w c_.I.Disp,.w (ak .and .u16 (IntKind.wrap .u16 o_.V.N) 255),.w c_.I.Sel,.i c_.Disp.N,.i c_.Disp.From,.i c_.Disp.Which,.i c_.Disp.Type_,.i c_.Disp.Wants,.b c_.Disp.Known,.i c_.Imm.N,.i c_.Imm.From,.i c_.Imm.Which,.i c_.Imm.Type_,.i c_.Imm.Wants,.b c_.Imm.Known,.b c_.HasD,.b c_.HasI,.b c_.Jumps] 0))]⟩] ?_
  refine Rk<|Runs.ret ?_
  cases h
  exact Fq
 | false =>
  replace h:=ab hb_1 h
  refine Cf<|Sq<|Ro<|Rc 2 [vb (op_==8),vb (op_==8)]<|Rk ?_
  cases hb_2:((op_==8):Bool) with
  | true =>
   replace h:=aa hb_2 h
   refine Ct<|Ro<|Rc 7 [vp [5] 0 3,vp [5] 0 3,vi o_.V.N,vw (IntKind.wrap .u16 o_.V.N),vp [3] 0 0,vp [3] 0 8,⟨.tup [],[([3],some (.cells [.b c_.I.Lock,.i c_.I.Rep,.i c_.I.Seg,.y c_.I.Op,.i c_.I.Mod,.i c_.I.Reg,.i c_.I.RM,.w c_.I.Disp,.w (IntKind.wrap .u16 o_.V.N),.w c_.I.Sel,.i c_.Disp.N,.i c_.Disp.From,.i c_.Disp.Which,.i c_.Disp.Type_,.i c_.Disp.Wants,.b c_.Disp.Known,.i c_.Imm.N,.i c_.Imm.From,.i c_.Imm.Which,.i c_.Imm.Type_,.i c_.Imm.Wants,.b c_.Imm.Known,.b c_.HasD,.b c_.HasI,.b c_.Jumps] 0))]⟩]<|Rd<|az<|ai<|Sq<|Ro<|Rc 2 [⟨.d (.agg [.bool c_.I.Lock,.int .i64 c_.I.Rep,.int .i64 c_.I.Seg,.int .u8 c_.I.Op,.int .i64 c_.I.Mod,.int .i64 c_.I.Reg,.int .i64 c_.I.RM,.int .u16 c_.I.Disp,.int .u16 (IntKind.wrap .u16 o_.V.N),.int .u16 c_.I.Sel,.int .i64 c_.Disp.N,.int .i64 c_.Disp.From,.int .i64 c_.Disp.Which,.int .i64 c_.Disp.Type_,.int .i64 c_.Disp.Wants,.bool c_.Disp.Known,.int .i64 c_.Imm.N,.int .i64 c_.Imm.From,.int .i64 c_.Imm.Which,.int .i64 c_.Imm.Type_,.int .i64 c_.Imm.Wants,.bool c_.Imm.Known,.bool c_.HasD,.bool c_.HasI,.bool c_.Jumps]),[]⟩,⟨.tup [],[([6],some (.cells [.b c_.I.Lock,.i c_.I.Rep,.i c_.I.Seg,.y c_.I.Op,.i c_.I.Mod,.i c_.I.Reg,.i c_.I.RM,.w c_.I.Disp,.w (IntKind.wrap .u16 o_.V.N),.w c_.I.Sel,.i c_.Disp.N,.i c_.Disp.From,.i c_.Disp.Which,.i c_.Disp.Type_,.i c_.Disp.Wants,.b c_.Disp.Known,.i c_.Imm.N,.i c_.Imm.From,.i c_.Imm.Which,.i c_.Imm.Type_,.i c_.Imm.Wants,.b c_.Imm.Known,.b c_.HasD,.b c_.HasI,.b c_.Jumps] 0))]⟩] ?_
   refine Rk<|Runs.ret ?_
   cases h
   exact Fq
  | false =>
   replace h:=ab hb_2 h
   refine Cf<|Sq<|Sq<|Ro<|Rc 2 [vb (op_==7),vb (op_==7)]<|Rk ?_
   cases hb_3:((op_==7):Bool) with
   | true =>
    replace h:=aa hb_3 h
    refine Ct<|Runs.skip<|ai<|Runs.canon (eY c_ o_ ({ I:=({ Lock:=false,Rep:=0,Seg:=0,Op:=0,Mod:=0,Reg:=0,RM:=0,Disp:=0,Imm:=0,Sel:=0 }:Inst),Disp:=({ N:=0,From:=0,Which:=0,Type_:=0,Wants:=0,Known:=false }:api_Value),Imm:=({ N:=0,From:=0,Which:=0,Type_:=0,Wants:=0,Known:=false }:api_Value),HasD:=false,HasI:=false,Jumps:=false }:Choice) op_ true) Cz ?_
    exact ff c_ op_ o_ c_ o_ ({ I:=({ Lock:=false,Rep:=0,Seg:=0,Op:=0,Mod:=0,Reg:=0,RM:=0,Disp:=0,Imm:=0,Sel:=0 }:Inst),Disp:=({ N:=0,From:=0,Which:=0,Type_:=0,Wants:=0,Known:=false }:api_Value),Imm:=({ N:=0,From:=0,Which:=0,Type_:=0,Wants:=0,Known:=false }:api_Value),HasD:=false,HasI:=false,Jumps:=false }:Choice) op_ true r h
   | false =>
    replace h:=ab hb_3 h
    refine Cf<|Sq<|Ro<|Rc 2 [vb (op_==12),vb (op_==12)]<|Rk ?_
    cases hb_8:((op_==12):Bool) with
    | true =>
     replace h:=aa hb_8 h
     refine Ct<|Runs.skip<|ai<|Runs.canon (eY c_ o_ ({ I:=({ Lock:=false,Rep:=0,Seg:=0,Op:=0,Mod:=0,Reg:=0,RM:=0,Disp:=0,Imm:=0,Sel:=0 }:Inst),Disp:=({ N:=0,From:=0,Which:=0,Type_:=0,Wants:=0,Known:=false }:api_Value),Imm:=({ N:=0,From:=0,Which:=0,Type_:=0,Wants:=0,Known:=false }:api_Value),HasD:=false,HasI:=false,Jumps:=false }:Choice) op_ true) Cz ?_
     exact ff c_ op_ o_ c_ o_ ({ I:=({ Lock:=false,Rep:=0,Seg:=0,Op:=0,Mod:=0,Reg:=0,RM:=0,Disp:=0,Imm:=0,Sel:=0 }:Inst),Disp:=({ N:=0,From:=0,Which:=0,Type_:=0,Wants:=0,Known:=false }:api_Value),Imm:=({ N:=0,From:=0,Which:=0,Type_:=0,Wants:=0,Known:=false }:api_Value),HasD:=false,HasI:=false,Jumps:=false }:Choice) op_ true r h
    | false =>
     replace h:=ab hb_8 h
     refine Cf<|Ro<|Rc 2 [vb (op_==13),vb (op_==13)]<|Rk<|Runs.canon (eY c_ o_ ({ I:=({ Lock:=false,Rep:=0,Seg:=0,Op:=0,Mod:=0,Reg:=0,RM:=0,Disp:=0,Imm:=0,Sel:=0 }:Inst),Disp:=({ N:=0,From:=0,Which:=0,Type_:=0,Wants:=0,Known:=false }:api_Value),Imm:=({ N:=0,From:=0,Which:=0,Type_:=0,Wants:=0,Known:=false }:api_Value),HasD:=false,HasI:=false,Jumps:=false }:Choice) op_ (op_==13)) Cz ?_
     exact ff c_ op_ o_ c_ o_ ({ I:=({ Lock:=false,Rep:=0,Seg:=0,Op:=0,Mod:=0,Reg:=0,RM:=0,Disp:=0,Imm:=0,Sel:=0 }:Inst),Disp:=({ N:=0,From:=0,Which:=0,Type_:=0,Wants:=0,Known:=false }:api_Value),Imm:=({ N:=0,From:=0,Which:=0,Type_:=0,Wants:=0,Known:=false }:api_Value),HasD:=false,HasI:=false,Jumps:=false }:Choice) op_ (op_==13) r h
theorem rq (c_:Choice) (op_:Int) (o_:Operand) (r:Choice) (h:fp c_ op_ o_=some r):L 60 [.d (Choice.d c_),.i op_,.d (Operand.d o_)]=some (.d (Choice.d r),[.d (Choice.d c_),.i op_,.d (Operand.d o_)]):=by
 obtain ⟨p,⟨hne,hf⟩,hr⟩:=qI c_ op_ o_ r h
 obtain ⟨k,hk⟩:=aD (F:=F60) (args:=[.d (Choice.d c_),.i op_,.d (Operand.d o_)]) (ap:=[.d (Choice.d c_),.i op_,.d (Operand.d o_)]) (bx0:=ay (fun _=>none) []) rfl rfl (by kernel_rfl) ⟨p,⟨hne,hf⟩,hr⟩
 exact aA (k:=k) rfl hk
def fS (r6:Row) (ops7:(A2 Operand)) (b_8:Choice) (c9:Choice):St:=⟨tab [(6,.ptr [6] 0 0),(7,.ptr [7] 0 0),(8,.ptr [8] 0 0),(9,.ptr [9] 0 0)],be [([6],some (.cells [.i r6.Name,.i r6.A,.i r6.B,.b r6.Mod] 0)),([7],some (.cells [.i ops7.a0.Kind,.i ops7.a0.N,.i ops7.a0.RM,.i ops7.a0.V.N,.i ops7.a0.V.From,.i ops7.a0.V.Which,.i ops7.a0.V.Type_,.i ops7.a0.V.Wants,.b ops7.a0.V.Known,.i ops7.a0.Type_,.i ops7.a0.Over,.b ops7.a0.Short,.i ops7.a1.Kind,.i ops7.a1.N,.i ops7.a1.RM,.i ops7.a1.V.N,.i ops7.a1.V.From,.i ops7.a1.V.Which,.i ops7.a1.V.Type_,.i ops7.a1.V.Wants,.b ops7.a1.V.Known,.i ops7.a1.Type_,.i ops7.a1.Over,.b ops7.a1.Short] 0)),([8],some (.cells [.b b_8.I.Lock,.i b_8.I.Rep,.i b_8.I.Seg,.y b_8.I.Op,.i b_8.I.Mod,.i b_8.I.Reg,.i b_8.I.RM,.w b_8.I.Disp,.w b_8.I.Imm,.w b_8.I.Sel,.i b_8.Disp.N,.i b_8.Disp.From,.i b_8.Disp.Which,.i b_8.Disp.Type_,.i b_8.Disp.Wants,.b b_8.Disp.Known,.i b_8.Imm.N,.i b_8.Imm.From,.i b_8.Imm.Which,.i b_8.Imm.Type_,.i b_8.Imm.Wants,.b b_8.Imm.Known,.b b_8.HasD,.b b_8.HasI,.b b_8.Jumps] 0)),([9],some (.cells [.b c9.I.Lock,.i c9.I.Rep,.i c9.I.Seg,.y c9.I.Op,.i c9.I.Mod,.i c9.I.Reg,.i c9.I.RM,.w c9.I.Disp,.w c9.I.Imm,.w c9.I.Sel,.i c9.Disp.N,.i c9.Disp.From,.i c9.Disp.Which,.i c9.Disp.Type_,.i c9.Disp.Wants,.b c9.Disp.Known,.i c9.Imm.N,.i c9.Imm.From,.i c9.Imm.Which,.i c9.Imm.Type_,.i c9.Imm.Wants,.b c9.Imm.Known,.b c9.HasD,.b c9.HasI,.b c9.Jumps] 0))]⟩
def ix (ops7:(A2 Operand)) (b_8:Choice) (c9:Choice) (t28:(A2 Int)) (t29:Int):St:=⟨tab [(7,.ptr [7] 0 0),(8,.ptr [8] 0 0),(9,.ptr [9] 0 0),(28,.d (.agg [.int .i64 t28.a0,.int .i64 t28.a1])),(29,.i t29)],be [([7],some (.cells [.i ops7.a0.Kind,.i ops7.a0.N,.i ops7.a0.RM,.i ops7.a0.V.N,.i ops7.a0.V.From,.i ops7.a0.V.Which,.i ops7.a0.V.Type_,.i ops7.a0.V.Wants,.b ops7.a0.V.Known,.i ops7.a0.Type_,.i ops7.a0.Over,.b ops7.a0.Short,.i ops7.a1.Kind,.i ops7.a1.N,.i ops7.a1.RM,.i ops7.a1.V.N,.i ops7.a1.V.From,.i ops7.a1.V.Which,.i ops7.a1.V.Type_,.i ops7.a1.V.Wants,.b ops7.a1.V.Known,.i ops7.a1.Type_,.i ops7.a1.Over,.b ops7.a1.Short] 0)),([8],some (.cells [.b b_8.I.Lock,.i b_8.I.Rep,.i b_8.I.Seg,.y b_8.I.Op,.i b_8.I.Mod,.i b_8.I.Reg,.i b_8.I.RM,.w b_8.I.Disp,.w b_8.I.Imm,.w b_8.I.Sel,.i b_8.Disp.N,.i b_8.Disp.From,.i b_8.Disp.Which,.i b_8.Disp.Type_,.i b_8.Disp.Wants,.b b_8.Disp.Known,.i b_8.Imm.N,.i b_8.Imm.From,.i b_8.Imm.Which,.i b_8.Imm.Type_,.i b_8.Imm.Wants,.b b_8.Imm.Known,.b b_8.HasD,.b b_8.HasI,.b b_8.Jumps] 0)),([9],some (.cells [.b c9.I.Lock,.i c9.I.Rep,.i c9.I.Seg,.y c9.I.Op,.i c9.I.Mod,.i c9.I.Reg,.i c9.I.RM,.w c9.I.Disp,.w c9.I.Imm,.w c9.I.Sel,.i c9.Disp.N,.i c9.Disp.From,.i c9.Disp.Which,.i c9.Disp.Type_,.i c9.Disp.Wants,.b c9.Disp.Known,.i c9.Imm.N,.i c9.Imm.From,.i c9.Imm.Which,.i c9.Imm.Type_,.i c9.Imm.Wants,.b c9.Imm.Known,.b c9.HasD,.b c9.HasI,.b c9.Jumps] 0))]⟩
def qJ (b_8:Choice) (c9:Choice):St:=⟨tab [(8,.ptr [8] 0 0),(9,.ptr [9] 0 0)],be [([8],some (.cells [.b b_8.I.Lock,.i b_8.I.Rep,.i b_8.I.Seg,.y b_8.I.Op,.i b_8.I.Mod,.i b_8.I.Reg,.i b_8.I.RM,.w b_8.I.Disp,.w b_8.I.Imm,.w b_8.I.Sel,.i b_8.Disp.N,.i b_8.Disp.From,.i b_8.Disp.Which,.i b_8.Disp.Type_,.i b_8.Disp.Wants,.b b_8.Disp.Known,.i b_8.Imm.N,.i b_8.Imm.From,.i b_8.Imm.Which,.i b_8.Imm.Type_,.i b_8.Imm.Wants,.b b_8.Imm.Known,.b b_8.HasD,.b b_8.HasI,.b b_8.Jumps] 0)),([9],some (.cells [.b c9.I.Lock,.i c9.I.Rep,.i c9.I.Seg,.y c9.I.Op,.i c9.I.Mod,.i c9.I.Reg,.i c9.I.RM,.w c9.I.Disp,.w c9.I.Imm,.w c9.I.Sel,.i c9.Disp.N,.i c9.Disp.From,.i c9.Disp.Which,.i c9.Disp.Type_,.i c9.Disp.Wants,.b c9.Disp.Known,.i c9.Imm.N,.i c9.Imm.From,.i c9.Imm.Which,.i c9.Imm.Type_,.i c9.Imm.Wants,.b c9.Imm.Known,.b c9.HasD,.b c9.HasI,.b c9.Jumps] 0))]⟩
def nK (first_:Int) (reg_:Int) (r_:Row) (ops_:(A2 Operand)) (r:Choice) (p:Out × St):Prop:=(∀ i,p.1≠.exit i)∧aV F24 [.y first_,.i reg_,.d (Row.d r_),.d (.agg [.int .i64 ops_.a0.Kind,.int .i64 ops_.a0.N,.int .i64 ops_.a0.RM,.int .i64 ops_.a0.V.N,.int .i64 ops_.a0.V.From,.int .i64 ops_.a0.V.Which,.int .i64 ops_.a0.V.Type_,.int .i64 ops_.a0.V.Wants,.bool ops_.a0.V.Known,.int .i64 ops_.a0.Type_,.int .i64 ops_.a0.Over,.bool ops_.a0.Short,.int .i64 ops_.a1.Kind,.int .i64 ops_.a1.N,.int .i64 ops_.a1.RM,.int .i64 ops_.a1.V.N,.int .i64 ops_.a1.V.From,.int .i64 ops_.a1.V.Which,.int .i64 ops_.a1.V.Type_,.int .i64 ops_.a1.V.Wants,.bool ops_.a1.V.Known,.int .i64 ops_.a1.Type_,.int .i64 ops_.a1.Over,.bool ops_.a1.Short])] p.2=some (.d (Choice.d r),[.y first_,.i reg_,.d (Row.d r_),.d (.agg [.int .i64 ops_.a0.Kind,.int .i64 ops_.a0.N,.int .i64 ops_.a0.RM,.int .i64 ops_.a0.V.N,.int .i64 ops_.a0.V.From,.int .i64 ops_.a0.V.Which,.int .i64 ops_.a0.V.Type_,.int .i64 ops_.a0.V.Wants,.bool ops_.a0.V.Known,.int .i64 ops_.a0.Type_,.int .i64 ops_.a0.Over,.bool ops_.a0.Short,.int .i64 ops_.a1.Kind,.int .i64 ops_.a1.N,.int .i64 ops_.a1.RM,.int .i64 ops_.a1.V.N,.int .i64 ops_.a1.V.From,.int .i64 ops_.a1.V.Which,.int .i64 ops_.a1.V.Type_,.int .i64 ops_.a1.V.Wants,.bool ops_.a1.V.Known,.int .i64 ops_.a1.Type_,.int .i64 ops_.a1.Over,.bool ops_.a1.Short])])
def kN (first_:Int) (reg_:Int) (r_:Row) (ops_:(A2 Operand)) (ops7:(A2 Operand)) (b_8:Choice) (t28:(A2 Int)) (e:Choice) (p:Out × St):Prop:=p.1=.exit 0∧∃ g:Unit,Canon [] [8,9] [[8],[9]] p.2 (qJ b_8 e)
theorem nL (first_:Int) (reg_:Int) (r_:Row) (ops_:(A2 Operand)) (ops7:(A2 Operand)) (b_8:Choice) (c9:Choice) (t28:(A2 Int)) (t29:Int) (r:(Lp (Choice × Int) Choice)) (h:bE ops7 b_8 c9 t28 t29=some r):Runs L zx (ix ops7 b_8 c9 t28 t29) (LQ [] [7,8,9,28,29] [[7],[8],[9]] (fun (x:(Choice × Int)) (g:Unit)=>ix ops7 b_8 x.1 t28 x.2) (kN first_ reg_ r_ ops_ ops7 b_8 t28) r):=by
 unfold bE at h
 refine Sq<|Ro<|Rc 1 [vb (decide (t29<2))]<|Rk<|Sq ?_
 cases hb_3:((decide (t29<2)):Bool) with
 | true =>
  replace h:=aa hb_3 h
  refine Ct<|Runs.skip<|ai<|Sq<|Runs.block<|Sq<|Ro<|Rc 1 [vi t29] ?_
  obtain ⟨z_1,hz_1,h⟩:=ah h
  refine Rt (some 32) (.indexA 2 1 none) [] none [.d (.agg [.int .i64 t28.a0,.int .i64 t28.a1]),.i t29] (.i z_1) [] (s7 (e:=(D.int .i64)) (l:=t28.l) hz_1 rfl)<|Rc 2 [vi t29,vi z_1]<|Rk<|Ro<|Rc 3 [⟨.d (Choice.d c9),[]⟩,vi z_1,vi t29] ?_
  obtain ⟨z_2,hz_2,h⟩:=ah h
  refine Rt (some 36) (.iaddrA 2 12) [] none [.ptr [7] 0 0,.i t29] (.ptr [7] 0 (0+(t29).toNat*12+0)) [] (gX (l:=ops7.l) hz_2 rfl)<|Rt (some 37) (.load (some 12)) [] none [.ptr [7] 0 (0+(t29).toNat*12+0)] (.d (Operand.d z_2)) [] (qd (f:=fun a=>(Operand.d a).cells) (z:=12) (l:=ops7.l) (y:=z_2) (xs:=(Operand.d z_2).cells) hz_2 (fun _=>rfl) (by kernel_rfl) (by kernel_rfl) (by kernel_rfl)) ?_
  obtain ⟨r_2,hr_2,h⟩:=ah h
  have hc_2:=rp c9 z_1 z_2 r_2 hr_2
  refine Rt (some 38) (.callf 61) [] (some []) [.d (Choice.d c9),.i z_1,.d (Operand.d z_2)] (.d (Choice.d r_2)) [] (cc hc_2)<|Rc 2 [vi z_1,vi t29] ?_
  obtain ⟨z_3,hz_3,h⟩:=ah h
  refine Rt (some 41) (.iaddrA 2 12) [] none [.ptr [7] 0 0,.i t29] (.ptr [7] 0 (0+(t29).toNat*12+0)) [] (gX (l:=ops7.l) hz_3 rfl)<|Rt (some 42) (.load (some 12)) [[38]] none [.ptr [7] 0 (0+(t29).toNat*12+0)] (.d (Operand.d z_3)) [] (qd (f:=fun a=>(Operand.d a).cells) (z:=12) (l:=ops7.l) (y:=z_3) (xs:=(Operand.d z_3).cells) hz_3 (fun _=>rfl) (by kernel_rfl) (by kernel_rfl) (by kernel_rfl)) ?_
  obtain ⟨r_3,hr_3,h⟩:=ah h
  have hc_3:=rq r_2 z_1 z_3 r_3 hr_3
  refine Rt (some 43) (.callf 60) [] none [.d (Choice.d r_2),.i z_1,.d (Operand.d z_3)] (.d (Choice.d r_3)) [] (cc hc_3)<|Rc 1 [⟨.tup [],[([9],some (.cells [.b r_3.I.Lock,.i r_3.I.Rep,.i r_3.I.Seg,.y r_3.I.Op,.i r_3.I.Mod,.i r_3.I.Reg,.i r_3.I.RM,.w r_3.I.Disp,.w r_3.I.Imm,.w r_3.I.Sel,.i r_3.Disp.N,.i r_3.Disp.From,.i r_3.Disp.Which,.i r_3.Disp.Type_,.i r_3.Disp.Wants,.b r_3.Disp.Known,.i r_3.Imm.N,.i r_3.Imm.From,.i r_3.Imm.Which,.i r_3.Imm.Type_,.i r_3.Imm.Wants,.b r_3.Imm.Known,.b r_3.HasD,.b r_3.HasI,.b r_3.Jumps] 0))]⟩]<|Rd<|az<|ai<|Ro<|Rc 2 [vi (IntKind.wrap .i64 (t29+1)),vi (IntKind.wrap .i64 (t29+1))]<|Rd ?_
  obtain rfl:=sj h
  exact ⟨rfl,(),Cz⟩
 | false =>
  replace h:=ab hb_3 h
  refine Cf<|Runs.exit<|bz ?_
  obtain rfl:=sj h
  exact ⟨nofun,rfl,(),Cz⟩
theorem fT (first_:Int) (reg_:Int) (r_:Row) (ops_:(A2 Operand)) (r6:Row) (ops7:(A2 Operand)) (b_8:Choice) (c9:Choice) (r:Choice) (h:bU r6 ops7 b_8 c9=some r):Runs L zy (fS r6 ops7 b_8 c9) (nK first_ reg_ r_ ops_ r):=by
 unfold bU at h
 refine Sq<|Sq<|Ro<|Rc 6 [vp [6] 0 1,vi r6.A,vp [6] 0 2,vi r6.B,⟨.d (.agg [.int .i64 r6.A,.int .i64 r6.B]),[]⟩,vi 0]<|Rk<|Runs.block ?_
 obtain ⟨e_1,he_1,h⟩:=ah h
 refine Runs.loop (fun x:(Choice × Int)=>bE ops7 b_8 x.1 ({ a0:=r6.A,a1:=r6.B }:(A2 Int)) x.2) (fun (x:(Choice × Int)) (g:Unit)=>ix ops7 b_8 x.1 ({ a0:=r6.A,a1:=r6.B }:(A2 Int)) x.2) (kN first_ reg_ r_ ops_ ops7 b_8 ({ a0:=r6.A,a1:=r6.B }:(A2 Int))) (fun x g r hr=>nL first_ reg_ r_ ops_ ops7 b_8 x.1 ({ a0:=r6.A,a1:=r6.B }:(A2 Int)) x.2  r hr) () he_1 Cz ?_
 rintro ⟨o,s⟩ hp
 obtain ⟨ho,g_1,hk_1⟩:=hp
 have ho':o=.exit 0:=ho
 subst ho'
 refine cN<|ai<|Runs.canon _ hk_1<|Sq<|Ro<|Rc 2 [⟨.d (Choice.d e_1),[]⟩,⟨.tup [],[([8],some (.cells [.b e_1.I.Lock,.i e_1.I.Rep,.i e_1.I.Seg,.y e_1.I.Op,.i e_1.I.Mod,.i e_1.I.Reg,.i e_1.I.RM,.w e_1.I.Disp,.w e_1.I.Imm,.w e_1.I.Sel,.i e_1.Disp.N,.i e_1.Disp.From,.i e_1.Disp.Which,.i e_1.Disp.Type_,.i e_1.Disp.Wants,.b e_1.Disp.Known,.i e_1.Imm.N,.i e_1.Imm.From,.i e_1.Imm.Which,.i e_1.Imm.Type_,.i e_1.Imm.Wants,.b e_1.Imm.Known,.b e_1.HasD,.b e_1.HasI,.b e_1.Jumps] 0))]⟩]<|Rk<|Runs.ret ?_
 cases h
 exact Fq
theorem rr (first_:Int) (reg_:Int) (r_:Row) (ops_:(A2 Operand)) (r:Choice) (h:d9 first_ reg_ r_ ops_=some r):Runs L F24.body ⟨a9 [.y first_,.i reg_,.d (Row.d r_),.d (.agg [.int .i64 ops_.a0.Kind,.int .i64 ops_.a0.N,.int .i64 ops_.a0.RM,.int .i64 ops_.a0.V.N,.int .i64 ops_.a0.V.From,.int .i64 ops_.a0.V.Which,.int .i64 ops_.a0.V.Type_,.int .i64 ops_.a0.V.Wants,.bool ops_.a0.V.Known,.int .i64 ops_.a0.Type_,.int .i64 ops_.a0.Over,.bool ops_.a0.Short,.int .i64 ops_.a1.Kind,.int .i64 ops_.a1.N,.int .i64 ops_.a1.RM,.int .i64 ops_.a1.V.N,.int .i64 ops_.a1.V.From,.int .i64 ops_.a1.V.Which,.int .i64 ops_.a1.V.Type_,.int .i64 ops_.a1.V.Wants,.bool ops_.a1.V.Known,.int .i64 ops_.a1.Type_,.int .i64 ops_.a1.Over,.bool ops_.a1.Short])] 0,ay (fun _=>none) []⟩ (nK first_ reg_ r_ ops_ r):=by
 unfold d9 at h
 refine Sq<|Ro<|Rc 3 [⟨.ptr [6] 0 0,[([6],some (.cells [.i r_.Name,.i r_.A,.i r_.B,.b r_.Mod] 0))]⟩,⟨.ptr [7] 0 0,[([7],some (.cells [.i ops_.a0.Kind,.i ops_.a0.N,.i ops_.a0.RM,.i ops_.a0.V.N,.i ops_.a0.V.From,.i ops_.a0.V.Which,.i ops_.a0.V.Type_,.i ops_.a0.V.Wants,.b ops_.a0.V.Known,.i ops_.a0.Type_,.i ops_.a0.Over,.b ops_.a0.Short,.i ops_.a1.Kind,.i ops_.a1.N,.i ops_.a1.RM,.i ops_.a1.V.N,.i ops_.a1.V.From,.i ops_.a1.V.Which,.i ops_.a1.V.Type_,.i ops_.a1.V.Wants,.b ops_.a1.V.Known,.i ops_.a1.Type_,.i ops_.a1.Over,.b ops_.a1.Short] 0))]⟩,⟨.ptr [8] 0 0,[([8],some (.cells [.b false,.i 0,.i 0,.y 0,.i 0,.i 0,.i 0,.w 0,.w 0,.w 0,.i 0,.i 0,.i 0,.i 0,.i 0,.b false,.i 0,.i 0,.i 0,.i 0,.i 0,.b false,.b false,.b false,.b false] 0))]⟩]<|Rk<|Sq<|Ro<|Rc 5 [vy first_,⟨.d (.agg [.bool false,.int .i64 0,.int .i64 0,.int .u8 first_,.int .i64 0,.int .i64 0,.int .i64 0,.int .u16 0,.int .u16 0,.int .u16 0]),[]⟩,⟨.d (.agg [.bool false,.int .i64 0,.int .i64 0,.int .u8 first_,.int .i64 0,.int .i64 0,.int .i64 0,.int .u16 0,.int .u16 0,.int .u16 0,.int .i64 0,.int .i64 0,.int .i64 0,.int .i64 0,.int .i64 0,.bool false,.int .i64 0,.int .i64 0,.int .i64 0,.int .i64 0,.int .i64 0,.bool false,.bool false,.bool false,.bool false]),[]⟩,⟨.ptr [9] 0 0,[([9],some (.cells [.b false,.i 0,.i 0,.y 0,.i 0,.i 0,.i 0,.w 0,.w 0,.w 0,.i 0,.i 0,.i 0,.i 0,.i 0,.b false,.i 0,.i 0,.i 0,.i 0,.i 0,.b false,.b false,.b false,.b false] 0))]⟩,⟨.tup [],[([9],some (.cells [.b false,.i 0,.i 0,.y first_,.i 0,.i 0,.i 0,.w 0,.w 0,.w 0,.i 0,.i 0,.i 0,.i 0,.i 0,.b false,.i 0,.i 0,.i 0,.i 0,.i 0,.b false,.b false,.b false,.b false] 0))]⟩] ?_
 refine Rk<|Sq<|Sq<|Ro<|Rc 3 [vp [6] 0 3,vb r_.Mod,vb r_.Mod] ?_
 cases hb_1:(r_.Mod:Bool) with
 | true =>
  replace h:=aa hb_1 h
  refine Rc 1 [vy first_] ?_
  obtain ⟨r_1,hr_1,h⟩:=ah h
  have hc_1:=lR first_ r_1 hr_1
  refine Rt (some 19) (.callf 19) [] none [.y first_] (.b r_1) [] (cc hc_1)<|Rc 1 [vb r_1]<|Rk ?_
  cases hb_2:(r_1:Bool) with
  | true =>
   replace h:=aa hb_2 h
   refine Ct<|Ro<|Rc 4 [vi reg_,vp [9] 0 0,vp [9] 0 5,⟨.tup [],[([9],some (.cells [.b false,.i 0,.i 0,.y first_,.i 0,.i reg_,.i 0,.w 0,.w 0,.w 0,.i 0,.i 0,.i 0,.i 0,.i 0,.b false,.i 0,.i 0,.i 0,.i 0,.i 0,.b false,.b false,.b false,.b false] 0))]⟩]<|Rk<|Runs.canon (fS ({ r_ with Mod:=true }:Row) ops_ ({ I:=({ Lock:=false,Rep:=0,Seg:=0,Op:=0,Mod:=0,Reg:=0,RM:=0,Disp:=0,Imm:=0,Sel:=0 }:Inst),Disp:=({ N:=0,From:=0,Which:=0,Type_:=0,Wants:=0,Known:=false }:api_Value),Imm:=({ N:=0,From:=0,Which:=0,Type_:=0,Wants:=0,Known:=false }:api_Value),HasD:=false,HasI:=false,Jumps:=false }:Choice) ({ I:=({ Lock:=false,Rep:=0,Seg:=0,Op:=first_,Mod:=0,Reg:=reg_,RM:=0,Disp:=0,Imm:=0,Sel:=0 }:Inst),Disp:=({ N:=0,From:=0,Which:=0,Type_:=0,Wants:=0,Known:=false }:api_Value),Imm:=({ N:=0,From:=0,Which:=0,Type_:=0,Wants:=0,Known:=false }:api_Value),HasD:=false,HasI:=false,Jumps:=false }:Choice)) Cz ?_
   exact fT first_ reg_ r_ ops_ ({ r_ with Mod:=true }:Row) ops_ ({ I:=({ Lock:=false,Rep:=0,Seg:=0,Op:=0,Mod:=0,Reg:=0,RM:=0,Disp:=0,Imm:=0,Sel:=0 }:Inst),Disp:=({ N:=0,From:=0,Which:=0,Type_:=0,Wants:=0,Known:=false }:api_Value),Imm:=({ N:=0,From:=0,Which:=0,Type_:=0,Wants:=0,Known:=false }:api_Value),HasD:=false,HasI:=false,Jumps:=false }:Choice) ({ I:=({ Lock:=false,Rep:=0,Seg:=0,Op:=first_,Mod:=0,Reg:=reg_,RM:=0,Disp:=0,Imm:=0,Sel:=0 }:Inst),Disp:=({ N:=0,From:=0,Which:=0,Type_:=0,Wants:=0,Known:=false }:api_Value),Imm:=({ N:=0,From:=0,Which:=0,Type_:=0,Wants:=0,Known:=false }:api_Value),HasD:=false,HasI:=false,Jumps:=false }:Choice) r h
  | false =>
   replace h:=ab hb_2 h
   refine Cf<|Runs.skip<|ai<|Runs.canon (fS ({ r_ with Mod:=true }:Row) ops_ ({ I:=({ Lock:=false,Rep:=0,Seg:=0,Op:=0,Mod:=0,Reg:=0,RM:=0,Disp:=0,Imm:=0,Sel:=0 }:Inst),Disp:=({ N:=0,From:=0,Which:=0,Type_:=0,Wants:=0,Known:=false }:api_Value),Imm:=({ N:=0,From:=0,Which:=0,Type_:=0,Wants:=0,Known:=false }:api_Value),HasD:=false,HasI:=false,Jumps:=false }:Choice) ({ I:=({ Lock:=false,Rep:=0,Seg:=0,Op:=first_,Mod:=0,Reg:=0,RM:=0,Disp:=0,Imm:=0,Sel:=0 }:Inst),Disp:=({ N:=0,From:=0,Which:=0,Type_:=0,Wants:=0,Known:=false }:api_Value),Imm:=({ N:=0,From:=0,Which:=0,Type_:=0,Wants:=0,Known:=false }:api_Value),HasD:=false,HasI:=false,Jumps:=false }:Choice)) Cz ?_
   exact fT first_ reg_ r_ ops_ ({ r_ with Mod:=true }:Row) ops_ ({ I:=({ Lock:=false,Rep:=0,Seg:=0,Op:=0,Mod:=0,Reg:=0,RM:=0,Disp:=0,Imm:=0,Sel:=0 }:Inst),Disp:=({ N:=0,From:=0,Which:=0,Type_:=0,Wants:=0,Known:=false }:api_Value),Imm:=({ N:=0,From:=0,Which:=0,Type_:=0,Wants:=0,Known:=false }:api_Value),HasD:=false,HasI:=false,Jumps:=false }:Choice) ({ I:=({ Lock:=false,Rep:=0,Seg:=0,Op:=first_,Mod:=0,Reg:=0,RM:=0,Disp:=0,Imm:=0,Sel:=0 }:Inst),Disp:=({ N:=0,From:=0,Which:=0,Type_:=0,Wants:=0,Known:=false }:api_Value),Imm:=({ N:=0,From:=0,Which:=0,Type_:=0,Wants:=0,Known:=false }:api_Value),HasD:=false,HasI:=false,Jumps:=false }:Choice) r h
 | false =>
  replace h:=ab hb_1 h
  refine Rc 3 [vn,vn,vb false]<|Rk<|Cf<|Runs.skip<|ai<|Runs.canon (fS ({ r_ with Mod:=false }:Row) ops_ ({ I:=({ Lock:=false,Rep:=0,Seg:=0,Op:=0,Mod:=0,Reg:=0,RM:=0,Disp:=0,Imm:=0,Sel:=0 }:Inst),Disp:=({ N:=0,From:=0,Which:=0,Type_:=0,Wants:=0,Known:=false }:api_Value),Imm:=({ N:=0,From:=0,Which:=0,Type_:=0,Wants:=0,Known:=false }:api_Value),HasD:=false,HasI:=false,Jumps:=false }:Choice) ({ I:=({ Lock:=false,Rep:=0,Seg:=0,Op:=first_,Mod:=0,Reg:=0,RM:=0,Disp:=0,Imm:=0,Sel:=0 }:Inst),Disp:=({ N:=0,From:=0,Which:=0,Type_:=0,Wants:=0,Known:=false }:api_Value),Imm:=({ N:=0,From:=0,Which:=0,Type_:=0,Wants:=0,Known:=false }:api_Value),HasD:=false,HasI:=false,Jumps:=false }:Choice)) Cz ?_
  exact fT first_ reg_ r_ ops_ ({ r_ with Mod:=false }:Row) ops_ ({ I:=({ Lock:=false,Rep:=0,Seg:=0,Op:=0,Mod:=0,Reg:=0,RM:=0,Disp:=0,Imm:=0,Sel:=0 }:Inst),Disp:=({ N:=0,From:=0,Which:=0,Type_:=0,Wants:=0,Known:=false }:api_Value),Imm:=({ N:=0,From:=0,Which:=0,Type_:=0,Wants:=0,Known:=false }:api_Value),HasD:=false,HasI:=false,Jumps:=false }:Choice) ({ I:=({ Lock:=false,Rep:=0,Seg:=0,Op:=first_,Mod:=0,Reg:=0,RM:=0,Disp:=0,Imm:=0,Sel:=0 }:Inst),Disp:=({ N:=0,From:=0,Which:=0,Type_:=0,Wants:=0,Known:=false }:api_Value),Imm:=({ N:=0,From:=0,Which:=0,Type_:=0,Wants:=0,Known:=false }:api_Value),HasD:=false,HasI:=false,Jumps:=false }:Choice) r h
theorem tV (first_:Int) (reg_:Int) (r_:Row) (ops_:(A2 Operand)) (r:Choice) (h:d9 first_ reg_ r_ ops_=some r):L 24 [.y first_,.i reg_,.d (Row.d r_),.d (.agg [.int .i64 ops_.a0.Kind,.int .i64 ops_.a0.N,.int .i64 ops_.a0.RM,.int .i64 ops_.a0.V.N,.int .i64 ops_.a0.V.From,.int .i64 ops_.a0.V.Which,.int .i64 ops_.a0.V.Type_,.int .i64 ops_.a0.V.Wants,.bool ops_.a0.V.Known,.int .i64 ops_.a0.Type_,.int .i64 ops_.a0.Over,.bool ops_.a0.Short,.int .i64 ops_.a1.Kind,.int .i64 ops_.a1.N,.int .i64 ops_.a1.RM,.int .i64 ops_.a1.V.N,.int .i64 ops_.a1.V.From,.int .i64 ops_.a1.V.Which,.int .i64 ops_.a1.V.Type_,.int .i64 ops_.a1.V.Wants,.bool ops_.a1.V.Known,.int .i64 ops_.a1.Type_,.int .i64 ops_.a1.Over,.bool ops_.a1.Short])]=some (.d (Choice.d r),[.y first_,.i reg_,.d (Row.d r_),.d (.agg [.int .i64 ops_.a0.Kind,.int .i64 ops_.a0.N,.int .i64 ops_.a0.RM,.int .i64 ops_.a0.V.N,.int .i64 ops_.a0.V.From,.int .i64 ops_.a0.V.Which,.int .i64 ops_.a0.V.Type_,.int .i64 ops_.a0.V.Wants,.bool ops_.a0.V.Known,.int .i64 ops_.a0.Type_,.int .i64 ops_.a0.Over,.bool ops_.a0.Short,.int .i64 ops_.a1.Kind,.int .i64 ops_.a1.N,.int .i64 ops_.a1.RM,.int .i64 ops_.a1.V.N,.int .i64 ops_.a1.V.From,.int .i64 ops_.a1.V.Which,.int .i64 ops_.a1.V.Type_,.int .i64 ops_.a1.V.Wants,.bool ops_.a1.V.Known,.int .i64 ops_.a1.Type_,.int .i64 ops_.a1.Over,.bool ops_.a1.Short])]):=by
 obtain ⟨p,⟨hne,hf⟩,hr⟩:=rr first_ reg_ r_ ops_ r h
 obtain ⟨k,hk⟩:=aD (F:=F24) (args:=[.y first_,.i reg_,.d (Row.d r_),.d (.agg [.int .i64 ops_.a0.Kind,.int .i64 ops_.a0.N,.int .i64 ops_.a0.RM,.int .i64 ops_.a0.V.N,.int .i64 ops_.a0.V.From,.int .i64 ops_.a0.V.Which,.int .i64 ops_.a0.V.Type_,.int .i64 ops_.a0.V.Wants,.bool ops_.a0.V.Known,.int .i64 ops_.a0.Type_,.int .i64 ops_.a0.Over,.bool ops_.a0.Short,.int .i64 ops_.a1.Kind,.int .i64 ops_.a1.N,.int .i64 ops_.a1.RM,.int .i64 ops_.a1.V.N,.int .i64 ops_.a1.V.From,.int .i64 ops_.a1.V.Which,.int .i64 ops_.a1.V.Type_,.int .i64 ops_.a1.V.Wants,.bool ops_.a1.V.Known,.int .i64 ops_.a1.Type_,.int .i64 ops_.a1.Over,.bool ops_.a1.Short])]) (ap:=[.y first_,.i reg_,.d (Row.d r_),.d (.agg [.int .i64 ops_.a0.Kind,.int .i64 ops_.a0.N,.int .i64 ops_.a0.RM,.int .i64 ops_.a0.V.N,.int .i64 ops_.a0.V.From,.int .i64 ops_.a0.V.Which,.int .i64 ops_.a0.V.Type_,.int .i64 ops_.a0.V.Wants,.bool ops_.a0.V.Known,.int .i64 ops_.a0.Type_,.int .i64 ops_.a0.Over,.bool ops_.a0.Short,.int .i64 ops_.a1.Kind,.int .i64 ops_.a1.N,.int .i64 ops_.a1.RM,.int .i64 ops_.a1.V.N,.int .i64 ops_.a1.V.From,.int .i64 ops_.a1.V.Which,.int .i64 ops_.a1.V.Type_,.int .i64 ops_.a1.V.Wants,.bool ops_.a1.V.Known,.int .i64 ops_.a1.Type_,.int .i64 ops_.a1.Over,.bool ops_.a1.Short])]) (bx0:=ay (fun _=>none) []) rfl rfl (by kernel_rfl) ⟨p,⟨hne,hf⟩,hr⟩
 exact aA (k:=k) rfl hk
def wU (i_:Inst) (r:(Row × Bool)) (p:Out × St):Prop:=(∀ i,p.1≠.exit i)∧aV F28 [.d (Inst.d i_)] p.2=some (.tup [.d (Row.d r.1),.b r.2],[.d (Inst.d i_)])
theorem vq (i_:Inst) (r:(Row × Bool)) (h:fI i_=some r):Runs L F28.body ⟨a9 [.d (Inst.d i_)] 0,ay (fun _=>none) []⟩ (wU i_ r):=by
 unfold fI at h
 refine Sq<|Ro<|Rc 3 [⟨.ptr [1] 0 0,[([1],some (.cells [.b i_.Lock,.i i_.Rep,.i i_.Seg,.y i_.Op,.i i_.Mod,.i i_.Reg,.i i_.RM,.w i_.Disp,.w i_.Imm,.w i_.Sel] 0))]⟩,⟨.ptr [2] 0 0,[([2],some (.cells [.i 0,.i 0,.i 0,.b false] 0))]⟩,vb false]<|Rk<|Sq<|Sq<|Ro<|Rc 2 [vp [1] 0 3,vy i_.Op] ?_
 obtain ⟨r_1,hr_1,h⟩:=ah h
 have hc_1:=jG i_.Op r_1 hr_1
 refine Rt (some 6) (.callf 20) [] none [.y i_.Op] (.b r_1) [] (cc hc_1)<|Rk ?_
 cases hb_1:(r_1:Bool) with
 | true =>
  replace h:=aa hb_1 h
  refine Ct<|Sq<|Ro<|Rc 3 [⟨.d (.agg [.int .i64 0,.int .i64 0,.int .i64 0,.bool false]),[]⟩,⟨.tup [],[([2],some (.cells [.i 0,.i 0,.i 0,.b false] 0))]⟩,vb false]<|Rk<|Runs.ret<|ae ?_
  cases h
  exact Fq
 | false =>
  replace h:=ab hb_1 h
  refine Cf<|Runs.skip<|ai<|Sq<|Ro<|Rc 4 [vp [1] 0 3,vy i_.Op,vp [1] 0 5,vi i_.Reg] ?_
  obtain ⟨r_2,hr_2,h⟩:=ah h
  have hc_2:=vg i_.Op i_.Reg r_2 hr_2
  refine Rt (some 12) (.callf 21) [] none [.y i_.Op,.i i_.Reg] (.tup [.d (Row.d r_2.1),.b r_2.2]) [] (cc hc_2)<|Rc 4 [⟨.d (Row.d r_2.1),[]⟩,vb r_2.2,⟨.tup [],[([2],some (.cells [.i r_2.1.Name,.i r_2.1.A,.i r_2.1.B,.b r_2.1.Mod] 0))]⟩,vb r_2.2]<|Rk<|Runs.ret ?_
  cases h
  exact Fq
theorem qK (i_:Inst) (r:(Row × Bool)) (h:fI i_=some r):L 28 [.d (Inst.d i_)]=some (.tup [.d (Row.d r.1),.b r.2],[.d (Inst.d i_)]):=by
 obtain ⟨p,⟨hne,hf⟩,hr⟩:=vq i_ r h
 obtain ⟨k,hk⟩:=aD (F:=F28) (args:=[.d (Inst.d i_)]) (ap:=[.d (Inst.d i_)]) (bx0:=ay (fun _=>none) []) rfl rfl (by kernel_rfl) ⟨p,⟨hne,hf⟩,hr⟩
 exact aA (k:=k) rfl hk
def gK (i2:Inst):St:=⟨tab [(2,.ptr [2] 0 0)],be [([2],some (.cells [.b i2.Lock,.i i2.Rep,.i i2.Seg,.y i2.Op,.i i2.Mod,.i i2.Reg,.i i2.RM,.w i2.Disp,.w i2.Imm,.w i2.Sel] 0))]⟩
def lU (i_:Inst) (r_:Row) (r:Bool) (p:Out × St):Prop:=(∀ i,p.1≠.exit i)∧aV F62 [.d (Inst.d i_),.d (Row.d r_)] p.2=some (.b r,[.d (Inst.d i_),.d (Row.d r_)])
theorem iy (i_:Inst) (r_:Row) (i2:Inst) (r:Bool) (h:cW i2=some r):Runs L zO (gK i2) (lU i_ r_ r):=by
 unfold cW at h
 refine Sq<|Sq<|Ro<|Rc 4 [vp [2] 0 4,vi i2.Mod,vp [2] 0 6,vi i2.RM] ?_
 obtain ⟨r_1,hr_1,h⟩:=ah h
 have hc_1:=dk i2.Mod i2.RM r_1 hr_1
 refine Rt (some 76) (.callf 30) [] none [.i i2.Mod,.i i2.RM] (.i r_1) [] (cc hc_1)<|Rk<|Runs.block<|Sq<|Ro<|Rc 2 [vb (r_1==0),vb (r_1==0)]<|Rk ?_
 cases hb_15:((r_1==0):Bool) with
 | true =>
  replace h:=aa hb_15 h
  refine Ct<|Sq<|Ro<|Rc 4 [vp [2] 0 7,vw i2.Disp,vb (i2.Disp==0),vb (i2.Disp==0)]<|Rk<|Runs.ret<|aj<|ae ?_
  cases h
  exact Fq
 | false =>
  replace h:=ab hb_15 h
  refine Cf<|Sq<|Ro<|Rc 2 [vb (r_1==1),vb (r_1==1)]<|Rk ?_
  cases hb_16:((r_1==1):Bool) with
  | true =>
   replace h:=aa hb_16 h
   refine Ct<|Sq<|Ro<|Rc 2 [vp [2] 0 7,vw i2.Disp] ?_
   obtain ⟨r_2,hr_2,h⟩:=ah h
   have hc_2:=kM i2.Disp r_2 hr_2
   refine Rt (some 86) (.callf 69) [] none [.w i2.Disp] (.b r_2) [] (cc hc_2)<|Rc 1 [vb r_2]<|Rk<|Runs.ret<|aj<|ae ?_
   cases h
   exact Fq
  | false =>
   replace h:=ab hb_16 h
   refine Cf<|Runs.skip<|az<|ai<|Sq<|Ro<|Rc 1 [vb true]<|Rk<|Runs.ret ?_
   cases h
   exact Fq
theorem qL (i_:Inst) (r_:Row) (r:Bool) (h:ec i_ r_=some r):Runs L F62.body ⟨a9 [.d (Inst.d i_),.d (Row.d r_)] 0,ay (fun _=>none) []⟩ (lU i_ r_ r):=by
 unfold ec at h
 refine Sq<|Ro<|Rc 3 [⟨.ptr [2] 0 0,[([2],some (.cells [.b i_.Lock,.i i_.Rep,.i i_.Seg,.y i_.Op,.i i_.Mod,.i i_.Reg,.i i_.RM,.w i_.Disp,.w i_.Imm,.w i_.Sel] 0))]⟩,⟨.ptr [3] 0 0,[([3],some (.cells [.i r_.Name,.i r_.A,.i r_.B,.b r_.Mod] 0))]⟩,vb false]<|Rk<|Sq<|Sq<|Ro<|Rc 3 [vp [3] 0 3,vb r_.Mod,vb (!r_.Mod)]<|Rk ?_
 cases hb_1:((!r_.Mod):Bool) with
 | true =>
  replace h:=aa hb_1 h
  refine Ct<|Sq<|Ro<|Rc 4 [vp [2] 0 4,vi i_.Mod,vb (i_.Mod==0),vb (i_.Mod==0)] ?_
  cases hb_2:((i_.Mod==0):Bool) with
  | true =>
   replace h:=aa hb_2 h
   refine Rc 5 [vp [2] 0 5,vi i_.Reg,vb (i_.Reg==0),vb (i_.Reg==0),vb (i_.Reg==0)] ?_
   cases hb_3:((i_.Reg==0):Bool) with
   | true =>
    replace h:=aa hb_3 h
    refine Rc 5 [vp [2] 0 6,vi i_.RM,vb (i_.RM==0),vb (i_.RM==0),vb (i_.RM==0)] ?_
    cases hb_4:((i_.RM==0):Bool) with
    | true =>
     replace h:=aa hb_4 h
     refine Rc 5 [vp [2] 0 7,vw i_.Disp,vb (i_.Disp==0),vb (i_.Disp==0),vb (i_.Disp==0)]<|Rk<|Runs.ret<|ae ?_
     cases h
     exact Fq
    | false =>
     replace h:=ab hb_4 h
     refine Rc 5 [vn,vn,vn,vb false,vb false]<|Rk<|Runs.ret<|ae ?_
     cases h
     exact Fq
   | false =>
    replace h:=ab hb_3 h
    refine Rc 10 [vn,vn,vn,vb false,vb false,vn,vn,vn,vb false,vb false]<|Rk<|Runs.ret<|ae ?_
    cases h
    exact Fq
  | false =>
   replace h:=ab hb_2 h
   refine Rc 15 [vn,vn,vn,vb false,vb false,vn,vn,vn,vb false,vb false,vn,vn,vn,vb false,vb false]<|Rk<|Runs.ret<|ae ?_
   cases h
   exact Fq
 | false =>
  replace h:=ab hb_1 h
  refine Cf<|Runs.skip<|ai<|Sq<|Sq<|Ro<|Rc 4 [vp [2] 0 4,vi i_.Mod,vb (decide (i_.Mod<0)),vb (decide (i_.Mod<0))] ?_
  cases hb_5:((decide (i_.Mod<0)):Bool) with
  | true =>
   replace h:=aa hb_5 h
   refine Rc 24 [vn,vn,vn,vb true,vb true,vn,vn,vn,vb true,vb true,vn,vn,vn,vb true,vb true,vn,vn,vn,vb true,vb true,vn,vn,vn,vb true]<|Rk<|Ct<|Sq<|Ro<|Rc 1 [vb false]<|Rk<|Runs.ret<|ae ?_
   cases h
   exact Fq
  | false =>
   replace h:=ab hb_5 h
   refine Rc 5 [vp [2] 0 4,vi i_.Mod,vb (decide (i_.Mod>3)),vb (decide (i_.Mod>3)),vb (decide (i_.Mod>3))] ?_
   cases hb_6:((decide (i_.Mod>3)):Bool) with
   | true =>
    replace h:=aa hb_6 h
    refine Rc 19 [vn,vn,vn,vb true,vb true,vn,vn,vn,vb true,vb true,vn,vn,vn,vb true,vb true,vn,vn,vn,vb true]<|Rk<|Ct<|Sq<|Ro<|Rc 1 [vb false]<|Rk<|Runs.ret<|ae ?_
    cases h
    exact Fq
   | false =>
    replace h:=ab hb_6 h
    refine Rc 5 [vp [2] 0 5,vi i_.Reg,vb (decide (i_.Reg<0)),vb (decide (i_.Reg<0)),vb (decide (i_.Reg<0))] ?_
    cases hb_7:((decide (i_.Reg<0)):Bool) with
    | true =>
     replace h:=aa hb_7 h
     refine Rc 14 [vn,vn,vn,vb true,vb true,vn,vn,vn,vb true,vb true,vn,vn,vn,vb true]<|Rk<|Ct<|Sq<|Ro<|Rc 1 [vb false]<|Rk<|Runs.ret<|ae ?_
     cases h
     exact Fq
    | false =>
     replace h:=ab hb_7 h
     refine Rc 5 [vp [2] 0 5,vi i_.Reg,vb (decide (i_.Reg>7)),vb (decide (i_.Reg>7)),vb (decide (i_.Reg>7))] ?_
     cases hb_8:((decide (i_.Reg>7)):Bool) with
     | true =>
      replace h:=aa hb_8 h
      refine Rc 9 [vn,vn,vn,vb true,vb true,vn,vn,vn,vb true]<|Rk<|Ct<|Sq<|Ro<|Rc 1 [vb false]<|Rk<|Runs.ret<|ae ?_
      cases h
      exact Fq
     | false =>
      replace h:=ab hb_8 h
      refine Rc 5 [vp [2] 0 6,vi i_.RM,vb (decide (i_.RM<0)),vb (decide (i_.RM<0)),vb (decide (i_.RM<0))] ?_
      cases hb_9:((decide (i_.RM<0)):Bool) with
      | true =>
       replace h:=aa hb_9 h
       refine Rc 4 [vn,vn,vn,vb true]<|Rk<|Ct<|Sq<|Ro<|Rc 1 [vb false]<|Rk<|Runs.ret<|ae ?_
       cases h
       exact Fq
      | false =>
       replace h:=ab hb_9 h
       refine Rc 4 [vp [2] 0 6,vi i_.RM,vb (decide (i_.RM>7)),vb (decide (i_.RM>7))]<|Rk ?_
       cases hb_10:((decide (i_.RM>7)):Bool) with
       | true =>
        replace h:=aa hb_10 h
        refine Ct<|Sq<|Ro<|Rc 1 [vb false]<|Rk<|Runs.ret<|ae ?_
        cases h
        exact Fq
       | false =>
        replace h:=ab hb_10 h
        refine Cf<|Runs.skip<|ai<|Sq<|Sq<|Ro<|Rc 4 [vp [2] 0 4,vi i_.Mod,vb (i_.Mod==3),vb (i_.Mod==3)] ?_
        cases hb_11:((i_.Mod==3):Bool) with
        | true =>
         replace h:=aa hb_11 h
         refine Rc 4 [vp [3] 0 1,vi r_.A,vb (r_.A==19),vb (r_.A==19)] ?_
         cases hb_12:((r_.A==19):Bool) with
         | true =>
          replace h:=aa hb_12 h
          refine Rc 10 [vn,vn,vn,vb true,vb true,vn,vn,vn,vb true,vb true]<|Rk<|Ct<|Sq<|Ro<|Rc 1 [vb false]<|Rk<|Runs.ret<|ae ?_
          cases h
          exact Fq
         | false =>
          replace h:=ab hb_12 h
          refine Rc 5 [vp [3] 0 2,vi r_.B,vb (r_.B==19),vb (r_.B==19),vb (r_.B==19)] ?_
          cases hb_13:((r_.B==19):Bool) with
          | true =>
           replace h:=aa hb_13 h
           refine Rc 5 [vn,vn,vn,vb true,vb true]<|Rk<|Ct<|Sq<|Ro<|Rc 1 [vb false]<|Rk<|Runs.ret<|ae ?_
           cases h
           exact Fq
          | false =>
           replace h:=ab hb_13 h
           refine Rc 5 [vp [3] 0 2,vi r_.B,vb (r_.B==20),vb (r_.B==20),vb (r_.B==20)]<|Rk ?_
           cases hb_14:((r_.B==20):Bool) with
           | true =>
            replace h:=aa hb_14 h
            refine Ct<|Sq<|Ro<|Rc 1 [vb false]<|Rk<|Runs.ret<|ae ?_
            cases h
            exact Fq
           | false =>
            replace h:=ab hb_14 h
            refine Cf<|Runs.skip<|ai<|Runs.canon (gK i_) Cz ?_
            exact iy i_ r_ i_ r h
        | false =>
         replace h:=ab hb_11 h
         refine Rc 14 [vn,vn,vn,vn,vn,vn,vn,vn,vn,vn,vn,vn,vn,vb false]<|Rk<|Cf<|Runs.skip<|ai<|Runs.canon (gK i_) Cz ?_
         exact iy i_ r_ i_ r h
theorem ru (i_:Inst) (r_:Row) (r:Bool) (h:ec i_ r_=some r):L 62 [.d (Inst.d i_),.d (Row.d r_)]=some (.b r,[.d (Inst.d i_),.d (Row.d r_)]):=by
 obtain ⟨p,⟨hne,hf⟩,hr⟩:=qL i_ r_ r h
 obtain ⟨k,hk⟩:=aD (F:=F62) (args:=[.d (Inst.d i_),.d (Row.d r_)]) (ap:=[.d (Inst.d i_),.d (Row.d r_)]) (bx0:=ay (fun _=>none) []) rfl rfl (by kernel_rfl) ⟨p,⟨hne,hf⟩,hr⟩
 exact aA (k:=k) rfl hk
def fU (i2:Inst) (r3:Row) (t11:(A2 Int)) (t12:Int):St:=⟨tab [(2,.ptr [2] 0 0),(3,.ptr [3] 0 0),(11,.d (.agg [.int .i64 t11.a0,.int .i64 t11.a1])),(12,.i t12)],be [([2],some (.cells [.b i2.Lock,.i i2.Rep,.i i2.Seg,.y i2.Op,.i i2.Mod,.i i2.Reg,.i i2.RM,.w i2.Disp,.w i2.Imm,.w i2.Sel] 0)),([3],some (.cells [.i r3.Name,.i r3.A,.i r3.B,.b r3.Mod] 0))]⟩
def gL (i2:Inst) (r3:Row) (t11:(A2 Int)) (t12:Int) (t15:Int) (t41:Bool):St:=⟨tab [(2,.ptr [2] 0 0),(3,.ptr [3] 0 0),(11,.d (.agg [.int .i64 t11.a0,.int .i64 t11.a1])),(12,.i t12),(15,.i t15),(41,.b t41)],be [([2],some (.cells [.b i2.Lock,.i i2.Rep,.i i2.Seg,.y i2.Op,.i i2.Mod,.i i2.Reg,.i i2.RM,.w i2.Disp,.w i2.Imm,.w i2.Sel] 0)),([3],some (.cells [.i r3.Name,.i r3.A,.i r3.B,.b r3.Mod] 0))]⟩
def oZ (i2:Inst):St:=⟨tab [(2,.ptr [2] 0 0)],be [([2],some (.cells [.b i2.Lock,.i i2.Rep,.i i2.Seg,.y i2.Op,.i i2.Mod,.i i2.Reg,.i i2.RM,.w i2.Disp,.w i2.Imm,.w i2.Sel] 0))]⟩
def rv (i_:Inst) (r_:Row) (r:Bool) (p:Out × St):Prop:=(∀ i,p.1≠.exit i)∧aV F63 [.d (Inst.d i_),.d (Row.d r_)] p.2=some (.b r,[.d (Inst.d i_),.d (Row.d r_)])
def iz (i_:Inst) (r_:Row) (i2:Inst) (r3:Row) (t11:(A2 Int)) (e:(Bool ⊕ Unit)) (p:Out × St):Prop:=match e with
 | .inl x=>p.1=.ret∧aV F63 [.d (Inst.d i_),.d (Row.d r_)] p.2=some (.b x,[.d (Inst.d i_),.d (Row.d r_)])
 | .inr x=>p.1=.exit 0∧∃ g:Unit,Canon [] [2] [[2]] p.2 (oZ i2)
theorem iA (i_:Inst) (r_:Row) (i2:Inst) (r3:Row) (t11:(A2 Int)) (t12:Int) (t15:Int) (t41:Bool) (r:(Lp Int (Bool ⊕ Unit))) (h:dL i2 r3 t11 t12 t15 t41=some r):Runs L zP (gL i2 r3 t11 t12 t15 t41) (kB 2 (kB 1 (kS L zQ (LQ [] [2,3,11,12] [[2],[3]] (fun (x:Int) (g:Unit)=>fU i2 r3 t11 x) (iz i_ r_ i2 r3 t11) r)))):=by
 unfold dL at h
 cases hb_8:(t41:Bool) with
 | true =>
  replace h:=aa hb_8 h
  refine Ct<|Sq<|Ro<|Rc 2 [vp [2] 0 8,vw i2.Imm] ?_
  obtain ⟨r_1,hr_1,h⟩:=ah h
  have hc_1:=kM i2.Imm r_1 hr_1
  refine Rt (some 46) (.callf 69) [] none [.w i2.Imm] (.b r_1) [] (cc hc_1)<|Rc 1 [vb r_1] ?_
  cases hb_9:(r_1:Bool) with
  | true =>
   replace h:=aa hb_9 h
   refine Rc 5 [vp [2] 0 9,vw i2.Sel,vb (i2.Sel==0),vb (i2.Sel==0),vb (i2.Sel==0)]<|Rk<|Runs.ret<|aj<|aj<|ae ?_
   obtain rfl:=sj h
   exact ⟨nofun,rfl,(by kernel_rfl)⟩
  | false =>
   replace h:=ab hb_9 h
   refine Rc 5 [vn,vn,vn,vb false,vb false]<|Rk<|Runs.ret<|aj<|aj<|ae ?_
   obtain rfl:=sj h
   exact ⟨nofun,rfl,(by kernel_rfl)⟩
 | false =>
  replace h:=ab hb_8 h
  refine Cf<|Sq<|Sq<|Ro<|Rc 2 [vb (t15==7),vb (t15==7)]<|Rk ?_
  cases hb_10:((t15==7):Bool) with
  | true =>
   replace h:=aa hb_10 h
   refine Ct<|Runs.skip<|ai<|Ct<|Sq<|Ro<|Rc 4 [vp [2] 0 9,vw i2.Sel,vb (i2.Sel==0),vb (i2.Sel==0)]<|Rk<|Runs.ret<|aj<|aj<|ae ?_
   obtain rfl:=sj h
   exact ⟨nofun,rfl,(by kernel_rfl)⟩
  | false =>
   replace h:=ab hb_10 h
   refine Cf<|Sq<|Ro<|Rc 2 [vb (t15==10),vb (t15==10)]<|Rk ?_
   cases hb_11:((t15==10):Bool) with
   | true =>
    replace h:=aa hb_11 h
    refine Ct<|Runs.skip<|ai<|Ct<|Sq<|Ro<|Rc 4 [vp [2] 0 9,vw i2.Sel,vb (i2.Sel==0),vb (i2.Sel==0)]<|Rk<|Runs.ret<|aj<|aj<|ae ?_
    obtain rfl:=sj h
    exact ⟨nofun,rfl,(by kernel_rfl)⟩
   | false =>
    replace h:=ab hb_11 h
    refine Cf<|Sq<|Ro<|Rc 2 [vb (t15==12),vb (t15==12)]<|Rk ?_
    cases hb_12:((t15==12):Bool) with
    | true =>
     replace h:=aa hb_12 h
     refine Ct<|Runs.skip<|ai<|Ct<|Sq<|Ro<|Rc 4 [vp [2] 0 9,vw i2.Sel,vb (i2.Sel==0),vb (i2.Sel==0)]<|Rk<|Runs.ret<|aj<|aj<|ae ?_
     obtain rfl:=sj h
     exact ⟨nofun,rfl,(by kernel_rfl)⟩
    | false =>
     replace h:=ab hb_12 h
     refine Cf<|Ro<|Rc 2 [vb (t15==13),vb (t15==13)]<|Rk ?_
     cases hb_13:((t15==13):Bool) with
     | true =>
      replace h:=aa hb_13 h
      refine Ct<|Sq<|Ro<|Rc 4 [vp [2] 0 9,vw i2.Sel,vb (i2.Sel==0),vb (i2.Sel==0)]<|Rk<|Runs.ret<|aj<|aj<|ae ?_
      obtain rfl:=sj h
      exact ⟨nofun,rfl,(by kernel_rfl)⟩
     | false =>
      replace h:=ab hb_13 h
      refine Cf<|Sq<|Ro<|Rc 2 [vb (t15==11),vb (t15==11)]<|Rk ?_
      cases hb_14:((t15==11):Bool) with
      | true =>
       replace h:=aa hb_14 h
       refine Ct<|Sq<|Ro<|Rc 1 [vb true]<|Rk<|Runs.ret<|aj<|aj<|ae ?_
       obtain rfl:=sj h
       exact ⟨nofun,rfl,(by kernel_rfl)⟩
      | false =>
       replace h:=ab hb_14 h
       refine Cf<|Runs.skip<|az<|az<|ai<|Ro<|Rc 2 [vi (IntKind.wrap .i64 (t12+1)),vi (IntKind.wrap .i64 (t12+1))]<|Rd ?_
       obtain rfl:=sj h
       exact ⟨rfl,(),Cz⟩
theorem nM (i_:Inst) (r_:Row) (i2:Inst) (r3:Row) (t11:(A2 Int)) (t12:Int) (r:(Lp Int (Bool ⊕ Unit))) (h:bV i2 r3 t11 t12=some r):Runs L CL (fU i2 r3 t11 t12) (LQ [] [2,3,11,12] [[2],[3]] (fun (x:Int) (g:Unit)=>fU i2 r3 t11 x) (iz i_ r_ i2 r3 t11) r):=by
 unfold bV at h
 refine Sq<|Ro<|Rc 1 [vb (decide (t12<2))]<|Rk<|Sq ?_
 cases hb_1:((decide (t12<2)):Bool) with
 | true =>
  replace h:=aa hb_1 h
  refine Ct<|Runs.skip<|ai<|Sq<|Runs.block<|Sq<|Ro ?_
  obtain ⟨z_1,hz_1,h⟩:=ah h
  refine Rt (some 14) (.indexA 2 1 none) [] none [.d (.agg [.int .i64 t11.a0,.int .i64 t11.a1]),.i t12] (.i z_1) [] (s7 (e:=(D.int .i64)) (l:=t11.l) hz_1 rfl)<|Rc 1 [vi z_1]<|Rk<|Sq<|Ro<|Rc 1 [vi z_1]<|Rk<|Runs.block<|Sq<|Ro<|Rc 2 [vb (z_1==6),vb (z_1==6)]<|Rk ?_
  cases hb_2:((z_1==6):Bool) with
  | true =>
   replace h:=aa hb_2 h
   refine Ct<|Sq<|Ro<|Rc 4 [vp [2] 0 8,vw i2.Imm,vb (decide (i2.Imm<256)),vb (decide (i2.Imm<256))] ?_
   cases hb_3:((decide (i2.Imm<256)):Bool) with
   | true =>
    replace h:=aa hb_3 h
    refine Rc 5 [vp [2] 0 9,vw i2.Sel,vb (i2.Sel==0),vb (i2.Sel==0),vb (i2.Sel==0)] ?_
    cases hb_4:((i2.Sel==0):Bool) with
    | true =>
     replace h:=aa hb_4 h
     refine Rc 4 [vp [3] 0 0,vi r3.Name,vb (r3.Name != 70),vb (r3.Name != 70)] ?_
     cases hb_5:((r3.Name != 70):Bool) with
     | true =>
      replace h:=aa hb_5 h
      refine Rc 5 [vp [3] 0 0,vi r3.Name,vb (r3.Name != 71),vb (r3.Name != 71),vb (r3.Name != 71)] ?_
      cases hb_6:((r3.Name != 71):Bool) with
      | true =>
       replace h:=aa hb_6 h
       refine Rc 6 [vn,vn,vn,vb true,vb true,vb true]<|Rk<|Runs.ret<|aj<|aj<|ae ?_
       obtain rfl:=sj h
       exact ⟨nofun,rfl,(by kernel_rfl)⟩
      | false =>
       replace h:=ab hb_6 h
       refine Rc 6 [vp [2] 0 8,vw i2.Imm,vb (i2.Imm==10),vb (i2.Imm==10),vb (i2.Imm==10),vb (i2.Imm==10)]<|Rk<|Runs.ret<|aj<|aj<|ae ?_
       obtain rfl:=sj h
       exact ⟨nofun,rfl,(by kernel_rfl)⟩
     | false =>
      replace h:=ab hb_5 h
      refine Rc 11 [vn,vn,vn,vb false,vb false,vp [2] 0 8,vw i2.Imm,vb (i2.Imm==10),vb (i2.Imm==10),vb (i2.Imm==10),vb (i2.Imm==10)]<|Rk<|Runs.ret<|aj<|aj<|ae ?_
      obtain rfl:=sj h
      exact ⟨nofun,rfl,(by kernel_rfl)⟩
    | false =>
     replace h:=ab hb_4 h
     refine Rc 15 [vn,vn,vn,vn,vn,vn,vn,vn,vn,vn,vn,vn,vn,vb false,vb false]<|Rk<|Runs.ret<|aj<|aj<|ae ?_
     obtain rfl:=sj h
     exact ⟨nofun,rfl,(by kernel_rfl)⟩
   | false =>
    replace h:=ab hb_3 h
    refine Rc 20 [vn,vn,vn,vb false,vb false,vn,vn,vn,vn,vn,vn,vn,vn,vn,vn,vn,vn,vn,vb false,vb false]<|Rk<|Runs.ret<|aj<|aj<|ae ?_
    obtain rfl:=sj h
    exact ⟨nofun,rfl,(by kernel_rfl)⟩
  | false =>
   replace h:=ab hb_2 h
   refine Cf<|Sq<|Sq<|Ro<|Rc 2 [vb (z_1==8),vb (z_1==8)]<|Rk ?_
   cases hb_7:((z_1==8):Bool) with
   | true =>
    replace h:=aa hb_7 h
    refine Ct<|Runs.skip<|ai<|Runs.canon (gL i2 r3 t11 t12 z_1 true) Cz ?_
    exact iA i_ r_ i2 r3 t11 t12 z_1 true r h
   | false =>
    replace h:=ab hb_7 h
    refine Cf<|Ro<|Rc 2 [vb (z_1==9),vb (z_1==9)]<|Rk<|Runs.canon (gL i2 r3 t11 t12 z_1 (z_1==9)) Cz ?_
    exact iA i_ r_ i2 r3 t11 t12 z_1 (z_1==9) r h
 | false =>
  replace h:=ab hb_1 h
  refine Cf<|Runs.exit<|bz ?_
  obtain rfl:=sj h
  exact ⟨nofun,rfl,(),Cz⟩
theorem qM (i_:Inst) (r_:Row) (r:Bool) (h:dC i_ r_=some r):Runs L F63.body ⟨a9 [.d (Inst.d i_),.d (Row.d r_)] 0,ay (fun _=>none) []⟩ (rv i_ r_ r):=by
 unfold dC at h
 refine Sq<|Ro<|Rc 3 [⟨.ptr [2] 0 0,[([2],some (.cells [.b i_.Lock,.i i_.Rep,.i i_.Seg,.y i_.Op,.i i_.Mod,.i i_.Reg,.i i_.RM,.w i_.Disp,.w i_.Imm,.w i_.Sel] 0))]⟩,⟨.ptr [3] 0 0,[([3],some (.cells [.i r_.Name,.i r_.A,.i r_.B,.b r_.Mod] 0))]⟩,vb false]<|Rk<|Sq<|Sq<|Ro<|Rc 6 [vp [3] 0 1,vi r_.A,vp [3] 0 2,vi r_.B,⟨.d (.agg [.int .i64 r_.A,.int .i64 r_.B]),[]⟩,vi 0]<|Rk<|Runs.block ?_
 obtain ⟨e_1,he_1,h⟩:=ah h
 refine Runs.loop (fun x:Int=>bV i_ r_ ({ a0:=r_.A,a1:=r_.B }:(A2 Int)) x) (fun (x:Int) (g:Unit)=>fU i_ r_ ({ a0:=r_.A,a1:=r_.B }:(A2 Int)) x) (iz i_ r_ i_ r_ ({ a0:=r_.A,a1:=r_.B }:(A2 Int))) (fun x g r hr=>nM i_ r_ i_ r_ ({ a0:=r_.A,a1:=r_.B }:(A2 Int)) x  r hr) () he_1 Cz ?_
 rintro ⟨o,s⟩ hp
 cases e_1 with
 | inl e_2 =>
  obtain ⟨ho,hf⟩:=hp
  have ho':o=.ret:=ho
  subst ho'
  refine aj<|ae ?_
  obtain rfl:=sj h
  exact ⟨Out.ret_ne,hf⟩
 | inr e_3 =>
  obtain ⟨ho,g_1,hk_1⟩:=hp
  have ho':o=.exit 0:=ho
  subst ho'
  refine cN<|ai<|Runs.canon _ hk_1<|Sq<|Ro<|Rc 4 [vp [2] 0 8,vw i_.Imm,vb (i_.Imm==0),vb (i_.Imm==0)] ?_
  cases hb_1:((i_.Imm==0):Bool) with
  | true =>
   replace h:=aa hb_1 h
   refine Rc 5 [vp [2] 0 9,vw i_.Sel,vb (i_.Sel==0),vb (i_.Sel==0),vb (i_.Sel==0)]<|Rk<|Runs.ret ?_
   cases h
   exact Fq
  | false =>
   replace h:=ab hb_1 h
   refine Rc 5 [vn,vn,vn,vb false,vb false]<|Rk<|Runs.ret ?_
   cases h
   exact Fq
theorem rx (i_:Inst) (r_:Row) (r:Bool) (h:dC i_ r_=some r):L 63 [.d (Inst.d i_),.d (Row.d r_)]=some (.b r,[.d (Inst.d i_),.d (Row.d r_)]):=by
 obtain ⟨p,⟨hne,hf⟩,hr⟩:=qM i_ r_ r h
 obtain ⟨k,hk⟩:=aD (F:=F63) (args:=[.d (Inst.d i_),.d (Row.d r_)]) (ap:=[.d (Inst.d i_),.d (Row.d r_)]) (bx0:=ay (fun _=>none) []) rfl rfl (by kernel_rfl) ⟨p,⟨hne,hf⟩,hr⟩
 exact aA (k:=k) rfl hk
def cC (t3:Int) (t4:Bool):St:=⟨tab [(3,.i t3),(4,.b t4)],be []⟩
def lV (name_:Int) (r:Int) (p:Out × St):Prop:=(∀ i,p.1≠.exit i)∧aV F71 [.i name_] p.2=some (.i r,[.i name_])
theorem cn (name_:Int) (t3:Int) (t4:Bool) (r:Int) (h:bH t3 t4=some r):Runs L zW (cC t3 t4) (kB 0 (kS L zX (lV name_ r))):=by
 unfold bH at h
 cases hb_2:(t4:Bool) with
 | true =>
  replace h:=aa hb_2 h
  refine Ct<|Sq<|Ro<|Rc 1 [vi 1]<|Rk<|Runs.ret<|aj<|ae ?_
  cases h
  exact Fq
 | false =>
  replace h:=ab hb_2 h
  refine Cf<|Sq<|Sq<|Ro<|Rc 2 [vb (t3==48),vb (t3==48)]<|Rk ?_
  cases hb_3:((t3==48):Bool) with
  | true =>
   replace h:=aa hb_3 h
   refine Ct<|Runs.skip<|ai<|Ct<|Sq<|Ro<|Rc 1 [vi 2]<|Rk<|Runs.ret<|aj<|ae ?_
   cases h
   exact Fq
  | false =>
   replace h:=ab hb_3 h
   refine Cf<|Sq<|Ro<|Rc 2 [vb (t3==49),vb (t3==49)]<|Rk ?_
   cases hb_4:((t3==49):Bool) with
   | true =>
    replace h:=aa hb_4 h
    refine Ct<|Runs.skip<|ai<|Ct<|Sq<|Ro<|Rc 1 [vi 2]<|Rk<|Runs.ret<|aj<|ae ?_
    cases h
    exact Fq
   | false =>
    replace h:=ab hb_4 h
    refine Cf<|Sq<|Ro<|Rc 2 [vb (t3==54),vb (t3==54)]<|Rk ?_
    cases hb_5:((t3==54):Bool) with
    | true =>
     replace h:=aa hb_5 h
     refine Ct<|Runs.skip<|ai<|Ct<|Sq<|Ro<|Rc 1 [vi 2]<|Rk<|Runs.ret<|aj<|ae ?_
     cases h
     exact Fq
    | false =>
     replace h:=ab hb_5 h
     refine Cf<|Ro<|Rc 2 [vb (t3==55),vb (t3==55)]<|Rk ?_
     cases hb_6:((t3==55):Bool) with
     | true =>
      replace h:=aa hb_6 h
      refine Ct<|Sq<|Ro<|Rc 1 [vi 2]<|Rk<|Runs.ret<|aj<|ae ?_
      cases h
      exact Fq
     | false =>
      replace h:=ab hb_6 h
      refine Cf<|Runs.skip<|az<|ai<|Sq<|Ro<|Rc 1 [vi 0]<|Rk<|Runs.ret ?_
      cases h
      exact Fq
theorem qN (name_:Int) (r:Int) (h:fq name_=some r):Runs L F71.body ⟨a9 [.i name_] 0,ay (fun _=>none) []⟩ (lV name_ r):=by
 unfold fq at h
 refine Sq<|Ro<|Rc 1 [vi 0]<|Rk<|Sq<|Sq<|Ro<|Rc 1 [vi name_]<|Rk<|Runs.block<|Sq<|Sq<|Ro<|Rc 2 [vb (name_==46),vb (name_==46)]<|Rk ?_
 cases hb_1:((name_==46):Bool) with
 | true =>
  replace h:=aa hb_1 h
  refine Ct<|Runs.skip<|ai<|Runs.canon (cC name_ true) Cz ?_
  exact cn name_ name_ true r h
 | false =>
  replace h:=ab hb_1 h
  refine Cf<|Sq<|Ro<|Rc 2 [vb (name_==47),vb (name_==47)]<|Rk ?_
  cases hb_7:((name_==47):Bool) with
  | true =>
   replace h:=aa hb_7 h
   refine Ct<|Runs.skip<|ai<|Runs.canon (cC name_ true) Cz ?_
   exact cn name_ name_ true r h
  | false =>
   replace h:=ab hb_7 h
   refine Cf<|Sq<|Ro<|Rc 2 [vb (name_==50),vb (name_==50)]<|Rk ?_
   cases hb_8:((name_==50):Bool) with
   | true =>
    replace h:=aa hb_8 h
    refine Ct<|Runs.skip<|ai<|Runs.canon (cC name_ true) Cz ?_
    exact cn name_ name_ true r h
   | false =>
    replace h:=ab hb_8 h
    refine Cf<|Sq<|Ro<|Rc 2 [vb (name_==51),vb (name_==51)]<|Rk ?_
    cases hb_9:((name_==51):Bool) with
    | true =>
     replace h:=aa hb_9 h
     refine Ct<|Runs.skip<|ai<|Runs.canon (cC name_ true) Cz ?_
     exact cn name_ name_ true r h
    | false =>
     replace h:=ab hb_9 h
     refine Cf<|Sq<|Ro<|Rc 2 [vb (name_==52),vb (name_==52)]<|Rk ?_
     cases hb_10:((name_==52):Bool) with
     | true =>
      replace h:=aa hb_10 h
      refine Ct<|Runs.skip<|ai<|Runs.canon (cC name_ true) Cz ?_
      exact cn name_ name_ true r h
     | false =>
      replace h:=ab hb_10 h
      refine Cf<|Ro<|Rc 2 [vb (name_==53),vb (name_==53)]<|Rk<|Runs.canon (cC name_ (name_==53)) Cz ?_
      exact cn name_ name_ (name_==53) r h
theorem ry (name_:Int) (r:Int) (h:fq name_=some r):L 71 [.i name_]=some (.i r,[.i name_]):=by
 obtain ⟨p,⟨hne,hf⟩,hr⟩:=qN name_ r h
 obtain ⟨k,hk⟩:=aD (F:=F71) (args:=[.i name_]) (ap:=[.i name_]) (bx0:=ay (fun _=>none) []) rfl rfl (by kernel_rfl) ⟨p,⟨hne,hf⟩,hr⟩
 exact aA (k:=k) rfl hk
def o4 (i_:Inst) (r_:Row) (r:Bool) (p:Out × St):Prop:=(∀ i,p.1≠.exit i)∧aV F64 [.d (Inst.d i_),.d (Row.d r_)] p.2=some (.b r,[.d (Inst.d i_),.d (Row.d r_)])
theorem oq (i_:Inst) (r_:Row) (r:Bool) (h:dm i_ r_=some r):Runs L F64.body ⟨a9 [.d (Inst.d i_),.d (Row.d r_)] 0,ay (fun _=>none) []⟩ (o4 i_ r_ r):=by
 unfold dm at h
 refine Sq<|Ro<|Rc 3 [⟨.ptr [2] 0 0,[([2],some (.cells [.b i_.Lock,.i i_.Rep,.i i_.Seg,.y i_.Op,.i i_.Mod,.i i_.Reg,.i i_.RM,.w i_.Disp,.w i_.Imm,.w i_.Sel] 0))]⟩,⟨.ptr [3] 0 0,[([3],some (.cells [.i r_.Name,.i r_.A,.i r_.B,.b r_.Mod] 0))]⟩,vb false]<|Rk<|Sq<|Ro<|Rc 2 [vp [3] 0 0,vi r_.Name] ?_
 obtain ⟨r_1,hr_1,h⟩:=ah h
 have hc_1:=ry r_.Name r_1 hr_1
 refine Rt (some 8) (.callf 71) [] none [.i r_.Name] (.i r_1) [] (cc hc_1)<|Rc 1 [vi r_1]<|Rk<|Sq<|Sq<|Ro<|Rc 2 [vp [2] 0 1,vi i_.Rep]<|Rk<|Runs.block<|Sq<|Ro<|Rc 2 [vb (i_.Rep==0),vb (i_.Rep==0)]<|Rk ?_
 cases hb_1:((i_.Rep==0):Bool) with
 | true =>
  replace h:=aa hb_1 h
  refine Ct<|Runs.skip<|az<|ai<|Sq<|Ro<|Rc 4 [vp [2] 0 2,vi i_.Seg,vb (decide (i_.Seg≥0)),vb (decide (i_.Seg≥0))] ?_
  cases hb_2:((decide (i_.Seg≥0)):Bool) with
  | true =>
   replace h:=aa hb_2 h
   refine Rc 5 [vp [2] 0 2,vi i_.Seg,vb (decide (i_.Seg≤4)),vb (decide (i_.Seg≤4)),vb (decide (i_.Seg≤4))]<|Rk<|Runs.ret ?_
   cases h
   exact Fq
  | false =>
   replace h:=ab hb_2 h
   refine Rc 5 [vn,vn,vn,vb false,vb false]<|Rk<|Runs.ret ?_
   cases h
   exact Fq
 | false =>
  replace h:=ab hb_1 h
  refine Cf<|Sq<|Ro<|Rc 2 [vb (i_.Rep==1),vb (i_.Rep==1)]<|Rk ?_
  cases hb_3:((i_.Rep==1):Bool) with
  | true =>
   replace h:=aa hb_3 h
   refine Ct<|Sq<|Ro<|Rc 2 [vi r_1,vb (decide (r_1<2))]<|Rk ?_
   cases hb_4:((decide (r_1<2)):Bool) with
   | true =>
    replace h:=aa hb_4 h
    refine Ct<|Sq<|Ro<|Rc 1 [vb false]<|Rk<|Runs.ret<|aj<|ae ?_
    cases h
    exact Fq
   | false =>
    replace h:=ab hb_4 h
    refine Cf<|Runs.skip<|az<|ai<|Sq<|Ro<|Rc 4 [vp [2] 0 2,vi i_.Seg,vb (decide (i_.Seg≥0)),vb (decide (i_.Seg≥0))] ?_
    cases hb_5:((decide (i_.Seg≥0)):Bool) with
    | true =>
     replace h:=aa hb_5 h
     refine Rc 5 [vp [2] 0 2,vi i_.Seg,vb (decide (i_.Seg≤4)),vb (decide (i_.Seg≤4)),vb (decide (i_.Seg≤4))]<|Rk<|Runs.ret ?_
     cases h
     exact Fq
    | false =>
     replace h:=ab hb_5 h
     refine Rc 5 [vn,vn,vn,vb false,vb false]<|Rk<|Runs.ret ?_
     cases h
     exact Fq
  | false =>
   replace h:=ab hb_3 h
   refine Cf<|Sq<|Ro<|Rc 2 [vb (i_.Rep==2),vb (i_.Rep==2)]<|Rk ?_
   cases hb_6:((i_.Rep==2):Bool) with
   | true =>
    replace h:=aa hb_6 h
    refine Ct<|Sq<|Ro<|Rc 2 [vi r_1,vb (decide (r_1<1))]<|Rk ?_
    cases hb_7:((decide (r_1<1)):Bool) with
    | true =>
     replace h:=aa hb_7 h
     refine Ct<|Sq<|Ro<|Rc 1 [vb false]<|Rk<|Runs.ret<|aj<|ae ?_
     cases h
     exact Fq
    | false =>
     replace h:=ab hb_7 h
     refine Cf<|Runs.skip<|az<|ai<|Sq<|Ro<|Rc 4 [vp [2] 0 2,vi i_.Seg,vb (decide (i_.Seg≥0)),vb (decide (i_.Seg≥0))] ?_
     cases hb_8:((decide (i_.Seg≥0)):Bool) with
     | true =>
      replace h:=aa hb_8 h
      refine Rc 5 [vp [2] 0 2,vi i_.Seg,vb (decide (i_.Seg≤4)),vb (decide (i_.Seg≤4)),vb (decide (i_.Seg≤4))]<|Rk<|Runs.ret ?_
      cases h
      exact Fq
     | false =>
      replace h:=ab hb_8 h
      refine Rc 5 [vn,vn,vn,vb false,vb false]<|Rk<|Runs.ret ?_
      cases h
      exact Fq
   | false =>
    replace h:=ab hb_6 h
    refine Cf<|Sq<|Ro<|Rc 1 [vb false]<|Rk<|Runs.ret<|aj<|ae ?_
    cases h
    exact Fq
theorem o6 (i_:Inst) (r_:Row) (r:Bool) (h:dm i_ r_=some r):L 64 [.d (Inst.d i_),.d (Row.d r_)]=some (.b r,[.d (Inst.d i_),.d (Row.d r_)]):=by
 obtain ⟨p,⟨hne,hf⟩,hr⟩:=oq i_ r_ r h
 obtain ⟨k,hk⟩:=aD (F:=F64) (args:=[.d (Inst.d i_),.d (Row.d r_)]) (ap:=[.d (Inst.d i_),.d (Row.d r_)]) (bx0:=ay (fun _=>none) []) rfl rfl (by kernel_rfl) ⟨p,⟨hne,hf⟩,hr⟩
 exact aA (k:=k) rfl hk
def wV (i_:Inst) (r:Bool) (p:Out × St):Prop:=(∀ i,p.1≠.exit i)∧aV F25 [.d (Inst.d i_)] p.2=some (.b r,[.d (Inst.d i_)])
theorem vr (i_:Inst) (r:Bool) (h:fJ i_=some r):Runs L F25.body ⟨a9 [.d (Inst.d i_)] 0,ay (fun _=>none) []⟩ (wV i_ r):=by
 unfold fJ at h
 refine Sq<|Ro<|Rc 2 [⟨.ptr [1] 0 0,[([1],some (.cells [.b i_.Lock,.i i_.Rep,.i i_.Seg,.y i_.Op,.i i_.Mod,.i i_.Reg,.i i_.RM,.w i_.Disp,.w i_.Imm,.w i_.Sel] 0))]⟩,vb false]<|Rk<|Sq<|Ro<|Rc 1 [⟨.d (Inst.d i_),[]⟩] ?_
 obtain ⟨r_1,hr_1,h⟩:=ah h
 have hc_1:=qK i_ r_1 hr_1
 refine Rt (some 7) (.callf 28) [] none [.d (Inst.d i_)] (.tup [.d (Row.d r_1.1),.b r_1.2]) [] (cc hc_1)<|Rc 6 [⟨.tup [.d (Row.d r_1.1),.b r_1.2],[]⟩,⟨.d (Row.d r_1.1),[]⟩,vb r_1.2,⟨.ptr [3] 0 0,[([3],some (.cells [.i 0,.i 0,.i 0,.b false] 0))]⟩,⟨.tup [],[([3],some (.cells [.i r_1.1.Name,.i r_1.1.A,.i r_1.1.B,.b r_1.1.Mod] 0))]⟩,vb r_1.2]<|Rk<|Sq<|Ro<|Rc 2 [vb r_1.2,vb r_1.2] ?_
 cases hb_1:(r_1.2:Bool) with
 | true =>
  replace h:=aa hb_1 h
  refine Rc 2 [⟨.d (Inst.d i_),[]⟩,⟨.d (Row.d r_1.1),[]⟩] ?_
  obtain ⟨r_2,hr_2,h⟩:=ah h
  have hc_2:=ru i_ r_1.1 r_2 hr_2
  refine Rt (some 14) (.callf 62) [] none [.d (Inst.d i_),.d (Row.d r_1.1)] (.b r_2) [] (cc hc_2)<|Rc 2 [vb r_2,vb r_2] ?_
  cases hb_2:(r_2:Bool) with
  | true =>
   replace h:=aa hb_2 h
   refine Rc 2 [⟨.d (Inst.d i_),[]⟩,⟨.d (Row.d r_1.1),[]⟩] ?_
   obtain ⟨r_3,hr_3,h⟩:=ah h
   have hc_3:=rx i_ r_1.1 r_3 hr_3
   refine Rt (some 19) (.callf 63) [] none [.d (Inst.d i_),.d (Row.d r_1.1)] (.b r_3) [] (cc hc_3)<|Rc 2 [vb r_3,vb r_3] ?_
   cases hb_3:(r_3:Bool) with
   | true =>
    replace h:=aa hb_3 h
    refine Rc 2 [⟨.d (Inst.d i_),[]⟩,⟨.d (Row.d r_1.1),[]⟩] ?_
    obtain ⟨r_4,hr_4,h⟩:=ah h
    have hc_4:=o6 i_ r_1.1 r_4 hr_4
    refine Rt (some 24) (.callf 64) [] none [.d (Inst.d i_),.d (Row.d r_1.1)] (.b r_4) [] (cc hc_4)<|Rc 2 [vb r_4,vb r_4]<|Rk<|Runs.ret ?_
    cases h
    exact Fq
   | false =>
    replace h:=ab hb_3 h
    refine Rc 5 [vn,vn,vn,vb false,vb false]<|Rk<|Runs.ret ?_
    cases h
    exact Fq
  | false =>
   replace h:=ab hb_2 h
   refine Rc 10 [vn,vn,vn,vb false,vb false,vn,vn,vn,vb false,vb false]<|Rk<|Runs.ret ?_
   cases h
   exact Fq
 | false =>
  replace h:=ab hb_1 h
  refine Rc 15 [vn,vn,vn,vb false,vb false,vn,vn,vn,vb false,vb false,vn,vn,vn,vb false,vb false]<|Rk<|Runs.ret ?_
  cases h
  exact Fq
theorem qO (i_:Inst) (r:Bool) (h:fJ i_=some r):L 25 [.d (Inst.d i_)]=some (.b r,[.d (Inst.d i_)]):=by
 obtain ⟨p,⟨hne,hf⟩,hr⟩:=vr i_ r h
 obtain ⟨k,hk⟩:=aD (F:=F25) (args:=[.d (Inst.d i_)]) (ap:=[.d (Inst.d i_)]) (bx0:=ay (fun _=>none) []) rfl rfl (by kernel_rfl) ⟨p,⟨hne,hf⟩,hr⟩
 exact aA (k:=k) rfl hk
def vt (r_:Row) (r:Int) (p:Out × St):Prop:=(∀ i,p.1≠.exit i)∧aV F29 [.d (Row.d r_)] p.2=some (.i r,[.d (Row.d r_)])
theorem tW (r_:Row) (r:Int) (h:gl r_=some r):Runs L F29.body ⟨a9 [.d (Row.d r_)] 0,ay (fun _=>none) []⟩ (vt r_ r):=by
 unfold gl at h
 refine Sq<|Ro<|Rc 2 [⟨.ptr [1] 0 0,[([1],some (.cells [.i r_.Name,.i r_.A,.i r_.B,.b r_.Mod] 0))]⟩,vi 0]<|Rk<|Sq<|Ro<|Rc 2 [vp [1] 0 1,vi r_.A] ?_
 obtain ⟨r_1,hr_1,h⟩:=ah h
 have hc_1:=dM r_.A r_1 hr_1
 refine Rt (some 5) (.callf 59) [] (some []) [.i r_.A] (.i r_1) [] (cc hc_1)<|Rc 2 [vp [1] 0 2,vi r_.B] ?_
 obtain ⟨r_2,hr_2,h⟩:=ah h
 have hc_2:=dM r_.B r_2 hr_2
 refine Rt (some 8) (.callf 59) [] none [.i r_.B] (.i r_2) [] (cc hc_2)<|Rc 2 [vi (IntKind.wrap .i64 (r_1+r_2)),vi (IntKind.wrap .i64 (r_1+r_2))]<|Rk<|Runs.ret ?_
 cases h
 exact Fq
theorem vz (r_:Row) (r:Int) (h:gl r_=some r):L 29 [.d (Row.d r_)]=some (.i r,[.d (Row.d r_)]):=by
 obtain ⟨p,⟨hne,hf⟩,hr⟩:=tW r_ r h
 obtain ⟨k,hk⟩:=aD (F:=F29) (args:=[.d (Row.d r_)]) (ap:=[.d (Row.d r_)]) (bx0:=ay (fun _=>none) []) rfl rfl (by kernel_rfl) ⟨p,⟨hne,hf⟩,hr⟩
 exact aA (k:=k) rfl hk
def jL (i1:Inst) (r3:Row) (n5:Int):St:=⟨tab [(1,.ptr [1] 0 0),(3,.ptr [3] 0 0),(5,.i n5)],be [([1],some (.cells [.b i1.Lock,.i i1.Rep,.i i1.Seg,.y i1.Op,.i i1.Mod,.i i1.Reg,.i i1.RM,.w i1.Disp,.w i1.Imm,.w i1.Sel] 0)),([3],some (.cells [.i r3.Name,.i r3.A,.i r3.B,.b r3.Mod] 0))]⟩
def jM (i1:Inst) (r3:Row) (n5:Int):St:=⟨tab [(1,.ptr [1] 0 0),(3,.ptr [3] 0 0),(5,.i n5)],be [([1],some (.cells [.b i1.Lock,.i i1.Rep,.i i1.Seg,.y i1.Op,.i i1.Mod,.i i1.Reg,.i i1.RM,.w i1.Disp,.w i1.Imm,.w i1.Sel] 0)),([3],some (.cells [.i r3.Name,.i r3.A,.i r3.B,.b r3.Mod] 0))]⟩
def mX (i_:Inst) (r:Int) (p:Out × St):Prop:=(∀ i,p.1≠.exit i)∧aV F10 [.d (Inst.d i_)] p.2=some (.i r,[.d (Inst.d i_)])
theorem jX (i_:Inst) (i1:Inst) (r3:Row) (n5:Int) (r:Int) (h:eI i1 r3 n5=some r):Runs L zk (jM i1 r3 n5) (mX i_ r):=by
 unfold eI at h
 refine Sq<|Sq<|Ro<|Rc 3 [vp [1] 0 2,vi i1.Seg,vb (decide (i1.Seg>0))]<|Rk ?_
 cases hb_4:((decide (i1.Seg>0)):Bool) with
 | true =>
  replace h:=aa hb_4 h
  refine Ct<|Ro<|Rc 3 [vi n5,vi (IntKind.wrap .i64 (n5+1)),vi (IntKind.wrap .i64 (n5+1))]<|Rk<|Sq<|Sq<|Ro<|Rc 2 [vp [3] 0 3,vb r3.Mod]<|Rk ?_
  cases hb_5:(r3.Mod:Bool) with
  | true =>
   replace h:=aa hb_5 h
   refine Ct<|Ro<|Rc 5 [vi (IntKind.wrap .i64 (n5+1)),vp [1] 0 4,vi i1.Mod,vp [1] 0 6,vi i1.RM] ?_
   obtain ⟨r_4,hr_4,h⟩:=ah h
   have hc_4:=dk i1.Mod i1.RM r_4 hr_4
   refine Rt (some 38) (.callf 30) [] none [.i i1.Mod,.i i1.RM] (.i r_4) [] (cc hc_4)<|Rc 3 [vi (IntKind.wrap .i64 (1+r_4)),vi (IntKind.wrap .i64 ((IntKind.wrap .i64 (n5+1))+(IntKind.wrap .i64 (1+r_4)))),vi (IntKind.wrap .i64 ((IntKind.wrap .i64 (n5+1))+(IntKind.wrap .i64 (1+r_4))))]<|Rk<|Sq<|Ro<|Rc 2 [vi (IntKind.wrap .i64 ((IntKind.wrap .i64 (n5+1))+(IntKind.wrap .i64 (1+r_4)))),vi (IntKind.wrap .i64 ((IntKind.wrap .i64 (n5+1))+(IntKind.wrap .i64 (1+r_4))))]<|Rk<|Runs.ret ?_
   cases h
   exact Fq
  | false =>
   replace h:=ab hb_5 h
   refine Cf<|Runs.skip<|ai<|Sq<|Ro<|Rc 2 [vi (IntKind.wrap .i64 (n5+1)),vi (IntKind.wrap .i64 (n5+1))]<|Rk<|Runs.ret ?_
   cases h
   exact Fq
 | false =>
  replace h:=ab hb_4 h
  refine Cf<|Runs.skip<|ai<|Sq<|Sq<|Ro<|Rc 2 [vp [3] 0 3,vb r3.Mod]<|Rk ?_
  cases hb_6:(r3.Mod:Bool) with
  | true =>
   replace h:=aa hb_6 h
   refine Ct<|Ro<|Rc 5 [vi n5,vp [1] 0 4,vi i1.Mod,vp [1] 0 6,vi i1.RM] ?_
   obtain ⟨r_5,hr_5,h⟩:=ah h
   have hc_5:=dk i1.Mod i1.RM r_5 hr_5
   refine Rt (some 38) (.callf 30) [] none [.i i1.Mod,.i i1.RM] (.i r_5) [] (cc hc_5)<|Rc 3 [vi (IntKind.wrap .i64 (1+r_5)),vi (IntKind.wrap .i64 (n5+(IntKind.wrap .i64 (1+r_5)))),vi (IntKind.wrap .i64 (n5+(IntKind.wrap .i64 (1+r_5))))]<|Rk<|Sq<|Ro<|Rc 2 [vi (IntKind.wrap .i64 (n5+(IntKind.wrap .i64 (1+r_5)))),vi (IntKind.wrap .i64 (n5+(IntKind.wrap .i64 (1+r_5))))]<|Rk<|Runs.ret ?_
   cases h
   exact Fq
  | false =>
   replace h:=ab hb_6 h
   refine Cf<|Runs.skip<|ai<|Sq<|Ro<|Rc 2 [vi n5,vi n5]<|Rk<|Runs.ret ?_
   cases h
   exact Fq
theorem jY (i_:Inst) (i1:Inst) (r3:Row) (n5:Int) (r:Int) (h:db i1 r3 n5=some r):Runs L zl (jL i1 r3 n5) (mX i_ r):=by
 unfold db at h
 refine Sq<|Sq<|Ro<|Rc 3 [vp [1] 0 1,vi i1.Rep,vb (decide (i1.Rep>0))]<|Rk ?_
 cases hb_3:((decide (i1.Rep>0)):Bool) with
 | true =>
  replace h:=aa hb_3 h
  refine Ct<|Ro<|Rc 3 [vi n5,vi (IntKind.wrap .i64 (n5+1)),vi (IntKind.wrap .i64 (n5+1))]<|Rk<|Runs.canon (jM i1 r3 (IntKind.wrap .i64 (n5+1))) Cz ?_
  exact jX i_ i1 r3 (IntKind.wrap .i64 (n5+1)) r h
 | false =>
  replace h:=ab hb_3 h
  refine Cf<|Runs.skip<|ai<|Runs.canon (jM i1 r3 n5) Cz ?_
  exact jX i_ i1 r3 n5 r h
theorem vA (i_:Inst) (r:Int) (h:ed i_=some r):Runs L F10.body ⟨a9 [.d (Inst.d i_)] 0,ay (fun _=>none) []⟩ (mX i_ r):=by
 unfold ed at h
 refine Sq<|Ro<|Rc 2 [⟨.ptr [1] 0 0,[([1],some (.cells [.b i_.Lock,.i i_.Rep,.i i_.Seg,.y i_.Op,.i i_.Mod,.i i_.Reg,.i i_.RM,.w i_.Disp,.w i_.Imm,.w i_.Sel] 0))]⟩,vi 0]<|Rk<|Sq<|Sq<|Ro<|Rc 1 [⟨.d (Inst.d i_),[]⟩] ?_
 obtain ⟨r_1,hr_1,h⟩:=ah h
 have hc_1:=qO i_ r_1 hr_1
 refine Rt (some 7) (.callf 25) [] none [.d (Inst.d i_)] (.b r_1) [] (cc hc_1)<|Rc 1 [vb (!r_1)]<|Rk ?_
 cases hb_1:((!r_1):Bool) with
 | true =>
  replace h:=aa hb_1 h
  refine Ct<|Sq<|Ro<|Rc 1 [vi 0]<|Rk<|Runs.ret<|ae ?_
  cases h
  exact Fq
 | false =>
  replace h:=ab hb_1 h
  refine Cf<|Runs.skip<|ai<|Sq<|Ro<|Rc 1 [⟨.d (Inst.d i_),[]⟩] ?_
  obtain ⟨r_2,hr_2,h⟩:=ah h
  have hc_2:=qK i_ r_2 hr_2
  refine Rt (some 11) (.callf 28) [] none [.d (Inst.d i_)] (.tup [.d (Row.d r_2.1),.b r_2.2]) [] (cc hc_2)<|Rc 6 [⟨.tup [.d (Row.d r_2.1),.b r_2.2],[]⟩,⟨.d (Row.d r_2.1),[]⟩,vb r_2.2,⟨.ptr [3] 0 0,[([3],some (.cells [.i 0,.i 0,.i 0,.b false] 0))]⟩,⟨.tup [],[([3],some (.cells [.i r_2.1.Name,.i r_2.1.A,.i r_2.1.B,.b r_2.1.Mod] 0))]⟩,vb r_2.2]<|Rk<|Sq<|Ro<|Rc 1 [⟨.d (Row.d r_2.1),[]⟩] ?_
  obtain ⟨r_3,hr_3,h⟩:=ah h
  have hc_3:=vz r_2.1 r_3 hr_3
  refine Rt (some 15) (.callf 29) [] none [.d (Row.d r_2.1)] (.i r_3) [] (cc hc_3)<|Rc 2 [vi (IntKind.wrap .i64 (1+r_3)),vi (IntKind.wrap .i64 (1+r_3))]<|Rk<|Sq<|Sq<|Ro<|Rc 2 [vp [1] 0 0,vb i_.Lock]<|Rk ?_
  cases hb_2:(i_.Lock:Bool) with
  | true =>
   replace h:=aa hb_2 h
   refine Ct<|Ro<|Rc 3 [vi (IntKind.wrap .i64 (1+r_3)),vi (IntKind.wrap .i64 ((IntKind.wrap .i64 (1+r_3))+1)),vi (IntKind.wrap .i64 ((IntKind.wrap .i64 (1+r_3))+1))]<|Rk<|Runs.canon (jL ({ i_ with Lock:=true }:Inst) r_2.1 (IntKind.wrap .i64 ((IntKind.wrap .i64 (1+r_3))+1))) Cz ?_
   exact jY i_ ({ i_ with Lock:=true }:Inst) r_2.1 (IntKind.wrap .i64 ((IntKind.wrap .i64 (1+r_3))+1)) r h
  | false =>
   replace h:=ab hb_2 h
   refine Cf<|Runs.skip<|ai<|Runs.canon (jL ({ i_ with Lock:=false }:Inst) r_2.1 (IntKind.wrap .i64 (1+r_3))) Cz ?_
   exact jY i_ ({ i_ with Lock:=false }:Inst) r_2.1 (IntKind.wrap .i64 (1+r_3)) r h
theorem mZ (i_:Inst) (r:Int) (h:ed i_=some r):L 10 [.d (Inst.d i_)]=some (.i r,[.d (Inst.d i_)]):=by
 obtain ⟨p,⟨hne,hf⟩,hr⟩:=vA i_ r h
 obtain ⟨k,hk⟩:=aD (F:=F10) (args:=[.d (Inst.d i_)]) (ap:=[.d (Inst.d i_)]) (bx0:=ay (fun _=>none) []) rfl rfl (by kernel_rfl) ⟨p,⟨hne,hf⟩,hr⟩
 exact aA (k:=k) rfl hk
def qP (out3:(List Choice)) (l0:(List Choice)) (v_3:Nat):St:=⟨tab [(0,.d (.sl (List.map Choice.d l0))),(3,.ref [3] v_3 0 (List.map Choice.d out3).length 25)],be [([3],some (.arr (List.map Choice.d out3) v_3 false))]⟩
def iB (out3:(List Choice)) (l0:(List Choice)) (n4:Int) (v_3:Nat):St:=⟨tab [(0,.d (.sl (List.map Choice.d l0))),(3,.ref [3] v_3 0 (List.map Choice.d out3).length 25),(4,.i n4)],be [([3],some (.arr (List.map Choice.d out3) v_3 false))]⟩
def gM (out3:(List Choice)) (l0:(List Choice)) (n4:Int) (t11:(List Choice)) (t12:Int) (t13:Int) (v_3:Nat):St:=⟨tab [(0,.d (.sl (List.map Choice.d l0))),(3,.ref [3] v_3 0 (List.map Choice.d out3).length 25),(4,.i n4),(11,.d (.sl (List.map Choice.d t11))),(12,.i t12),(13,.i t13)],be [([3],some (.arr (List.map Choice.d out3) v_3 false))]⟩
def o7 (out3:(List Choice)) (l0:(List Choice)) (n4:Int) (v_3:Nat):St:=⟨tab [(0,.d (.sl (List.map Choice.d l0))),(3,.ref [3] v_3 0 (List.map Choice.d out3).length 25),(4,.i n4)],be [([3],some (.arr (List.map Choice.d out3) v_3 false))]⟩
def o8 (out3:(List Choice)) (v_3:Nat):St:=⟨tab [(3,.ref [3] v_3 0 (List.map Choice.d out3).length 25)],be [([3],some (.arr (List.map Choice.d out3) v_3 false))]⟩
def rz (l_:(List Choice)) (r:(List Choice)) (p:Out × St):Prop:=(∀ i,p.1≠.exit i)∧aV F26 [.d (.sl (List.map Choice.d l_))] p.2=some (.arr false 25 (List.map Choice.d r),[.d (.sl (List.map Choice.d l_))])
def jZ (l_:(List Choice)) (l0:(List Choice)) (n4:Int) (t11:(List Choice)) (t12:Int) (e:(List Choice)) (p:Out × St):Prop:=p.1=.exit 2∧∃ g:Nat,Canon [] [0,3,4] [[3]] p.2 (o7 e l0 n4 g)
def kO (l_:(List Choice)) (l0:(List Choice)) (e:(List Choice)) (p:Out × St):Prop:=p.1=.exit 0∧∃ g:Nat,Canon [] [3] [[3]] p.2 (o8 e g)
theorem m2 (l_:(List Choice)) (out3:(List Choice)) (l0:(List Choice)) (n4:Int) (t11:(List Choice)) (t12:Int) (t13:Int) (v_3:Nat) (r:(Lp ((List Choice) × Int) (List Choice))) (h:bo out3 l0 n4 t11 t12 t13=some r):Runs L zz (gM out3 l0 n4 t11 t12 t13 v_3) (LQ [] [0,3,4,11,12,13] [[3]] (fun (x:((List Choice) × Int)) (g:Nat)=>gM x.1 l0 n4 t11 t12 x.2 g) (jZ l_ l0 n4 t11 t12) r):=by
 unfold bo at h
 refine Sq<|Ro<|Rc 1 [vb (decide (t13<t12))]<|Rk<|Sq ?_
 cases hb_2:((decide (t13<t12)):Bool) with
 | true =>
  replace h:=aa hb_2 h
  refine Ct<|Runs.skip<|ai<|Sq<|Runs.block<|Sq<|Ro ?_
  obtain ⟨z_1,hz_1,h⟩:=ah h
  refine Rt (some 15) (.iaddrS 25) [] none [.d (.sl (List.map Choice.d t11)),.i t13] (.elt (Choice.d z_1) 0) [] (s5 hz_1 (fun _=>rfl))<|Rc 3 [⟨.d (Choice.d z_1),[]⟩,⟨.ptr [6] 0 0,[([6],some (.cells [.b false,.i 0,.i 0,.y 0,.i 0,.i 0,.i 0,.w 0,.w 0,.w 0,.i 0,.i 0,.i 0,.i 0,.i 0,.b false,.i 0,.i 0,.i 0,.i 0,.i 0,.b false,.b false,.b false,.b false] 0))]⟩,⟨.tup [],[([6],some (.cells [.b z_1.I.Lock,.i z_1.I.Rep,.i z_1.I.Seg,.y z_1.I.Op,.i z_1.I.Mod,.i z_1.I.Reg,.i z_1.I.RM,.w z_1.I.Disp,.w z_1.I.Imm,.w z_1.I.Sel,.i z_1.Disp.N,.i z_1.Disp.From,.i z_1.Disp.Which,.i z_1.Disp.Type_,.i z_1.Disp.Wants,.b z_1.Disp.Known,.i z_1.Imm.N,.i z_1.Imm.From,.i z_1.Imm.Which,.i z_1.Imm.Type_,.i z_1.Imm.Wants,.b z_1.Imm.Known,.b z_1.HasD,.b z_1.HasI,.b z_1.Jumps] 0))]⟩]<|Rk<|Sq<|Ro<|Rc 2 [vp [6] 0 0,⟨.d (Inst.d z_1.I),[]⟩] ?_
  obtain ⟨r_1,hr_1,h⟩:=ah h
  have hc_1:=mZ z_1.I r_1 hr_1
  refine Rt (some 19) (.callf 10) [] none [.d (Inst.d z_1.I)] (.i r_1) [] (cc hc_1)<|Rc 2 [vi n4,vb (r_1==n4)]<|Rk ?_
  cases hb_3:((r_1==n4):Bool) with
  | true =>
   replace h:=aa hb_3 h
   refine Ct<|Ro<|Rc 3 [⟨.ref [3] v_3 0 (List.map Choice.d out3).length 25,[]⟩,⟨.d (Choice.d z_1),[]⟩,⟨.ref [24] 0 0 (List.map Choice.d ([z_1]:List Choice)).length 25,[([24],some (.arr (List.map Choice.d ([z_1]:List Choice)) 0 false))]⟩] ?_
   obtain ⟨z_2,hz_2,h⟩:=ah h
   refine Rt (some 25) (.append 25 168 false) [] none [.ref [3] v_3 0 (List.map Choice.d out3).length 25,.ref [24] 0 0 (List.map Choice.d ([z_1]:List Choice)).length 25] (.ref [3] (v_3+1) 0 (List.map Choice.d z_2).length 25) [([3],some (.arr (List.map Choice.d z_2) (v_3+1) false))] (qc (e:=Choice.d) (l:=out3) (fz:=false) (ws:=[]) (wy (e:=Choice.d) (l:=([z_1]:List Choice)) (fz:=false) (by kernel_rfl) (by kernel_rfl) rfl) (fun _=>rfl) hz_2 (by kernel_rfl) (by kernel_rfl) rfl)<|Rc 1 [⟨.ref [3] (v_3+1) 0 (List.map Choice.d z_2).length 25,[]⟩]<|Rd<|az<|ai<|Ro<|Rc 2 [vi (IntKind.wrap .i64 (t13+1)),vi (IntKind.wrap .i64 (t13+1))]<|Rd ?_
   obtain rfl:=sj h
   exact ⟨rfl,(v_3+1),Cz⟩
  | false =>
   replace h:=ab hb_3 h
   refine Cf<|Runs.skip<|az<|ai<|Ro<|Rc 2 [vi (IntKind.wrap .i64 (t13+1)),vi (IntKind.wrap .i64 (t13+1))]<|Rd ?_
   obtain rfl:=sj h
   exact ⟨rfl,v_3,Cz⟩
 | false =>
  replace h:=ab hb_2 h
  refine Cf<|Runs.exit<|bz ?_
  obtain rfl:=sj h
  exact ⟨nofun,rfl,v_3,Cz⟩
theorem nN (l_:(List Choice)) (out3:(List Choice)) (l0:(List Choice)) (n4:Int) (v_3:Nat) (r:(Lp ((List Choice) × Int) (List Choice))) (h:bW out3 l0 n4=some r):Runs L CH (iB out3 l0 n4 v_3) (LQ [] [0,3,4] [[3]] (fun (x:((List Choice) × Int)) (g:Nat)=>iB x.1 l0 x.2 g) (kO l_ l0) r):=by
 unfold bW at h
 refine Sq<|Sq<|Ro<|Rc 2 [vi n4,vb (decide (n4≤12))]<|Rk ?_
 cases hb_1:((decide (n4≤12)):Bool) with
 | true =>
  replace h:=aa hb_1 h
  refine Ct<|Runs.skip<|ai<|Sq<|Runs.block<|Sq<|Ro<|Rc 1 [⟨.d (.sl (List.map Choice.d l0)),[]⟩]<|Rt (some 12) .lenL [] none [.d (.sl (List.map Choice.d l0))] (.i (l0.length:Int)) [] (xn _)<|Rc 1 [vi 0]<|Rk<|Runs.block ?_
  obtain ⟨e_1,he_1,h⟩:=ah h
  refine Runs.loop (fun x:((List Choice) × Int)=>bo x.1 l0 n4 l0 (l0.length:Int) x.2) (fun (x:((List Choice) × Int)) (g:Nat)=>gM x.1 l0 n4 l0 (l0.length:Int) x.2 g) (jZ l_ l0 n4 l0 (l0.length:Int)) (fun x g r hr=>m2 l_ x.1 l0 n4 l0 (l0.length:Int) x.2 g r hr) v_3 he_1 Cz ?_
  rintro ⟨o,s⟩ hp
  obtain ⟨ho,g_1,hk_1⟩:=hp
  have ho':o=.exit 2:=ho
  subst ho'
  refine cN<|az<|ai<|Runs.canon _ hk_1<|Ro<|Rc 3 [vi n4,vi (IntKind.wrap .i64 (n4+1)),vi (IntKind.wrap .i64 (n4+1))]<|Rd ?_
  obtain rfl:=sj h
  exact ⟨rfl,g_1,Cz⟩
 | false =>
  replace h:=ab hb_1 h
  refine Cf<|Runs.exit<|bz ?_
  obtain rfl:=sj h
  exact ⟨nofun,rfl,v_3,Cz⟩
theorem qQ (l_:(List Choice)) (r:(List Choice)) (h:dD l_=some r):Runs L F26.body ⟨a9 [.d (.sl (List.map Choice.d l_))] 0,ay (fun _=>none) []⟩ (rz l_ r):=by
 unfold dD at h
 refine Sq<|Ro<|Rc 1 [⟨.nils,[]⟩]<|Rk<|Sq<|Ro<|Rc 1 [⟨.nils,[]⟩]<|Rk<|Runs.canon (qP ([]:List Choice) l_ 0) (Canon.cons (xp Choice.d (v:=0) (by kernel_rfl) (by kernel_rfl)) Cz)<|Sq<|Sq<|Ro<|Rc 1 [vi 1]<|Rk<|Runs.block ?_
 obtain ⟨e_1,he_1,h⟩:=ah h
 refine Runs.loop (fun x:((List Choice) × Int)=>bW x.1 l_ x.2) (fun (x:((List Choice) × Int)) (g:Nat)=>iB x.1 l_ x.2 g) (kO l_ l_) (fun x g r hr=>nN l_ x.1 l_ x.2 g r hr) 0 he_1 Cz ?_
 rintro ⟨o,s⟩ hp
 obtain ⟨ho,g_1,hk_1⟩:=hp
 have ho':o=.exit 0:=ho
 subst ho'
 refine cN<|ai<|Runs.canon _ hk_1<|Sq<|Ro<|Rc 2 [⟨.ref [3] g_1 0 (List.map Choice.d e_1).length 25,[]⟩,⟨.ref [3] g_1 0 (List.map Choice.d e_1).length 25,[]⟩]<|Rk<|Runs.ret ?_
 obtain rfl:=sj h
 exact ⟨Out.ret_ne,(y9 (rs:=[.ref [3] g_1 0 (List.map Choice.d e_1).length 25]) (by kernel_rfl) (by kernel_rfl) (uF (id:=[3]) (v:=g_1) (fz:=false) (es:=List.map Choice.d e_1) (by kernel_rfl) (by decide) rfl uE) (cO (dP (by kernel_rfl)) gf))⟩
theorem rA (l_:(List Choice)) (r:(List Choice)) (h:dD l_=some r):L 26 [.d (.sl (List.map Choice.d l_))]=some (.arr false 25 (List.map Choice.d r),[.d (.sl (List.map Choice.d l_))]):=by
 obtain ⟨p,⟨hne,hf⟩,hr⟩:=qQ l_ r h
 obtain ⟨k,hk⟩:=aD (F:=F26) (args:=[.d (.sl (List.map Choice.d l_))]) (ap:=[.d (.sl (List.map Choice.d l_))]) (bx0:=ay (fun _=>none) []) rfl rfl (by kernel_rfl) ⟨p,⟨hne,hf⟩,hr⟩
 exact aA (k:=k) rfl hk
def vB (ops3:(A2 Operand)) (out5:(List Choice)) (name0:Int) (v_5:Nat):St:=⟨tab [(0,.i name0),(3,.ptr [3] 0 0),(5,.ref [5] v_5 0 (List.map Choice.d out5).length 25)],be [([3],some (.cells [.i ops3.a0.Kind,.i ops3.a0.N,.i ops3.a0.RM,.i ops3.a0.V.N,.i ops3.a0.V.From,.i ops3.a0.V.Which,.i ops3.a0.V.Type_,.i ops3.a0.V.Wants,.b ops3.a0.V.Known,.i ops3.a0.Type_,.i ops3.a0.Over,.b ops3.a0.Short,.i ops3.a1.Kind,.i ops3.a1.N,.i ops3.a1.RM,.i ops3.a1.V.N,.i ops3.a1.V.From,.i ops3.a1.V.Which,.i ops3.a1.V.Type_,.i ops3.a1.V.Wants,.b ops3.a1.V.Known,.i ops3.a1.Type_,.i ops3.a1.Over,.b ops3.a1.Short] 0)),([5],some (.arr (List.map Choice.d out5) v_5 false))]⟩
def iN (ops3:(A2 Operand)) (out5:(List Choice)) (name0:Int) (t12:Int) (v_5:Nat):St:=⟨tab [(0,.i name0),(3,.ptr [3] 0 0),(5,.ref [5] v_5 0 (List.map Choice.d out5).length 25),(12,.i t12)],be [([3],some (.cells [.i ops3.a0.Kind,.i ops3.a0.N,.i ops3.a0.RM,.i ops3.a0.V.N,.i ops3.a0.V.From,.i ops3.a0.V.Which,.i ops3.a0.V.Type_,.i ops3.a0.V.Wants,.b ops3.a0.V.Known,.i ops3.a0.Type_,.i ops3.a0.Over,.b ops3.a0.Short,.i ops3.a1.Kind,.i ops3.a1.N,.i ops3.a1.RM,.i ops3.a1.V.N,.i ops3.a1.V.From,.i ops3.a1.V.Which,.i ops3.a1.V.Type_,.i ops3.a1.V.Wants,.b ops3.a1.V.Known,.i ops3.a1.Type_,.i ops3.a1.Over,.b ops3.a1.Short] 0)),([5],some (.arr (List.map Choice.d out5) v_5 false))]⟩
def jN (ops3:(A2 Operand)) (out5:(List Choice)) (name0:Int) (first7:Int) (reg8:Int) (t12:Int) (v_5:Nat):St:=⟨tab [(0,.i name0),(3,.ptr [3] 0 0),(5,.ref [5] v_5 0 (List.map Choice.d out5).length 25),(7,.y first7),(8,.i reg8),(12,.i t12)],be [([3],some (.cells [.i ops3.a0.Kind,.i ops3.a0.N,.i ops3.a0.RM,.i ops3.a0.V.N,.i ops3.a0.V.From,.i ops3.a0.V.Which,.i ops3.a0.V.Type_,.i ops3.a0.V.Wants,.b ops3.a0.V.Known,.i ops3.a0.Type_,.i ops3.a0.Over,.b ops3.a0.Short,.i ops3.a1.Kind,.i ops3.a1.N,.i ops3.a1.RM,.i ops3.a1.V.N,.i ops3.a1.V.From,.i ops3.a1.V.Which,.i ops3.a1.V.Type_,.i ops3.a1.V.Wants,.b ops3.a1.V.Known,.i ops3.a1.Type_,.i ops3.a1.Over,.b ops3.a1.Short] 0)),([5],some (.arr (List.map Choice.d out5) v_5 false))]⟩
def tX (out5:(List Choice)) (v_5:Nat):St:=⟨tab [(5,.ref [5] v_5 0 (List.map Choice.d out5).length 25)],be [([5],some (.arr (List.map Choice.d out5) v_5 false))]⟩
def wW (name_:Int) (ops_:(A2 Operand)) (r:(List Choice)) (p:Out × St):Prop:=(∀ i,p.1≠.exit i)∧aV F8 [.i name_,.d (.agg [.int .i64 ops_.a0.Kind,.int .i64 ops_.a0.N,.int .i64 ops_.a0.RM,.int .i64 ops_.a0.V.N,.int .i64 ops_.a0.V.From,.int .i64 ops_.a0.V.Which,.int .i64 ops_.a0.V.Type_,.int .i64 ops_.a0.V.Wants,.bool ops_.a0.V.Known,.int .i64 ops_.a0.Type_,.int .i64 ops_.a0.Over,.bool ops_.a0.Short,.int .i64 ops_.a1.Kind,.int .i64 ops_.a1.N,.int .i64 ops_.a1.RM,.int .i64 ops_.a1.V.N,.int .i64 ops_.a1.V.From,.int .i64 ops_.a1.V.Which,.int .i64 ops_.a1.V.Type_,.int .i64 ops_.a1.V.Wants,.bool ops_.a1.V.Known,.int .i64 ops_.a1.Type_,.int .i64 ops_.a1.Over,.bool ops_.a1.Short])] p.2=some (.arr false 25 (List.map Choice.d r),[.i name_,.d (.agg [.int .i64 ops_.a0.Kind,.int .i64 ops_.a0.N,.int .i64 ops_.a0.RM,.int .i64 ops_.a0.V.N,.int .i64 ops_.a0.V.From,.int .i64 ops_.a0.V.Which,.int .i64 ops_.a0.V.Type_,.int .i64 ops_.a0.V.Wants,.bool ops_.a0.V.Known,.int .i64 ops_.a0.Type_,.int .i64 ops_.a0.Over,.bool ops_.a0.Short,.int .i64 ops_.a1.Kind,.int .i64 ops_.a1.N,.int .i64 ops_.a1.RM,.int .i64 ops_.a1.V.N,.int .i64 ops_.a1.V.From,.int .i64 ops_.a1.V.Which,.int .i64 ops_.a1.V.Type_,.int .i64 ops_.a1.V.Wants,.bool ops_.a1.V.Known,.int .i64 ops_.a1.Type_,.int .i64 ops_.a1.Over,.bool ops_.a1.Short])])
def kP (name_:Int) (ops_:(A2 Operand)) (ops3:(A2 Operand)) (name0:Int) (e:(List Choice)) (p:Out × St):Prop:=p.1=.exit 0∧∃ g:Nat,Canon [] [5] [[5]] p.2 (tX e g)
theorem j0 (name_:Int) (ops_:(A2 Operand)) (ops3:(A2 Operand)) (out5:(List Choice)) (name0:Int) (first7:Int) (reg8:Int) (t12:Int) (v_5:Nat) (r:(Lp ((List Choice) × Int) (List Choice))) (h:de ops3 out5 name0 first7 reg8 t12=some r):Runs L Cx (jN ops3 out5 name0 first7 reg8 t12 v_5) (kB 1 (kS L Cy (LQ [] [0,3,5,12] [[3],[5]] (fun (x:((List Choice) × Int)) (g:Nat)=>iN ops3 x.1 name0 x.2 g) (kP name_ ops_ ops3 name0) r))):=by
 unfold de at h
 refine Sq<|Ro<|Rc 2 [vy first7,vi reg8] ?_
 obtain ⟨r_3,hr_3,h⟩:=ah h
 have hc_3:=vg first7 reg8 r_3 hr_3
 refine Rt (some 34) (.callf 21) [] none [.y first7,.i reg8] (.tup [.d (Row.d r_3.1),.b r_3.2]) [] (cc hc_3)<|Rc 6 [⟨.tup [.d (Row.d r_3.1),.b r_3.2],[]⟩,⟨.d (Row.d r_3.1),[]⟩,vb r_3.2,⟨.ptr [9] 0 0,[([9],some (.cells [.i 0,.i 0,.i 0,.b false] 0))]⟩,⟨.tup [],[([9],some (.cells [.i r_3.1.Name,.i r_3.1.A,.i r_3.1.B,.b r_3.1.Mod] 0))]⟩,vb r_3.2]<|Rk<|Sq<|Sq<|Ro<|Rc 3 [vb r_3.2,vb (!r_3.2),vb (!r_3.2)] ?_
 cases hb_5:((!r_3.2):Bool) with
 | true =>
  replace h:=aa hb_5 h
  refine Rc 5 [vn,vn,vn,vn,vb true]<|Rk<|Ct<|Runs.exit<|bz<|cN<|ai<|Ro<|Rc 2 [vi (IntKind.wrap .i64 (t12+1)),vi (IntKind.wrap .i64 (t12+1))]<|Rd ?_
  obtain rfl:=sj h
  exact ⟨rfl,v_5,Cz⟩
 | false =>
  replace h:=ab hb_5 h
  refine Rc 5 [vp [9] 0 0,vi r_3.1.Name,vi name0,vb (r_3.1.Name != name0),vb (r_3.1.Name != name0)]<|Rk ?_
  cases hb_6:((r_3.1.Name != name0):Bool) with
  | true =>
   replace h:=aa hb_6 h
   refine Ct<|Runs.exit<|bz<|cN<|ai<|Ro<|Rc 2 [vi (IntKind.wrap .i64 (t12+1)),vi (IntKind.wrap .i64 (t12+1))]<|Rd ?_
   obtain rfl:=sj h
   exact ⟨rfl,v_5,Cz⟩
  | false =>
   replace h:=ab hb_6 h
   refine Cf<|Runs.skip<|ai<|Sq<|Sq<|Ro<|Rc 5 [vp [9] 0 1,vi r_3.1.A,vp [3] 0 0,⟨.d (Operand.d ops3.a0),[]⟩,vy first7] ?_
   obtain ⟨r_4,hr_4,h⟩:=ah h
   have hc_4:=oO r_3.1.A ops3.a0 first7 r_4 hr_4
   refine Rt (some 50) (.callf 22) [] none [.i r_3.1.A,.d (Operand.d ops3.a0),.y first7] (.b r_4) [] (cc hc_4)<|Rc 2 [vb (!r_4),vb (!r_4)] ?_
   cases hb_7:((!r_4):Bool) with
   | true =>
    replace h:=aa hb_7 h
    refine Rc 14 [vn,vn,vn,vn,vn,vn,vn,vb true,vb true,vn,vn,vn,vn,vb true]<|Rk<|Ct<|Runs.exit<|bz<|cN<|ai<|Ro<|Rc 2 [vi (IntKind.wrap .i64 (t12+1)),vi (IntKind.wrap .i64 (t12+1))]<|Rd ?_
    obtain rfl:=sj h
    exact ⟨rfl,v_5,Cz⟩
   | false =>
    replace h:=ab hb_7 h
    refine Rc 5 [vp [9] 0 2,vi r_3.1.B,vp [3] 0 12,⟨.d (Operand.d ops3.a1),[]⟩,vy first7] ?_
    obtain ⟨r_5,hr_5,h⟩:=ah h
    have hc_5:=oO r_3.1.B ops3.a1 first7 r_5 hr_5
    refine Rt (some 58) (.callf 22) [] none [.i r_3.1.B,.d (Operand.d ops3.a1),.y first7] (.b r_5) [] (cc hc_5)<|Rc 3 [vb (!r_5),vb (!r_5),vb (!r_5)] ?_
    cases hb_8:((!r_5):Bool) with
    | true =>
     replace h:=aa hb_8 h
     refine Rc 5 [vn,vn,vn,vn,vb true]<|Rk<|Ct<|Runs.exit<|bz<|cN<|ai<|Ro<|Rc 2 [vi (IntKind.wrap .i64 (t12+1)),vi (IntKind.wrap .i64 (t12+1))]<|Rd ?_
     obtain rfl:=sj h
     exact ⟨rfl,v_5,Cz⟩
    | false =>
     replace h:=ab hb_8 h
     refine Rc 2 [⟨.d (Row.d r_3.1),[]⟩,⟨.d (.agg [.int .i64 ops3.a0.Kind,.int .i64 ops3.a0.N,.int .i64 ops3.a0.RM,.int .i64 ops3.a0.V.N,.int .i64 ops3.a0.V.From,.int .i64 ops3.a0.V.Which,.int .i64 ops3.a0.V.Type_,.int .i64 ops3.a0.V.Wants,.bool ops3.a0.V.Known,.int .i64 ops3.a0.Type_,.int .i64 ops3.a0.Over,.bool ops3.a0.Short,.int .i64 ops3.a1.Kind,.int .i64 ops3.a1.N,.int .i64 ops3.a1.RM,.int .i64 ops3.a1.V.N,.int .i64 ops3.a1.V.From,.int .i64 ops3.a1.V.Which,.int .i64 ops3.a1.V.Type_,.int .i64 ops3.a1.V.Wants,.bool ops3.a1.V.Known,.int .i64 ops3.a1.Type_,.int .i64 ops3.a1.Over,.bool ops3.a1.Short]),[]⟩] ?_
     obtain ⟨r_6,hr_6,h⟩:=ah h
     have hc_6:=tR r_3.1 ops3 r_6 hr_6
     refine Rt (some 64) (.callf 23) [] none [.d (Row.d r_3.1),.d (.agg [.int .i64 ops3.a0.Kind,.int .i64 ops3.a0.N,.int .i64 ops3.a0.RM,.int .i64 ops3.a0.V.N,.int .i64 ops3.a0.V.From,.int .i64 ops3.a0.V.Which,.int .i64 ops3.a0.V.Type_,.int .i64 ops3.a0.V.Wants,.bool ops3.a0.V.Known,.int .i64 ops3.a0.Type_,.int .i64 ops3.a0.Over,.bool ops3.a0.Short,.int .i64 ops3.a1.Kind,.int .i64 ops3.a1.N,.int .i64 ops3.a1.RM,.int .i64 ops3.a1.V.N,.int .i64 ops3.a1.V.From,.int .i64 ops3.a1.V.Which,.int .i64 ops3.a1.V.Type_,.int .i64 ops3.a1.V.Wants,.bool ops3.a1.V.Known,.int .i64 ops3.a1.Type_,.int .i64 ops3.a1.Over,.bool ops3.a1.Short])] (.b r_6) [] (cc hc_6)<|Rc 2 [vb (!r_6),vb (!r_6)]<|Rk ?_
     cases hb_9:((!r_6):Bool) with
     | true =>
      replace h:=aa hb_9 h
      refine Ct<|Runs.exit<|bz<|cN<|ai<|Ro<|Rc 2 [vi (IntKind.wrap .i64 (t12+1)),vi (IntKind.wrap .i64 (t12+1))]<|Rd ?_
      obtain rfl:=sj h
      exact ⟨rfl,v_5,Cz⟩
     | false =>
      replace h:=ab hb_9 h
      refine Cf<|Runs.skip<|ai<|Sq<|Ro<|Rc 4 [vy first7,vi reg8,⟨.d (Row.d r_3.1),[]⟩,⟨.d (.agg [.int .i64 ops3.a0.Kind,.int .i64 ops3.a0.N,.int .i64 ops3.a0.RM,.int .i64 ops3.a0.V.N,.int .i64 ops3.a0.V.From,.int .i64 ops3.a0.V.Which,.int .i64 ops3.a0.V.Type_,.int .i64 ops3.a0.V.Wants,.bool ops3.a0.V.Known,.int .i64 ops3.a0.Type_,.int .i64 ops3.a0.Over,.bool ops3.a0.Short,.int .i64 ops3.a1.Kind,.int .i64 ops3.a1.N,.int .i64 ops3.a1.RM,.int .i64 ops3.a1.V.N,.int .i64 ops3.a1.V.From,.int .i64 ops3.a1.V.Which,.int .i64 ops3.a1.V.Type_,.int .i64 ops3.a1.V.Wants,.bool ops3.a1.V.Known,.int .i64 ops3.a1.Type_,.int .i64 ops3.a1.Over,.bool ops3.a1.Short]),[]⟩] ?_
      obtain ⟨r_7,hr_7,h⟩:=ah h
      have hc_7:=tV first7 reg8 r_3.1 ops3 r_7 hr_7
      refine Rt (some 71) (.callf 24) [] none [.y first7,.i reg8,.d (Row.d r_3.1),.d (.agg [.int .i64 ops3.a0.Kind,.int .i64 ops3.a0.N,.int .i64 ops3.a0.RM,.int .i64 ops3.a0.V.N,.int .i64 ops3.a0.V.From,.int .i64 ops3.a0.V.Which,.int .i64 ops3.a0.V.Type_,.int .i64 ops3.a0.V.Wants,.bool ops3.a0.V.Known,.int .i64 ops3.a0.Type_,.int .i64 ops3.a0.Over,.bool ops3.a0.Short,.int .i64 ops3.a1.Kind,.int .i64 ops3.a1.N,.int .i64 ops3.a1.RM,.int .i64 ops3.a1.V.N,.int .i64 ops3.a1.V.From,.int .i64 ops3.a1.V.Which,.int .i64 ops3.a1.V.Type_,.int .i64 ops3.a1.V.Wants,.bool ops3.a1.V.Known,.int .i64 ops3.a1.Type_,.int .i64 ops3.a1.Over,.bool ops3.a1.Short])] (.d (Choice.d r_7)) [] (cc hc_7)<|Rc 2 [⟨.ptr [11] 0 0,[([11],some (.cells [.b false,.i 0,.i 0,.y 0,.i 0,.i 0,.i 0,.w 0,.w 0,.w 0,.i 0,.i 0,.i 0,.i 0,.i 0,.b false,.i 0,.i 0,.i 0,.i 0,.i 0,.b false,.b false,.b false,.b false] 0))]⟩,⟨.tup [],[([11],some (.cells [.b r_7.I.Lock,.i r_7.I.Rep,.i r_7.I.Seg,.y r_7.I.Op,.i r_7.I.Mod,.i r_7.I.Reg,.i r_7.I.RM,.w r_7.I.Disp,.w r_7.I.Imm,.w r_7.I.Sel,.i r_7.Disp.N,.i r_7.Disp.From,.i r_7.Disp.Which,.i r_7.Disp.Type_,.i r_7.Disp.Wants,.b r_7.Disp.Known,.i r_7.Imm.N,.i r_7.Imm.From,.i r_7.Imm.Which,.i r_7.Imm.Type_,.i r_7.Imm.Wants,.b r_7.Imm.Known,.b r_7.HasD,.b r_7.HasI,.b r_7.Jumps] 0))]⟩] ?_
      refine Rk<|Sq<|Ro<|Rc 2 [vp [11] 0 0,⟨.d (Inst.d r_7.I),[]⟩] ?_
      obtain ⟨r_8,hr_8,h⟩:=ah h
      have hc_8:=qO r_7.I r_8 hr_8
      refine Rt (some 74) (.callf 25) [] none [.d (Inst.d r_7.I)] (.b r_8) [] (cc hc_8)<|Rk ?_
      cases hb_10:(r_8:Bool) with
      | true =>
       replace h:=aa hb_10 h
       refine Ct<|Ro<|Rc 3 [⟨.ref [5] v_5 0 (List.map Choice.d out5).length 25,[]⟩,⟨.d (Choice.d r_7),[]⟩,⟨.ref [77] 0 0 (List.map Choice.d ([r_7]:List Choice)).length 25,[([77],some (.arr (List.map Choice.d ([r_7]:List Choice)) 0 false))]⟩] ?_
       obtain ⟨z_1,hz_1,h⟩:=ah h
       refine Rt (some 78) (.append 25 168 false) [] none [.ref [5] v_5 0 (List.map Choice.d out5).length 25,.ref [77] 0 0 (List.map Choice.d ([r_7]:List Choice)).length 25] (.ref [5] (v_5+1) 0 (List.map Choice.d z_1).length 25) [([5],some (.arr (List.map Choice.d z_1) (v_5+1) false))] (qc (e:=Choice.d) (l:=out5) (fz:=false) (ws:=[]) (wy (e:=Choice.d) (l:=([r_7]:List Choice)) (fz:=false) (by kernel_rfl) (by kernel_rfl) rfl) (fun _=>rfl) hz_1 (by kernel_rfl) (by kernel_rfl) rfl)<|Rc 1 [⟨.ref [5] (v_5+1) 0 (List.map Choice.d z_1).length 25,[]⟩]<|Rd<|az<|ai<|Ro<|Rc 2 [vi (IntKind.wrap .i64 (t12+1)),vi (IntKind.wrap .i64 (t12+1))]<|Rd ?_
       obtain rfl:=sj h
       exact ⟨rfl,(v_5+1),Cz⟩
      | false =>
       replace h:=ab hb_10 h
       refine Cf<|Runs.skip<|az<|ai<|Ro<|Rc 2 [vi (IntKind.wrap .i64 (t12+1)),vi (IntKind.wrap .i64 (t12+1))]<|Rd ?_
       obtain rfl:=sj h
       exact ⟨rfl,v_5,Cz⟩
theorem qR (name_:Int) (ops_:(A2 Operand)) (ops3:(A2 Operand)) (out5:(List Choice)) (name0:Int) (t12:Int) (v_5:Nat) (r:(Lp ((List Choice) × Int) (List Choice))) (h:ci ops3 out5 name0 t12=some r):Runs L YT (iN ops3 out5 name0 t12 v_5) (LQ [] [0,3,5,12] [[3],[5]] (fun (x:((List Choice) × Int)) (g:Nat)=>iN ops3 x.1 name0 x.2 g) (kP name_ ops_ ops3 name0) r):=by
 unfold ci at h
 refine Sq<|Ro<|Rc 1 [vb (decide (t12<2048))]<|Rk<|Sq ?_
 cases hb_1:((decide (t12<2048)):Bool) with
 | true =>
  replace h:=aa hb_1 h
  refine Ct<|Runs.skip<|ai<|Sq<|Runs.block<|Sq<|Ro<|Rc 2 [vi t12,vi t12]<|Rk<|Sq<|Ro<|Rc 7 [vi t12,vi (bd .i64 t12 3),vy (IntKind.wrap .u8 (bd .i64 t12 3)),vi t12,vi (ak .and .i64 t12 7),vy (IntKind.wrap .u8 (bd .i64 t12 3)),vi (ak .and .i64 t12 7)]<|Rk<|Sq<|Sq<|Ro<|Rc 3 [vi (ak .and .i64 t12 7),vb (decide ((ak .and .i64 t12 7)>0)),vb (decide ((ak .and .i64 t12 7)>0))] ?_
  cases hb_2:((decide ((ak .and .i64 t12 7)>0)):Bool) with
  | true =>
   replace h:=aa hb_2 h
   refine Rc 1 [vy (IntKind.wrap .u8 (bd .i64 t12 3))] ?_
   obtain ⟨r_1,hr_1,h⟩:=ah h
   have hc_1:=lR (IntKind.wrap .u8 (bd .i64 t12 3)) r_1 hr_1
   refine Rt (some 24) (.callf 19) [] none [.y (IntKind.wrap .u8 (bd .i64 t12 3))] (.b r_1) [] (cc hc_1)<|Rc 3 [vb (!r_1),vb (!r_1),vb (!r_1)] ?_
   cases hb_3:((!r_1):Bool) with
   | true =>
    replace h:=aa hb_3 h
    refine Rc 3 [vn,vn,vb true]<|Rk<|Ct<|Runs.exit<|bz<|cN<|ai<|Ro<|Rc 2 [vi (IntKind.wrap .i64 (t12+1)),vi (IntKind.wrap .i64 (t12+1))]<|Rd ?_
    obtain rfl:=sj h
    exact ⟨rfl,v_5,Cz⟩
   | false =>
    replace h:=ab hb_3 h
    refine Rc 1 [vy (IntKind.wrap .u8 (bd .i64 t12 3))] ?_
    obtain ⟨r_2,hr_2,h⟩:=ah h
    have hc_2:=jG (IntKind.wrap .u8 (bd .i64 t12 3)) r_2 hr_2
    refine Rt (some 29) (.callf 20) [] none [.y (IntKind.wrap .u8 (bd .i64 t12 3))] (.b r_2) [] (cc hc_2)<|Rc 1 [vb r_2]<|Rk ?_
    cases hb_4:(r_2:Bool) with
    | true =>
     replace h:=aa hb_4 h
     refine Ct<|Runs.exit<|bz<|cN<|ai<|Ro<|Rc 2 [vi (IntKind.wrap .i64 (t12+1)),vi (IntKind.wrap .i64 (t12+1))]<|Rd ?_
     obtain rfl:=sj h
     exact ⟨rfl,v_5,Cz⟩
    | false =>
     replace h:=ab hb_4 h
     refine Cf<|Runs.skip<|ai<|Runs.canon (jN ops3 out5 name0 (IntKind.wrap .u8 (bd .i64 t12 3)) (ak .and .i64 t12 7) t12 v_5) Cz ?_
     exact j0 name_ ops_ ops3 out5 name0 (IntKind.wrap .u8 (bd .i64 t12 3)) (ak .and .i64 t12 7) t12 v_5 r h
  | false =>
   replace h:=ab hb_2 h
   refine Rc 6 [vn,vn,vn,vb false,vb false,vy (IntKind.wrap .u8 (bd .i64 t12 3))] ?_
   obtain ⟨r_9,hr_9,h⟩:=ah h
   have hc_9:=jG (IntKind.wrap .u8 (bd .i64 t12 3)) r_9 hr_9
   refine Rt (some 29) (.callf 20) [] none [.y (IntKind.wrap .u8 (bd .i64 t12 3))] (.b r_9) [] (cc hc_9)<|Rc 1 [vb r_9]<|Rk ?_
   cases hb_11:(r_9:Bool) with
   | true =>
    replace h:=aa hb_11 h
    refine Ct<|Runs.exit<|bz<|cN<|ai<|Ro<|Rc 2 [vi (IntKind.wrap .i64 (t12+1)),vi (IntKind.wrap .i64 (t12+1))]<|Rd ?_
    obtain rfl:=sj h
    exact ⟨rfl,v_5,Cz⟩
   | false =>
    replace h:=ab hb_11 h
    refine Cf<|Runs.skip<|ai<|Runs.canon (jN ops3 out5 name0 (IntKind.wrap .u8 (bd .i64 t12 3)) (ak .and .i64 t12 7) t12 v_5) Cz ?_
    exact j0 name_ ops_ ops3 out5 name0 (IntKind.wrap .u8 (bd .i64 t12 3)) (ak .and .i64 t12 7) t12 v_5 r h
 | false =>
  replace h:=ab hb_1 h
  refine Cf<|Runs.exit<|bz ?_
  obtain rfl:=sj h
  exact ⟨nofun,rfl,v_5,Cz⟩
theorem vC (name_:Int) (ops_:(A2 Operand)) (r:(List Choice)) (h:dg name_ ops_=some r):Runs L F8.body ⟨a9 [.i name_,.d (.agg [.int .i64 ops_.a0.Kind,.int .i64 ops_.a0.N,.int .i64 ops_.a0.RM,.int .i64 ops_.a0.V.N,.int .i64 ops_.a0.V.From,.int .i64 ops_.a0.V.Which,.int .i64 ops_.a0.V.Type_,.int .i64 ops_.a0.V.Wants,.bool ops_.a0.V.Known,.int .i64 ops_.a0.Type_,.int .i64 ops_.a0.Over,.bool ops_.a0.Short,.int .i64 ops_.a1.Kind,.int .i64 ops_.a1.N,.int .i64 ops_.a1.RM,.int .i64 ops_.a1.V.N,.int .i64 ops_.a1.V.From,.int .i64 ops_.a1.V.Which,.int .i64 ops_.a1.V.Type_,.int .i64 ops_.a1.V.Wants,.bool ops_.a1.V.Known,.int .i64 ops_.a1.Type_,.int .i64 ops_.a1.Over,.bool ops_.a1.Short])] 0,ay (fun _=>none) []⟩ (wW name_ ops_ r):=by
 unfold dg at h
 refine Sq<|Ro<|Rc 2 [⟨.ptr [3] 0 0,[([3],some (.cells [.i ops_.a0.Kind,.i ops_.a0.N,.i ops_.a0.RM,.i ops_.a0.V.N,.i ops_.a0.V.From,.i ops_.a0.V.Which,.i ops_.a0.V.Type_,.i ops_.a0.V.Wants,.b ops_.a0.V.Known,.i ops_.a0.Type_,.i ops_.a0.Over,.b ops_.a0.Short,.i ops_.a1.Kind,.i ops_.a1.N,.i ops_.a1.RM,.i ops_.a1.V.N,.i ops_.a1.V.From,.i ops_.a1.V.Which,.i ops_.a1.V.Type_,.i ops_.a1.V.Wants,.b ops_.a1.V.Known,.i ops_.a1.Type_,.i ops_.a1.Over,.b ops_.a1.Short] 0))]⟩,⟨.nils,[]⟩]<|Rk<|Sq<|Ro<|Rc 1 [⟨.nils,[]⟩]<|Rk<|Runs.canon (vB ops_ ([]:List Choice) name_ 0) (Canon.cons (xp Choice.d (v:=0) (by kernel_rfl) (by kernel_rfl)) Cz)<|Sq<|Sq<|Ro<|Rc 1 [vi 0]<|Rk<|Runs.block ?_
 obtain ⟨e_1,he_1,h⟩:=ah h
 refine Runs.loop (fun x:((List Choice) × Int)=>ci ops_ x.1 name_ x.2) (fun (x:((List Choice) × Int)) (g:Nat)=>iN ops_ x.1 name_ x.2 g) (kP name_ ops_ ops_ name_) (fun x g r hr=>qR name_ ops_ ops_ x.1 name_ x.2 g r hr) 0 he_1 Cz ?_
 rintro ⟨o,s⟩ hp
 obtain ⟨ho,g_1,hk_1⟩:=hp
 have ho':o=.exit 0:=ho
 subst ho'
 refine cN<|ai<|Runs.canon _ hk_1<|Sq<|Ro<|Rc 1 [⟨.ref [5] g_1 0 (List.map Choice.d e_1).length 25,[]⟩] ?_
 obtain ⟨r_1,hr_1,h⟩:=ah h
 have hc_1:=rA e_1 r_1 hr_1
 refine Rt (some 81) (.callf 26) [] none [.ref [5] g_1 0 (List.map Choice.d e_1).length 25] (.ref [81] 0 0 (List.map Choice.d r_1).length 25) [([5],some (.arr (List.map Choice.d e_1) g_1 true)),([81],some (.arr (List.map Choice.d r_1) 0 false))] (jd (k9 (ws:=[([5],some (.arr (List.map Choice.d e_1) g_1 true))]) (us:=[([5],some (.arr (List.map Choice.d e_1) g_1 true))]) (by kernel_rfl) (cO (ws:=[([5],some (.arr (List.map Choice.d e_1) g_1 true))]) (y8 (e:=Choice.d) (l:=e_1) (fz:=false) (by kernel_rfl) (by kernel_rfl) rfl) gf) hc_1 (by kernel_rfl) (by kernel_rfl)))<|Rc 1 [⟨.ref [81] 0 0 (List.map Choice.d r_1).length 25,[]⟩]<|Rk<|Runs.ret ?_
 obtain rfl:=sj h
 exact ⟨Out.ret_ne,(y9 (rs:=[.ref [81] 0 0 (List.map Choice.d r_1).length 25]) (by kernel_rfl) (by kernel_rfl) (uF (id:=[81]) (v:=0) (fz:=false) (es:=List.map Choice.d r_1) (by kernel_rfl) (by decide) rfl uE) (cO (dP (by kernel_rfl)) (cO (dP (by kernel_rfl)) gf)))⟩
theorem m3 (name_:Int) (ops_:(A2 Operand)) (r:(List Choice)) (h:dg name_ ops_=some r):L 8 [.i name_,.d (.agg [.int .i64 ops_.a0.Kind,.int .i64 ops_.a0.N,.int .i64 ops_.a0.RM,.int .i64 ops_.a0.V.N,.int .i64 ops_.a0.V.From,.int .i64 ops_.a0.V.Which,.int .i64 ops_.a0.V.Type_,.int .i64 ops_.a0.V.Wants,.bool ops_.a0.V.Known,.int .i64 ops_.a0.Type_,.int .i64 ops_.a0.Over,.bool ops_.a0.Short,.int .i64 ops_.a1.Kind,.int .i64 ops_.a1.N,.int .i64 ops_.a1.RM,.int .i64 ops_.a1.V.N,.int .i64 ops_.a1.V.From,.int .i64 ops_.a1.V.Which,.int .i64 ops_.a1.V.Type_,.int .i64 ops_.a1.V.Wants,.bool ops_.a1.V.Known,.int .i64 ops_.a1.Type_,.int .i64 ops_.a1.Over,.bool ops_.a1.Short])]=some (.arr false 25 (List.map Choice.d r),[.i name_,.d (.agg [.int .i64 ops_.a0.Kind,.int .i64 ops_.a0.N,.int .i64 ops_.a0.RM,.int .i64 ops_.a0.V.N,.int .i64 ops_.a0.V.From,.int .i64 ops_.a0.V.Which,.int .i64 ops_.a0.V.Type_,.int .i64 ops_.a0.V.Wants,.bool ops_.a0.V.Known,.int .i64 ops_.a0.Type_,.int .i64 ops_.a0.Over,.bool ops_.a0.Short,.int .i64 ops_.a1.Kind,.int .i64 ops_.a1.N,.int .i64 ops_.a1.RM,.int .i64 ops_.a1.V.N,.int .i64 ops_.a1.V.From,.int .i64 ops_.a1.V.Which,.int .i64 ops_.a1.V.Type_,.int .i64 ops_.a1.V.Wants,.bool ops_.a1.V.Known,.int .i64 ops_.a1.Type_,.int .i64 ops_.a1.Over,.bool ops_.a1.Short])]):=by
 obtain ⟨p,⟨hne,hf⟩,hr⟩:=vC name_ ops_ r h
 obtain ⟨k,hk⟩:=aD (F:=F8) (args:=[.i name_,.d (.agg [.int .i64 ops_.a0.Kind,.int .i64 ops_.a0.N,.int .i64 ops_.a0.RM,.int .i64 ops_.a0.V.N,.int .i64 ops_.a0.V.From,.int .i64 ops_.a0.V.Which,.int .i64 ops_.a0.V.Type_,.int .i64 ops_.a0.V.Wants,.bool ops_.a0.V.Known,.int .i64 ops_.a0.Type_,.int .i64 ops_.a0.Over,.bool ops_.a0.Short,.int .i64 ops_.a1.Kind,.int .i64 ops_.a1.N,.int .i64 ops_.a1.RM,.int .i64 ops_.a1.V.N,.int .i64 ops_.a1.V.From,.int .i64 ops_.a1.V.Which,.int .i64 ops_.a1.V.Type_,.int .i64 ops_.a1.V.Wants,.bool ops_.a1.V.Known,.int .i64 ops_.a1.Type_,.int .i64 ops_.a1.Over,.bool ops_.a1.Short])]) (ap:=[.i name_,.d (.agg [.int .i64 ops_.a0.Kind,.int .i64 ops_.a0.N,.int .i64 ops_.a0.RM,.int .i64 ops_.a0.V.N,.int .i64 ops_.a0.V.From,.int .i64 ops_.a0.V.Which,.int .i64 ops_.a0.V.Type_,.int .i64 ops_.a0.V.Wants,.bool ops_.a0.V.Known,.int .i64 ops_.a0.Type_,.int .i64 ops_.a0.Over,.bool ops_.a0.Short,.int .i64 ops_.a1.Kind,.int .i64 ops_.a1.N,.int .i64 ops_.a1.RM,.int .i64 ops_.a1.V.N,.int .i64 ops_.a1.V.From,.int .i64 ops_.a1.V.Which,.int .i64 ops_.a1.V.Type_,.int .i64 ops_.a1.V.Wants,.bool ops_.a1.V.Known,.int .i64 ops_.a1.Type_,.int .i64 ops_.a1.Over,.bool ops_.a1.Short])]) (bx0:=ay (fun _=>none) []) rfl rfl (by kernel_rfl) ⟨p,⟨hne,hf⟩,hr⟩
 exact aA (k:=k) rfl hk
def iV (b_6:Choice) (b_18:(List Choice)) (long2:Bool) (v_18:Nat):St:=⟨tab [(2,.b long2),(6,.ptr [6] 0 0),(10,.ref [18] v_18 0 (List.map Choice.d b_18).length 25)],be [([6],some (.cells [.b b_6.I.Lock,.i b_6.I.Rep,.i b_6.I.Seg,.y b_6.I.Op,.i b_6.I.Mod,.i b_6.I.Reg,.i b_6.I.RM,.w b_6.I.Disp,.w b_6.I.Imm,.w b_6.I.Sel,.i b_6.Disp.N,.i b_6.Disp.From,.i b_6.Disp.Which,.i b_6.Disp.Type_,.i b_6.Disp.Wants,.b b_6.Disp.Known,.i b_6.Imm.N,.i b_6.Imm.From,.i b_6.Imm.Which,.i b_6.Imm.Type_,.i b_6.Imm.Wants,.b b_6.Imm.Known,.b b_6.HasD,.b b_6.HasI,.b b_6.Jumps] 0)),([18],some (.arr (List.map Choice.d b_18) v_18 false))]⟩
def oP (word_:(List UInt8)) (ops_:(A2 Operand)) (long_:Bool) (r:(Choice × Int)) (p:Out × St):Prop:=(∀ i,p.1≠.exit i)∧aV F18 [.d (.str word_),.d (.agg [.int .i64 ops_.a0.Kind,.int .i64 ops_.a0.N,.int .i64 ops_.a0.RM,.int .i64 ops_.a0.V.N,.int .i64 ops_.a0.V.From,.int .i64 ops_.a0.V.Which,.int .i64 ops_.a0.V.Type_,.int .i64 ops_.a0.V.Wants,.bool ops_.a0.V.Known,.int .i64 ops_.a0.Type_,.int .i64 ops_.a0.Over,.bool ops_.a0.Short,.int .i64 ops_.a1.Kind,.int .i64 ops_.a1.N,.int .i64 ops_.a1.RM,.int .i64 ops_.a1.V.N,.int .i64 ops_.a1.V.From,.int .i64 ops_.a1.V.Which,.int .i64 ops_.a1.V.Type_,.int .i64 ops_.a1.V.Wants,.bool ops_.a1.V.Known,.int .i64 ops_.a1.Type_,.int .i64 ops_.a1.Over,.bool ops_.a1.Short]),.b long_] p.2=some (.tup [.d (Choice.d r.1),.i r.2],[.d (.str word_),.d (.agg [.int .i64 ops_.a0.Kind,.int .i64 ops_.a0.N,.int .i64 ops_.a0.RM,.int .i64 ops_.a0.V.N,.int .i64 ops_.a0.V.From,.int .i64 ops_.a0.V.Which,.int .i64 ops_.a0.V.Type_,.int .i64 ops_.a0.V.Wants,.bool ops_.a0.V.Known,.int .i64 ops_.a0.Type_,.int .i64 ops_.a0.Over,.bool ops_.a0.Short,.int .i64 ops_.a1.Kind,.int .i64 ops_.a1.N,.int .i64 ops_.a1.RM,.int .i64 ops_.a1.V.N,.int .i64 ops_.a1.V.From,.int .i64 ops_.a1.V.Which,.int .i64 ops_.a1.V.Type_,.int .i64 ops_.a1.V.Wants,.bool ops_.a1.V.Known,.int .i64 ops_.a1.Type_,.int .i64 ops_.a1.Over,.bool ops_.a1.Short]),.b long_])
theorem ji (word_:(List UInt8)) (ops_:(A2 Operand)) (long_:Bool) (b_6:Choice) (b_18:(List Choice)) (long2:Bool) (v_18:Nat) (r:(Choice × Int)) (h:gq b_6 b_18 long2=some r):Runs L zt (iV b_6 b_18 long2 v_18) (oP word_ ops_ long_ r):=by
 unfold gq at h
 refine Sq<|Sq<|Ro<|Rc 1 [⟨.ref [18] v_18 0 (List.map Choice.d b_18).length 25,[]⟩]<|Rt (some 27) .lenL [] none [.ref [18] v_18 0 (List.map Choice.d b_18).length 25] (.i (b_18.length:Int)) [] (nj (e:=Choice.d) b_18 rfl)<|Rc 1 [vb ((b_18.length:Int)==0)]<|Rk ?_
 cases hb_2:(((b_18.length:Int)==0):Bool) with
 | true =>
  replace h:=aa hb_2 h
  refine Ct<|Sq<|Ro<|Rc 3 [⟨.d (.agg [.bool false,.int .i64 0,.int .i64 0,.int .u8 0,.int .i64 0,.int .i64 0,.int .i64 0,.int .u16 0,.int .u16 0,.int .u16 0,.int .i64 0,.int .i64 0,.int .i64 0,.int .i64 0,.int .i64 0,.bool false,.int .i64 0,.int .i64 0,.int .i64 0,.int .i64 0,.int .i64 0,.bool false,.bool false,.bool false,.bool false]),[]⟩,⟨.tup [],[([6],some (.cells [.b false,.i 0,.i 0,.y 0,.i 0,.i 0,.i 0,.w 0,.w 0,.w 0,.i 0,.i 0,.i 0,.i 0,.i 0,.b false,.i 0,.i 0,.i 0,.i 0,.i 0,.b false,.b false,.b false,.b false] 0))]⟩,vi 6]<|Rk<|Runs.ret<|ae ?_
  cases h
  exact Fq
 | false =>
  replace h:=ab hb_2 h
  refine Cf<|Runs.skip<|ai<|Sq<|Sq<|Ro<|Rc 2 [vb long2,vb long2] ?_
  cases hb_3:(long2:Bool) with
  | true =>
   replace h:=aa hb_3 h
   refine Rc 1 [⟨.ref [18] v_18 0 (List.map Choice.d b_18).length 25,[]⟩] ?_
   obtain ⟨z_2,hz_2,h⟩:=ah h
   refine Rt (some 33) (.iaddrS 25) [] none [.ref [18] v_18 0 (List.map Choice.d b_18).length 25,.i 0] (.eref [18] v_18 (0+((0:Int)).toNat) 0) [] (gV (e:=Choice.d) (l:=b_18) hz_2 rfl)<|Rc 1 [⟨.eref [18] v_18 (0+((0:Int)).toNat) 24,[]⟩]<|Rt (some 35) (.load none) [] none [.eref [18] v_18 (0+((0:Int)).toNat) 24] (.b z_2.Jumps) [] (eE (e:=Choice.d) (l:=b_18) (fz:=false) (y:=z_2) (by kernel_rfl) hz_2 (by kernel_rfl) (by kernel_rfl))<|Rc 2 [vb z_2.Jumps,vb z_2.Jumps] ?_
   cases hb_4:(z_2.Jumps:Bool) with
   | true =>
    replace h:=aa hb_4 h
    refine Rc 1 [⟨.ref [18] v_18 0 (List.map Choice.d b_18).length 25,[]⟩]<|Rt (some 39) .lenL [] none [.ref [18] v_18 0 (List.map Choice.d b_18).length 25] (.i (b_18.length:Int)) [] (nj (e:=Choice.d) b_18 rfl)<|Rc 2 [vb (decide ((b_18.length:Int)>1)),vb (decide ((b_18.length:Int)>1))]<|Rk ?_
    cases hb_5:((decide ((b_18.length:Int)>1)):Bool) with
    | true =>
     replace h:=aa hb_5 h
     refine Ct<|Sq<|Ro<|Rc 1 [⟨.ref [18] v_18 0 (List.map Choice.d b_18).length 25,[]⟩] ?_
     obtain ⟨z_3,hz_3,h⟩:=ah h
     refine Rt (some 43) (.iaddrS 25) [] none [.ref [18] v_18 0 (List.map Choice.d b_18).length 25,.i 1] (.eref [18] v_18 (0+((1:Int)).toNat) 0) [] (gV (e:=Choice.d) (l:=b_18) hz_3 rfl)<|Rt (some 44) (.load (some 25)) [] none [.eref [18] v_18 (0+((1:Int)).toNat) 0] (.d (Choice.d z_3)) [] (eE (e:=Choice.d) (l:=b_18) (fz:=false) (y:=z_3) (by kernel_rfl) hz_3 (by kernel_rfl) (by kernel_rfl))<|Rc 2 [⟨.tup [],[([6],some (.cells [.b z_3.I.Lock,.i z_3.I.Rep,.i z_3.I.Seg,.y z_3.I.Op,.i z_3.I.Mod,.i z_3.I.Reg,.i z_3.I.RM,.w z_3.I.Disp,.w z_3.I.Imm,.w z_3.I.Sel,.i z_3.Disp.N,.i z_3.Disp.From,.i z_3.Disp.Which,.i z_3.Disp.Type_,.i z_3.Disp.Wants,.b z_3.Disp.Known,.i z_3.Imm.N,.i z_3.Imm.From,.i z_3.Imm.Which,.i z_3.Imm.Type_,.i z_3.Imm.Wants,.b z_3.Imm.Known,.b z_3.HasD,.b z_3.HasI,.b z_3.Jumps] 0))]⟩,vi 0]<|Rk<|Runs.ret<|ae ?_
     cases h
     exact Fq
    | false =>
     replace h:=ab hb_5 h
     refine Cf<|Runs.skip<|ai<|Sq<|Ro<|Rc 1 [⟨.ref [18] v_18 0 (List.map Choice.d b_18).length 25,[]⟩] ?_
     obtain ⟨z_4,hz_4,h⟩:=ah h
     refine Rt (some 46) (.iaddrS 25) [] none [.ref [18] v_18 0 (List.map Choice.d b_18).length 25,.i 0] (.eref [18] v_18 (0+((0:Int)).toNat) 0) [] (gV (e:=Choice.d) (l:=b_18) hz_4 rfl)<|Rt (some 47) (.load (some 25)) [] none [.eref [18] v_18 (0+((0:Int)).toNat) 0] (.d (Choice.d z_4)) [] (eE (e:=Choice.d) (l:=b_18) (fz:=false) (y:=z_4) (by kernel_rfl) hz_4 (by kernel_rfl) (by kernel_rfl))<|Rc 2 [⟨.tup [],[([6],some (.cells [.b z_4.I.Lock,.i z_4.I.Rep,.i z_4.I.Seg,.y z_4.I.Op,.i z_4.I.Mod,.i z_4.I.Reg,.i z_4.I.RM,.w z_4.I.Disp,.w z_4.I.Imm,.w z_4.I.Sel,.i z_4.Disp.N,.i z_4.Disp.From,.i z_4.Disp.Which,.i z_4.Disp.Type_,.i z_4.Disp.Wants,.b z_4.Disp.Known,.i z_4.Imm.N,.i z_4.Imm.From,.i z_4.Imm.Which,.i z_4.Imm.Type_,.i z_4.Imm.Wants,.b z_4.Imm.Known,.b z_4.HasD,.b z_4.HasI,.b z_4.Jumps] 0))]⟩,vi 0]<|Rk<|Runs.ret ?_
     cases h
     exact Fq
   | false =>
    replace h:=ab hb_4 h
    refine Rc 4 [vn,vn,vn,vb false]<|Rk<|Cf<|Runs.skip<|ai<|Sq<|Ro<|Rc 1 [⟨.ref [18] v_18 0 (List.map Choice.d b_18).length 25,[]⟩] ?_
    obtain ⟨z_5,hz_5,h⟩:=ah h
    refine Rt (some 46) (.iaddrS 25) [] none [.ref [18] v_18 0 (List.map Choice.d b_18).length 25,.i 0] (.eref [18] v_18 (0+((0:Int)).toNat) 0) [] (gV (e:=Choice.d) (l:=b_18) hz_5 rfl)<|Rt (some 47) (.load (some 25)) [] none [.eref [18] v_18 (0+((0:Int)).toNat) 0] (.d (Choice.d z_5)) [] (eE (e:=Choice.d) (l:=b_18) (fz:=false) (y:=z_5) (by kernel_rfl) hz_5 (by kernel_rfl) (by kernel_rfl))<|Rc 2 [⟨.tup [],[([6],some (.cells [.b z_5.I.Lock,.i z_5.I.Rep,.i z_5.I.Seg,.y z_5.I.Op,.i z_5.I.Mod,.i z_5.I.Reg,.i z_5.I.RM,.w z_5.I.Disp,.w z_5.I.Imm,.w z_5.I.Sel,.i z_5.Disp.N,.i z_5.Disp.From,.i z_5.Disp.Which,.i z_5.Disp.Type_,.i z_5.Disp.Wants,.b z_5.Disp.Known,.i z_5.Imm.N,.i z_5.Imm.From,.i z_5.Imm.Which,.i z_5.Imm.Type_,.i z_5.Imm.Wants,.b z_5.Imm.Known,.b z_5.HasD,.b z_5.HasI,.b z_5.Jumps] 0))]⟩,vi 0]<|Rk<|Runs.ret ?_
    cases h
    exact Fq
  | false =>
   replace h:=ab hb_3 h
   refine Rc 10 [vn,vn,vn,vn,vb false,vb false,vn,vn,vn,vb false]<|Rk<|Cf<|Runs.skip<|ai<|Sq<|Ro<|Rc 1 [⟨.ref [18] v_18 0 (List.map Choice.d b_18).length 25,[]⟩] ?_
   obtain ⟨z_6,hz_6,h⟩:=ah h
   refine Rt (some 46) (.iaddrS 25) [] none [.ref [18] v_18 0 (List.map Choice.d b_18).length 25,.i 0] (.eref [18] v_18 (0+((0:Int)).toNat) 0) [] (gV (e:=Choice.d) (l:=b_18) hz_6 rfl)<|Rt (some 47) (.load (some 25)) [] none [.eref [18] v_18 (0+((0:Int)).toNat) 0] (.d (Choice.d z_6)) [] (eE (e:=Choice.d) (l:=b_18) (fz:=false) (y:=z_6) (by kernel_rfl) hz_6 (by kernel_rfl) (by kernel_rfl))<|Rc 2 [⟨.tup [],[([6],some (.cells [.b z_6.I.Lock,.i z_6.I.Rep,.i z_6.I.Seg,.y z_6.I.Op,.i z_6.I.Mod,.i z_6.I.Reg,.i z_6.I.RM,.w z_6.I.Disp,.w z_6.I.Imm,.w z_6.I.Sel,.i z_6.Disp.N,.i z_6.Disp.From,.i z_6.Disp.Which,.i z_6.Disp.Type_,.i z_6.Disp.Wants,.b z_6.Disp.Known,.i z_6.Imm.N,.i z_6.Imm.From,.i z_6.Imm.Which,.i z_6.Imm.Type_,.i z_6.Imm.Wants,.b z_6.Imm.Known,.b z_6.HasD,.b z_6.HasI,.b z_6.Jumps] 0))]⟩,vi 0]<|Rk<|Runs.ret ?_
   cases h
   exact Fq
end Go.Es.Pko
