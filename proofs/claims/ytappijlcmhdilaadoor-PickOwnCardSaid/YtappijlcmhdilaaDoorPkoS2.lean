/- The interpreter answers as plain Lean does: part 3. No condition. -/
import Derived.Test.YtappijlcmhdilaaDoorPkoF
import Derived.Test.YtappijlcmhdilaaDoorPkoP
import Derived.KernelRfl
import Derived.Test.YtappijlcmhdilaaDoorPkoS1
set_option linter.unusedVariables false
set_option linter.unusedSimpArgs false
set_option maxRecDepth 100000
set_option maxHeartbeats 4000000
namespace Go.Es.Pko
theorem tY (word_:(List UInt8)) (ops_:(A2 Operand)) (long_:Bool) (r:(Choice × Int)) (h:du word_ ops_ long_=some r):Runs L F18.body ⟨a9 [.d (.str word_),.d (.agg [.int .i64 ops_.a0.Kind,.int .i64 ops_.a0.N,.int .i64 ops_.a0.RM,.int .i64 ops_.a0.V.N,.int .i64 ops_.a0.V.From,.int .i64 ops_.a0.V.Which,.int .i64 ops_.a0.V.Type_,.int .i64 ops_.a0.V.Wants,.bool ops_.a0.V.Known,.int .i64 ops_.a0.Type_,.int .i64 ops_.a0.Over,.bool ops_.a0.Short,.int .i64 ops_.a1.Kind,.int .i64 ops_.a1.N,.int .i64 ops_.a1.RM,.int .i64 ops_.a1.V.N,.int .i64 ops_.a1.V.From,.int .i64 ops_.a1.V.Which,.int .i64 ops_.a1.V.Type_,.int .i64 ops_.a1.V.Wants,.bool ops_.a1.V.Known,.int .i64 ops_.a1.Type_,.int .i64 ops_.a1.Over,.bool ops_.a1.Short]),.b long_] 0,ay (fun _=>none) []⟩ (oP word_ ops_ long_ r):=by
 unfold du at h
 refine Sq<|Ro<|Rc 3 [⟨.ptr [4] 0 0,[([4],some (.cells [.i ops_.a0.Kind,.i ops_.a0.N,.i ops_.a0.RM,.i ops_.a0.V.N,.i ops_.a0.V.From,.i ops_.a0.V.Which,.i ops_.a0.V.Type_,.i ops_.a0.V.Wants,.b ops_.a0.V.Known,.i ops_.a0.Type_,.i ops_.a0.Over,.b ops_.a0.Short,.i ops_.a1.Kind,.i ops_.a1.N,.i ops_.a1.RM,.i ops_.a1.V.N,.i ops_.a1.V.From,.i ops_.a1.V.Which,.i ops_.a1.V.Type_,.i ops_.a1.V.Wants,.b ops_.a1.V.Known,.i ops_.a1.Type_,.i ops_.a1.Over,.b ops_.a1.Short] 0))]⟩,⟨.ptr [6] 0 0,[([6],some (.cells [.b false,.i 0,.i 0,.y 0,.i 0,.i 0,.i 0,.w 0,.w 0,.w 0,.i 0,.i 0,.i 0,.i 0,.i 0,.b false,.i 0,.i 0,.i 0,.i 0,.i 0,.b false,.b false,.b false,.b false] 0))]⟩,vi 0]<|Rk<|Sq<|Ro<|Rc 1 [⟨.d (.str word_),[]⟩] ?_
 obtain ⟨r_1,hr_1,h⟩:=ah h
 have hc_1:=uZ word_ r_1 hr_1
 refine Rt (some 13) (.callf 39) [] none [.d (.str word_)] (.tup [.i r_1.1,.i r_1.2]) [] (cc hc_1)<|Rc 5 [⟨.tup [.i r_1.1,.i r_1.2],[]⟩,vi r_1.1,vi r_1.2,vi r_1.1,vi r_1.2]<|Rk<|Sq<|Ro<|Rc 2 [vi r_1.1,⟨.d (.agg [.int .i64 ops_.a0.Kind,.int .i64 ops_.a0.N,.int .i64 ops_.a0.RM,.int .i64 ops_.a0.V.N,.int .i64 ops_.a0.V.From,.int .i64 ops_.a0.V.Which,.int .i64 ops_.a0.V.Type_,.int .i64 ops_.a0.V.Wants,.bool ops_.a0.V.Known,.int .i64 ops_.a0.Type_,.int .i64 ops_.a0.Over,.bool ops_.a0.Short,.int .i64 ops_.a1.Kind,.int .i64 ops_.a1.N,.int .i64 ops_.a1.RM,.int .i64 ops_.a1.V.N,.int .i64 ops_.a1.V.From,.int .i64 ops_.a1.V.Which,.int .i64 ops_.a1.V.Type_,.int .i64 ops_.a1.V.Wants,.bool ops_.a1.V.Known,.int .i64 ops_.a1.Type_,.int .i64 ops_.a1.Over,.bool ops_.a1.Short]),[]⟩] ?_
 obtain ⟨r_2,hr_2,h⟩:=ah h
 have hc_2:=m3 r_1.1 ops_ r_2 hr_2
 refine Rt (some 18) (.callf 8) [] none [.i r_1.1,.d (.agg [.int .i64 ops_.a0.Kind,.int .i64 ops_.a0.N,.int .i64 ops_.a0.RM,.int .i64 ops_.a0.V.N,.int .i64 ops_.a0.V.From,.int .i64 ops_.a0.V.Which,.int .i64 ops_.a0.V.Type_,.int .i64 ops_.a0.V.Wants,.bool ops_.a0.V.Known,.int .i64 ops_.a0.Type_,.int .i64 ops_.a0.Over,.bool ops_.a0.Short,.int .i64 ops_.a1.Kind,.int .i64 ops_.a1.N,.int .i64 ops_.a1.RM,.int .i64 ops_.a1.V.N,.int .i64 ops_.a1.V.From,.int .i64 ops_.a1.V.Which,.int .i64 ops_.a1.V.Type_,.int .i64 ops_.a1.V.Wants,.bool ops_.a1.V.Known,.int .i64 ops_.a1.Type_,.int .i64 ops_.a1.Over,.bool ops_.a1.Short])] (.ref [18] 0 0 (List.map Choice.d r_2).length 25) [([18],some (.arr (List.map Choice.d r_2) 0 false))] (jd (k9 (ws:=[]) (us:=[]) (by kernel_rfl) (cO (ws:=[]) (dP (by kernel_rfl)) (cO (ws:=[]) (dP (by kernel_rfl)) gf)) hc_2 (by kernel_rfl) (by kernel_rfl)))<|Rc 1 [⟨.ref [18] 0 0 (List.map Choice.d r_2).length 25,[]⟩]<|Rk<|Sq<|Sq<|Ro<|Rc 2 [vi r_1.2,vb (decide (r_1.2>0))]<|Rk ?_
 cases hb_1:((decide (r_1.2>0)):Bool) with
 | true =>
  replace h:=aa hb_1 h
  refine Ct<|Ro<|Rc 3 [⟨.ref [18] 0 0 (List.map Choice.d r_2).length 25,[]⟩,vi r_1.2,⟨.d (.agg [.int .i64 ops_.a0.Kind,.int .i64 ops_.a0.N,.int .i64 ops_.a0.RM,.int .i64 ops_.a0.V.N,.int .i64 ops_.a0.V.From,.int .i64 ops_.a0.V.Which,.int .i64 ops_.a0.V.Type_,.int .i64 ops_.a0.V.Wants,.bool ops_.a0.V.Known,.int .i64 ops_.a0.Type_,.int .i64 ops_.a0.Over,.bool ops_.a0.Short,.int .i64 ops_.a1.Kind,.int .i64 ops_.a1.N,.int .i64 ops_.a1.RM,.int .i64 ops_.a1.V.N,.int .i64 ops_.a1.V.From,.int .i64 ops_.a1.V.Which,.int .i64 ops_.a1.V.Type_,.int .i64 ops_.a1.V.Wants,.bool ops_.a1.V.Known,.int .i64 ops_.a1.Type_,.int .i64 ops_.a1.Over,.bool ops_.a1.Short]),[]⟩] ?_
  obtain ⟨r_3,hr_3,h⟩:=ah h
  have hc_3:=m3 r_1.2 ops_ r_3 hr_3
  refine Rt (some 24) (.callf 8) [] none [.i r_1.2,.d (.agg [.int .i64 ops_.a0.Kind,.int .i64 ops_.a0.N,.int .i64 ops_.a0.RM,.int .i64 ops_.a0.V.N,.int .i64 ops_.a0.V.From,.int .i64 ops_.a0.V.Which,.int .i64 ops_.a0.V.Type_,.int .i64 ops_.a0.V.Wants,.bool ops_.a0.V.Known,.int .i64 ops_.a0.Type_,.int .i64 ops_.a0.Over,.bool ops_.a0.Short,.int .i64 ops_.a1.Kind,.int .i64 ops_.a1.N,.int .i64 ops_.a1.RM,.int .i64 ops_.a1.V.N,.int .i64 ops_.a1.V.From,.int .i64 ops_.a1.V.Which,.int .i64 ops_.a1.V.Type_,.int .i64 ops_.a1.V.Wants,.bool ops_.a1.V.Known,.int .i64 ops_.a1.Type_,.int .i64 ops_.a1.Over,.bool ops_.a1.Short])] (.ref [24] 0 0 (List.map Choice.d r_3).length 25) [([24],some (.arr (List.map Choice.d r_3) 0 false))] (jd (k9 (ws:=[]) (us:=[]) (by kernel_rfl) (cO (ws:=[]) (dP (by kernel_rfl)) (cO (ws:=[]) (dP (by kernel_rfl)) gf)) hc_3 (by kernel_rfl) (by kernel_rfl))) ?_
  obtain ⟨z_1,hz_1,h⟩:=ah h
  refine Rt (some 25) (.append 25 168 false) [] none [.ref [18] 0 0 (List.map Choice.d r_2).length 25,.ref [24] 0 0 (List.map Choice.d r_3).length 25] (.ref [18] 1 0 (List.map Choice.d z_1).length 25) [([18],some (.arr (List.map Choice.d z_1) 1 false))] (qc (e:=Choice.d) (l:=r_2) (fz:=false) (ws:=[]) (wy (e:=Choice.d) (l:=r_3) (fz:=false) (by kernel_rfl) (by kernel_rfl) rfl) (fun _=>rfl) hz_1 (by kernel_rfl) (by kernel_rfl) rfl)<|Rc 1 [⟨.ref [18] 1 0 (List.map Choice.d z_1).length 25,[]⟩]<|Rk<|Runs.canon (iV ({ I:=({ Lock:=false,Rep:=0,Seg:=0,Op:=0,Mod:=0,Reg:=0,RM:=0,Disp:=0,Imm:=0,Sel:=0 }:Inst),Disp:=({ N:=0,From:=0,Which:=0,Type_:=0,Wants:=0,Known:=false }:api_Value),Imm:=({ N:=0,From:=0,Which:=0,Type_:=0,Wants:=0,Known:=false }:api_Value),HasD:=false,HasI:=false,Jumps:=false }:Choice) z_1 long_ 1) Cz ?_
  exact ji word_ ops_ long_ ({ I:=({ Lock:=false,Rep:=0,Seg:=0,Op:=0,Mod:=0,Reg:=0,RM:=0,Disp:=0,Imm:=0,Sel:=0 }:Inst),Disp:=({ N:=0,From:=0,Which:=0,Type_:=0,Wants:=0,Known:=false }:api_Value),Imm:=({ N:=0,From:=0,Which:=0,Type_:=0,Wants:=0,Known:=false }:api_Value),HasD:=false,HasI:=false,Jumps:=false }:Choice) z_1 long_ 1 r h
 | false =>
  replace h:=ab hb_1 h
  refine Cf<|Runs.skip<|ai<|Runs.canon (iV ({ I:=({ Lock:=false,Rep:=0,Seg:=0,Op:=0,Mod:=0,Reg:=0,RM:=0,Disp:=0,Imm:=0,Sel:=0 }:Inst),Disp:=({ N:=0,From:=0,Which:=0,Type_:=0,Wants:=0,Known:=false }:api_Value),Imm:=({ N:=0,From:=0,Which:=0,Type_:=0,Wants:=0,Known:=false }:api_Value),HasD:=false,HasI:=false,Jumps:=false }:Choice) r_2 long_ 0) Cz ?_
  exact ji word_ ops_ long_ ({ I:=({ Lock:=false,Rep:=0,Seg:=0,Op:=0,Mod:=0,Reg:=0,RM:=0,Disp:=0,Imm:=0,Sel:=0 }:Inst),Disp:=({ N:=0,From:=0,Which:=0,Type_:=0,Wants:=0,Known:=false }:api_Value),Imm:=({ N:=0,From:=0,Which:=0,Type_:=0,Wants:=0,Known:=false }:api_Value),HasD:=false,HasI:=false,Jumps:=false }:Choice) r_2 long_ 0 r h
theorem oQ (word_:(List UInt8)) (ops_:(A2 Operand)) (long_:Bool) (r:(Choice × Int)) (h:du word_ ops_ long_=some r):L 18 [.d (.str word_),.d (.agg [.int .i64 ops_.a0.Kind,.int .i64 ops_.a0.N,.int .i64 ops_.a0.RM,.int .i64 ops_.a0.V.N,.int .i64 ops_.a0.V.From,.int .i64 ops_.a0.V.Which,.int .i64 ops_.a0.V.Type_,.int .i64 ops_.a0.V.Wants,.bool ops_.a0.V.Known,.int .i64 ops_.a0.Type_,.int .i64 ops_.a0.Over,.bool ops_.a0.Short,.int .i64 ops_.a1.Kind,.int .i64 ops_.a1.N,.int .i64 ops_.a1.RM,.int .i64 ops_.a1.V.N,.int .i64 ops_.a1.V.From,.int .i64 ops_.a1.V.Which,.int .i64 ops_.a1.V.Type_,.int .i64 ops_.a1.V.Wants,.bool ops_.a1.V.Known,.int .i64 ops_.a1.Type_,.int .i64 ops_.a1.Over,.bool ops_.a1.Short]),.b long_]=some (.tup [.d (Choice.d r.1),.i r.2],[.d (.str word_),.d (.agg [.int .i64 ops_.a0.Kind,.int .i64 ops_.a0.N,.int .i64 ops_.a0.RM,.int .i64 ops_.a0.V.N,.int .i64 ops_.a0.V.From,.int .i64 ops_.a0.V.Which,.int .i64 ops_.a0.V.Type_,.int .i64 ops_.a0.V.Wants,.bool ops_.a0.V.Known,.int .i64 ops_.a0.Type_,.int .i64 ops_.a0.Over,.bool ops_.a0.Short,.int .i64 ops_.a1.Kind,.int .i64 ops_.a1.N,.int .i64 ops_.a1.RM,.int .i64 ops_.a1.V.N,.int .i64 ops_.a1.V.From,.int .i64 ops_.a1.V.Which,.int .i64 ops_.a1.V.Type_,.int .i64 ops_.a1.V.Wants,.bool ops_.a1.V.Known,.int .i64 ops_.a1.Type_,.int .i64 ops_.a1.Over,.bool ops_.a1.Short]),.b long_]):=by
 obtain ⟨p,⟨hne,hf⟩,hr⟩:=tY word_ ops_ long_ r h
 obtain ⟨k,hk⟩:=aD (F:=F18) (args:=[.d (.str word_),.d (.agg [.int .i64 ops_.a0.Kind,.int .i64 ops_.a0.N,.int .i64 ops_.a0.RM,.int .i64 ops_.a0.V.N,.int .i64 ops_.a0.V.From,.int .i64 ops_.a0.V.Which,.int .i64 ops_.a0.V.Type_,.int .i64 ops_.a0.V.Wants,.bool ops_.a0.V.Known,.int .i64 ops_.a0.Type_,.int .i64 ops_.a0.Over,.bool ops_.a0.Short,.int .i64 ops_.a1.Kind,.int .i64 ops_.a1.N,.int .i64 ops_.a1.RM,.int .i64 ops_.a1.V.N,.int .i64 ops_.a1.V.From,.int .i64 ops_.a1.V.Which,.int .i64 ops_.a1.V.Type_,.int .i64 ops_.a1.V.Wants,.bool ops_.a1.V.Known,.int .i64 ops_.a1.Type_,.int .i64 ops_.a1.Over,.bool ops_.a1.Short]),.b long_]) (ap:=[.d (.str word_),.d (.agg [.int .i64 ops_.a0.Kind,.int .i64 ops_.a0.N,.int .i64 ops_.a0.RM,.int .i64 ops_.a0.V.N,.int .i64 ops_.a0.V.From,.int .i64 ops_.a0.V.Which,.int .i64 ops_.a0.V.Type_,.int .i64 ops_.a0.V.Wants,.bool ops_.a0.V.Known,.int .i64 ops_.a0.Type_,.int .i64 ops_.a0.Over,.bool ops_.a0.Short,.int .i64 ops_.a1.Kind,.int .i64 ops_.a1.N,.int .i64 ops_.a1.RM,.int .i64 ops_.a1.V.N,.int .i64 ops_.a1.V.From,.int .i64 ops_.a1.V.Which,.int .i64 ops_.a1.V.Type_,.int .i64 ops_.a1.V.Wants,.bool ops_.a1.V.Known,.int .i64 ops_.a1.Type_,.int .i64 ops_.a1.Over,.bool ops_.a1.Short]),.b long_]) (bx0:=ay (fun _=>none) []) rfl rfl (by kernel_rfl) ⟨p,⟨hne,hf⟩,hr⟩
 exact aA (k:=k) rfl hk
def lD  (r:Bool) (p:Out × St):Prop:=(∀ i,p.1≠.exit i)∧aV F7 [] p.2=some (.b r,[])
theorem kQ  (r:Bool) (h:bX=some r):Runs L F7.body ⟨a9 [] 0,ay (fun _=>none) []⟩ (lD  r):=by
 unfold bX at h
 refine Sq<|Ro<|Rc 1 [vb false]<|Rk<|Sq<|Ro<|Rc 2 [⟨.d (.agg [.int .i64 2,.int .i64 0,.int .i64 0,.int .i64 0,.int .i64 0,.int .i64 0,.int .i64 0,.int .i64 0,.bool false,.int .i64 0,.int .i64 0,.bool false]),[]⟩,⟨.d (.agg [.int .i64 2,.int .i64 0,.int .i64 0,.int .i64 0,.int .i64 0,.int .i64 0,.int .i64 0,.int .i64 0,.bool false,.int .i64 0,.int .i64 0,.bool false,.int .i64 0,.int .i64 0,.int .i64 0,.int .i64 0,.int .i64 0,.int .i64 0,.int .i64 0,.int .i64 0,.bool false,.int .i64 0,.int .i64 0,.bool false]),[]⟩] ?_
 obtain ⟨r_1,hr_1,h⟩:=ah h
 have hc_1:=oQ ([73,78,67]:List UInt8) ({ a0:=({ Kind:=2,N:=0,RM:=0,V:=({ N:=0,From:=0,Which:=0,Type_:=0,Wants:=0,Known:=false }:api_Value),Type_:=0,Over:=0,Short:=false }:Operand),a1:=({ Kind:=0,N:=0,RM:=0,V:=({ N:=0,From:=0,Which:=0,Type_:=0,Wants:=0,Known:=false }:api_Value),Type_:=0,Over:=0,Short:=false }:Operand) }:(A2 Operand)) false r_1 hr_1
 refine Rt (some 8) (.callf 18) [] none [.d (.str ([73,78,67]:List UInt8)),.d (.agg [.int .i64 2,.int .i64 0,.int .i64 0,.int .i64 0,.int .i64 0,.int .i64 0,.int .i64 0,.int .i64 0,.bool false,.int .i64 0,.int .i64 0,.bool false,.int .i64 0,.int .i64 0,.int .i64 0,.int .i64 0,.int .i64 0,.int .i64 0,.int .i64 0,.int .i64 0,.bool false,.int .i64 0,.int .i64 0,.bool false]),.b false] (.tup [.d (Choice.d r_1.1),.i r_1.2]) [] (cc hc_1)<|Rc 6 [⟨.tup [.d (Choice.d r_1.1),.i r_1.2],[]⟩,⟨.d (Choice.d r_1.1),[]⟩,vi r_1.2,⟨.ptr [1] 0 0,[([1],some (.cells [.b false,.i 0,.i 0,.y 0,.i 0,.i 0,.i 0,.w 0,.w 0,.w 0,.i 0,.i 0,.i 0,.i 0,.i 0,.b false,.i 0,.i 0,.i 0,.i 0,.i 0,.b false,.b false,.b false,.b false] 0))]⟩,⟨.tup [],[([1],some (.cells [.b r_1.1.I.Lock,.i r_1.1.I.Rep,.i r_1.1.I.Seg,.y r_1.1.I.Op,.i r_1.1.I.Mod,.i r_1.1.I.Reg,.i r_1.1.I.RM,.w r_1.1.I.Disp,.w r_1.1.I.Imm,.w r_1.1.I.Sel,.i r_1.1.Disp.N,.i r_1.1.Disp.From,.i r_1.1.Disp.Which,.i r_1.1.Disp.Type_,.i r_1.1.Disp.Wants,.b r_1.1.Disp.Known,.i r_1.1.Imm.N,.i r_1.1.Imm.From,.i r_1.1.Imm.Which,.i r_1.1.Imm.Type_,.i r_1.1.Imm.Wants,.b r_1.1.Imm.Known,.b r_1.1.HasD,.b r_1.1.HasI,.b r_1.1.Jumps] 0))]⟩,vi r_1.2] ?_
 refine Rk<|Sq<|Ro<|Rc 3 [⟨.d (.agg [.int .i64 3,.int .i64 1,.int .i64 0,.int .i64 0,.int .i64 0,.int .i64 0,.int .i64 0,.int .i64 0,.bool false,.int .i64 0,.int .i64 0,.bool false]),[]⟩,⟨.d (.agg [.int .i64 2,.int .i64 0,.int .i64 0,.int .i64 0,.int .i64 0,.int .i64 0,.int .i64 0,.int .i64 0,.bool false,.int .i64 0,.int .i64 0,.bool false]),[]⟩,⟨.d (.agg [.int .i64 3,.int .i64 1,.int .i64 0,.int .i64 0,.int .i64 0,.int .i64 0,.int .i64 0,.int .i64 0,.bool false,.int .i64 0,.int .i64 0,.bool false,.int .i64 2,.int .i64 0,.int .i64 0,.int .i64 0,.int .i64 0,.int .i64 0,.int .i64 0,.int .i64 0,.bool false,.int .i64 0,.int .i64 0,.bool false]),[]⟩] ?_
 obtain ⟨r_2,hr_2,h⟩:=ah h
 have hc_2:=oQ ([77,79,86]:List UInt8) ({ a0:=({ Kind:=3,N:=1,RM:=0,V:=({ N:=0,From:=0,Which:=0,Type_:=0,Wants:=0,Known:=false }:api_Value),Type_:=0,Over:=0,Short:=false }:Operand),a1:=({ Kind:=2,N:=0,RM:=0,V:=({ N:=0,From:=0,Which:=0,Type_:=0,Wants:=0,Known:=false }:api_Value),Type_:=0,Over:=0,Short:=false }:Operand) }:(A2 Operand)) false r_2 hr_2
 refine Rt (some 15) (.callf 18) [] none [.d (.str ([77,79,86]:List UInt8)),.d (.agg [.int .i64 3,.int .i64 1,.int .i64 0,.int .i64 0,.int .i64 0,.int .i64 0,.int .i64 0,.int .i64 0,.bool false,.int .i64 0,.int .i64 0,.bool false,.int .i64 2,.int .i64 0,.int .i64 0,.int .i64 0,.int .i64 0,.int .i64 0,.int .i64 0,.int .i64 0,.bool false,.int .i64 0,.int .i64 0,.bool false]),.b false] (.tup [.d (Choice.d r_2.1),.i r_2.2]) [] (cc hc_2)<|Rc 6 [⟨.tup [.d (Choice.d r_2.1),.i r_2.2],[]⟩,⟨.d (Choice.d r_2.1),[]⟩,vi r_2.2,⟨.ptr [3] 0 0,[([3],some (.cells [.b false,.i 0,.i 0,.y 0,.i 0,.i 0,.i 0,.w 0,.w 0,.w 0,.i 0,.i 0,.i 0,.i 0,.i 0,.b false,.i 0,.i 0,.i 0,.i 0,.i 0,.b false,.b false,.b false,.b false] 0))]⟩,⟨.tup [],[([3],some (.cells [.b r_2.1.I.Lock,.i r_2.1.I.Rep,.i r_2.1.I.Seg,.y r_2.1.I.Op,.i r_2.1.I.Mod,.i r_2.1.I.Reg,.i r_2.1.I.RM,.w r_2.1.I.Disp,.w r_2.1.I.Imm,.w r_2.1.I.Sel,.i r_2.1.Disp.N,.i r_2.1.Disp.From,.i r_2.1.Disp.Which,.i r_2.1.Disp.Type_,.i r_2.1.Disp.Wants,.b r_2.1.Disp.Known,.i r_2.1.Imm.N,.i r_2.1.Imm.From,.i r_2.1.Imm.Which,.i r_2.1.Imm.Type_,.i r_2.1.Imm.Wants,.b r_2.1.Imm.Known,.b r_2.1.HasD,.b r_2.1.HasI,.b r_2.1.Jumps] 0))]⟩,vi r_2.2] ?_
 refine Rk<|Sq<|Ro<|Rc 3 [vi r_1.2,vb (r_1.2==0),vb (r_1.2==0)] ?_
 cases hb_1:((r_1.2==0):Bool) with
 | true =>
  replace h:=aa hb_1 h
  refine Rc 6 [vp [1] 0 0,vp [1] 0 3,vy r_1.1.I.Op,vb (r_1.1.I.Op==64),vb (r_1.1.I.Op==64),vb (r_1.1.I.Op==64)] ?_
  cases hb_2:((r_1.1.I.Op==64):Bool) with
  | true =>
   replace h:=aa hb_2 h
   refine Rc 4 [vi r_2.2,vb (r_2.2==6),vb (r_2.2==6),vb (r_2.2==6)]<|Rk<|Runs.ret ?_
   cases h
   exact Fq
  | false =>
   replace h:=ab hb_2 h
   refine Rc 4 [vn,vn,vb false,vb false]<|Rk<|Runs.ret ?_
   cases h
   exact Fq
 | false =>
  replace h:=ab hb_1 h
  refine Rc 10 [vn,vn,vn,vn,vb false,vb false,vn,vn,vb false,vb false]<|Rk<|Runs.ret ?_
  cases h
  exact Fq
theorem gT  (r:Bool) (h:bX=some r):L 7 []=some (.b r,[]):=by
 obtain ⟨p,⟨hne,hf⟩,hr⟩:=kQ  r h
 obtain ⟨k,hk⟩:=aD (F:=F7) (args:=[]) (ap:=[]) (bx0:=ay (fun _=>none) []) rfl rfl (by kernel_rfl) ⟨p,⟨hne,hf⟩,hr⟩
 exact aA (k:=k) rfl hk
def cz (i3:Inst) (r4:Row) (l8:(List Choice)) (found9:Bool) (k10:Int):St:=⟨tab [(3,.ptr [3] 0 0),(4,.ptr [4] 0 0),(8,.d (.sl (List.map Choice.d l8))),(9,.b found9),(10,.i k10)],be [([3],some (.cells [.b i3.Lock,.i i3.Rep,.i i3.Seg,.y i3.Op,.i i3.Mod,.i i3.Reg,.i i3.RM,.w i3.Disp,.w i3.Imm,.w i3.Sel] 0)),([4],some (.cells [.i r4.Name,.i r4.A,.i r4.B,.b r4.Mod] 0))]⟩
def dz (i3:Inst) (r4:Row) (c11:Inst) (l8:(List Choice)) (found9:Bool) (k10:Int):St:=⟨tab [(3,.ptr [3] 0 0),(4,.ptr [4] 0 0),(8,.d (.sl (List.map Choice.d l8))),(9,.b found9),(10,.i k10),(11,.ptr [11] 0 0)],be [([3],some (.cells [.b i3.Lock,.i i3.Rep,.i i3.Seg,.y i3.Op,.i i3.Mod,.i i3.Reg,.i i3.RM,.w i3.Disp,.w i3.Imm,.w i3.Sel] 0)),([4],some (.cells [.i r4.Name,.i r4.A,.i r4.B,.b r4.Mod] 0)),([11],some (.cells [.b c11.Lock,.i c11.Rep,.i c11.Seg,.y c11.Op,.i c11.Mod,.i c11.Reg,.i c11.RM,.w c11.Disp,.w c11.Imm,.w c11.Sel] 0))]⟩
def jj (i3:Inst) (r4:Row) (found9:Bool):St:=⟨tab [(3,.ptr [3] 0 0),(4,.ptr [4] 0 0),(9,.b found9)],be [([3],some (.cells [.b i3.Lock,.i i3.Rep,.i i3.Seg,.y i3.Op,.i i3.Mod,.i i3.Reg,.i i3.RM,.w i3.Disp,.w i3.Imm,.w i3.Sel] 0)),([4],some (.cells [.i r4.Name,.i r4.A,.i r4.B,.b r4.Mod] 0))]⟩
def j7 (x_:Inst) (r:Bool) (p:Out × St):Prop:=(∀ i,p.1≠.exit i)∧aV F3 [.d (Inst.d x_)] p.2=some (.b r,[.d (Inst.d x_)])
def dA (x_:Inst) (i3:Inst) (r4:Row) (l8:(List Choice)) (e:(Bool ⊕ Bool)) (p:Out × St):Prop:=match e with
 | .inl x=>p.1=.ret∧aV F3 [.d (Inst.d x_)] p.2=some (.b x,[.d (Inst.d x_)])
 | .inr x=>p.1=.exit 0∧∃ g:Unit,Canon [] [3,4,9] [[3],[4]] p.2 (jj i3 r4 x)
theorem eB (x_:Inst) (i3:Inst) (r4:Row) (c11:Inst) (l8:(List Choice)) (found9:Bool) (k10:Int) (r:(Lp (Bool × Int) (Bool ⊕ Bool))) (h:aR i3 r4 c11 l8 found9 k10=some r):Runs L Cn (dz i3 r4 c11 l8 found9 k10) (kB 1 (kS L Co (LQ [.frz 8] [3,4,8,9,10] [[3],[4]] (fun (x:(Bool × Int)) (g:Unit)=>cz i3 r4 l8 x.1 x.2) (dA x_ i3 r4 l8) r))):=by
 unfold aR at h
 refine Sq<|Ro<|Rc 1 [⟨.d (Inst.d c11),[]⟩] ?_
 obtain ⟨r_9,hr_9,h⟩:=ah h
 have hc_9:=dh c11 r_9 hr_9
 refine Rt (some 71) (.callf 5) [] none [.d (Inst.d c11)] (.tup [.d (Row.d r_9.1),.b r_9.2]) [] (cc hc_9)<|Rc 6 [⟨.tup [.d (Row.d r_9.1),.b r_9.2],[]⟩,⟨.d (Row.d r_9.1),[]⟩,vb r_9.2,⟨.ptr [12] 0 0,[([12],some (.cells [.i 0,.i 0,.i 0,.b false] 0))]⟩,⟨.tup [],[([12],some (.cells [.i r_9.1.Name,.i r_9.1.A,.i r_9.1.B,.b r_9.1.Mod] 0))]⟩,vb r_9.2]<|Rk<|Sq<|Sq<|Ro<|Rc 5 [vp [12] 0 0,vi r_9.1.Name,vp [4] 0 0,vi r4.Name,vb (r_9.1.Name != r4.Name)]<|Rk ?_
 cases hb_7:((r_9.1.Name != r4.Name):Bool) with
 | true =>
  replace h:=aa hb_7 h
  refine Ct<|Sq<|Ro<|Rc 1 [vb false]<|Rk<|Runs.ret<|ae<|aj<|ae ?_
  obtain rfl:=sj h
  exact ⟨nofun,rfl,(by kernel_rfl)⟩
 | false =>
  replace h:=ab hb_7 h
  refine Cf<|Runs.skip<|ai<|Ro<|Rc 2 [vb found9,vb found9] ?_
  cases hb_8:(found9:Bool) with
  | true =>
   replace h:=aa hb_8 h
   refine Rc 19 [vn,vn,vn,vb true,vb true,vn,vn,vn,vn,vn,vn,vn,vn,vn,vn,vn,vn,vb true,vb true]<|Rd<|az<|ai<|Ro<|Rc 3 [vi k10,vi (IntKind.wrap .i64 (k10+1)),vi (IntKind.wrap .i64 (k10+1))]<|Rd ?_
   obtain rfl:=sj h
   exact ⟨rfl,(),(Canon.same (by kernel_rfl) Cz)⟩
  | false =>
   replace h:=ab hb_8 h
   refine Rc 5 [⟨.d (Inst.d c11),[]⟩,⟨.d (Inst.d i3),[]⟩,vb (c11.Lock==i3.Lock && (c11.Rep==i3.Rep && (c11.Seg==i3.Seg && (c11.Op==i3.Op && (c11.Mod==i3.Mod && (c11.Reg==i3.Reg && (c11.RM==i3.RM && (c11.Disp==i3.Disp && (c11.Imm==i3.Imm && (c11.Sel==i3.Sel && true)))))))))),vb (c11.Lock==i3.Lock && (c11.Rep==i3.Rep && (c11.Seg==i3.Seg && (c11.Op==i3.Op && (c11.Mod==i3.Mod && (c11.Reg==i3.Reg && (c11.RM==i3.RM && (c11.Disp==i3.Disp && (c11.Imm==i3.Imm && (c11.Sel==i3.Sel && true)))))))))),vb (c11.Lock==i3.Lock && (c11.Rep==i3.Rep && (c11.Seg==i3.Seg && (c11.Op==i3.Op && (c11.Mod==i3.Mod && (c11.Reg==i3.Reg && (c11.RM==i3.RM && (c11.Disp==i3.Disp && (c11.Imm==i3.Imm && (c11.Sel==i3.Sel && true))))))))))] ?_
   cases hb_9:((c11.Lock==i3.Lock && (c11.Rep==i3.Rep && (c11.Seg==i3.Seg && (c11.Op==i3.Op && (c11.Mod==i3.Mod && (c11.Reg==i3.Reg && (c11.RM==i3.RM && (c11.Disp==i3.Disp && (c11.Imm==i3.Imm && (c11.Sel==i3.Sel && true)))))))))):Bool) with
   | true =>
    replace h:=aa hb_9 h
    refine Rc 14 [vn,vn,vn,vn,vn,vn,vn,vn,vn,vn,vn,vn,vb true,vb true]<|Rd<|az<|ai<|Ro<|Rc 3 [vi k10,vi (IntKind.wrap .i64 (k10+1)),vi (IntKind.wrap .i64 (k10+1))]<|Rd ?_
    obtain rfl:=sj h
    exact ⟨rfl,(),(Canon.same (by kernel_rfl) Cz)⟩
   | false =>
    replace h:=ab hb_9 h
    refine Rc 6 [vp [11] 0 3,vy c11.Op,vp [3] 0 3,vy i3.Op,vb (c11.Op==i3.Op),vb (c11.Op==i3.Op)] ?_
    cases hb_10:((c11.Op==i3.Op):Bool) with
    | true =>
     replace h:=aa hb_10 h
     refine Rc 8 [vp [11] 0 4,vi c11.Mod,vp [3] 0 4,vi i3.Mod,vb (decide (c11.Mod<i3.Mod)),vb (decide (c11.Mod<i3.Mod)),vb (decide (c11.Mod<i3.Mod)),vb (decide (c11.Mod<i3.Mod))]<|Rd<|az<|ai<|Ro<|Rc 3 [vi k10,vi (IntKind.wrap .i64 (k10+1)),vi (IntKind.wrap .i64 (k10+1))]<|Rd ?_
     obtain rfl:=sj h
     exact ⟨rfl,(),(Canon.same (by kernel_rfl) Cz)⟩
    | false =>
     replace h:=ab hb_10 h
     refine Rc 8 [vn,vn,vn,vn,vn,vb false,vb false,vb false]<|Rd<|az<|ai<|Ro<|Rc 3 [vi k10,vi (IntKind.wrap .i64 (k10+1)),vi (IntKind.wrap .i64 (k10+1))]<|Rd ?_
     obtain rfl:=sj h
     exact ⟨rfl,(),(Canon.same (by kernel_rfl) Cz)⟩
theorem iC (x_:Inst) (i3:Inst) (r4:Row) (l8:(List Choice)) (found9:Bool) (k10:Int) (r:(Lp (Bool × Int) (Bool ⊕ Bool))) (h:aM i3 r4 l8 found9 k10=some r):Runs L Cp (cz i3 r4 l8 found9 k10) (LQ [.frz 8] [3,4,8,9,10] [[3],[4]] (fun (x:(Bool × Int)) (g:Unit)=>cz i3 r4 l8 x.1 x.2) (dA x_ i3 r4 l8) r):=by
 unfold aM at h
 refine Sq<|Sq<|Ro<|Rc 2 [vi k10,⟨.d (.sl (List.map Choice.d l8)),[]⟩]<|Rt (some 41) .lenL [] none [.d (.sl (List.map Choice.d l8))] (.i (l8.length:Int)) [] (xn _)<|Rc 1 [vb (decide (k10<(l8.length:Int)))]<|Rk ?_
 cases hb_3:((decide (k10<(l8.length:Int))):Bool) with
 | true =>
  replace h:=aa hb_3 h
  refine Ct<|Runs.skip<|ai<|Sq<|Runs.block<|Sq<|Ro<|Rc 2 [⟨.d (.sl (List.map Choice.d l8)),[]⟩,vi k10] ?_
  obtain ⟨z_1,hz_1,h⟩:=ah h
  refine Rt (some 47) (.iaddrS 25) [] none [.d (.sl (List.map Choice.d l8)),.i k10] (.elt (Choice.d z_1) 0) [] (s5 hz_1 (fun _=>rfl))<|Rc 4 [⟨.elt (Choice.d z_1) 0,[]⟩,⟨.d (Inst.d z_1.I),[]⟩,⟨.ptr [11] 0 0,[([11],some (.cells [.b false,.i 0,.i 0,.y 0,.i 0,.i 0,.i 0,.w 0,.w 0,.w 0] 0))]⟩,⟨.tup [],[([11],some (.cells [.b z_1.I.Lock,.i z_1.I.Rep,.i z_1.I.Seg,.y z_1.I.Op,.i z_1.I.Mod,.i z_1.I.Reg,.i z_1.I.RM,.w z_1.I.Disp,.w z_1.I.Imm,.w z_1.I.Sel] 0))]⟩]<|Rk<|Sq<|Sq<|Ro<|Rc 1 [⟨.d (Inst.d z_1.I),[]⟩] ?_
  obtain ⟨r_6,hr_6,h⟩:=ah h
  have hc_6:=fN z_1.I r_6 hr_6
  refine Rt (some 51) (.callf 9) [] none [.d (Inst.d z_1.I)] (.b r_6) [] (cc hc_6)<|Rc 2 [vb (!r_6),vb (!r_6)] ?_
  cases hb_4:((!r_6):Bool) with
  | true =>
   replace h:=aa hb_4 h
   refine Rc 15 [vn,vn,vn,vn,vn,vn,vn,vn,vn,vn,vn,vn,vn,vn,vb true]<|Rk<|Ct<|Sq<|Ro<|Rc 1 [vb false]<|Rk<|Runs.ret<|ae<|aj<|ae ?_
   obtain rfl:=sj h
   exact ⟨nofun,rfl,(by kernel_rfl)⟩
  | false =>
   replace h:=ab hb_4 h
   refine Rc 3 [vi k10,vb (decide (k10>0)),vb (decide (k10>0))] ?_
   cases hb_5:((decide (k10>0)):Bool) with
   | true =>
    replace h:=aa hb_5 h
    refine Rc 1 [⟨.d (Inst.d z_1.I),[]⟩] ?_
    obtain ⟨r_7,hr_7,h⟩:=ah h
    have hc_7:=mZ z_1.I r_7 hr_7
    refine Rt (some 58) (.callf 10) [] (some []) [.d (Inst.d z_1.I)] (.i r_7) [] (cc hc_7)<|Rc 3 [⟨.d (.sl (List.map Choice.d l8)),[]⟩,vi k10,vi (IntKind.wrap .i64 (k10 - 1))] ?_
    obtain ⟨z_2,hz_2,h⟩:=ah h
    refine Rt (some 62) (.iaddrS 25) [] none [.d (.sl (List.map Choice.d l8)),.i (IntKind.wrap .i64 (k10 - 1))] (.elt (Choice.d z_2) 0) [] (s5 hz_2 (fun _=>rfl))<|Rc 2 [⟨.elt (Choice.d z_2) 0,[]⟩,⟨.d (Inst.d z_2.I),[]⟩] ?_
    obtain ⟨r_8,hr_8,h⟩:=ah h
    have hc_8:=mZ z_2.I r_8 hr_8
    refine Rt (some 65) (.callf 10) [] none [.d (Inst.d z_2.I)] (.i r_8) [] (cc hc_8)<|Rc 3 [vb (decide (r_7<r_8)),vb (decide (r_7<r_8)),vb (decide (r_7<r_8))]<|Rk ?_
    cases hb_6:((decide (r_7<r_8)):Bool) with
    | true =>
     replace h:=aa hb_6 h
     refine Ct<|Sq<|Ro<|Rc 1 [vb false]<|Rk<|Runs.ret<|ae<|aj<|ae ?_
     obtain rfl:=sj h
     exact ⟨nofun,rfl,(by kernel_rfl)⟩
    | false =>
     replace h:=ab hb_6 h
     refine Cf<|Runs.skip<|ai<|Runs.canon (dz i3 r4 z_1.I l8 found9 k10) Cz ?_
     exact eB x_ i3 r4 z_1.I l8 found9 k10 r h
   | false =>
    replace h:=ab hb_5 h
    refine Rc 12 [vn,vn,vn,vn,vn,vn,vn,vn,vn,vn,vb false,vb false]<|Rk<|Cf<|Runs.skip<|ai<|Runs.canon (dz i3 r4 z_1.I l8 found9 k10) Cz ?_
    exact eB x_ i3 r4 z_1.I l8 found9 k10 r h
 | false =>
  replace h:=ab hb_3 h
  refine Cf<|Runs.exit<|bz ?_
  obtain rfl:=sj h
  exact ⟨nofun,rfl,(),Cz⟩
theorem jO (x_:Inst) (r:Bool) (h:cE x_=some r):Runs L F3.body ⟨a9 [.d (Inst.d x_)] 0,ay (fun _=>none) []⟩ (j7 x_ r):=by
 unfold cE at h
 refine Sq<|Ro<|Rc 2 [⟨.ptr [1] 0 0,[([1],some (.cells [.b x_.Lock,.i x_.Rep,.i x_.Seg,.y x_.Op,.i x_.Mod,.i x_.Reg,.i x_.RM,.w x_.Disp,.w x_.Imm,.w x_.Sel] 0))]⟩,vb false]<|Rk<|Sq<|Ro<|Rc 1 [⟨.d (Inst.d x_),[]⟩] ?_
 obtain ⟨r_1,hr_1,h⟩:=ah h
 have hc_1:=mR x_ r_1 hr_1
 refine Rt (some 15) (.callf 4) [] none [.d (Inst.d x_)] (.d (Inst.d r_1)) [] (cc hc_1)<|Rc 2 [⟨.ptr [3] 0 0,[([3],some (.cells [.b false,.i 0,.i 0,.y 0,.i 0,.i 0,.i 0,.w 0,.w 0,.w 0] 0))]⟩,⟨.tup [],[([3],some (.cells [.b r_1.Lock,.i r_1.Rep,.i r_1.Seg,.y r_1.Op,.i r_1.Mod,.i r_1.Reg,.i r_1.RM,.w r_1.Disp,.w r_1.Imm,.w r_1.Sel] 0))]⟩]<|Rk<|Sq<|Ro<|Rc 6 [vp [3] 0 0,⟨.tup [],[([3],some (.cells [.b false,.i r_1.Rep,.i r_1.Seg,.y r_1.Op,.i r_1.Mod,.i r_1.Reg,.i r_1.RM,.w r_1.Disp,.w r_1.Imm,.w r_1.Sel] 0))]⟩,vp [3] 0 1,⟨.tup [],[([3],some (.cells [.b false,.i 0,.i r_1.Seg,.y r_1.Op,.i r_1.Mod,.i r_1.Reg,.i r_1.RM,.w r_1.Disp,.w r_1.Imm,.w r_1.Sel] 0))]⟩,vp [3] 0 2,⟨.tup [],[([3],some (.cells [.b false,.i 0,.i 0,.y r_1.Op,.i r_1.Mod,.i r_1.Reg,.i r_1.RM,.w r_1.Disp,.w r_1.Imm,.w r_1.Sel] 0))]⟩] ?_
 refine Rk<|Sq<|Ro<|Rc 1 [⟨.d (.agg [.bool false,.int .i64 0,.int .i64 0,.int .u8 r_1.Op,.int .i64 r_1.Mod,.int .i64 r_1.Reg,.int .i64 r_1.RM,.int .u16 r_1.Disp,.int .u16 r_1.Imm,.int .u16 r_1.Sel]),[]⟩] ?_
 obtain ⟨r_2,hr_2,h⟩:=ah h
 have hc_2:=dh ({ r_1 with Lock:=false,Rep:=0,Seg:=0 }:Inst) r_2 hr_2
 refine Rt (some 21) (.callf 5) [] none [.d (.agg [.bool false,.int .i64 0,.int .i64 0,.int .u8 r_1.Op,.int .i64 r_1.Mod,.int .i64 r_1.Reg,.int .i64 r_1.RM,.int .u16 r_1.Disp,.int .u16 r_1.Imm,.int .u16 r_1.Sel])] (.tup [.d (Row.d r_2.1),.b r_2.2]) [] (cc hc_2)<|Rc 6 [⟨.tup [.d (Row.d r_2.1),.b r_2.2],[]⟩,⟨.d (Row.d r_2.1),[]⟩,vb r_2.2,⟨.ptr [4] 0 0,[([4],some (.cells [.i 0,.i 0,.i 0,.b false] 0))]⟩,⟨.tup [],[([4],some (.cells [.i r_2.1.Name,.i r_2.1.A,.i r_2.1.B,.b r_2.1.Mod] 0))]⟩,vb r_2.2]<|Rk<|Sq<|Ro<|Rc 1 [⟨.d (.agg [.bool false,.int .i64 0,.int .i64 0,.int .u8 r_1.Op,.int .i64 r_1.Mod,.int .i64 r_1.Reg,.int .i64 r_1.RM,.int .u16 r_1.Disp,.int .u16 r_1.Imm,.int .u16 r_1.Sel]),[]⟩] ?_
 obtain ⟨r_3,hr_3,h⟩:=ah h
 have hc_3:=mT ({ r_1 with Lock:=false,Rep:=0,Seg:=0 }:Inst) r_3 hr_3
 refine Rt (some 26) (.callf 6) [] none [.d (.agg [.bool false,.int .i64 0,.int .i64 0,.int .u8 r_1.Op,.int .i64 r_1.Mod,.int .i64 r_1.Reg,.int .i64 r_1.RM,.int .u16 r_1.Disp,.int .u16 r_1.Imm,.int .u16 r_1.Sel])] (.tup [.d (.agg [.int .i64 r_3.1.a0.Kind,.int .i64 r_3.1.a0.N,.int .i64 r_3.1.a0.RM,.int .i64 r_3.1.a0.V.N,.int .i64 r_3.1.a0.V.From,.int .i64 r_3.1.a0.V.Which,.int .i64 r_3.1.a0.V.Type_,.int .i64 r_3.1.a0.V.Wants,.bool r_3.1.a0.V.Known,.int .i64 r_3.1.a0.Type_,.int .i64 r_3.1.a0.Over,.bool r_3.1.a0.Short,.int .i64 r_3.1.a1.Kind,.int .i64 r_3.1.a1.N,.int .i64 r_3.1.a1.RM,.int .i64 r_3.1.a1.V.N,.int .i64 r_3.1.a1.V.From,.int .i64 r_3.1.a1.V.Which,.int .i64 r_3.1.a1.V.Type_,.int .i64 r_3.1.a1.V.Wants,.bool r_3.1.a1.V.Known,.int .i64 r_3.1.a1.Type_,.int .i64 r_3.1.a1.Over,.bool r_3.1.a1.Short]),.b r_3.2]) [] (cc hc_3)<|Rc 6 [⟨.tup [.d (.agg [.int .i64 r_3.1.a0.Kind,.int .i64 r_3.1.a0.N,.int .i64 r_3.1.a0.RM,.int .i64 r_3.1.a0.V.N,.int .i64 r_3.1.a0.V.From,.int .i64 r_3.1.a0.V.Which,.int .i64 r_3.1.a0.V.Type_,.int .i64 r_3.1.a0.V.Wants,.bool r_3.1.a0.V.Known,.int .i64 r_3.1.a0.Type_,.int .i64 r_3.1.a0.Over,.bool r_3.1.a0.Short,.int .i64 r_3.1.a1.Kind,.int .i64 r_3.1.a1.N,.int .i64 r_3.1.a1.RM,.int .i64 r_3.1.a1.V.N,.int .i64 r_3.1.a1.V.From,.int .i64 r_3.1.a1.V.Which,.int .i64 r_3.1.a1.V.Type_,.int .i64 r_3.1.a1.V.Wants,.bool r_3.1.a1.V.Known,.int .i64 r_3.1.a1.Type_,.int .i64 r_3.1.a1.Over,.bool r_3.1.a1.Short]),.b r_3.2],[]⟩,⟨.d (.agg [.int .i64 r_3.1.a0.Kind,.int .i64 r_3.1.a0.N,.int .i64 r_3.1.a0.RM,.int .i64 r_3.1.a0.V.N,.int .i64 r_3.1.a0.V.From,.int .i64 r_3.1.a0.V.Which,.int .i64 r_3.1.a0.V.Type_,.int .i64 r_3.1.a0.V.Wants,.bool r_3.1.a0.V.Known,.int .i64 r_3.1.a0.Type_,.int .i64 r_3.1.a0.Over,.bool r_3.1.a0.Short,.int .i64 r_3.1.a1.Kind,.int .i64 r_3.1.a1.N,.int .i64 r_3.1.a1.RM,.int .i64 r_3.1.a1.V.N,.int .i64 r_3.1.a1.V.From,.int .i64 r_3.1.a1.V.Which,.int .i64 r_3.1.a1.V.Type_,.int .i64 r_3.1.a1.V.Wants,.bool r_3.1.a1.V.Known,.int .i64 r_3.1.a1.Type_,.int .i64 r_3.1.a1.Over,.bool r_3.1.a1.Short]),[]⟩,vb r_3.2,⟨.ptr [6] 0 0,[([6],some (.cells [.i 0,.i 0,.i 0,.i 0,.i 0,.i 0,.i 0,.i 0,.b false,.i 0,.i 0,.b false,.i 0,.i 0,.i 0,.i 0,.i 0,.i 0,.i 0,.i 0,.b false,.i 0,.i 0,.b false] 0))]⟩,⟨.tup [],[([6],some (.cells [.i r_3.1.a0.Kind,.i r_3.1.a0.N,.i r_3.1.a0.RM,.i r_3.1.a0.V.N,.i r_3.1.a0.V.From,.i r_3.1.a0.V.Which,.i r_3.1.a0.V.Type_,.i r_3.1.a0.V.Wants,.b r_3.1.a0.V.Known,.i r_3.1.a0.Type_,.i r_3.1.a0.Over,.b r_3.1.a0.Short,.i r_3.1.a1.Kind,.i r_3.1.a1.N,.i r_3.1.a1.RM,.i r_3.1.a1.V.N,.i r_3.1.a1.V.From,.i r_3.1.a1.V.Which,.i r_3.1.a1.V.Type_,.i r_3.1.a1.V.Wants,.b r_3.1.a1.V.Known,.i r_3.1.a1.Type_,.i r_3.1.a1.Over,.b r_3.1.a1.Short] 0))]⟩,vb r_3.2] ?_
 refine Rk<|Sq<|Sq<|Ro<|Rc 2 [vb r_3.2,vb (!r_3.2)]<|Rk ?_
 cases hb_1:((!r_3.2):Bool) with
 | true =>
  replace h:=aa hb_1 h
  refine Ct<|Sq<|Ro ?_
  obtain ⟨r_4,hr_4,h⟩:=ah h
  have hc_4:=gT r_4 hr_4
  refine Rt (some 31) (.callf 7) [] none [] (.b r_4) [] (cc hc_4)<|Rc 1 [vb r_4]<|Rk<|Runs.ret<|ae ?_
  cases h
  exact Fq
 | false =>
  replace h:=ab hb_1 h
  refine Cf<|Runs.skip<|ai<|Sq<|Ro<|Rc 3 [vp [4] 0 0,vi r_2.1.Name,⟨.d (.agg [.int .i64 r_3.1.a0.Kind,.int .i64 r_3.1.a0.N,.int .i64 r_3.1.a0.RM,.int .i64 r_3.1.a0.V.N,.int .i64 r_3.1.a0.V.From,.int .i64 r_3.1.a0.V.Which,.int .i64 r_3.1.a0.V.Type_,.int .i64 r_3.1.a0.V.Wants,.bool r_3.1.a0.V.Known,.int .i64 r_3.1.a0.Type_,.int .i64 r_3.1.a0.Over,.bool r_3.1.a0.Short,.int .i64 r_3.1.a1.Kind,.int .i64 r_3.1.a1.N,.int .i64 r_3.1.a1.RM,.int .i64 r_3.1.a1.V.N,.int .i64 r_3.1.a1.V.From,.int .i64 r_3.1.a1.V.Which,.int .i64 r_3.1.a1.V.Type_,.int .i64 r_3.1.a1.V.Wants,.bool r_3.1.a1.V.Known,.int .i64 r_3.1.a1.Type_,.int .i64 r_3.1.a1.Over,.bool r_3.1.a1.Short]),[]⟩] ?_
  obtain ⟨r_5,hr_5,h⟩:=ah h
  have hc_5:=m3 r_2.1.Name r_3.1 r_5 hr_5
  refine Rt (some 35) (.callf 8) [] none [.i r_2.1.Name,.d (.agg [.int .i64 r_3.1.a0.Kind,.int .i64 r_3.1.a0.N,.int .i64 r_3.1.a0.RM,.int .i64 r_3.1.a0.V.N,.int .i64 r_3.1.a0.V.From,.int .i64 r_3.1.a0.V.Which,.int .i64 r_3.1.a0.V.Type_,.int .i64 r_3.1.a0.V.Wants,.bool r_3.1.a0.V.Known,.int .i64 r_3.1.a0.Type_,.int .i64 r_3.1.a0.Over,.bool r_3.1.a0.Short,.int .i64 r_3.1.a1.Kind,.int .i64 r_3.1.a1.N,.int .i64 r_3.1.a1.RM,.int .i64 r_3.1.a1.V.N,.int .i64 r_3.1.a1.V.From,.int .i64 r_3.1.a1.V.Which,.int .i64 r_3.1.a1.V.Type_,.int .i64 r_3.1.a1.V.Wants,.bool r_3.1.a1.V.Known,.int .i64 r_3.1.a1.Type_,.int .i64 r_3.1.a1.Over,.bool r_3.1.a1.Short])] (.ref [35] 0 0 (List.map Choice.d r_5).length 25) [([35],some (.arr (List.map Choice.d r_5) 0 false))] (jd (k9 (ws:=[]) (us:=[]) (by kernel_rfl) (cO (ws:=[]) (dP (by kernel_rfl)) (cO (ws:=[]) (dP (by kernel_rfl)) gf)) hc_5 (by kernel_rfl) (by kernel_rfl)))<|Rc 1 [⟨.ref [35] 0 0 (List.map Choice.d r_5).length 25,[]⟩]<|Rk<|Sq<|Sq<|Ro<|Rc 1 [⟨.ref [35] 0 0 (List.map Choice.d r_5).length 25,[]⟩]<|Rt (some 37) .lenL [] none [.ref [35] 0 0 (List.map Choice.d r_5).length 25] (.i (r_5.length:Int)) [] (nj (e:=Choice.d) r_5 rfl)<|Rc 1 [vb ((r_5.length:Int)==0)]<|Rk ?_
  cases hb_2:(((r_5.length:Int)==0):Bool) with
  | true =>
   replace h:=aa hb_2 h
   refine Ct<|Sq<|Ro<|Rc 1 [vb false]<|Rk<|Runs.ret<|ae ?_
   cases h
   exact Fq
  | false =>
   replace h:=ab hb_2 h
   refine Cf<|Runs.skip<|ai<|Sq<|Ro<|Rc 1 [vb false]<|Rk<|Sq<|Sq<|Ro<|Rc 1 [vi 0]<|Rk<|Runs.block ?_
   obtain ⟨e_1,he_1,h⟩:=ah h
   refine Runs.loop (fun x:(Bool × Int)=>aM ({ r_1 with Lock:=false,Rep:=0,Seg:=0 }:Inst) r_2.1 r_5 x.1 x.2) (fun (x:(Bool × Int)) (g:Unit)=>cz ({ r_1 with Lock:=false,Rep:=0,Seg:=0 }:Inst) r_2.1 r_5 x.1 x.2) (dA x_ ({ r_1 with Lock:=false,Rep:=0,Seg:=0 }:Inst) r_2.1 r_5) (fun x g r hr=>iC x_ ({ r_1 with Lock:=false,Rep:=0,Seg:=0 }:Inst) r_2.1 r_5 x.1 x.2  r hr) () he_1 (Canon.cons (xo (e:=Choice.d) (l:=r_5) (id:=[35]) (v:=0) (n:=25) (fz:=false) (by kernel_rfl) (by kernel_rfl) rfl) Cz) ?_
   rintro ⟨o,s⟩ hp
   cases e_1 with
   | inl e_2 =>
    obtain ⟨ho,hf⟩:=hp
    have ho':o=.ret:=ho
    subst ho'
    refine aj<|ae ?_
    obtain rfl:=sj h
    exact ⟨Out.ret_ne,hf⟩
   | inr e_3 =>
    obtain ⟨ho,g_1,hk_1⟩:=hp
    have ho':o=.exit 0:=ho
    subst ho'
    refine cN<|ai<|Runs.canon _ hk_1<|Sq<|Ro ?_
    obtain ⟨r_6,hr_6,h⟩:=ah h
    have hc_6:=gT r_6 hr_6
    refine Rt (some 99) (.callf 7) [] none [] (.b r_6) [] (cc hc_6)<|Rc 1 [vb r_6] ?_
    cases hb_3:(r_6:Bool) with
    | true =>
     replace h:=aa hb_3 h
     refine Rc 2 [vb e_3,vb e_3] ?_
     cases hb_4:(e_3:Bool) with
     | true =>
      replace h:=aa hb_4 h
      refine Rc 31 [vn,vn,vn,vn,vn,vn,vn,vn,vb true,vb true,vn,vn,vn,vb true,vb true,vn,vn,vn,vn,vn,vn,vn,vn,vn,vn,vn,vn,vn,vb true,vb true,vb true]<|Rk<|Runs.ret ?_
      cases h
      exact Fq
     | false =>
      replace h:=ab hb_4 h
      refine Rc 4 [vp [3] 0 3,vy r_1.Op,vb (decide (r_1.Op≥216)),vb (decide (r_1.Op≥216))] ?_
      cases hb_5:((decide (r_1.Op≥216)):Bool) with
      | true =>
       replace h:=aa hb_5 h
       refine Rc 6 [vp [3] 0 3,vy r_1.Op,vb (decide (r_1.Op≤223)),vb (decide (r_1.Op≤223)),vb (decide (r_1.Op≤223)),vb (decide (r_1.Op≤223))] ?_
       cases hb_6:((decide (r_1.Op≤223)):Bool) with
       | true =>
        replace h:=aa hb_6 h
        refine Rc 21 [vn,vn,vn,vb true,vb true,vn,vn,vn,vn,vn,vn,vn,vn,vn,vn,vn,vn,vn,vb true,vb true,vb true]<|Rk<|Runs.ret ?_
        cases h
        exact Fq
       | false =>
        replace h:=ab hb_6 h
        refine Rc 5 [vp [4] 0 2,vi r_2.1.B,vb (r_2.1.B==8),vb (r_2.1.B==8),vb (r_2.1.B==8)] ?_
        cases hb_7:((r_2.1.B==8):Bool) with
        | true =>
         replace h:=aa hb_7 h
         refine Rc 16 [vn,vn,vn,vn,vn,vn,vn,vn,vn,vn,vn,vn,vn,vb true,vb true,vb true]<|Rk<|Runs.ret ?_
         cases h
         exact Fq
        | false =>
         replace h:=ab hb_7 h
         refine Rc 4 [vp [3] 0 4,vi r_1.Mod,vb (decide (r_1.Mod>0)),vb (decide (r_1.Mod>0))] ?_
         cases hb_8:((decide (r_1.Mod>0)):Bool) with
         | true =>
          replace h:=aa hb_8 h
          refine Rc 5 [vp [3] 0 6,vi r_1.RM,vb (r_1.RM==6),vb (r_1.RM==6),vb (r_1.RM==6)] ?_
          cases hb_9:((r_1.RM==6):Bool) with
          | true =>
           replace h:=aa hb_9 h
           refine Rc 7 [vp [3] 0 4,vi r_1.Mod,vb (decide (r_1.Mod<3)),vb (decide (r_1.Mod<3)),vb (decide (r_1.Mod<3)),vb (decide (r_1.Mod<3)),vb (decide (r_1.Mod<3))]<|Rk<|Runs.ret ?_
           cases h
           exact Fq
          | false =>
           replace h:=ab hb_9 h
           refine Rc 7 [vn,vn,vn,vb false,vb false,vb false,vb false]<|Rk<|Runs.ret ?_
           cases h
           exact Fq
         | false =>
          replace h:=ab hb_8 h
          refine Rc 12 [vn,vn,vn,vb false,vb false,vn,vn,vn,vb false,vb false,vb false,vb false]<|Rk<|Runs.ret ?_
          cases h
          exact Fq
      | false =>
       replace h:=ab hb_5 h
       refine Rc 11 [vn,vn,vn,vb false,vb false,vb false,vp [4] 0 2,vi r_2.1.B,vb (r_2.1.B==8),vb (r_2.1.B==8),vb (r_2.1.B==8)] ?_
       cases hb_10:((r_2.1.B==8):Bool) with
       | true =>
        replace h:=aa hb_10 h
        refine Rc 16 [vn,vn,vn,vn,vn,vn,vn,vn,vn,vn,vn,vn,vn,vb true,vb true,vb true]<|Rk<|Runs.ret ?_
        cases h
        exact Fq
       | false =>
        replace h:=ab hb_10 h
        refine Rc 4 [vp [3] 0 4,vi r_1.Mod,vb (decide (r_1.Mod>0)),vb (decide (r_1.Mod>0))] ?_
        cases hb_11:((decide (r_1.Mod>0)):Bool) with
        | true =>
         replace h:=aa hb_11 h
         refine Rc 5 [vp [3] 0 6,vi r_1.RM,vb (r_1.RM==6),vb (r_1.RM==6),vb (r_1.RM==6)] ?_
         cases hb_12:((r_1.RM==6):Bool) with
         | true =>
          replace h:=aa hb_12 h
          refine Rc 7 [vp [3] 0 4,vi r_1.Mod,vb (decide (r_1.Mod<3)),vb (decide (r_1.Mod<3)),vb (decide (r_1.Mod<3)),vb (decide (r_1.Mod<3)),vb (decide (r_1.Mod<3))]<|Rk<|Runs.ret ?_
          cases h
          exact Fq
         | false =>
          replace h:=ab hb_12 h
          refine Rc 7 [vn,vn,vn,vb false,vb false,vb false,vb false]<|Rk<|Runs.ret ?_
          cases h
          exact Fq
        | false =>
         replace h:=ab hb_11 h
         refine Rc 12 [vn,vn,vn,vb false,vb false,vn,vn,vn,vb false,vb false,vb false,vb false]<|Rk<|Runs.ret ?_
         cases h
         exact Fq
    | false =>
     replace h:=ab hb_3 h
     refine Rc 33 [vn,vn,vn,vn,vn,vn,vn,vn,vn,vn,vn,vn,vn,vn,vn,vn,vn,vn,vn,vn,vn,vn,vn,vn,vn,vn,vn,vn,vn,vn,vn,vb false,vb false]<|Rk<|Runs.ret ?_
     cases h
     exact Fq
theorem j8 (x_:Inst) (r:Bool) (h:cE x_=some r):L 3 [.d (Inst.d x_)]=some (.b r,[.d (Inst.d x_)]):=by
 obtain ⟨p,⟨hne,hf⟩,hr⟩:=jO x_ r h
 obtain ⟨k,hk⟩:=aD (F:=F3) (args:=[.d (Inst.d x_)]) (ap:=[.d (Inst.d x_)]) (bx0:=ay (fun _=>none) []) rfl rfl (by kernel_rfl) ⟨p,⟨hne,hf⟩,hr⟩
 exact aA (k:=k) rfl hk
end Go.Es.Pko
