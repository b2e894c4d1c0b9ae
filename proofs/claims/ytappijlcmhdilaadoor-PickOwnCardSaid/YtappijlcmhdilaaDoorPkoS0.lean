/- The interpreter answers as plain Lean does: part 1. No condition. -/
import Derived.Test.YtappijlcmhdilaaDoorPkoF
import Derived.Test.YtappijlcmhdilaaDoorPkoP
import Derived.KernelRfl
set_option linter.unusedVariables false
set_option linter.unusedSimpArgs false
set_option maxRecDepth 100000
set_option maxHeartbeats 4000000
namespace Go.Es.Pko
theorem nC:L 72 [.d (.str qe)]=some (.arr false 1 (List.map D.str [[65,68,68],[79,82],[65,68,67],[83,66,66],[65,78,68],[83,85,66],[88,79,82],[67,77,80],[80,85,83,72],[80,79,80],[68,65,65],[68,65,83],[65,65,65],[65,65,83],[73,78,67],[68,69,67],[74,79],[74,78,79],[74,66],[74,78,66],[74,90],[74,78,90],[74,66,69],[74,65],[74,83],[74,78,83],[74,80],[74,78,80],[74,76],[74,71,69],[74,76,69],[74,71],[84,69,83,84],[88,67,72,71],[77,79,86],[76,69,65],[67,66,87],[67,87,68],[67,65,76,76],[67,65,76,76,70],[87,65,73,84],[80,85,83,72,70],[80,79,80,70],[83,65,72,70],[76,65,72,70],[77,79,86,83,66],[77,79,86,83,87],[67,77,80,83,66],[67,77,80,83,87],[83,84,79,83,66],[83,84,79,83,87],[76,79,68,83,66],[76,79,68,83,87],[83,67,65,83,66],[83,67,65,83,87],[82,69,84],[82,69,84,70],[76,69,83],[76,68,83],[73,78,84],[73,78,84,79],[73,82,69,84],[82,79,76],[82,79,82],[82,67,76],[82,67,82],[83,72,76],[83,72,82],[83,65,82],[65,65,77],[65,65,68],[88,76,65,84],[69,83,67],[76,79,79,80,78,90],[76,79,79,80,90],[76,79,79,80],[74,67,88,90],[73,78],[79,85,84],[74,77,80],[74,77,80,70],[72,76,84],[67,77,67],[78,79,84],[78,69,71],[77,85,76],[73,77,85,76],[68,73,86],[73,68,73,86],[67,76,67],[83,84,67],[67,76,73],[83,84,73],[67,76,68],[83,84,68]]),[.d (.str qe)]):=(js (F:=wA)).2 ⟨600,by kernel_rfl⟩
theorem nD:L 72 [.d (.str [65,88,32,67,88,32,68,88,32,66,88,32,83,80,32,66,80,32,83,73,32,68,73])]=some (.arr false 1 (List.map D.str [[65,88],[67,88],[68,88],[66,88],[83,80],[66,80],[83,73],[68,73]]),[.d (.str [65,88,32,67,88,32,68,88,32,66,88,32,83,80,32,66,80,32,83,73,32,68,73])]):=(js (F:=wA)).2 ⟨600,by kernel_rfl⟩
theorem nE:L 72 [.d (.str [65,76,32,67,76,32,68,76,32,66,76,32,65,72,32,67,72,32,68,72,32,66,72])]=some (.arr false 1 (List.map D.str [[65,76],[67,76],[68,76],[66,76],[65,72],[67,72],[68,72],[66,72]]),[.d (.str [65,76,32,67,76,32,68,76,32,66,76,32,65,72,32,67,72,32,68,72,32,66,72])]):=(js (F:=wA)).2 ⟨600,by kernel_rfl⟩
theorem nF:L 72 [.d (.str [69,83,32,67,83,32,83,83,32,68,83])]=some (.arr false 1 (List.map D.str [[69,83],[67,83],[83,83],[68,83]]),[.d (.str [69,83,32,67,83,32,83,83,32,68,83])]):=(js (F:=wA)).2 ⟨600,by kernel_rfl⟩
theorem oj (a0_:(List UInt8)) (r:(List (List UInt8))) (h:dt a0_=some r):L 72 [.d (.str a0_)]=some (.arr false 1 (List.map D.str r),[.d (.str a0_)]):=by
 unfold dt at h
 by_cases c0:a0_=[65,68,68,32,79,82,32,65,68,67,32,83,66,66,32,65,78,68,32,83,85,66,32,88,79,82,32,67,77,80,32,80,85,83,72,32,80,79,80,32,68,65,65,32,68,65,83,32,65,65,65,32,65,65,83,32,73,78,67,32,68,69,67,32,74,79,32,74,78,79,32,74,66,32,74,78,66,32,74,90,32,74,78,90,32,74,66,69,32,74,65,32,74,83,32,74,78,83,32,74,80,32,74,78,80,32,74,76,32,74,71,69,32,74,76,69,32,74,71,32,84,69,83,84,32,88,67,72,71,32,77,79,86,32,76,69,65,32,67,66,87,32,67,87,68,32,67,65,76,76,32,67,65,76,76,70,32,87,65,73,84,32,80,85,83,72,70,32,80,79,80,70,32,83,65,72,70,32,76,65,72,70,32,77,79,86,83,66,32,77,79,86,83,87,32,67,77,80,83,66,32,67,77,80,83,87,32,83,84,79,83,66,32,83,84,79,83,87,32,76,79,68,83,66,32,76,79,68,83,87,32,83,67,65,83,66,32,83,67,65,83,87,32,82,69,84,32,82,69,84,70,32,76,69,83,32,76,68,83,32,73,78,84,32,73,78,84,79,32,73,82,69,84,32,82,79,76,32,82,79,82,32,82,67,76,32,82,67,82,32,83,72,76,32,83,72,82,32,83,65,82,32,65,65,77,32,65,65,68,32,88,76,65,84,32,69,83,67,32,76,79,79,80,78,90,32,76,79,79,80,90,32,76,79,79,80,32,74,67,88,90,32,73,78,32,79,85,84,32,74,77,80,32,74,77,80,70,32,72,76,84,32,67,77,67,32,78,79,84,32,78,69,71,32,77,85,76,32,73,77,85,76,32,68,73,86,32,73,68,73,86,32,67,76,67,32,83,84,67,32,67,76,73,32,83,84,73,32,67,76,68,32,83,84,68]
 ·rw [if_pos c0] at h
  obtain rfl:=Option.some.inj h
  subst c0
  exact nC
 rw [if_neg c0] at h
 by_cases c1:a0_=[65,88,32,67,88,32,68,88,32,66,88,32,83,80,32,66,80,32,83,73,32,68,73]
 ·rw [if_pos c1] at h
  obtain rfl:=Option.some.inj h
  subst c1
  exact nD
 rw [if_neg c1] at h
 by_cases c2:a0_=[65,76,32,67,76,32,68,76,32,66,76,32,65,72,32,67,72,32,68,72,32,66,72]
 ·rw [if_pos c2] at h
  obtain rfl:=Option.some.inj h
  subst c2
  exact nE
 rw [if_neg c2] at h
 by_cases c3:a0_=[69,83,32,67,83,32,83,83,32,68,83]
 ·rw [if_pos c3] at h
  obtain rfl:=Option.some.inj h
  subst c3
  exact nF
 rw [if_neg c3] at h
 cases h
def ky (b_:Int) (r:Bool) (p:Out × St):Prop:=(∀ i,p.1≠.exit i)∧aV F15 [.y b_] p.2=some (.b r,[.y b_])
theorem j3 (b_:Int) (r:Bool) (h:cP b_=some r):Runs L F15.body ⟨a9 [.y b_] 0,ay (fun _=>none) []⟩ (ky b_ r):=by
 unfold cP at h
 refine Sq<|Ro<|Rc 1 [vb false]<|Rk<|Sq<|Ro<|Rc 3 [vy b_,vb (b_==38),vb (b_==38)] ?_
 cases hb_1:((b_==38):Bool) with
 | true =>
  replace h:=aa hb_1 h
  refine Rc 24 [vn,vn,vb true,vb true,vn,vn,vb true,vb true,vn,vn,vb true,vb true,vn,vn,vb true,vb true,vn,vn,vb true,vb true,vn,vn,vb true,vb true]<|Rk<|Runs.ret ?_
  cases h
  exact Fq
 | false =>
  replace h:=ab hb_1 h
  refine Rc 4 [vy b_,vb (b_==46),vb (b_==46),vb (b_==46)] ?_
  cases hb_2:((b_==46):Bool) with
  | true =>
   replace h:=aa hb_2 h
   refine Rc 20 [vn,vn,vb true,vb true,vn,vn,vb true,vb true,vn,vn,vb true,vb true,vn,vn,vb true,vb true,vn,vn,vb true,vb true]<|Rk<|Runs.ret ?_
   cases h
   exact Fq
  | false =>
   replace h:=ab hb_2 h
   refine Rc 4 [vy b_,vb (b_==54),vb (b_==54),vb (b_==54)] ?_
   cases hb_3:((b_==54):Bool) with
   | true =>
    replace h:=aa hb_3 h
    refine Rc 16 [vn,vn,vb true,vb true,vn,vn,vb true,vb true,vn,vn,vb true,vb true,vn,vn,vb true,vb true]<|Rk<|Runs.ret ?_
    cases h
    exact Fq
   | false =>
    replace h:=ab hb_3 h
    refine Rc 4 [vy b_,vb (b_==62),vb (b_==62),vb (b_==62)] ?_
    cases hb_4:((b_==62):Bool) with
    | true =>
     replace h:=aa hb_4 h
     refine Rc 12 [vn,vn,vb true,vb true,vn,vn,vb true,vb true,vn,vn,vb true,vb true]<|Rk<|Runs.ret ?_
     cases h
     exact Fq
    | false =>
     replace h:=ab hb_4 h
     refine Rc 4 [vy b_,vb (b_==240),vb (b_==240),vb (b_==240)] ?_
     cases hb_5:((b_==240):Bool) with
     | true =>
      replace h:=aa hb_5 h
      refine Rc 8 [vn,vn,vb true,vb true,vn,vn,vb true,vb true]<|Rk<|Runs.ret ?_
      cases h
      exact Fq
     | false =>
      replace h:=ab hb_5 h
      refine Rc 4 [vy b_,vb (b_==242),vb (b_==242),vb (b_==242)] ?_
      cases hb_6:((b_==242):Bool) with
      | true =>
       replace h:=aa hb_6 h
       refine Rc 4 [vn,vn,vb true,vb true]<|Rk<|Runs.ret ?_
       cases h
       exact Fq
      | false =>
       replace h:=ab hb_6 h
       refine Rc 4 [vy b_,vb (b_==243),vb (b_==243),vb (b_==243)]<|Rk<|Runs.ret ?_
       cases h
       exact Fq
theorem kz (b_:Int) (r:Bool) (h:cP b_=some r):L 15 [.y b_]=some (.b r,[.y b_]):=by
 obtain ⟨p,⟨hne,hf⟩,hr⟩:=j3 b_ r h
 obtain ⟨k,hk⟩:=aD (F:=F15) (args:=[.y b_]) (ap:=[.y b_]) (bx0:=ay (fun _=>none) []) rfl rfl (by kernel_rfl) ⟨p,⟨hne,hf⟩,hr⟩
 exact aA (k:=k) rfl hk
def eJ (s0:(List UInt8)) (n1:Int) (at5:Int) (k6:Int):St:=⟨tab [(0,.d (.str s0)),(1,.i n1),(5,.i at5),(6,.i k6)],be []⟩
def ee (s0:(List UInt8)) (n1:Int) (at5:Int) (k6:Int):St:=⟨tab [(0,.d (.str s0)),(1,.i n1),(5,.i at5),(6,.i k6)],be []⟩
def kA (s0:(List UInt8)) (n1:Int) (at5:Int) (k6:Int):St:=⟨tab [(0,.d (.str s0)),(1,.i n1),(5,.i at5),(6,.i k6)],be []⟩
def kC (s0:(List UInt8)) (at5:Int):St:=⟨tab [(0,.d (.str s0)),(5,.i at5)],be []⟩
def eh (s0:(List UInt8)) (at5:Int) (end7:Int):St:=⟨tab [(0,.d (.str s0)),(5,.i at5),(7,.i end7)],be []⟩
def kD (s0:(List UInt8)) (at5:Int) (end7:Int):St:=⟨tab [(0,.d (.str s0)),(5,.i at5),(7,.i end7)],be []⟩
def mE (s_:(List UInt8)) (n_:Int) (r:(List UInt8)) (p:Out × St):Prop:=(∀ i,p.1≠.exit i)∧aV F65 [.d (.str s_),.i n_] p.2=some (.d (.str r),[.d (.str s_),.i n_])
def gC (s_:(List UInt8)) (n_:Int) (s0:(List UInt8)) (n1:Int) (k6:Int) (e:Int) (p:Out × St):Prop:=p.1=.exit 2∧∃ g:Unit,Canon [] [0,1,5,6] [] p.2 (kA s0 n1 e k6)
def gN (s_:(List UInt8)) (n_:Int) (s0:(List UInt8)) (n1:Int) (e:Int) (p:Out × St):Prop:=p.1=.exit 0∧∃ g:Unit,Canon [] [0,5] [] p.2 (kC s0 e)
def gD (s_:(List UInt8)) (n_:Int) (s0:(List UInt8)) (at5:Int) (e:Int) (p:Out × St):Prop:=p.1=.exit 4∧∃ g:Unit,Canon [] [0,5,7] [] p.2 (kD s0 at5 e)
theorem jg (s_:(List UInt8)) (n_:Int) (s0:(List UInt8)) (n1:Int) (at5:Int) (k6:Int) (r:(Lp Int Int)) (h:bk s0 n1 at5 k6=some r):Runs L zR (ee s0 n1 at5 k6) (LQ [] [0,1,5,6] [] (fun (x:Int) (g:Unit)=>ee s0 n1 x k6) (gC s_ n_ s0 n1 k6) r):=by
 unfold bk at h
 refine Sq<|Sq<|Ro<|Rc 2 [vi at5,⟨.d (.str s0),[]⟩]<|Rt (some 21) .lenS [] none [.d (.str s0)] (.i (s0.length:Int)) [] (gB _)<|Rc 2 [vb (decide (at5<(s0.length:Int))),vb (decide (at5<(s0.length:Int)))] ?_
 cases hb_3:((decide (at5<(s0.length:Int))):Bool) with
 | true =>
  replace h:=aa hb_3 h
  refine Rc 2 [⟨.d (.str s0),[]⟩,vi at5] ?_
  obtain ⟨z_1,hz_1,h⟩:=ah h
  refine Rt (some 26) .indexS [] none [.d (.str s0),.i at5] (.y (z_1.toNat:Int)) [] (nk hz_1)<|Rc 2 [vb ((z_1.toNat:Int) != 32),vb ((z_1.toNat:Int) != 32)]<|Rk ?_
  cases hb_4:(((z_1.toNat:Int) != 32):Bool) with
  | true =>
   replace h:=aa hb_4 h
   refine Ct<|Runs.skip<|ai<|Runs.block<|Ro<|Rc 3 [vi at5,vi (IntKind.wrap .i64 (at5+1)),vi (IntKind.wrap .i64 (at5+1))]<|Rd<|az ?_
   obtain rfl:=sj h
   exact ⟨rfl,(),Cz⟩
  | false =>
   replace h:=ab hb_4 h
   refine Cf<|Runs.exit<|bz ?_
   obtain rfl:=sj h
   exact ⟨nofun,rfl,(),Cz⟩
 | false =>
  replace h:=ab hb_3 h
  refine Rc 5 [vn,vn,vn,vn,vb false]<|Rk<|Cf<|Runs.exit<|bz ?_
  obtain rfl:=sj h
  exact ⟨nofun,rfl,(),Cz⟩
theorem jz (s_:(List UInt8)) (n_:Int) (s0:(List UInt8)) (n1:Int) (at5:Int) (k6:Int) (r:(Lp (Int × Int) Int)) (h:bZ s0 n1 at5 k6=some r):Runs L CM (eJ s0 n1 at5 k6) (LQ [] [0,1,5,6] [] (fun (x:(Int × Int)) (g:Unit)=>eJ s0 n1 x.1 x.2) (gN s_ n_ s0 n1) r):=by
 unfold bZ at h
 refine Sq<|Sq<|Ro<|Rc 4 [vi k6,vi n1,vb (decide (k6<n1)),vb (decide (k6<n1))] ?_
 cases hb_1:((decide (k6<n1)):Bool) with
 | true =>
  replace h:=aa hb_1 h
  refine Rc 2 [vi at5,⟨.d (.str s0),[]⟩]<|Rt (some 14) .lenS [] none [.d (.str s0)] (.i (s0.length:Int)) [] (gB _)<|Rc 2 [vb (decide (at5<(s0.length:Int))),vb (decide (at5<(s0.length:Int)))]<|Rk ?_
  cases hb_2:((decide (at5<(s0.length:Int))):Bool) with
  | true =>
   replace h:=aa hb_2 h
   refine Ct<|Runs.skip<|ai<|Sq<|Runs.block<|Sq<|Runs.block ?_
   obtain ⟨e_1,he_1,h⟩:=ah h
   refine Runs.loop (fun x:Int=>bk s0 n1 x k6) (fun (x:Int) (g:Unit)=>ee s0 n1 x k6) (gC s_ n_ s0 n1 k6) (fun x g r hr=>jg s_ n_ s0 n1 x k6  r hr) () he_1 Cz ?_
   rintro ⟨o,s⟩ hp
   obtain ⟨ho,g_1,hk_1⟩:=hp
   have ho':o=.exit 2:=ho
   subst ho'
   refine cN<|ai<|Runs.canon _ hk_1<|Ro<|Rc 3 [vi e_1,vi (IntKind.wrap .i64 (e_1+1)),vi (IntKind.wrap .i64 (e_1+1))]<|Rd<|az<|ai<|Ro<|Rc 3 [vi k6,vi (IntKind.wrap .i64 (k6+1)),vi (IntKind.wrap .i64 (k6+1))]<|Rd ?_
   obtain rfl:=sj h
   exact ⟨rfl,(),Cz⟩
  | false =>
   replace h:=ab hb_2 h
   refine Cf<|Runs.exit<|bz ?_
   obtain rfl:=sj h
   exact ⟨nofun,rfl,(),Cz⟩
 | false =>
  replace h:=ab hb_1 h
  refine Rc 5 [vn,vn,vn,vn,vb false]<|Rk<|Cf<|Runs.exit<|bz ?_
  obtain rfl:=sj h
  exact ⟨nofun,rfl,(),Cz⟩
theorem jh (s_:(List UInt8)) (n_:Int) (s0:(List UInt8)) (at5:Int) (end7:Int) (r:(Lp Int Int)) (h:bl s0 at5 end7=some r):Runs L zS (eh s0 at5 end7) (LQ [] [0,5,7] [] (fun (x:Int) (g:Unit)=>eh s0 at5 x) (gD s_ n_ s0 at5) r):=by
 unfold bl at h
 refine Sq<|Sq<|Ro<|Rc 2 [vi end7,⟨.d (.str s0),[]⟩]<|Rt (some 36) .lenS [] none [.d (.str s0)] (.i (s0.length:Int)) [] (gB _)<|Rc 2 [vb (decide (end7<(s0.length:Int))),vb (decide (end7<(s0.length:Int)))] ?_
 cases hb_1:((decide (end7<(s0.length:Int))):Bool) with
 | true =>
  replace h:=aa hb_1 h
  refine Rc 2 [⟨.d (.str s0),[]⟩,vi end7] ?_
  obtain ⟨z_1,hz_1,h⟩:=ah h
  refine Rt (some 41) .indexS [] none [.d (.str s0),.i end7] (.y (z_1.toNat:Int)) [] (nk hz_1)<|Rc 2 [vb ((z_1.toNat:Int) != 32),vb ((z_1.toNat:Int) != 32)]<|Rk ?_
  cases hb_2:(((z_1.toNat:Int) != 32):Bool) with
  | true =>
   replace h:=aa hb_2 h
   refine Ct<|Runs.skip<|ai<|Runs.block<|Ro<|Rc 3 [vi end7,vi (IntKind.wrap .i64 (end7+1)),vi (IntKind.wrap .i64 (end7+1))]<|Rd<|az ?_
   obtain rfl:=sj h
   exact ⟨rfl,(),Cz⟩
  | false =>
   replace h:=ab hb_2 h
   refine Cf<|Runs.exit<|bz ?_
   obtain rfl:=sj h
   exact ⟨nofun,rfl,(),Cz⟩
 | false =>
  replace h:=ab hb_1 h
  refine Rc 5 [vn,vn,vn,vn,vb false]<|Rk<|Cf<|Runs.exit<|bz ?_
  obtain rfl:=sj h
  exact ⟨nofun,rfl,(),Cz⟩
theorem ln (s_:(List UInt8)) (n_:Int) (r:(List UInt8)) (h:bq s_ n_=some r):Runs L F65.body ⟨a9 [.d (.str s_),.i n_] 0,ay (fun _=>none) []⟩ (mE s_ n_ r):=by
 unfold bq at h
 refine Sq<|Ro<|Rc 1 [⟨.d (.str ([]:List UInt8)),[]⟩]<|Rk<|Sq<|Ro<|Rc 1 [vi 0]<|Rk<|Sq<|Sq<|Ro<|Rc 1 [vi 0]<|Rk<|Runs.block ?_
 obtain ⟨e_1,he_1,h⟩:=ah h
 refine Runs.loop (fun x:(Int × Int)=>bZ s_ n_ x.1 x.2) (fun (x:(Int × Int)) (g:Unit)=>eJ s_ n_ x.1 x.2) (gN s_ n_ s_ n_) (fun x g r hr=>jz s_ n_ s_ n_ x.1 x.2  r hr) () he_1 Cz ?_
 rintro ⟨o,s⟩ hp
 obtain ⟨ho,g_1,hk_1⟩:=hp
 have ho':o=.exit 0:=ho
 subst ho'
 refine cN<|ai<|Runs.canon _ hk_1<|Sq<|Ro<|Rc 2 [vi e_1,vi e_1]<|Rk<|Sq<|Runs.block ?_
 obtain ⟨e_2,he_2,h⟩:=ah h
 refine Runs.loop (fun x:Int=>bl s_ e_1 x) (fun (x:Int) (g:Unit)=>eh s_ e_1 x) (gD s_ n_ s_ e_1) (fun x g r hr=>jh s_ n_ s_ e_1 x  r hr) () he_2 Cz ?_
 rintro ⟨o,s⟩ hp
 obtain ⟨ho,g_2,hk_2⟩:=hp
 have ho':o=.exit 4:=ho
 subst ho'
 refine cN<|ai<|Runs.canon _ hk_2<|Sq<|Sq<|Ro<|Rc 2 [vi e_1,⟨.d (.str s_),[]⟩]<|Rt (some 48) .lenS [] none [.d (.str s_)] (.i (s_.length:Int)) [] (gB _)<|Rc 1 [vb (decide (e_1≥(s_.length:Int)))]<|Rk ?_
 cases hb_1:((decide (e_1≥(s_.length:Int))):Bool) with
 | true =>
  replace h:=aa hb_1 h
  refine Ct<|Sq<|Ro<|Rc 1 [⟨.d (.str ([]:List UInt8)),[]⟩]<|Rk<|Runs.ret<|ae ?_
  cases h
  exact Fq
 | false =>
  replace h:=ab hb_1 h
  refine Cf<|Runs.skip<|ai<|Sq<|Ro<|Rc 3 [⟨.d (.str s_),[]⟩,vi e_1,vi e_2] ?_
  obtain ⟨z_1,hz_1,h⟩:=ah h
  refine Rt (some 53) (.substr true true) [] none [.d (.str s_),.i e_1,.i e_2] (.d (.str z_1)) [] (k8 hz_1)<|Rc 1 [⟨.d (.str z_1),[]⟩]<|Rk<|Runs.ret ?_
  cases h
  exact Fq
theorem ip (s_:(List UInt8)) (n_:Int) (r:(List UInt8)) (h:bq s_ n_=some r):L 65 [.d (.str s_),.i n_]=some (.d (.str r),[.d (.str s_),.i n_]):=by
 obtain ⟨p,⟨hne,hf⟩,hr⟩:=ln s_ n_ r h
 obtain ⟨k,hk⟩:=aD (F:=F65) (args:=[.d (.str s_),.i n_]) (ap:=[.d (.str s_),.i n_]) (bx0:=ay (fun _=>none) []) rfl rfl (by kernel_rfl) ⟨p,⟨hne,hf⟩,hr⟩
 exact aA (k:=k) rfl hk
def eK (s0:(List UInt8)) (mark1:Int) (n2:Int) (from7:Int) (i8:Int):St:=⟨tab [(0,.d (.str s0)),(1,.y mark1),(2,.i n2),(7,.i from7),(8,.i i8)],be []⟩
def kE :St:=⟨tab [],be []⟩
def mF (s_:(List UInt8)) (mark_:Int) (n_:Int) (r:(List UInt8)) (p:Out × St):Prop:=(∀ i,p.1≠.exit i)∧aV F34 [.d (.str s_),.y mark_,.i n_] p.2=some (.d (.str r),[.d (.str s_),.y mark_,.i n_])
def gO (s_:(List UInt8)) (mark_:Int) (n_:Int) (s0:(List UInt8)) (mark1:Int) (e:((List UInt8) ⊕ Unit)) (p:Out × St):Prop:=match e with
 | .inl x=>p.1=.ret∧aV F34 [.d (.str s_),.y mark_,.i n_] p.2=some (.d (.str x),[.d (.str s_),.y mark_,.i n_])
 | .inr x=>p.1=.exit 0∧∃ g:Unit,Canon [] [] [] p.2 (kE)
theorem jA (s_:(List UInt8)) (mark_:Int) (n_:Int) (s0:(List UInt8)) (mark1:Int) (n2:Int) (from7:Int) (i8:Int) (r:(Lp (Int × Int × Int) ((List UInt8) ⊕ Unit))) (h:bu s0 mark1 n2 from7 i8=some r):Runs L CI (eK s0 mark1 n2 from7 i8) (LQ [] [0,1,2,7,8] [] (fun (x:(Int × Int × Int)) (g:Unit)=>eK s0 mark1 x.1 x.2.1 x.2.2) (gO s_ mark_ n_ s0 mark1) r):=by
 unfold bu at h
 refine Sq<|Sq<|Ro<|Rc 2 [vi i8,⟨.d (.str s0),[]⟩]<|Rt (some 11) .lenS [] none [.d (.str s0)] (.i (s0.length:Int)) [] (gB _)<|Rc 1 [vb (decide (i8≤(s0.length:Int)))]<|Rk ?_
 cases hb_1:((decide (i8≤(s0.length:Int))):Bool) with
 | true =>
  replace h:=aa hb_1 h
  refine Ct<|Runs.skip<|ai<|Sq<|Runs.block<|Sq<|Sq<|Ro<|Rc 2 [vi i8,⟨.d (.str s0),[]⟩]<|Rt (some 17) .lenS [] none [.d (.str s0)] (.i (s0.length:Int)) [] (gB _)<|Rc 2 [vb (decide (i8<(s0.length:Int))),vb (decide (i8<(s0.length:Int)))] ?_
  cases hb_2:((decide (i8<(s0.length:Int))):Bool) with
  | true =>
   replace h:=aa hb_2 h
   refine Rc 2 [⟨.d (.str s0),[]⟩,vi i8] ?_
   obtain ⟨z_1,hz_1,h⟩:=ah h
   refine Rt (some 22) .indexS [] none [.d (.str s0),.i i8] (.y (z_1.toNat:Int)) [] (nk hz_1)<|Rc 3 [vy mark1,vb ((z_1.toNat:Int) != mark1),vb ((z_1.toNat:Int) != mark1)]<|Rk ?_
   cases hb_3:(((z_1.toNat:Int) != mark1):Bool) with
   | true =>
    replace h:=aa hb_3 h
    refine Ct<|Runs.exit<|bz<|cN<|ai<|Ro<|Rc 3 [vi i8,vi (IntKind.wrap .i64 (i8+1)),vi (IntKind.wrap .i64 (i8+1))]<|Rd ?_
    obtain rfl:=sj h
    exact ⟨rfl,(),Cz⟩
   | false =>
    replace h:=ab hb_3 h
    refine Cf<|Runs.skip<|ai<|Sq<|Sq<|Ro<|Rc 2 [vi n2,vb (n2==0)]<|Rk ?_
    cases hb_4:((n2==0):Bool) with
    | true =>
     replace h:=aa hb_4 h
     refine Ct<|Sq<|Ro<|Rc 3 [⟨.d (.str s0),[]⟩,vi from7,vi i8] ?_
     obtain ⟨z_2,hz_2,h⟩:=ah h
     refine Rt (some 31) (.substr true true) [] none [.d (.str s0),.i from7,.i i8] (.d (.str z_2)) [] (k8 hz_2)<|Rc 1 [⟨.d (.str z_2),[]⟩]<|Rk<|Runs.ret<|ae<|aj<|ae ?_
     obtain rfl:=sj h
     exact ⟨nofun,rfl,(by kernel_rfl)⟩
    | false =>
     replace h:=ab hb_4 h
     refine Cf<|Runs.skip<|ai<|Sq<|Ro<|Rc 3 [vi n2,vi (IntKind.wrap .i64 (n2 - 1)),vi (IntKind.wrap .i64 (n2 - 1))]<|Rk<|Ro<|Rc 3 [vi i8,vi (IntKind.wrap .i64 (i8+1)),vi (IntKind.wrap .i64 (i8+1))]<|Rd<|az<|ai<|Ro<|Rc 3 [vi i8,vi (IntKind.wrap .i64 (i8+1)),vi (IntKind.wrap .i64 (i8+1))]<|Rd ?_
     obtain rfl:=sj h
     exact ⟨rfl,(),Cz⟩
  | false =>
   replace h:=ab hb_2 h
   refine Rc 6 [vn,vn,vn,vn,vn,vb false]<|Rk<|Cf<|Runs.skip<|ai<|Sq<|Sq<|Ro<|Rc 2 [vi n2,vb (n2==0)]<|Rk ?_
   cases hb_5:((n2==0):Bool) with
   | true =>
    replace h:=aa hb_5 h
    refine Ct<|Sq<|Ro<|Rc 3 [⟨.d (.str s0),[]⟩,vi from7,vi i8] ?_
    obtain ⟨z_3,hz_3,h⟩:=ah h
    refine Rt (some 31) (.substr true true) [] none [.d (.str s0),.i from7,.i i8] (.d (.str z_3)) [] (k8 hz_3)<|Rc 1 [⟨.d (.str z_3),[]⟩]<|Rk<|Runs.ret<|ae<|aj<|ae ?_
    obtain rfl:=sj h
    exact ⟨nofun,rfl,(by kernel_rfl)⟩
   | false =>
    replace h:=ab hb_5 h
    refine Cf<|Runs.skip<|ai<|Sq<|Ro<|Rc 3 [vi n2,vi (IntKind.wrap .i64 (n2 - 1)),vi (IntKind.wrap .i64 (n2 - 1))]<|Rk<|Ro<|Rc 3 [vi i8,vi (IntKind.wrap .i64 (i8+1)),vi (IntKind.wrap .i64 (i8+1))]<|Rd<|az<|ai<|Ro<|Rc 3 [vi i8,vi (IntKind.wrap .i64 (i8+1)),vi (IntKind.wrap .i64 (i8+1))]<|Rd ?_
    obtain rfl:=sj h
    exact ⟨rfl,(),Cz⟩
 | false =>
  replace h:=ab hb_1 h
  refine Cf<|Runs.exit<|bz ?_
  obtain rfl:=sj h
  exact ⟨nofun,rfl,(),Cz⟩
theorem lp (s_:(List UInt8)) (mark_:Int) (n_:Int) (r:(List UInt8)) (h:aN s_ mark_ n_=some r):Runs L F34.body ⟨a9 [.d (.str s_),.y mark_,.i n_] 0,ay (fun _=>none) []⟩ (mF s_ mark_ n_ r):=by
 unfold aN at h
 refine Sq<|Ro<|Rc 1 [⟨.d (.str ([]:List UInt8)),[]⟩]<|Rk<|Sq<|Ro<|Rc 1 [vi 0]<|Rk<|Sq<|Sq<|Ro<|Rc 1 [vi 0]<|Rk<|Runs.block ?_
 obtain ⟨e_1,he_1,h⟩:=ah h
 refine Runs.loop (fun x:(Int × Int × Int)=>bu s_ mark_ x.1 x.2.1 x.2.2) (fun (x:(Int × Int × Int)) (g:Unit)=>eK s_ mark_ x.1 x.2.1 x.2.2) (gO s_ mark_ n_ s_ mark_) (fun x g r hr=>jA s_ mark_ n_ s_ mark_ x.1 x.2.1 x.2.2  r hr) () he_1 Cz ?_
 rintro ⟨o,s⟩ hp
 cases e_1 with
 | inl e_2 =>
  obtain ⟨ho,hf⟩:=hp
  have ho':o=.ret:=ho
  subst ho'
  refine aj<|ae ?_
  obtain rfl:=sj h
  exact ⟨Out.ret_ne,hf⟩
 | inr e_3 =>
  obtain ⟨ho,g_1,hk_1⟩:=hp
  have ho':o=.exit 0:=ho
  subst ho'
  refine cN<|ai<|Runs.canon _ hk_1<|Sq<|Ro<|Rc 1 [⟨.d (.str ([]:List UInt8)),[]⟩]<|Rk<|Runs.ret ?_
  cases h
  exact Fq
theorem dH (s_:(List UInt8)) (mark_:Int) (n_:Int) (r:(List UInt8)) (h:aN s_ mark_ n_=some r):L 34 [.d (.str s_),.y mark_,.i n_]=some (.d (.str r),[.d (.str s_),.y mark_,.i n_]):=by
 obtain ⟨p,⟨hne,hf⟩,hr⟩:=lp s_ mark_ n_ r h
 obtain ⟨k,hk⟩:=aD (F:=F34) (args:=[.d (.str s_),.y mark_,.i n_]) (ap:=[.d (.str s_),.y mark_,.i n_]) (bx0:=ay (fun _=>none) []) rfl rfl (by kernel_rfl) ⟨p,⟨hne,hf⟩,hr⟩
 exact aA (k:=k) rfl hk
def lq (op_:Int) (reg_:Int) (r:(List UInt8)) (p:Out × St):Prop:=(∀ i,p.1≠.exit i)∧aV F32 [.y op_,.i reg_] p.2=some (.d (.str r),[.y op_,.i reg_])
theorem kF (op_:Int) (reg_:Int) (r:(List UInt8)) (h:cv op_ reg_=some r):Runs L F32.body ⟨a9 [.y op_,.i reg_] 0,ay (fun _=>none) []⟩ (lq op_ reg_ r):=by
 unfold cv at h
 refine Sq<|Ro<|Rc 1 [⟨.d (.str ([]:List UInt8)),[]⟩]<|Rk<|Sq<|Ro<|Rc 2 [vy op_,vi (IntKind.wrap .i64 op_)] ?_
 obtain ⟨r_1,hr_1,h⟩:=ah h
 have hc_1:=ip uI (IntKind.wrap .i64 op_) r_1 hr_1
 refine Rt (some 8) (.callf 65) [] none [.d (.str uI),.i (IntKind.wrap .i64 op_)] (.d (.str r_1)) [] (cc hc_1) ?_
 refine Rc 1 [⟨.d (.str r_1),[]⟩]<|Rk<|Sq<|Sq<|Ro<|Rc 1 [⟨.d (.str r_1),[]⟩]<|Rt (some 10) .lenS [] none [.d (.str r_1)] (.i (r_1.length:Int)) [] (gB _)<|Rc 2 [vb (decide ((r_1.length:Int)>0)),vb (decide ((r_1.length:Int)>0))] ?_
 cases hb_1:((decide ((r_1.length:Int)>0)):Bool) with
 | true =>
  replace h:=aa hb_1 h
  refine Rc 1 [⟨.d (.str r_1),[]⟩] ?_
  obtain ⟨z_1,hz_1,h⟩:=ah h
  refine Rt (some 14) .indexS [] none [.d (.str r_1),.i 0] (.y (z_1.toNat:Int)) [] (nk hz_1)<|Rc 2 [vb ((z_1.toNat:Int)==47),vb ((z_1.toNat:Int)==47)]<|Rk ?_
  cases hb_2:(((z_1.toNat:Int)==47):Bool) with
  | true =>
   replace h:=aa hb_2 h
   refine Ct<|Sq<|Ro<|Rc 4 [⟨.d (.str r_1),[]⟩,vi reg_,vi (ak .and .i64 reg_ 7),vi (IntKind.wrap .i64 ((ak .and .i64 reg_ 7)+1))] ?_
   obtain ⟨r_2,hr_2,h⟩:=ah h
   have hc_2:=dH r_1 47 (IntKind.wrap .i64 ((ak .and .i64 reg_ 7)+1)) r_2 hr_2
   refine Rt (some 21) (.callf 34) [] none [.d (.str r_1),.y 47,.i (IntKind.wrap .i64 ((ak .and .i64 reg_ 7)+1))] (.d (.str r_2)) [] (cc hc_2)<|Rc 1 [⟨.d (.str r_2),[]⟩]<|Rk<|Runs.ret<|ae ?_
   cases h
   exact Fq
  | false =>
   replace h:=ab hb_2 h
   refine Cf<|Runs.skip<|ai<|Sq<|Ro<|Rc 2 [⟨.d (.str r_1),[]⟩,⟨.d (.str r_1),[]⟩]<|Rk<|Runs.ret ?_
   cases h
   exact Fq
 | false =>
  replace h:=ab hb_1 h
  refine Rc 4 [vn,vn,vn,vb false]<|Rk<|Cf<|Runs.skip<|ai<|Sq<|Ro<|Rc 2 [⟨.d (.str r_1),[]⟩,⟨.d (.str r_1),[]⟩]<|Rk<|Runs.ret ?_
  cases h
  exact Fq
theorem lr (op_:Int) (reg_:Int) (r:(List UInt8)) (h:cv op_ reg_=some r):L 32 [.y op_,.i reg_]=some (.d (.str r),[.y op_,.i reg_]):=by
 obtain ⟨p,⟨hne,hf⟩,hr⟩:=kF op_ reg_ r h
 obtain ⟨k,hk⟩:=aD (F:=F32) (args:=[.y op_,.i reg_]) (ap:=[.y op_,.i reg_]) (bx0:=ay (fun _=>none) []) rfl rfl (by kernel_rfl) ⟨p,⟨hne,hf⟩,hr⟩
 exact aA (k:=k) rfl hk
def eL (s0:(List UInt8)) (w1:(List UInt8)) (n5:Int) (from6:Int) (i7:Int):St:=⟨tab [(0,.d (.str s0)),(1,.d (.str w1)),(5,.i n5),(6,.i from6),(7,.i i7)],be []⟩
def kG :St:=⟨tab [],be []⟩
def mG (s_:(List UInt8)) (w_:(List UInt8)) (r:Int) (p:Out × St):Prop:=(∀ i,p.1≠.exit i)∧aV F35 [.d (.str s_),.d (.str w_)] p.2=some (.i r,[.d (.str s_),.d (.str w_)])
def gP (s_:(List UInt8)) (w_:(List UInt8)) (s0:(List UInt8)) (w1:(List UInt8)) (e:(Int ⊕ Unit)) (p:Out × St):Prop:=match e with
 | .inl x=>p.1=.ret∧aV F35 [.d (.str s_),.d (.str w_)] p.2=some (.i x,[.d (.str s_),.d (.str w_)])
 | .inr x=>p.1=.exit 0∧∃ g:Unit,Canon [] [] [] p.2 (kG)
theorem jB (s_:(List UInt8)) (w_:(List UInt8)) (s0:(List UInt8)) (w1:(List UInt8)) (n5:Int) (from6:Int) (i7:Int) (r:(Lp (Int × Int × Int) (Int ⊕ Unit))) (h:ca s0 w1 n5 from6 i7=some r):Runs L CJ (eL s0 w1 n5 from6 i7) (LQ [] [0,1,5,6,7] [] (fun (x:(Int × Int × Int)) (g:Unit)=>eL s0 w1 x.1 x.2.1 x.2.2) (gP s_ w_ s0 w1) r):=by
 unfold ca at h
 refine Sq<|Sq<|Ro<|Rc 2 [vi i7,⟨.d (.str s0),[]⟩]<|Rt (some 10) .lenS [] none [.d (.str s0)] (.i (s0.length:Int)) [] (gB _)<|Rc 1 [vb (decide (i7<(s0.length:Int)))]<|Rk ?_
 cases hb_1:((decide (i7<(s0.length:Int))):Bool) with
 | true =>
  replace h:=aa hb_1 h
  refine Ct<|Runs.skip<|ai<|Sq<|Runs.block<|Sq<|Sq<|Ro<|Rc 2 [⟨.d (.str s0),[]⟩,vi i7] ?_
  obtain ⟨z_1,hz_1,h⟩:=ah h
  refine Rt (some 16) .indexS [] none [.d (.str s0),.i i7] (.y (z_1.toNat:Int)) [] (nk hz_1)<|Rc 1 [vb ((z_1.toNat:Int) != 32)]<|Rk ?_
  cases hb_2:(((z_1.toNat:Int) != 32):Bool) with
  | true =>
   replace h:=aa hb_2 h
   refine Ct<|Runs.exit<|bz<|cN<|ai<|Ro<|Rc 3 [vi i7,vi (IntKind.wrap .i64 (i7+1)),vi (IntKind.wrap .i64 (i7+1))]<|Rd ?_
   obtain rfl:=sj h
   exact ⟨rfl,(),Cz⟩
  | false =>
   replace h:=ab hb_2 h
   refine Cf<|Runs.skip<|ai<|Sq<|Sq<|Ro<|Rc 3 [⟨.d (.str s0),[]⟩,vi from6,vi i7] ?_
   obtain ⟨z_2,hz_2,h⟩:=ah h
   refine Rt (some 21) (.substr true true) [] none [.d (.str s0),.i from6,.i i7] (.d (.str z_2)) [] (k8 hz_2)<|Rc 2 [⟨.d (.str w1),[]⟩,vb (z_2==w1)]<|Rk ?_
   cases hb_3:((z_2==w1):Bool) with
   | true =>
    replace h:=aa hb_3 h
    refine Ct<|Sq<|Ro<|Rc 2 [vi n5,vi n5]<|Rk<|Runs.ret<|ae<|aj<|ae ?_
    obtain rfl:=sj h
    exact ⟨nofun,rfl,(by kernel_rfl)⟩
   | false =>
    replace h:=ab hb_3 h
    refine Cf<|Runs.skip<|ai<|Sq<|Ro<|Rc 3 [vi n5,vi (IntKind.wrap .i64 (n5+1)),vi (IntKind.wrap .i64 (n5+1))]<|Rk<|Ro<|Rc 3 [vi i7,vi (IntKind.wrap .i64 (i7+1)),vi (IntKind.wrap .i64 (i7+1))]<|Rd<|az<|ai<|Ro<|Rc 3 [vi i7,vi (IntKind.wrap .i64 (i7+1)),vi (IntKind.wrap .i64 (i7+1))]<|Rd ?_
    obtain rfl:=sj h
    exact ⟨rfl,(),Cz⟩
 | false =>
  replace h:=ab hb_1 h
  refine Cf<|Runs.exit<|bz ?_
  obtain rfl:=sj h
  exact ⟨nofun,rfl,(),Cz⟩
theorem ls (s_:(List UInt8)) (w_:(List UInt8)) (r:Int) (h:aQ s_ w_=some r):Runs L F35.body ⟨a9 [.d (.str s_),.d (.str w_)] 0,ay (fun _=>none) []⟩ (mG s_ w_ r):=by
 unfold aQ at h
 refine Sq<|Ro<|Rc 1 [vi 0]<|Rk<|Sq<|Ro<|Rc 2 [vi 1,vi 0]<|Rk<|Sq<|Sq<|Ro<|Rc 1 [vi 0]<|Rk<|Runs.block ?_
 obtain ⟨e_1,he_1,h⟩:=ah h
 refine Runs.loop (fun x:(Int × Int × Int)=>ca s_ w_ x.1 x.2.1 x.2.2) (fun (x:(Int × Int × Int)) (g:Unit)=>eL s_ w_ x.1 x.2.1 x.2.2) (gP s_ w_ s_ w_) (fun x g r hr=>jB s_ w_ s_ w_ x.1 x.2.1 x.2.2  r hr) () he_1 Cz ?_
 rintro ⟨o,s⟩ hp
 cases e_1 with
 | inl e_2 =>
  obtain ⟨ho,hf⟩:=hp
  have ho':o=.ret:=ho
  subst ho'
  refine aj<|ae ?_
  obtain rfl:=sj h
  exact ⟨Out.ret_ne,hf⟩
 | inr e_3 =>
  obtain ⟨ho,g_1,hk_1⟩:=hp
  have ho':o=.exit 0:=ho
  subst ho'
  refine cN<|ai<|Runs.canon _ hk_1<|Sq<|Ro<|Rc 1 [vi 0]<|Rk<|Runs.ret ?_
  cases h
  exact Fq
theorem fb (s_:(List UInt8)) (w_:(List UInt8)) (r:Int) (h:aQ s_ w_=some r):L 35 [.d (.str s_),.d (.str w_)]=some (.i r,[.d (.str s_),.d (.str w_)]):=by
 obtain ⟨p,⟨hne,hf⟩,hr⟩:=ls s_ w_ r h
 obtain ⟨k,hk⟩:=aD (F:=F35) (args:=[.d (.str s_),.d (.str w_)]) (ap:=[.d (.str s_),.d (.str w_)]) (bx0:=ay (fun _=>none) []) rfl rfl (by kernel_rfl) ⟨p,⟨hne,hf⟩,hr⟩
 exact aA (k:=k) rfl hk
def mH (s_:(List UInt8)) (r:Int) (p:Out × St):Prop:=(∀ i,p.1≠.exit i)∧aV F33 [.d (.str s_)] p.2=some (.i r,[.d (.str s_)])
theorem lu (s_:(List UInt8)) (r:Int) (h:cJ s_=some r):Runs L F33.body ⟨a9 [.d (.str s_)] 0,ay (fun _=>none) []⟩ (mH s_ r):=by
 unfold cJ at h
 refine Sq<|Ro<|Rc 1 [vi 0]<|Rk<|Sq<|Ro<|Rc 1 [⟨.d (.str s_),[]⟩] ?_
 obtain ⟨r_1,hr_1,h⟩:=ah h
 have hc_1:=fb lQ s_ r_1 hr_1
 refine Rt (some 4) (.callf 35) [] none [.d (.str lQ),.d (.str s_)] (.i r_1) [] (cc hc_1) ?_
 refine Rc 1 [vi r_1]<|Rk<|Runs.ret ?_
 cases h
 exact Fq
theorem mI (s_:(List UInt8)) (r:Int) (h:cJ s_=some r):L 33 [.d (.str s_)]=some (.i r,[.d (.str s_)]):=by
 obtain ⟨p,⟨hne,hf⟩,hr⟩:=lu s_ r h
 obtain ⟨k,hk⟩:=aD (F:=F33) (args:=[.d (.str s_)]) (ap:=[.d (.str s_)]) (bx0:=ay (fun _=>none) []) rfl rfl (by kernel_rfl) ⟨p,⟨hne,hf⟩,hr⟩
 exact aA (k:=k) rfl hk
def kH (k_:Int) (r:Bool) (p:Out × St):Prop:=(∀ i,p.1≠.exit i)∧aV F36 [.i k_] p.2=some (.b r,[.i k_])
theorem j4 (k_:Int) (r:Bool) (h:bm k_=some r):Runs L F36.body ⟨a9 [.i k_] 0,ay (fun _=>none) []⟩ (kH k_ r):=by
 unfold bm at h
 refine Sq<|Ro<|Rc 1 [vb false]<|Rk<|Sq<|Ro<|Rc 3 [vi k_,vb (decide (k_≥1)),vb (decide (k_≥1))] ?_
 cases hb_1:((decide (k_≥1)):Bool) with
 | true =>
  replace h:=aa hb_1 h
  refine Rc 4 [vi k_,vb (decide (k_≤5)),vb (decide (k_≤5)),vb (decide (k_≤5))] ?_
  cases hb_2:((decide (k_≤5)):Bool) with
  | true =>
   replace h:=aa hb_2 h
   refine Rc 8 [vn,vn,vb true,vb true,vn,vn,vb true,vb true]<|Rk<|Runs.ret ?_
   cases h
   exact Fq
  | false =>
   replace h:=ab hb_2 h
   refine Rc 4 [vi k_,vb (k_==19),vb (k_==19),vb (k_==19)] ?_
   cases hb_3:((k_==19):Bool) with
   | true =>
    replace h:=aa hb_3 h
    refine Rc 4 [vn,vn,vb true,vb true]<|Rk<|Runs.ret ?_
    cases h
    exact Fq
   | false =>
    replace h:=ab hb_3 h
    refine Rc 4 [vi k_,vb (k_==20),vb (k_==20),vb (k_==20)]<|Rk<|Runs.ret ?_
    cases h
    exact Fq
 | false =>
  replace h:=ab hb_1 h
  refine Rc 8 [vn,vn,vb false,vb false,vi k_,vb (k_==19),vb (k_==19),vb (k_==19)] ?_
  cases hb_4:((k_==19):Bool) with
  | true =>
   replace h:=aa hb_4 h
   refine Rc 4 [vn,vn,vb true,vb true]<|Rk<|Runs.ret ?_
   cases h
   exact Fq
  | false =>
   replace h:=ab hb_4 h
   refine Rc 4 [vi k_,vb (k_==20),vb (k_==20),vb (k_==20)]<|Rk<|Runs.ret ?_
   cases h
   exact Fq
theorem gE (k_:Int) (r:Bool) (h:bm k_=some r):L 36 [.i k_]=some (.b r,[.i k_]):=by
 obtain ⟨p,⟨hne,hf⟩,hr⟩:=j4 k_ r h
 obtain ⟨k,hk⟩:=aD (F:=F36) (args:=[.i k_]) (ap:=[.i k_]) (bx0:=ay (fun _=>none) []) rfl rfl (by kernel_rfl) ⟨p,⟨hne,hf⟩,hr⟩
 exact aA (k:=k) rfl hk
def nG (op_:Int) (reg_:Int) (r:(Row × Bool)) (p:Out × St):Prop:=(∀ i,p.1≠.exit i)∧aV F16 [.y op_,.i reg_] p.2=some (.tup [.d (Row.d r.1),.b r.2],[.y op_,.i reg_])
theorem mJ (op_:Int) (reg_:Int) (r:(Row × Bool)) (h:cT op_ reg_=some r):Runs L F16.body ⟨a9 [.y op_,.i reg_] 0,ay (fun _=>none) []⟩ (nG op_ reg_ r):=by
 unfold cT at h
 refine Sq<|Ro<|Rc 2 [⟨.ptr [4] 0 0,[([4],some (.cells [.i 0,.i 0,.i 0,.b false] 0))]⟩,vb false]<|Rk<|Sq<|Ro<|Rc 2 [vy op_,vi reg_] ?_
 obtain ⟨r_1,hr_1,h⟩:=ah h
 have hc_1:=lr op_ reg_ r_1 hr_1
 refine Rt (some 10) (.callf 32) [] none [.y op_,.i reg_] (.d (.str r_1)) [] (cc hc_1)<|Rc 1 [⟨.d (.str r_1),[]⟩]<|Rk<|Sq<|Sq<|Ro<|Rc 3 [⟨.d (.str r_1),[]⟩,vb (r_1==([45]:List UInt8)),vb (r_1==([45]:List UInt8))] ?_
 cases hb_1:((r_1==([45]:List UInt8)):Bool) with
 | true =>
  replace h:=aa hb_1 h
  refine Rc 3 [vn,vn,vb true]<|Rk<|Ct<|Sq<|Ro<|Rc 3 [⟨.d (.agg [.int .i64 0,.int .i64 0,.int .i64 0,.bool false]),[]⟩,⟨.tup [],[([4],some (.cells [.i 0,.i 0,.i 0,.b false] 0))]⟩,vb false]<|Rk<|Runs.ret<|ae ?_
  cases h
  exact Fq
 | false =>
  replace h:=ab hb_1 h
  refine Rc 3 [⟨.d (.str r_1),[]⟩,vb (r_1==([]:List UInt8)),vb (r_1==([]:List UInt8))]<|Rk ?_
  cases hb_2:((r_1==([]:List UInt8)):Bool) with
  | true =>
   replace h:=aa hb_2 h
   refine Ct<|Sq<|Ro<|Rc 3 [⟨.d (.agg [.int .i64 0,.int .i64 0,.int .i64 0,.bool false]),[]⟩,⟨.tup [],[([4],some (.cells [.i 0,.i 0,.i 0,.b false] 0))]⟩,vb false]<|Rk<|Runs.ret<|ae ?_
   cases h
   exact Fq
  | false =>
   replace h:=ab hb_2 h
   refine Cf<|Runs.skip<|ai<|Sq<|Ro<|Rc 1 [⟨.d (.str r_1),[]⟩] ?_
   obtain ⟨r_2,hr_2,h⟩:=ah h
   have hc_2:=dH r_1 58 0 r_2 hr_2
   refine Rt (some 19) (.callf 34) [] none [.d (.str r_1),.y 58,.i 0] (.d (.str r_2)) [] (cc hc_2) ?_
   obtain ⟨r_3,hr_3,h⟩:=ah h
   have hc_3:=mI r_2 r_3 hr_3
   refine Rt (some 20) (.callf 33) [] none [.d (.str r_2)] (.i r_3) [] (cc hc_3)<|Rc 1 [⟨.d (.str r_1),[]⟩] ?_
   obtain ⟨r_4,hr_4,h⟩:=ah h
   have hc_4:=dH r_1 58 1 r_4 hr_4
   refine Rt (some 22) (.callf 34) [] none [.d (.str r_1),.y 58,.i 1] (.d (.str r_4)) [] (cc hc_4) ?_
   obtain ⟨r_5,hr_5,h⟩:=ah h
   have hc_5:=fb nq r_4 r_5 hr_5
   refine Rt (some 23) (.callf 35) [] none [.d (.str nq),.d (.str r_4)] (.i r_5) [] (cc hc_5)<|Rc 1 [⟨.d (.str r_1),[]⟩] ?_
   obtain ⟨r_6,hr_6,h⟩:=ah h
   have hc_6:=dH r_1 58 2 r_6 hr_6
   refine Rt (some 25) (.callf 34) [] none [.d (.str r_1),.y 58,.i 2] (.d (.str r_6)) [] (cc hc_6) ?_
   obtain ⟨r_7,hr_7,h⟩:=ah h
   have hc_7:=fb nq r_6 r_7 hr_7
   refine Rt (some 26) (.callf 35) [] none [.d (.str nq),.d (.str r_6)] (.i r_7) [] (cc hc_7)<|Rc 3 [⟨.d (.agg [.int .i64 r_3,.int .i64 r_5,.int .i64 r_7,.bool false]),[]⟩,⟨.ptr [7] 0 0,[([7],some (.cells [.i 0,.i 0,.i 0,.b false] 0))]⟩,⟨.tup [],[([7],some (.cells [.i r_3,.i r_5,.i r_7,.b false] 0))]⟩]<|Rk<|Sq<|Ro<|Rc 2 [vp [7] 0 1,vi r_5] ?_
   obtain ⟨r_8,hr_8,h⟩:=ah h
   have hc_8:=gE r_5 r_8 hr_8
   refine Rt (some 30) (.callf 36) [] none [.i r_5] (.b r_8) [] (cc hc_8)<|Rc 1 [vb r_8] ?_
   cases hb_3:(r_8:Bool) with
   | true =>
    replace h:=aa hb_3 h
    refine Rc 6 [vn,vn,vn,vb true,vp [7] 0 3,⟨.tup [],[([7],some (.cells [.i r_3,.i r_5,.i r_7,.b true] 0))]⟩]<|Rk<|Sq<|Ro<|Rc 3 [⟨.d (.agg [.int .i64 r_3,.int .i64 r_5,.int .i64 r_7,.bool true]),[]⟩,⟨.tup [],[([4],some (.cells [.i r_3,.i r_5,.i r_7,.b true] 0))]⟩,vb true]<|Rk<|Runs.ret ?_
    cases h
    exact Fq
   | false =>
    replace h:=ab hb_3 h
    refine Rc 2 [vp [7] 0 2,vi r_7] ?_
    obtain ⟨r_9,hr_9,h⟩:=ah h
    have hc_9:=gE r_7 r_9 hr_9
    refine Rt (some 34) (.callf 36) [] none [.i r_7] (.b r_9) [] (cc hc_9)<|Rc 3 [vb r_9,vp [7] 0 3,⟨.tup [],[([7],some (.cells [.i r_3,.i r_5,.i r_7,.b r_9] 0))]⟩]<|Rk<|Sq<|Ro<|Rc 3 [⟨.d (.agg [.int .i64 r_3,.int .i64 r_5,.int .i64 r_7,.bool r_9]),[]⟩,⟨.tup [],[([4],some (.cells [.i r_3,.i r_5,.i r_7,.b r_9] 0))]⟩,vb true]<|Rk<|Runs.ret ?_
    cases h
    exact Fq
theorem nH (op_:Int) (reg_:Int) (r:(Row × Bool)) (h:cT op_ reg_=some r):L 16 [.y op_,.i reg_]=some (.tup [.d (Row.d r.1),.b r.2],[.y op_,.i reg_]):=by
 obtain ⟨p,⟨hne,hf⟩,hr⟩:=mJ op_ reg_ r h
 obtain ⟨k,hk⟩:=aD (F:=F16) (args:=[.y op_,.i reg_]) (ap:=[.y op_,.i reg_]) (bx0:=ay (fun _=>none) []) rfl rfl (by kernel_rfl) ⟨p,⟨hne,hf⟩,hr⟩
 exact aA (k:=k) rfl hk
def nI (i_:Inst) (r:(Row × Bool)) (p:Out × St):Prop:=(∀ i,p.1≠.exit i)∧aV F5 [.d (Inst.d i_)] p.2=some (.tup [.d (Row.d r.1),.b r.2],[.d (Inst.d i_)])
theorem mK (i_:Inst) (r:(Row × Bool)) (h:bn i_=some r):Runs L F5.body ⟨a9 [.d (Inst.d i_)] 0,ay (fun _=>none) []⟩ (nI i_ r):=by
 unfold bn at h
 refine Sq<|Ro<|Rc 3 [⟨.ptr [1] 0 0,[([1],some (.cells [.b i_.Lock,.i i_.Rep,.i i_.Seg,.y i_.Op,.i i_.Mod,.i i_.Reg,.i i_.RM,.w i_.Disp,.w i_.Imm,.w i_.Sel] 0))]⟩,⟨.ptr [2] 0 0,[([2],some (.cells [.i 0,.i 0,.i 0,.b false] 0))]⟩,vb false]<|Rk<|Sq<|Sq<|Ro<|Rc 2 [vp [1] 0 3,vy i_.Op] ?_
 obtain ⟨r_1,hr_1,h⟩:=ah h
 have hc_1:=kz i_.Op r_1 hr_1
 refine Rt (some 6) (.callf 15) [] none [.y i_.Op] (.b r_1) [] (cc hc_1)<|Rk ?_
 cases hb_1:(r_1:Bool) with
 | true =>
  replace h:=aa hb_1 h
  refine Ct<|Sq<|Ro<|Rc 3 [⟨.d (.agg [.int .i64 0,.int .i64 0,.int .i64 0,.bool false]),[]⟩,⟨.tup [],[([2],some (.cells [.i 0,.i 0,.i 0,.b false] 0))]⟩,vb false]<|Rk<|Runs.ret<|ae ?_
  cases h
  exact Fq
 | false =>
  replace h:=ab hb_1 h
  refine Cf<|Runs.skip<|ai<|Sq<|Ro<|Rc 4 [vp [1] 0 3,vy i_.Op,vp [1] 0 5,vi i_.Reg] ?_
  obtain ⟨r_2,hr_2,h⟩:=ah h
  have hc_2:=nH i_.Op i_.Reg r_2 hr_2
  refine Rt (some 12) (.callf 16) [] none [.y i_.Op,.i i_.Reg] (.tup [.d (Row.d r_2.1),.b r_2.2]) [] (cc hc_2)<|Rc 4 [⟨.d (Row.d r_2.1),[]⟩,vb r_2.2,⟨.tup [],[([2],some (.cells [.i r_2.1.Name,.i r_2.1.A,.i r_2.1.B,.b r_2.1.Mod] 0))]⟩,vb r_2.2]<|Rk<|Runs.ret ?_
  cases h
  exact Fq
theorem dh (i_:Inst) (r:(Row × Bool)) (h:bn i_=some r):L 5 [.d (Inst.d i_)]=some (.tup [.d (Row.d r.1),.b r.2],[.d (Inst.d i_)]):=by
 obtain ⟨p,⟨hne,hf⟩,hr⟩:=mK i_ r h
 obtain ⟨k,hk⟩:=aD (F:=F5) (args:=[.d (Inst.d i_)]) (ap:=[.d (Inst.d i_)]) (bx0:=ay (fun _=>none) []) rfl rfl (by kernel_rfl) ⟨p,⟨hne,hf⟩,hr⟩
 exact aA (k:=k) rfl hk
def cR (t3:Int) (t4:Bool):St:=⟨tab [(3,.i t3),(4,.b t4)],be []⟩
def gQ (k_:Int) (r:Int) (p:Out × St):Prop:=(∀ i,p.1≠.exit i)∧aV F13 [.i k_] p.2=some (.i r,[.i k_])
theorem dn (k_:Int) (t3:Int) (t4:Bool) (r:Int) (h:bA t3 t4=some r):Runs L zm (cR t3 t4) (kB 0 (kS L zn (gQ k_ r))):=by
 unfold bA at h
 cases hb_2:(t4:Bool) with
 | true =>
  replace h:=aa hb_2 h
  refine Ct<|Sq<|Ro<|Rc 1 [vi 1]<|Rk<|Runs.ret<|aj<|ae ?_
  cases h
  exact Fq
 | false =>
  replace h:=ab hb_2 h
  refine Cf<|Sq<|Sq<|Ro<|Rc 2 [vb (t3==7),vb (t3==7)]<|Rk ?_
  cases hb_3:((t3==7):Bool) with
  | true =>
   replace h:=aa hb_3 h
   refine Ct<|Runs.skip<|ai<|Ct<|Sq<|Ro<|Rc 1 [vi 2]<|Rk<|Runs.ret<|aj<|ae ?_
   cases h
   exact Fq
  | false =>
   replace h:=ab hb_3 h
   refine Cf<|Sq<|Ro<|Rc 2 [vb (t3==10),vb (t3==10)]<|Rk ?_
   cases hb_4:((t3==10):Bool) with
   | true =>
    replace h:=aa hb_4 h
    refine Ct<|Runs.skip<|ai<|Ct<|Sq<|Ro<|Rc 1 [vi 2]<|Rk<|Runs.ret<|aj<|ae ?_
    cases h
    exact Fq
   | false =>
    replace h:=ab hb_4 h
    refine Cf<|Sq<|Ro<|Rc 2 [vb (t3==12),vb (t3==12)]<|Rk ?_
    cases hb_5:((t3==12):Bool) with
    | true =>
     replace h:=aa hb_5 h
     refine Ct<|Runs.skip<|ai<|Ct<|Sq<|Ro<|Rc 1 [vi 2]<|Rk<|Runs.ret<|aj<|ae ?_
     cases h
     exact Fq
    | false =>
     replace h:=ab hb_5 h
     refine Cf<|Ro<|Rc 2 [vb (t3==13),vb (t3==13)]<|Rk ?_
     cases hb_6:((t3==13):Bool) with
     | true =>
      replace h:=aa hb_6 h
      refine Ct<|Sq<|Ro<|Rc 1 [vi 2]<|Rk<|Runs.ret<|aj<|ae ?_
      cases h
      exact Fq
     | false =>
      replace h:=ab hb_6 h
      refine Cf<|Sq<|Ro<|Rc 2 [vb (t3==11),vb (t3==11)]<|Rk ?_
      cases hb_7:((t3==11):Bool) with
      | true =>
       replace h:=aa hb_7 h
       refine Ct<|Sq<|Ro<|Rc 1 [vi 4]<|Rk<|Runs.ret<|aj<|ae ?_
       cases h
       exact Fq
      | false =>
       replace h:=ab hb_7 h
       refine Cf<|Runs.skip<|az<|ai<|Sq<|Ro<|Rc 1 [vi 0]<|Rk<|Runs.ret ?_
       cases h
       exact Fq
theorem kI (k_:Int) (r:Int) (h:bR k_=some r):Runs L F13.body ⟨a9 [.i k_] 0,ay (fun _=>none) []⟩ (gQ k_ r):=by
 unfold bR at h
 refine Sq<|Ro<|Rc 1 [vi 0]<|Rk<|Sq<|Sq<|Ro<|Rc 1 [vi k_]<|Rk<|Runs.block<|Sq<|Sq<|Ro<|Rc 2 [vb (k_==6),vb (k_==6)]<|Rk ?_
 cases hb_1:((k_==6):Bool) with
 | true =>
  replace h:=aa hb_1 h
  refine Ct<|Runs.skip<|ai<|Runs.canon (cR k_ true) Cz ?_
  exact dn k_ k_ true r h
 | false =>
  replace h:=ab hb_1 h
  refine Cf<|Sq<|Ro<|Rc 2 [vb (k_==8),vb (k_==8)]<|Rk ?_
  cases hb_8:((k_==8):Bool) with
  | true =>
   replace h:=aa hb_8 h
   refine Ct<|Runs.skip<|ai<|Runs.canon (cR k_ true) Cz ?_
   exact dn k_ k_ true r h
  | false =>
   replace h:=ab hb_8 h
   refine Cf<|Ro<|Rc 2 [vb (k_==9),vb (k_==9)]<|Rk<|Runs.canon (cR k_ (k_==9)) Cz ?_
   exact dn k_ k_ (k_==9) r h
theorem gR (k_:Int) (r:Int) (h:bR k_=some r):L 13 [.i k_]=some (.i r,[.i k_]):=by
 obtain ⟨p,⟨hne,hf⟩,hr⟩:=kI k_ r h
 obtain ⟨k,hk⟩:=aD (F:=F13) (args:=[.i k_]) (ap:=[.i k_]) (bx0:=ay (fun _=>none) []) rfl rfl (by kernel_rfl) ⟨p,⟨hne,hf⟩,hr⟩
 exact aA (k:=k) rfl hk
def mL (n_:Int) (r:(List UInt8)) (p:Out × St):Prop:=(∀ i,p.1≠.exit i)∧aV F31 [.i n_] p.2=some (.d (.str r),[.i n_])
theorem lv (n_:Int) (r:(List UInt8)) (h:br n_=some r):Runs L F31.body ⟨a9 [.i n_] 0,ay (fun _=>none) []⟩ (mL n_ r):=by
 unfold br at h
 refine Sq<|Ro<|Rc 1 [⟨.d (.str ([]:List UInt8)),[]⟩]<|Rk<|Sq<|Sq<|Ro<|Rc 3 [vi n_,vb (decide (n_<1)),vb (decide (n_<1))] ?_
 cases hb_1:((decide (n_<1)):Bool) with
 | true =>
  replace h:=aa hb_1 h
  refine Rc 3 [vn,vn,vb true]<|Rk<|Ct<|Sq<|Ro<|Rc 1 [⟨.d (.str ([63]:List UInt8)),[]⟩]<|Rk<|Runs.ret<|ae ?_
  cases h
  exact Fq
 | false =>
  replace h:=ab hb_1 h
  refine Rc 3 [vi n_,vb (decide (n_>95)),vb (decide (n_>95))]<|Rk ?_
  cases hb_2:((decide (n_>95)):Bool) with
  | true =>
   replace h:=aa hb_2 h
   refine Ct<|Sq<|Ro<|Rc 1 [⟨.d (.str ([63]:List UInt8)),[]⟩]<|Rk<|Runs.ret<|ae ?_
   cases h
   exact Fq
  | false =>
   replace h:=ab hb_2 h
   refine Cf<|Runs.skip<|ai<|Sq<|Ro<|Rc 2 [vi n_,vi (IntKind.wrap .i64 (n_ - 1))] ?_
   obtain ⟨r_1,hr_1,h⟩:=ah h
   have hc_1:=ip lQ (IntKind.wrap .i64 (n_ - 1)) r_1 hr_1
   refine Rt (some 11) (.callf 65) [] none [.d (.str lQ),.i (IntKind.wrap .i64 (n_ - 1))] (.d (.str r_1)) [] (cc hc_1) ?_
   refine Rc 1 [⟨.d (.str r_1),[]⟩]<|Rk<|Runs.ret ?_
   cases h
   exact Fq
theorem mM (n_:Int) (r:(List UInt8)) (h:br n_=some r):L 31 [.i n_]=some (.d (.str r),[.i n_]):=by
 obtain ⟨p,⟨hne,hf⟩,hr⟩:=lv n_ r h
 obtain ⟨k,hk⟩:=aD (F:=F31) (args:=[.i n_]) (ap:=[.i n_]) (bx0:=ay (fun _=>none) []) rfl rfl (by kernel_rfl) ⟨p,⟨hne,hf⟩,hr⟩
 exact aA (k:=k) rfl hk
def aS (t4:(List UInt8)) (t5:Bool):St:=⟨tab [(4,.d (.str t4)),(5,.b t5)],be []⟩
def fZ (n_:Int) (r:Int) (p:Out × St):Prop:=(∀ i,p.1≠.exit i)∧aV F14 [.i n_] p.2=some (.i r,[.i n_])
theorem aT (n_:Int) (t4:(List UInt8)) (t5:Bool) (r:Int) (h:aJ t4 t5=some r):Runs L zo (aS t4 t5) (kB 0 (kS L zp (fZ n_ r))):=by
 unfold aJ at h
 cases hb_2:(t5:Bool) with
 | true =>
  replace h:=aa hb_2 h
  refine Ct<|Sq<|Ro<|Rc 1 [vi 1]<|Rk<|Runs.ret<|aj<|ae ?_
  cases h
  exact Fq
 | false =>
  replace h:=ab hb_2 h
  refine Cf<|Sq<|Sq<|Ro<|Rc 2 [vb (t4==([67,77,80,83,66]:List UInt8)),vb (t4==([67,77,80,83,66]:List UInt8))]<|Rk ?_
  cases hb_3:((t4==([67,77,80,83,66]:List UInt8)):Bool) with
  | true =>
   replace h:=aa hb_3 h
   refine Ct<|Runs.skip<|ai<|Ct<|Sq<|Ro<|Rc 1 [vi 2]<|Rk<|Runs.ret<|aj<|ae ?_
   cases h
   exact Fq
  | false =>
   replace h:=ab hb_3 h
   refine Cf<|Sq<|Ro<|Rc 2 [vb (t4==([67,77,80,83,87]:List UInt8)),vb (t4==([67,77,80,83,87]:List UInt8))]<|Rk ?_
   cases hb_4:((t4==([67,77,80,83,87]:List UInt8)):Bool) with
   | true =>
    replace h:=aa hb_4 h
    refine Ct<|Runs.skip<|ai<|Ct<|Sq<|Ro<|Rc 1 [vi 2]<|Rk<|Runs.ret<|aj<|ae ?_
    cases h
    exact Fq
   | false =>
    replace h:=ab hb_4 h
    refine Cf<|Sq<|Ro<|Rc 2 [vb (t4==([83,67,65,83,66]:List UInt8)),vb (t4==([83,67,65,83,66]:List UInt8))]<|Rk ?_
    cases hb_5:((t4==([83,67,65,83,66]:List UInt8)):Bool) with
    | true =>
     replace h:=aa hb_5 h
     refine Ct<|Runs.skip<|ai<|Ct<|Sq<|Ro<|Rc 1 [vi 2]<|Rk<|Runs.ret<|aj<|ae ?_
     cases h
     exact Fq
    | false =>
     replace h:=ab hb_5 h
     refine Cf<|Ro<|Rc 2 [vb (t4==([83,67,65,83,87]:List UInt8)),vb (t4==([83,67,65,83,87]:List UInt8))]<|Rk ?_
     cases hb_6:((t4==([83,67,65,83,87]:List UInt8)):Bool) with
     | true =>
      replace h:=aa hb_6 h
      refine Ct<|Sq<|Ro<|Rc 1 [vi 2]<|Rk<|Runs.ret<|aj<|ae ?_
      cases h
      exact Fq
     | false =>
      replace h:=ab hb_6 h
      refine Cf<|Runs.skip<|az<|ai<|Sq<|Ro<|Rc 1 [vi 0]<|Rk<|Runs.ret ?_
      cases h
      exact Fq
theorem jC (n_:Int) (r:Int) (h:ba n_=some r):Runs L F14.body ⟨a9 [.i n_] 0,ay (fun _=>none) []⟩ (fZ n_ r):=by
 unfold ba at h
 refine Sq<|Ro<|Rc 1 [vi 0]<|Rk<|Sq<|Sq<|Ro<|Rc 1 [vi n_] ?_
 obtain ⟨r_1,hr_1,h⟩:=ah h
 have hc_1:=mM n_ r_1 hr_1
 refine Rt (some 4) (.callf 31) [] none [.i n_] (.d (.str r_1)) [] (cc hc_1)<|Rk<|Runs.block<|Sq<|Sq<|Ro<|Rc 2 [vb (r_1==([77,79,86,83,66]:List UInt8)),vb (r_1==([77,79,86,83,66]:List UInt8))]<|Rk ?_
 cases hb_1:((r_1==([77,79,86,83,66]:List UInt8)):Bool) with
 | true =>
  replace h:=aa hb_1 h
  refine Ct<|Runs.skip<|ai<|Runs.canon (aS r_1 true) Cz ?_
  exact aT n_ r_1 true r h
 | false =>
  replace h:=ab hb_1 h
  refine Cf<|Sq<|Ro<|Rc 2 [vb (r_1==([77,79,86,83,87]:List UInt8)),vb (r_1==([77,79,86,83,87]:List UInt8))]<|Rk ?_
  cases hb_7:((r_1==([77,79,86,83,87]:List UInt8)):Bool) with
  | true =>
   replace h:=aa hb_7 h
   refine Ct<|Runs.skip<|ai<|Runs.canon (aS r_1 true) Cz ?_
   exact aT n_ r_1 true r h
  | false =>
   replace h:=ab hb_7 h
   refine Cf<|Sq<|Ro<|Rc 2 [vb (r_1==([83,84,79,83,66]:List UInt8)),vb (r_1==([83,84,79,83,66]:List UInt8))]<|Rk ?_
   cases hb_8:((r_1==([83,84,79,83,66]:List UInt8)):Bool) with
   | true =>
    replace h:=aa hb_8 h
    refine Ct<|Runs.skip<|ai<|Runs.canon (aS r_1 true) Cz ?_
    exact aT n_ r_1 true r h
   | false =>
    replace h:=ab hb_8 h
    refine Cf<|Sq<|Ro<|Rc 2 [vb (r_1==([83,84,79,83,87]:List UInt8)),vb (r_1==([83,84,79,83,87]:List UInt8))]<|Rk ?_
    cases hb_9:((r_1==([83,84,79,83,87]:List UInt8)):Bool) with
    | true =>
     replace h:=aa hb_9 h
     refine Ct<|Runs.skip<|ai<|Runs.canon (aS r_1 true) Cz ?_
     exact aT n_ r_1 true r h
    | false =>
     replace h:=ab hb_9 h
     refine Cf<|Sq<|Ro<|Rc 2 [vb (r_1==([76,79,68,83,66]:List UInt8)),vb (r_1==([76,79,68,83,66]:List UInt8))]<|Rk ?_
     cases hb_10:((r_1==([76,79,68,83,66]:List UInt8)):Bool) with
     | true =>
      replace h:=aa hb_10 h
      refine Ct<|Runs.skip<|ai<|Runs.canon (aS r_1 true) Cz ?_
      exact aT n_ r_1 true r h
     | false =>
      replace h:=ab hb_10 h
      refine Cf<|Ro<|Rc 2 [vb (r_1==([76,79,68,83,87]:List UInt8)),vb (r_1==([76,79,68,83,87]:List UInt8))]<|Rk<|Runs.canon (aS r_1 (r_1==([76,79,68,83,87]:List UInt8))) Cz ?_
      exact aT n_ r_1 (r_1==([76,79,68,83,87]:List UInt8)) r h
theorem f8 (n_:Int) (r:Int) (h:ba n_=some r):L 14 [.i n_]=some (.i r,[.i n_]):=by
 obtain ⟨p,⟨hne,hf⟩,hr⟩:=jC n_ r h
 obtain ⟨k,hk⟩:=aD (F:=F14) (args:=[.i n_]) (ap:=[.i n_]) (bx0:=ay (fun _=>none) []) rfl rfl (by kernel_rfl) ⟨p,⟨hne,hf⟩,hr⟩
 exact aA (k:=k) rfl hk
def mO (w_:Int) (r:Bool) (p:Out × St):Prop:=(∀ i,p.1≠.exit i)∧aV F27 [.w w_] p.2=some (.b r,[.w w_])
theorem lw (w_:Int) (r:Bool) (h:bL w_=some r):Runs L F27.body ⟨a9 [.w w_] 0,ay (fun _=>none) []⟩ (mO w_ r):=by
 unfold bL at h
 refine Sq<|Ro<|Rc 1 [vb false]<|Rk<|Sq<|Ro<|Rc 3 [vw w_,vb (decide (w_<128)),vb (decide (w_<128))] ?_
 cases hb_1:((decide (w_<128)):Bool) with
 | true =>
  replace h:=aa hb_1 h
  refine Rc 4 [vn,vn,vb true,vb true]<|Rk<|Runs.ret ?_
  cases h
  exact Fq
 | false =>
  replace h:=ab hb_1 h
  refine Rc 4 [vw w_,vb (decide (w_≥65408)),vb (decide (w_≥65408)),vb (decide (w_≥65408))]<|Rk<|Runs.ret ?_
  cases h
  exact Fq
theorem fc (w_:Int) (r:Bool) (h:bL w_=some r):L 27 [.w w_]=some (.b r,[.w w_]):=by
 obtain ⟨p,⟨hne,hf⟩,hr⟩:=lw w_ r h
 obtain ⟨k,hk⟩:=aD (F:=F27) (args:=[.w w_]) (ap:=[.w w_]) (bx0:=ay (fun _=>none) []) rfl rfl (by kernel_rfl) ⟨p,⟨hne,hf⟩,hr⟩
 exact aA (k:=k) rfl hk
def lz (mod_:Int) (rm_:Int) (r:Int) (p:Out × St):Prop:=(∀ i,p.1≠.exit i)∧aV F11 [.i mod_,.i rm_] p.2=some (.i r,[.i mod_,.i rm_])
theorem kJ (mod_:Int) (rm_:Int) (r:Int) (h:bS mod_ rm_=some r):Runs L F11.body ⟨a9 [.i mod_,.i rm_] 0,ay (fun _=>none) []⟩ (lz mod_ rm_ r):=by
 unfold bS at h
 refine Sq<|Ro<|Rc 1 [vi 0]<|Rk<|Sq<|Sq<|Ro<|Rc 2 [vi mod_,vb (mod_==1)]<|Rk ?_
 cases hb_1:((mod_==1):Bool) with
 | true =>
  replace h:=aa hb_1 h
  refine Ct<|Sq<|Ro<|Rc 1 [vi 1]<|Rk<|Runs.ret<|ae ?_
  cases h
  exact Fq
 | false =>
  replace h:=ab hb_1 h
  refine Cf<|Runs.skip<|ai<|Sq<|Sq<|Ro<|Rc 3 [vi mod_,vb (mod_==2),vb (mod_==2)] ?_
  cases hb_2:((mod_==2):Bool) with
  | true =>
   replace h:=aa hb_2 h
   refine Rc 7 [vn,vn,vn,vn,vn,vn,vb true]<|Rk<|Ct<|Sq<|Ro<|Rc 1 [vi 2]<|Rk<|Runs.ret<|ae ?_
   cases h
   exact Fq
  | false =>
   replace h:=ab hb_2 h
   refine Rc 3 [vi mod_,vb (mod_==0),vb (mod_==0)] ?_
   cases hb_3:((mod_==0):Bool) with
   | true =>
    replace h:=aa hb_3 h
    refine Rc 4 [vi rm_,vb (rm_==6),vb (rm_==6),vb (rm_==6)]<|Rk ?_
    cases hb_4:((rm_==6):Bool) with
    | true =>
     replace h:=aa hb_4 h
     refine Ct<|Sq<|Ro<|Rc 1 [vi 2]<|Rk<|Runs.ret<|ae ?_
     cases h
     exact Fq
    | false =>
     replace h:=ab hb_4 h
     refine Cf<|Runs.skip<|ai<|Sq<|Ro<|Rc 1 [vi 0]<|Rk<|Runs.ret ?_
     cases h
     exact Fq
   | false =>
    replace h:=ab hb_3 h
    refine Rc 4 [vn,vn,vb false,vb false]<|Rk<|Cf<|Runs.skip<|ai<|Sq<|Ro<|Rc 1 [vi 0]<|Rk<|Runs.ret ?_
    cases h
    exact Fq
theorem gS (mod_:Int) (rm_:Int) (r:Int) (h:bS mod_ rm_=some r):L 11 [.i mod_,.i rm_]=some (.i r,[.i mod_,.i rm_]):=by
 obtain ⟨p,⟨hne,hf⟩,hr⟩:=kJ mod_ rm_ r h
 obtain ⟨k,hk⟩:=aD (F:=F11) (args:=[.i mod_,.i rm_]) (ap:=[.i mod_,.i rm_]) (bx0:=ay (fun _=>none) []) rfl rfl (by kernel_rfl) ⟨p,⟨hne,hf⟩,hr⟩
 exact aA (k:=k) rfl hk
def cF (i1:Inst) (r3:Row):St:=⟨tab [(1,.ptr [1] 0 0),(3,.ptr [3] 0 0)],be [([1],some (.cells [.b i1.Lock,.i i1.Rep,.i i1.Seg,.y i1.Op,.i i1.Mod,.i i1.Reg,.i i1.RM,.w i1.Disp,.w i1.Imm,.w i1.Sel] 0)),([3],some (.cells [.i r3.Name,.i r3.A,.i r3.B,.b r3.Mod] 0))]⟩
def cf (i1:Inst) (r3:Row):St:=⟨tab [(1,.ptr [1] 0 0),(3,.ptr [3] 0 0)],be [([1],some (.cells [.b i1.Lock,.i i1.Rep,.i i1.Seg,.y i1.Op,.i i1.Mod,.i i1.Reg,.i i1.RM,.w i1.Disp,.w i1.Imm,.w i1.Sel] 0)),([3],some (.cells [.i r3.Name,.i r3.A,.i r3.B,.b r3.Mod] 0))]⟩
def eN (i1:Inst) (r3:Row) (k7:Int):St:=⟨tab [(1,.ptr [1] 0 0),(3,.ptr [3] 0 0),(7,.i k7)],be [([1],some (.cells [.b i1.Lock,.i i1.Rep,.i i1.Seg,.y i1.Op,.i i1.Mod,.i i1.Reg,.i i1.RM,.w i1.Disp,.w i1.Imm,.w i1.Sel] 0)),([3],some (.cells [.i r3.Name,.i r3.A,.i r3.B,.b r3.Mod] 0))]⟩
def eO (i1:Inst) (t155:Int) (t181:Bool):St:=⟨tab [(1,.ptr [1] 0 0),(155,.i t155),(181,.b t181)],be [([1],some (.cells [.b i1.Lock,.i i1.Rep,.i i1.Seg,.y i1.Op,.i i1.Mod,.i i1.Reg,.i i1.RM,.w i1.Disp,.w i1.Imm,.w i1.Sel] 0))]⟩
def eP (i1:Inst) (r3:Row):St:=⟨tab [(1,.ptr [1] 0 0),(3,.ptr [3] 0 0)],be [([1],some (.cells [.b i1.Lock,.i i1.Rep,.i i1.Seg,.y i1.Op,.i i1.Mod,.i i1.Reg,.i i1.RM,.w i1.Disp,.w i1.Imm,.w i1.Sel] 0)),([3],some (.cells [.i r3.Name,.i r3.A,.i r3.B,.b r3.Mod] 0))]⟩
def cw (i_:Inst) (r:Bool) (p:Out × St):Prop:=(∀ i,p.1≠.exit i)∧aV F9 [.d (Inst.d i_)] p.2=some (.b r,[.d (Inst.d i_)])
theorem fK (i_:Inst) (i1:Inst) (t155:Int) (t181:Bool) (r:Bool) (h:bv i1 t155 t181=some r):Runs L CB (eO i1 t155 t181) (kB 0 (kS L zj (cw i_ r))):=by
 unfold bv at h
 cases hb_22:(t181:Bool) with
 | true =>
  replace h:=aa hb_22 h
  refine Ct<|Sq<|Ro<|Rc 2 [vp [1] 0 8,vw i1.Imm] ?_
  obtain ⟨r_4,hr_4,h⟩:=ah h
  have hc_4:=fc i1.Imm r_4 hr_4
  refine Rt (some 186) (.callf 27) [] none [.w i1.Imm] (.b r_4) [] (cc hc_4)<|Rc 1 [vb r_4] ?_
  cases hb_23:(r_4:Bool) with
  | true =>
   replace h:=aa hb_23 h
   refine Rc 5 [vp [1] 0 9,vw i1.Sel,vb (i1.Sel==0),vb (i1.Sel==0),vb (i1.Sel==0)]<|Rk<|Runs.ret<|aj<|ae ?_
   cases h
   exact Fq
  | false =>
   replace h:=ab hb_23 h
   refine Rc 5 [vn,vn,vn,vb false,vb false]<|Rk<|Runs.ret<|aj<|ae ?_
   cases h
   exact Fq
 | false =>
  replace h:=ab hb_22 h
  refine Cf<|Sq<|Sq<|Ro<|Rc 2 [vb (t155==7),vb (t155==7)]<|Rk ?_
  cases hb_24:((t155==7):Bool) with
  | true =>
   replace h:=aa hb_24 h
   refine Ct<|Runs.skip<|ai<|Ct<|Sq<|Ro<|Rc 4 [vp [1] 0 9,vw i1.Sel,vb (i1.Sel==0),vb (i1.Sel==0)]<|Rk<|Runs.ret<|aj<|ae ?_
   cases h
   exact Fq
  | false =>
   replace h:=ab hb_24 h
   refine Cf<|Sq<|Ro<|Rc 2 [vb (t155==10),vb (t155==10)]<|Rk ?_
   cases hb_25:((t155==10):Bool) with
   | true =>
    replace h:=aa hb_25 h
    refine Ct<|Runs.skip<|ai<|Ct<|Sq<|Ro<|Rc 4 [vp [1] 0 9,vw i1.Sel,vb (i1.Sel==0),vb (i1.Sel==0)]<|Rk<|Runs.ret<|aj<|ae ?_
    cases h
    exact Fq
   | false =>
    replace h:=ab hb_25 h
    refine Cf<|Sq<|Ro<|Rc 2 [vb (t155==12),vb (t155==12)]<|Rk ?_
    cases hb_26:((t155==12):Bool) with
    | true =>
     replace h:=aa hb_26 h
     refine Ct<|Runs.skip<|ai<|Ct<|Sq<|Ro<|Rc 4 [vp [1] 0 9,vw i1.Sel,vb (i1.Sel==0),vb (i1.Sel==0)]<|Rk<|Runs.ret<|aj<|ae ?_
     cases h
     exact Fq
    | false =>
     replace h:=ab hb_26 h
     refine Cf<|Ro<|Rc 2 [vb (t155==13),vb (t155==13)]<|Rk ?_
     cases hb_27:((t155==13):Bool) with
     | true =>
      replace h:=aa hb_27 h
      refine Ct<|Sq<|Ro<|Rc 4 [vp [1] 0 9,vw i1.Sel,vb (i1.Sel==0),vb (i1.Sel==0)]<|Rk<|Runs.ret<|aj<|ae ?_
      cases h
      exact Fq
     | false =>
      replace h:=ab hb_27 h
      refine Cf<|Sq<|Ro<|Rc 2 [vb (t155==11),vb (t155==11)]<|Rk ?_
      cases hb_28:((t155==11):Bool) with
      | true =>
       replace h:=aa hb_28 h
       refine Ct<|Sq<|Ro<|Rc 1 [vb true]<|Rk<|Runs.ret<|aj<|ae ?_
       cases h
       exact Fq
      | false =>
       replace h:=ab hb_28 h
       refine Cf<|Runs.skip<|az<|ai<|Sq<|Ro<|Rc 4 [vp [1] 0 8,vw i1.Imm,vb (i1.Imm==0),vb (i1.Imm==0)] ?_
       cases hb_29:((i1.Imm==0):Bool) with
       | true =>
        replace h:=aa hb_29 h
        refine Rc 5 [vp [1] 0 9,vw i1.Sel,vb (i1.Sel==0),vb (i1.Sel==0),vb (i1.Sel==0)]<|Rk<|Runs.ret ?_
        cases h
        exact Fq
       | false =>
        replace h:=ab hb_29 h
        refine Rc 5 [vn,vn,vn,vb false,vb false]<|Rk<|Runs.ret ?_
        cases h
        exact Fq
theorem fL (i_:Inst) (i1:Inst) (r3:Row) (k7:Int) (r:Bool) (h:cb i1 r3 k7=some r):Runs L CC (eN i1 r3 k7) (cw i_ r):=by
 unfold cb at h
 refine Sq<|Sq<|Ro<|Rc 1 [vi k7]<|Rk<|Runs.block<|Sq<|Ro<|Rc 2 [vb (k7==6),vb (k7==6)]<|Rk ?_
 cases hb_16:((k7==6):Bool) with
 | true =>
  replace h:=aa hb_16 h
  refine Ct<|Sq<|Ro<|Rc 4 [vp [1] 0 8,vw i1.Imm,vb (decide (i1.Imm<256)),vb (decide (i1.Imm<256))] ?_
  cases hb_17:((decide (i1.Imm<256)):Bool) with
  | true =>
   replace h:=aa hb_17 h
   refine Rc 5 [vp [1] 0 9,vw i1.Sel,vb (i1.Sel==0),vb (i1.Sel==0),vb (i1.Sel==0)] ?_
   cases hb_18:((i1.Sel==0):Bool) with
   | true =>
    replace h:=aa hb_18 h
    refine Rc 4 [vp [3] 0 0,vi r3.Name,vb (r3.Name != 70),vb (r3.Name != 70)] ?_
    cases hb_19:((r3.Name != 70):Bool) with
    | true =>
     replace h:=aa hb_19 h
     refine Rc 5 [vp [3] 0 0,vi r3.Name,vb (r3.Name != 71),vb (r3.Name != 71),vb (r3.Name != 71)] ?_
     cases hb_20:((r3.Name != 71):Bool) with
     | true =>
      replace h:=aa hb_20 h
      refine Rc 6 [vn,vn,vn,vb true,vb true,vb true]<|Rk<|Runs.ret<|aj<|ae ?_
      cases h
      exact Fq
     | false =>
      replace h:=ab hb_20 h
      refine Rc 6 [vp [1] 0 8,vw i1.Imm,vb (i1.Imm==10),vb (i1.Imm==10),vb (i1.Imm==10),vb (i1.Imm==10)]<|Rk<|Runs.ret<|aj<|ae ?_
      cases h
      exact Fq
    | false =>
     replace h:=ab hb_19 h
     refine Rc 11 [vn,vn,vn,vb false,vb false,vp [1] 0 8,vw i1.Imm,vb (i1.Imm==10),vb (i1.Imm==10),vb (i1.Imm==10),vb (i1.Imm==10)]<|Rk<|Runs.ret<|aj<|ae ?_
     cases h
     exact Fq
   | false =>
    replace h:=ab hb_18 h
    refine Rc 15 [vn,vn,vn,vn,vn,vn,vn,vn,vn,vn,vn,vn,vn,vb false,vb false]<|Rk<|Runs.ret<|aj<|ae ?_
    cases h
    exact Fq
  | false =>
   replace h:=ab hb_17 h
   refine Rc 20 [vn,vn,vn,vb false,vb false,vn,vn,vn,vn,vn,vn,vn,vn,vn,vn,vn,vn,vn,vb false,vb false]<|Rk<|Runs.ret<|aj<|ae ?_
   cases h
   exact Fq
 | false =>
  replace h:=ab hb_16 h
  refine Cf<|Sq<|Sq<|Ro<|Rc 2 [vb (k7==8),vb (k7==8)]<|Rk ?_
  cases hb_21:((k7==8):Bool) with
  | true =>
   replace h:=aa hb_21 h
   refine Ct<|Runs.skip<|ai<|Runs.canon (eO i1 k7 true) Cz ?_
   exact fK i_ i1 k7 true r h
  | false =>
   replace h:=ab hb_21 h
   refine Cf<|Ro<|Rc 2 [vb (k7==9),vb (k7==9)]<|Rk<|Runs.canon (eO i1 k7 (k7==9)) Cz ?_
   exact fK i_ i1 k7 (k7==9) r h
theorem bY (i_:Inst) (i1:Inst) (r3:Row) (r:Bool) (h:aP i1 r3=some r):Runs L CD (cf i1 r3) (cw i_ r):=by
 unfold aP at h
 refine Sq<|Ro<|Rc 3 [vp [3] 0 1,vi r3.A,vi r3.A]<|Rk<|Sq<|Sq<|Ro<|Rc 1 [vi r3.A] ?_
 obtain ⟨r_3,hr_3,h⟩:=ah h
 have hc_3:=gR r3.A r_3 hr_3
 refine Rt (some 151) (.callf 13) [] none [.i r3.A] (.i r_3) [] (cc hc_3)<|Rc 1 [vb (r_3==0)]<|Rk ?_
 cases hb_15:((r_3==0):Bool) with
 | true =>
  replace h:=aa hb_15 h
  refine Ct<|Ro<|Rc 3 [vp [3] 0 2,vi r3.B,vi r3.B]<|Rk<|Runs.canon (eN i1 r3 r3.B) Cz ?_
  exact fL i_ i1 r3 r3.B r h
 | false =>
  replace h:=ab hb_15 h
  refine Cf<|Runs.skip<|ai<|Runs.canon (eN i1 r3 r3.A) Cz ?_
  exact fL i_ i1 r3 r3.A r h
theorem fM (i_:Inst) (i1:Inst) (r3:Row) (r:Bool) (h:ce i1 r3=some r):Runs L CA (eP i1 r3) (kS L CE (cw i_ r)):=by
 unfold ce at h
 refine Sq<|Ro<|Rc 4 [vp [1] 0 4,vi i1.Mod,vp [1] 0 6,vi i1.RM] ?_
 obtain ⟨r_5,hr_5,h⟩:=ah h
 have hc_5:=gS i1.Mod i1.RM r_5 hr_5
 refine Rt (some 130) (.callf 11) [] none [.i i1.Mod,.i i1.RM] (.i r_5) [] (cc hc_5)<|Rc 1 [vi r_5]<|Rk<|Sq<|Ro<|Rc 3 [vi r_5,vb (r_5==0),vb (r_5==0)] ?_
 cases hb_41:((r_5==0):Bool) with
 | true =>
  replace h:=aa hb_41 h
  refine Rc 5 [vp [1] 0 7,vw i1.Disp,vb (i1.Disp != 0),vb (i1.Disp != 0),vb (i1.Disp != 0)] ?_
  cases hb_42:((i1.Disp != 0):Bool) with
  | true =>
   replace h:=aa hb_42 h
   refine Rc 9 [vn,vn,vn,vn,vn,vn,vn,vn,vb true]<|Rk<|Ct<|Sq<|Ro<|Rc 1 [vb false]<|Rk<|Runs.ret<|ae ?_
   cases h
   exact Fq
  | false =>
   replace h:=ab hb_42 h
   refine Rc 3 [vi r_5,vb (r_5==1),vb (r_5==1)] ?_
   cases hb_43:((r_5==1):Bool) with
   | true =>
    replace h:=aa hb_43 h
    refine Rc 2 [vp [1] 0 7,vw i1.Disp] ?_
    obtain ⟨r_6,hr_6,h⟩:=ah h
    have hc_6:=fc i1.Disp r_6 hr_6
    refine Rt (some 144) (.callf 27) [] none [.w i1.Disp] (.b r_6) [] (cc hc_6)<|Rc 3 [vb (!r_6),vb (!r_6),vb (!r_6)]<|Rk ?_
    cases hb_44:((!r_6):Bool) with
    | true =>
     replace h:=aa hb_44 h
     refine Ct<|Sq<|Ro<|Rc 1 [vb false]<|Rk<|Runs.ret<|ae ?_
     cases h
     exact Fq
    | false =>
     replace h:=ab hb_44 h
     refine Cf<|Runs.skip<|ai<|Runs.canon (cf i1 r3) Cz ?_
     exact bY i_ i1 r3 r h
   | false =>
    replace h:=ab hb_43 h
    refine Rc 6 [vn,vn,vn,vn,vb false,vb false]<|Rk<|Cf<|Runs.skip<|ai<|Runs.canon (cf i1 r3) Cz ?_
    exact bY i_ i1 r3 r h
 | false =>
  replace h:=ab hb_41 h
  refine Rc 8 [vn,vn,vn,vb false,vb false,vi r_5,vb (r_5==1),vb (r_5==1)] ?_
  cases hb_45:((r_5==1):Bool) with
  | true =>
   replace h:=aa hb_45 h
   refine Rc 2 [vp [1] 0 7,vw i1.Disp] ?_
   obtain ⟨r_7,hr_7,h⟩:=ah h
   have hc_7:=fc i1.Disp r_7 hr_7
   refine Rt (some 144) (.callf 27) [] none [.w i1.Disp] (.b r_7) [] (cc hc_7)<|Rc 3 [vb (!r_7),vb (!r_7),vb (!r_7)]<|Rk ?_
   cases hb_46:((!r_7):Bool) with
   | true =>
    replace h:=aa hb_46 h
    refine Ct<|Sq<|Ro<|Rc 1 [vb false]<|Rk<|Runs.ret<|ae ?_
    cases h
    exact Fq
   | false =>
    replace h:=ab hb_46 h
    refine Cf<|Runs.skip<|ai<|Runs.canon (cf i1 r3) Cz ?_
    exact bY i_ i1 r3 r h
  | false =>
   replace h:=ab hb_45 h
   refine Rc 6 [vn,vn,vn,vn,vb false,vb false]<|Rk<|Cf<|Runs.skip<|ai<|Runs.canon (cf i1 r3) Cz ?_
   exact bY i_ i1 r3 r h
theorem cG (i_:Inst) (i1:Inst) (r3:Row) (r:Bool) (h:bc i1 r3=some r):Runs L CF (cF i1 r3) (cw i_ r):=by
 unfold bc at h
 refine Sq<|Sq<|Ro<|Rc 3 [vp [3] 0 3,vb r3.Mod,vb (!r3.Mod)]<|Rk ?_
 cases hb_10:((!r3.Mod):Bool) with
 | true =>
  replace h:=aa hb_10 h
  refine Ct<|Sq<|Ro<|Rc 4 [vp [1] 0 4,vi i1.Mod,vb (i1.Mod != 0),vb (i1.Mod != 0)] ?_
  cases hb_11:((i1.Mod != 0):Bool) with
  | true =>
   replace h:=aa hb_11 h
   refine Rc 14 [vn,vn,vn,vb true,vb true,vn,vn,vn,vb true,vb true,vn,vn,vn,vb true]<|Rk<|Ct<|Sq<|Ro<|Rc 1 [vb false]<|Rk<|Runs.ret<|ae ?_
   cases h
   exact Fq
  | false =>
   replace h:=ab hb_11 h
   refine Rc 5 [vp [1] 0 5,vi i1.Reg,vb (i1.Reg != 0),vb (i1.Reg != 0),vb (i1.Reg != 0)] ?_
   cases hb_12:((i1.Reg != 0):Bool) with
   | true =>
    replace h:=aa hb_12 h
    refine Rc 9 [vn,vn,vn,vb true,vb true,vn,vn,vn,vb true]<|Rk<|Ct<|Sq<|Ro<|Rc 1 [vb false]<|Rk<|Runs.ret<|ae ?_
    cases h
    exact Fq
   | false =>
    replace h:=ab hb_12 h
    refine Rc 5 [vp [1] 0 6,vi i1.RM,vb (i1.RM != 0),vb (i1.RM != 0),vb (i1.RM != 0)] ?_
    cases hb_13:((i1.RM != 0):Bool) with
    | true =>
     replace h:=aa hb_13 h
     refine Rc 4 [vn,vn,vn,vb true]<|Rk<|Ct<|Sq<|Ro<|Rc 1 [vb false]<|Rk<|Runs.ret<|ae ?_
     cases h
     exact Fq
    | false =>
     replace h:=ab hb_13 h
     refine Rc 4 [vp [1] 0 7,vw i1.Disp,vb (i1.Disp != 0),vb (i1.Disp != 0)]<|Rk ?_
     cases hb_14:((i1.Disp != 0):Bool) with
     | true =>
      replace h:=aa hb_14 h
      refine Ct<|Sq<|Ro<|Rc 1 [vb false]<|Rk<|Runs.ret<|ae ?_
      cases h
      exact Fq
     | false =>
      replace h:=ab hb_14 h
      refine Cf<|Runs.skip<|ai<|Runs.canon (cf i1 r3) Cz ?_
      exact bY i_ i1 r3 r h
 | false =>
  replace h:=ab hb_10 h
  refine Cf<|Sq<|Sq<|Ro<|Rc 4 [vp [1] 0 4,vi i1.Mod,vb (decide (i1.Mod<0)),vb (decide (i1.Mod<0))] ?_
  cases hb_30:((decide (i1.Mod<0)):Bool) with
  | true =>
   replace h:=aa hb_30 h
   refine Rc 24 [vn,vn,vn,vb true,vb true,vn,vn,vn,vb true,vb true,vn,vn,vn,vb true,vb true,vn,vn,vn,vb true,vb true,vn,vn,vn,vb true]<|Rk<|Ct<|Sq<|Ro<|Rc 1 [vb false]<|Rk<|Runs.ret<|ae<|ae ?_
   cases h
   exact Fq
  | false =>
   replace h:=ab hb_30 h
   refine Rc 5 [vp [1] 0 4,vi i1.Mod,vb (decide (i1.Mod>3)),vb (decide (i1.Mod>3)),vb (decide (i1.Mod>3))] ?_
   cases hb_31:((decide (i1.Mod>3)):Bool) with
   | true =>
    replace h:=aa hb_31 h
    refine Rc 19 [vn,vn,vn,vb true,vb true,vn,vn,vn,vb true,vb true,vn,vn,vn,vb true,vb true,vn,vn,vn,vb true]<|Rk<|Ct<|Sq<|Ro<|Rc 1 [vb false]<|Rk<|Runs.ret<|ae<|ae ?_
    cases h
    exact Fq
   | false =>
    replace h:=ab hb_31 h
    refine Rc 5 [vp [1] 0 5,vi i1.Reg,vb (decide (i1.Reg<0)),vb (decide (i1.Reg<0)),vb (decide (i1.Reg<0))] ?_
    cases hb_32:((decide (i1.Reg<0)):Bool) with
    | true =>
     replace h:=aa hb_32 h
     refine Rc 14 [vn,vn,vn,vb true,vb true,vn,vn,vn,vb true,vb true,vn,vn,vn,vb true]<|Rk<|Ct<|Sq<|Ro<|Rc 1 [vb false]<|Rk<|Runs.ret<|ae<|ae ?_
     cases h
     exact Fq
    | false =>
     replace h:=ab hb_32 h
     refine Rc 5 [vp [1] 0 5,vi i1.Reg,vb (decide (i1.Reg>7)),vb (decide (i1.Reg>7)),vb (decide (i1.Reg>7))] ?_
     cases hb_33:((decide (i1.Reg>7)):Bool) with
     | true =>
      replace h:=aa hb_33 h
      refine Rc 9 [vn,vn,vn,vb true,vb true,vn,vn,vn,vb true]<|Rk<|Ct<|Sq<|Ro<|Rc 1 [vb false]<|Rk<|Runs.ret<|ae<|ae ?_
      cases h
      exact Fq
     | false =>
      replace h:=ab hb_33 h
      refine Rc 5 [vp [1] 0 6,vi i1.RM,vb (decide (i1.RM<0)),vb (decide (i1.RM<0)),vb (decide (i1.RM<0))] ?_
      cases hb_34:((decide (i1.RM<0)):Bool) with
      | true =>
       replace h:=aa hb_34 h
       refine Rc 4 [vn,vn,vn,vb true]<|Rk<|Ct<|Sq<|Ro<|Rc 1 [vb false]<|Rk<|Runs.ret<|ae<|ae ?_
       cases h
       exact Fq
      | false =>
       replace h:=ab hb_34 h
       refine Rc 4 [vp [1] 0 6,vi i1.RM,vb (decide (i1.RM>7)),vb (decide (i1.RM>7))]<|Rk ?_
       cases hb_35:((decide (i1.RM>7)):Bool) with
       | true =>
        replace h:=aa hb_35 h
        refine Ct<|Sq<|Ro<|Rc 1 [vb false]<|Rk<|Runs.ret<|ae<|ae ?_
        cases h
        exact Fq
       | false =>
        replace h:=ab hb_35 h
        refine Cf<|Runs.skip<|ai<|Sq<|Sq<|Ro<|Rc 4 [vp [1] 0 4,vi i1.Mod,vb (i1.Mod==3),vb (i1.Mod==3)] ?_
        cases hb_36:((i1.Mod==3):Bool) with
        | true =>
         replace h:=aa hb_36 h
         refine Rc 4 [vp [3] 0 1,vi r3.A,vb (r3.A==19),vb (r3.A==19)] ?_
         cases hb_37:((r3.A==19):Bool) with
         | true =>
          replace h:=aa hb_37 h
          refine Rc 15 [vn,vn,vn,vb true,vb true,vn,vn,vn,vb true,vb true,vn,vn,vn,vb true,vb true]<|Rk<|Ct<|Sq<|Ro<|Rc 1 [vb false]<|Rk<|Runs.ret<|ae<|ae ?_
          cases h
          exact Fq
         | false =>
          replace h:=ab hb_37 h
          refine Rc 5 [vp [3] 0 1,vi r3.A,vb (r3.A==20),vb (r3.A==20),vb (r3.A==20)] ?_
          cases hb_38:((r3.A==20):Bool) with
          | true =>
           replace h:=aa hb_38 h
           refine Rc 10 [vn,vn,vn,vb true,vb true,vn,vn,vn,vb true,vb true]<|Rk<|Ct<|Sq<|Ro<|Rc 1 [vb false]<|Rk<|Runs.ret<|ae<|ae ?_
           cases h
           exact Fq
          | false =>
           replace h:=ab hb_38 h
           refine Rc 5 [vp [3] 0 2,vi r3.B,vb (r3.B==19),vb (r3.B==19),vb (r3.B==19)] ?_
           cases hb_39:((r3.B==19):Bool) with
           | true =>
            replace h:=aa hb_39 h
            refine Rc 5 [vn,vn,vn,vb true,vb true]<|Rk<|Ct<|Sq<|Ro<|Rc 1 [vb false]<|Rk<|Runs.ret<|ae<|ae ?_
            cases h
            exact Fq
           | false =>
            replace h:=ab hb_39 h
            refine Rc 5 [vp [3] 0 2,vi r3.B,vb (r3.B==20),vb (r3.B==20),vb (r3.B==20)]<|Rk ?_
            cases hb_40:((r3.B==20):Bool) with
            | true =>
             replace h:=aa hb_40 h
             refine Ct<|Sq<|Ro<|Rc 1 [vb false]<|Rk<|Runs.ret<|ae<|ae ?_
             cases h
             exact Fq
            | false =>
             replace h:=ab hb_40 h
             refine Cf<|Runs.skip<|ai<|Runs.canon (eP i1 r3) Cz ?_
             exact fM i_ i1 r3 r h
        | false =>
         replace h:=ab hb_36 h
         refine Rc 19 [vn,vn,vn,vn,vn,vn,vn,vn,vn,vn,vn,vn,vn,vn,vn,vn,vn,vn,vb false]<|Rk<|Cf<|Runs.skip<|ai<|Runs.canon (eP i1 r3) Cz ?_
         exact fM i_ i1 r3 r h
theorem mP (i_:Inst) (r:Bool) (h:cg i_=some r):Runs L F9.body ⟨a9 [.d (Inst.d i_)] 0,ay (fun _=>none) []⟩ (cw i_ r):=by
 unfold cg at h
 refine Sq<|Ro<|Rc 2 [⟨.ptr [1] 0 0,[([1],some (.cells [.b i_.Lock,.i i_.Rep,.i i_.Seg,.y i_.Op,.i i_.Mod,.i i_.Reg,.i i_.RM,.w i_.Disp,.w i_.Imm,.w i_.Sel] 0))]⟩,vb false]<|Rk<|Sq<|Ro<|Rc 1 [⟨.d (Inst.d i_),[]⟩] ?_
 obtain ⟨r_1,hr_1,h⟩:=ah h
 have hc_1:=dh i_ r_1 hr_1
 refine Rt (some 10) (.callf 5) [] none [.d (Inst.d i_)] (.tup [.d (Row.d r_1.1),.b r_1.2]) [] (cc hc_1)<|Rc 6 [⟨.tup [.d (Row.d r_1.1),.b r_1.2],[]⟩,⟨.d (Row.d r_1.1),[]⟩,vb r_1.2,⟨.ptr [3] 0 0,[([3],some (.cells [.i 0,.i 0,.i 0,.b false] 0))]⟩,⟨.tup [],[([3],some (.cells [.i r_1.1.Name,.i r_1.1.A,.i r_1.1.B,.b r_1.1.Mod] 0))]⟩,vb r_1.2]<|Rk<|Sq<|Sq<|Ro<|Rc 3 [vb r_1.2,vb (!r_1.2),vb (!r_1.2)] ?_
 cases hb_1:((!r_1.2):Bool) with
 | true =>
  replace h:=aa hb_1 h
  refine Rc 9 [vn,vn,vn,vb true,vb true,vn,vn,vn,vb true]<|Rk<|Ct<|Sq<|Ro<|Rc 1 [vb false]<|Rk<|Runs.ret<|ae ?_
  cases h
  exact Fq
 | false =>
  replace h:=ab hb_1 h
  refine Rc 5 [vp [1] 0 2,vi i_.Seg,vb (decide (i_.Seg<0)),vb (decide (i_.Seg<0)),vb (decide (i_.Seg<0))] ?_
  cases hb_2:((decide (i_.Seg<0)):Bool) with
  | true =>
   replace h:=aa hb_2 h
   refine Rc 4 [vn,vn,vn,vb true]<|Rk<|Ct<|Sq<|Ro<|Rc 1 [vb false]<|Rk<|Runs.ret<|ae ?_
   cases h
   exact Fq
  | false =>
   replace h:=ab hb_2 h
   refine Rc 4 [vp [1] 0 2,vi i_.Seg,vb (decide (i_.Seg>4)),vb (decide (i_.Seg>4))]<|Rk ?_
   cases hb_3:((decide (i_.Seg>4)):Bool) with
   | true =>
    replace h:=aa hb_3 h
    refine Ct<|Sq<|Ro<|Rc 1 [vb false]<|Rk<|Runs.ret<|ae ?_
    cases h
    exact Fq
   | false =>
    replace h:=ab hb_3 h
    refine Cf<|Runs.skip<|ai<|Sq<|Ro<|Rc 2 [vp [3] 0 0,vi r_1.1.Name] ?_
    obtain ⟨r_2,hr_2,h⟩:=ah h
    have hc_2:=f8 r_1.1.Name r_2 hr_2
    refine Rt (some 27) (.callf 14) [] none [.i r_1.1.Name] (.i r_2) [] (cc hc_2)<|Rc 1 [vi r_2]<|Rk<|Sq<|Sq<|Ro<|Rc 4 [vp [1] 0 1,vi i_.Rep,vb (decide (i_.Rep<0)),vb (decide (i_.Rep<0))] ?_
    cases hb_4:((decide (i_.Rep<0)):Bool) with
    | true =>
     replace h:=aa hb_4 h
     refine Rc 22 [vn,vn,vn,vb true,vb true,vn,vn,vn,vn,vn,vn,vn,vb true,vb true,vn,vn,vn,vn,vn,vn,vn,vb true]<|Rk<|Ct<|Sq<|Ro<|Rc 1 [vb false]<|Rk<|Runs.ret<|ae ?_
     cases h
     exact Fq
    | false =>
     replace h:=ab hb_4 h
     refine Rc 5 [vp [1] 0 1,vi i_.Rep,vb (decide (i_.Rep>2)),vb (decide (i_.Rep>2)),vb (decide (i_.Rep>2))] ?_
     cases hb_5:((decide (i_.Rep>2)):Bool) with
     | true =>
      replace h:=aa hb_5 h
      refine Rc 17 [vn,vn,vn,vn,vn,vn,vn,vb true,vb true,vn,vn,vn,vn,vn,vn,vn,vb true]<|Rk<|Ct<|Sq<|Ro<|Rc 1 [vb false]<|Rk<|Runs.ret<|ae ?_
      cases h
      exact Fq
     | false =>
      replace h:=ab hb_5 h
      refine Rc 4 [vp [1] 0 1,vi i_.Rep,vb (i_.Rep==1),vb (i_.Rep==1)] ?_
      cases hb_6:((i_.Rep==1):Bool) with
      | true =>
       replace h:=aa hb_6 h
       refine Rc 5 [vi r_2,vb (decide (r_2<2)),vb (decide (r_2<2)),vb (decide (r_2<2)),vb (decide (r_2<2))] ?_
       cases hb_7:((decide (r_2<2)):Bool) with
       | true =>
        replace h:=aa hb_7 h
        refine Rc 8 [vn,vn,vn,vn,vn,vn,vn,vb true]<|Rk<|Ct<|Sq<|Ro<|Rc 1 [vb false]<|Rk<|Runs.ret<|ae ?_
        cases h
        exact Fq
       | false =>
        replace h:=ab hb_7 h
        refine Rc 4 [vp [1] 0 1,vi i_.Rep,vb (i_.Rep==2),vb (i_.Rep==2)] ?_
        cases hb_8:((i_.Rep==2):Bool) with
        | true =>
         replace h:=aa hb_8 h
         refine Rc 4 [vi r_2,vb (decide (r_2<1)),vb (decide (r_2<1)),vb (decide (r_2<1))]<|Rk ?_
         cases hb_9:((decide (r_2<1)):Bool) with
         | true =>
          replace h:=aa hb_9 h
          refine Ct<|Sq<|Ro<|Rc 1 [vb false]<|Rk<|Runs.ret<|ae ?_
          cases h
          exact Fq
         | false =>
          replace h:=ab hb_9 h
          refine Cf<|Runs.skip<|ai<|Runs.canon (cF i_ r_1.1) Cz ?_
          exact cG i_ i_ r_1.1 r h
        | false =>
         replace h:=ab hb_8 h
         refine Rc 4 [vn,vn,vb false,vb false]<|Rk<|Cf<|Runs.skip<|ai<|Runs.canon (cF i_ r_1.1) Cz ?_
         exact cG i_ i_ r_1.1 r h
      | false =>
       replace h:=ab hb_6 h
       refine Rc 9 [vn,vn,vb false,vb false,vb false,vp [1] 0 1,vi i_.Rep,vb (i_.Rep==2),vb (i_.Rep==2)] ?_
       cases hb_47:((i_.Rep==2):Bool) with
       | true =>
        replace h:=aa hb_47 h
        refine Rc 4 [vi r_2,vb (decide (r_2<1)),vb (decide (r_2<1)),vb (decide (r_2<1))]<|Rk ?_
        cases hb_48:((decide (r_2<1)):Bool) with
        | true =>
         replace h:=aa hb_48 h
         refine Ct<|Sq<|Ro<|Rc 1 [vb false]<|Rk<|Runs.ret<|ae ?_
         cases h
         exact Fq
        | false =>
         replace h:=ab hb_48 h
         refine Cf<|Runs.skip<|ai<|Runs.canon (cF i_ r_1.1) Cz ?_
         exact cG i_ i_ r_1.1 r h
       | false =>
        replace h:=ab hb_47 h
        refine Rc 4 [vn,vn,vb false,vb false]<|Rk<|Cf<|Runs.skip<|ai<|Runs.canon (cF i_ r_1.1) Cz ?_
        exact cG i_ i_ r_1.1 r h
theorem fN (i_:Inst) (r:Bool) (h:cg i_=some r):L 9 [.d (Inst.d i_)]=some (.b r,[.d (Inst.d i_)]):=by
 obtain ⟨p,⟨hne,hf⟩,hr⟩:=mP i_ r h
 obtain ⟨k,hk⟩:=aD (F:=F9) (args:=[.d (Inst.d i_)]) (ap:=[.d (Inst.d i_)]) (bx0:=ay (fun _=>none) []) rfl rfl (by kernel_rfl) ⟨p,⟨hne,hf⟩,hr⟩
 exact aA (k:=k) rfl hk
def mQ (b_:Int) (r:Int) (p:Out × St):Prop:=(∀ i,p.1≠.exit i)∧aV F12 [.y b_] p.2=some (.w r,[.y b_])
theorem lA (b_:Int) (r:Int) (h:cl b_=some r):Runs L F12.body ⟨a9 [.y b_] 0,ay (fun _=>none) []⟩ (mQ b_ r):=by
 unfold cl at h
 refine Sq<|Ro<|Rc 1 [vw 0]<|Rk<|Sq<|Sq<|Ro<|Rc 2 [vy b_,vb (decide (b_<128))]<|Rk ?_
 cases hb_1:((decide (b_<128)):Bool) with
 | true =>
  replace h:=aa hb_1 h
  refine Ct<|Sq<|Ro<|Rc 3 [vy b_,vw (IntKind.wrap .u16 b_),vw (IntKind.wrap .u16 b_)]<|Rk<|Runs.ret<|ae ?_
  cases h
  exact Fq
 | false =>
  replace h:=ab hb_1 h
  refine Cf<|Runs.skip<|ai<|Sq<|Ro<|Rc 4 [vy b_,vw (IntKind.wrap .u16 b_),vw (IntKind.wrap .u16 (65280+(IntKind.wrap .u16 b_))),vw (IntKind.wrap .u16 (65280+(IntKind.wrap .u16 b_)))]<|Rk<|Runs.ret ?_
  cases h
  exact Fq
theorem iq (b_:Int) (r:Int) (h:cl b_=some r):L 12 [.y b_]=some (.w r,[.y b_]):=by
 obtain ⟨p,⟨hne,hf⟩,hr⟩:=lA b_ r h
 obtain ⟨k,hk⟩:=aD (F:=F12) (args:=[.y b_]) (ap:=[.y b_]) (bx0:=ay (fun _=>none) []) rfl rfl (by kernel_rfl) ⟨p,⟨hne,hf⟩,hr⟩
 exact aA (k:=k) rfl hk
def ct (x1:Inst) (i2:Inst) (r3:Row):St:=⟨tab [(1,.ptr [1] 0 0),(2,.ptr [2] 0 0),(3,.ptr [3] 0 0)],be [([1],some (.cells [.b x1.Lock,.i x1.Rep,.i x1.Seg,.y x1.Op,.i x1.Mod,.i x1.Reg,.i x1.RM,.w x1.Disp,.w x1.Imm,.w x1.Sel] 0)),([2],some (.cells [.b i2.Lock,.i i2.Rep,.i i2.Seg,.y i2.Op,.i i2.Mod,.i i2.Reg,.i i2.RM,.w i2.Disp,.w i2.Imm,.w i2.Sel] 0)),([3],some (.cells [.i r3.Name,.i r3.A,.i r3.B,.b r3.Mod] 0))]⟩
def ek (x1:Inst) (i2:Inst) (r3:Row) (k5:Int):St:=⟨tab [(1,.ptr [1] 0 0),(2,.ptr [2] 0 0),(3,.ptr [3] 0 0),(5,.i k5)],be [([1],some (.cells [.b x1.Lock,.i x1.Rep,.i x1.Seg,.y x1.Op,.i x1.Mod,.i x1.Reg,.i x1.RM,.w x1.Disp,.w x1.Imm,.w x1.Sel] 0)),([2],some (.cells [.b i2.Lock,.i i2.Rep,.i i2.Seg,.y i2.Op,.i i2.Mod,.i i2.Reg,.i i2.RM,.w i2.Disp,.w i2.Imm,.w i2.Sel] 0)),([3],some (.cells [.i r3.Name,.i r3.A,.i r3.B,.b r3.Mod] 0))]⟩
def aY (x1:Inst) (i2:Inst) (r3:Row):St:=⟨tab [(1,.ptr [1] 0 0),(2,.ptr [2] 0 0),(3,.ptr [3] 0 0)],be [([1],some (.cells [.b x1.Lock,.i x1.Rep,.i x1.Seg,.y x1.Op,.i x1.Mod,.i x1.Reg,.i x1.RM,.w x1.Disp,.w x1.Imm,.w x1.Sel] 0)),([2],some (.cells [.b i2.Lock,.i i2.Rep,.i i2.Seg,.y i2.Op,.i i2.Mod,.i i2.Reg,.i i2.RM,.w i2.Disp,.w i2.Imm,.w i2.Sel] 0)),([3],some (.cells [.i r3.Name,.i r3.A,.i r3.B,.b r3.Mod] 0))]⟩
def bB (x1:Inst) (i2:Inst):St:=⟨tab [(1,.ptr [1] 0 0),(2,.ptr [2] 0 0)],be [([1],some (.cells [.b x1.Lock,.i x1.Rep,.i x1.Seg,.y x1.Op,.i x1.Mod,.i x1.Reg,.i x1.RM,.w x1.Disp,.w x1.Imm,.w x1.Sel] 0)),([2],some (.cells [.b i2.Lock,.i i2.Rep,.i i2.Seg,.y i2.Op,.i i2.Mod,.i i2.Reg,.i i2.RM,.w i2.Disp,.w i2.Imm,.w i2.Sel] 0))]⟩
def em (x1:Inst) (i2:Inst) (r3:Row) (t61:Int) (t77:Bool):St:=⟨tab [(1,.ptr [1] 0 0),(2,.ptr [2] 0 0),(3,.ptr [3] 0 0),(61,.i t61),(77,.b t77)],be [([1],some (.cells [.b x1.Lock,.i x1.Rep,.i x1.Seg,.y x1.Op,.i x1.Mod,.i x1.Reg,.i x1.RM,.w x1.Disp,.w x1.Imm,.w x1.Sel] 0)),([2],some (.cells [.b i2.Lock,.i i2.Rep,.i i2.Seg,.y i2.Op,.i i2.Mod,.i i2.Reg,.i i2.RM,.w i2.Disp,.w i2.Imm,.w i2.Sel] 0)),([3],some (.cells [.i r3.Name,.i r3.A,.i r3.B,.b r3.Mod] 0))]⟩
def cu (x1:Inst) (i2:Inst) (r3:Row) (t61:Int) (t86:Bool):St:=⟨tab [(1,.ptr [1] 0 0),(2,.ptr [2] 0 0),(3,.ptr [3] 0 0),(61,.i t61),(86,.b t86)],be [([1],some (.cells [.b x1.Lock,.i x1.Rep,.i x1.Seg,.y x1.Op,.i x1.Mod,.i x1.Reg,.i x1.RM,.w x1.Disp,.w x1.Imm,.w x1.Sel] 0)),([2],some (.cells [.b i2.Lock,.i i2.Rep,.i i2.Seg,.y i2.Op,.i i2.Mod,.i i2.Reg,.i i2.RM,.w i2.Disp,.w i2.Imm,.w i2.Sel] 0)),([3],some (.cells [.i r3.Name,.i r3.A,.i r3.B,.b r3.Mod] 0))]⟩
def bK (x_:Inst) (r:Inst) (p:Out × St):Prop:=(∀ i,p.1≠.exit i)∧aV F4 [.d (Inst.d x_)] p.2=some (.d (Inst.d r),[.d (Inst.d x_)])
theorem bF (x_:Inst) (x1:Inst) (i2:Inst) (r:Inst) (h:aK x1 i2=some r):Runs L zh (bB x1 i2) (bK x_ r):=by
 unfold aK at h
 refine Sq<|Sq<|Ro<|Rc 4 [vp [1] 0 2,vi x1.Seg,vi (ak .and .i64 x1.Seg 7),vb (decide ((ak .and .i64 x1.Seg 7)≤4))]<|Rk ?_
 cases hb_10:((decide ((ak .and .i64 x1.Seg 7)≤4)):Bool) with
 | true =>
  replace h:=aa hb_10 h
  refine Ct<|Ro<|Rc 5 [vp [1] 0 2,vi x1.Seg,vi (ak .and .i64 x1.Seg 7),vp [2] 0 2,⟨.tup [],[([2],some (.cells [.b i2.Lock,.i i2.Rep,.i (ak .and .i64 x1.Seg 7),.y i2.Op,.i i2.Mod,.i i2.Reg,.i i2.RM,.w i2.Disp,.w i2.Imm,.w i2.Sel] 0))]⟩]<|Rk<|Sq<|Sq<|Ro<|Rc 1 [⟨.d (.agg [.bool i2.Lock,.int .i64 i2.Rep,.int .i64 (ak .and .i64 x1.Seg 7),.int .u8 i2.Op,.int .i64 i2.Mod,.int .i64 i2.Reg,.int .i64 i2.RM,.int .u16 i2.Disp,.int .u16 i2.Imm,.int .u16 i2.Sel]),[]⟩] ?_
  obtain ⟨r_4,hr_4,h⟩:=ah h
  have hc_4:=fN ({ i2 with Seg:=(ak .and .i64 x1.Seg 7) }:Inst) r_4 hr_4
  refine Rt (some 132) (.callf 9) [] none [.d (.agg [.bool i2.Lock,.int .i64 i2.Rep,.int .i64 (ak .and .i64 x1.Seg 7),.int .u8 i2.Op,.int .i64 i2.Mod,.int .i64 i2.Reg,.int .i64 i2.RM,.int .u16 i2.Disp,.int .u16 i2.Imm,.int .u16 i2.Sel])] (.b r_4) [] (cc hc_4)<|Rc 1 [vb (!r_4)]<|Rk ?_
  cases hb_11:((!r_4):Bool) with
  | true =>
   replace h:=aa hb_11 h
   refine Ct<|Sq<|Ro<|Rc 2 [⟨.d (.agg [.bool false,.int .i64 0,.int .i64 0,.int .u8 144,.int .i64 0,.int .i64 0,.int .i64 0,.int .u16 0,.int .u16 0,.int .u16 0]),[]⟩,⟨.tup [],[([2],some (.cells [.b false,.i 0,.i 0,.y 144,.i 0,.i 0,.i 0,.w 0,.w 0,.w 0] 0))]⟩]<|Rk<|Runs.ret<|ae ?_
   cases h
   exact Fq
  | false =>
   replace h:=ab hb_11 h
   refine Cf<|Runs.skip<|ai<|Sq<|Ro<|Rc 2 [⟨.d (.agg [.bool i2.Lock,.int .i64 i2.Rep,.int .i64 (ak .and .i64 x1.Seg 7),.int .u8 i2.Op,.int .i64 i2.Mod,.int .i64 i2.Reg,.int .i64 i2.RM,.int .u16 i2.Disp,.int .u16 i2.Imm,.int .u16 i2.Sel]),[]⟩,⟨.tup [],[([2],some (.cells [.b i2.Lock,.i i2.Rep,.i (ak .and .i64 x1.Seg 7),.y i2.Op,.i i2.Mod,.i i2.Reg,.i i2.RM,.w i2.Disp,.w i2.Imm,.w i2.Sel] 0))]⟩]<|Rk<|Runs.ret ?_
   cases h
   exact Fq
 | false =>
  replace h:=ab hb_10 h
  refine Cf<|Runs.skip<|ai<|Sq<|Sq<|Ro<|Rc 1 [⟨.d (Inst.d i2),[]⟩] ?_
  obtain ⟨r_5,hr_5,h⟩:=ah h
  have hc_5:=fN i2 r_5 hr_5
  refine Rt (some 132) (.callf 9) [] none [.d (Inst.d i2)] (.b r_5) [] (cc hc_5)<|Rc 1 [vb (!r_5)]<|Rk ?_
  cases hb_12:((!r_5):Bool) with
  | true =>
   replace h:=aa hb_12 h
   refine Ct<|Sq<|Ro<|Rc 2 [⟨.d (.agg [.bool false,.int .i64 0,.int .i64 0,.int .u8 144,.int .i64 0,.int .i64 0,.int .i64 0,.int .u16 0,.int .u16 0,.int .u16 0]),[]⟩,⟨.tup [],[([2],some (.cells [.b false,.i 0,.i 0,.y 144,.i 0,.i 0,.i 0,.w 0,.w 0,.w 0] 0))]⟩]<|Rk<|Runs.ret<|ae ?_
   cases h
   exact Fq
  | false =>
   replace h:=ab hb_12 h
   refine Cf<|Runs.skip<|ai<|Sq<|Ro<|Rc 2 [⟨.d (Inst.d i2),[]⟩,⟨.tup [],[([2],some (.cells [.b i2.Lock,.i i2.Rep,.i i2.Seg,.y i2.Op,.i i2.Mod,.i i2.Reg,.i i2.RM,.w i2.Disp,.w i2.Imm,.w i2.Sel] 0))]⟩]<|Rk<|Runs.ret ?_
   cases h
   exact Fq
theorem aU (x_:Inst) (x1:Inst) (i2:Inst) (r3:Row) (r:Inst) (h:aI x1 i2 r3=some r):Runs L Cu (aY x1 i2 r3) (bK x_ r):=by
 unfold aI at h
 refine Sq<|Sq<|Ro<|Rc 2 [vp [3] 0 0,vi r3.Name] ?_
 obtain ⟨r_3,hr_3,h⟩:=ah h
 have hc_3:=f8 r3.Name r_3 hr_3
 refine Rt (some 104) (.callf 14) [] none [.i r3.Name] (.i r_3) [] (cc hc_3)<|Rc 1 [vi r_3]<|Rk<|Sq<|Ro<|Rc 3 [vi r_3,vb (decide (r_3>0)),vb (decide (r_3>0))] ?_
 cases hb_6:((decide (r_3>0)):Bool) with
 | true =>
  replace h:=aa hb_6 h
  refine Rc 5 [vp [1] 0 1,vi x1.Rep,vi (ak .and .i64 x1.Rep 3),vb (decide ((ak .and .i64 x1.Rep 3)>0)),vb (decide ((ak .and .i64 x1.Rep 3)>0))]<|Rk ?_
  cases hb_7:((decide ((ak .and .i64 x1.Rep 3)>0)):Bool) with
  | true =>
   replace h:=aa hb_7 h
   refine Ct<|Sq<|Ro<|Rc 2 [vp [2] 0 1,⟨.tup [],[([2],some (.cells [.b i2.Lock,.i 2,.i i2.Seg,.y i2.Op,.i i2.Mod,.i i2.Reg,.i i2.RM,.w i2.Disp,.w i2.Imm,.w i2.Sel] 0))]⟩]<|Rk<|Sq<|Ro<|Rc 3 [vi r_3,vb (r_3==2),vb (r_3==2)] ?_
   cases hb_8:((r_3==2):Bool) with
   | true =>
    replace h:=aa hb_8 h
    refine Rc 5 [vp [1] 0 1,vi x1.Rep,vi (ak .and .i64 x1.Rep 1),vb ((ak .and .i64 x1.Rep 1)==1),vb ((ak .and .i64 x1.Rep 1)==1)]<|Rk ?_
    cases hb_9:(((ak .and .i64 x1.Rep 1)==1):Bool) with
    | true =>
     replace h:=aa hb_9 h
     refine Ct<|Ro<|Rc 2 [vp [2] 0 1,⟨.tup [],[([2],some (.cells [.b i2.Lock,.i 1,.i i2.Seg,.y i2.Op,.i i2.Mod,.i i2.Reg,.i i2.RM,.w i2.Disp,.w i2.Imm,.w i2.Sel] 0))]⟩]<|Rk<|Runs.canon (bB x1 ({ i2 with Rep:=1 }:Inst)) Cz ?_
     exact bF x_ x1 ({ i2 with Rep:=1 }:Inst) r h
    | false =>
     replace h:=ab hb_9 h
     refine Cf<|Runs.skip<|ai<|Runs.canon (bB x1 ({ i2 with Rep:=2 }:Inst)) Cz ?_
     exact bF x_ x1 ({ i2 with Rep:=2 }:Inst) r h
   | false =>
    replace h:=ab hb_8 h
    refine Rc 5 [vn,vn,vn,vn,vb false]<|Rk<|Cf<|Runs.skip<|ai<|Runs.canon (bB x1 ({ i2 with Rep:=2 }:Inst)) Cz ?_
    exact bF x_ x1 ({ i2 with Rep:=2 }:Inst) r h
  | false =>
   replace h:=ab hb_7 h
   refine Cf<|Runs.skip<|ai<|Runs.canon (bB x1 i2) Cz ?_
   exact bF x_ x1 i2 r h
 | false =>
  replace h:=ab hb_6 h
  refine Rc 5 [vn,vn,vn,vn,vb false]<|Rk<|Cf<|Runs.skip<|ai<|Runs.canon (bB x1 i2) Cz ?_
  exact bF x_ x1 i2 r h
theorem cx (x_:Inst) (x1:Inst) (i2:Inst) (r3:Row) (t61:Int) (t86:Bool) (r:Inst) (h:aW x1 i2 r3 t61 t86=some r):Runs L Cq (cu x1 i2 r3 t61 t86) (kB 1 (kS L zi (bK x_ r))):=by
 unfold aW at h
 cases hb_17:(t86:Bool) with
 | true =>
  replace h:=aa hb_17 h
  refine Ct<|Ro<|Rc 4 [vp [1] 0 8,vw x1.Imm,vp [2] 0 8,⟨.tup [],[([2],some (.cells [.b i2.Lock,.i i2.Rep,.i i2.Seg,.y i2.Op,.i i2.Mod,.i i2.Reg,.i i2.RM,.w i2.Disp,.w x1.Imm,.w i2.Sel] 0))]⟩]<|Rd<|az<|ai<|Runs.canon (aY x1 ({ i2 with Imm:=x1.Imm }:Inst) r3) Cz ?_
  exact aU x_ x1 ({ i2 with Imm:=x1.Imm }:Inst) r3 r h
 | false =>
  replace h:=ab hb_17 h
  refine Cf<|Sq<|Ro<|Rc 2 [vb (t61==11),vb (t61==11)]<|Rk ?_
  cases hb_18:((t61==11):Bool) with
  | true =>
   replace h:=aa hb_18 h
   refine Ct<|Ro<|Rc 8 [vp [1] 0 8,vw x1.Imm,vp [1] 0 9,vw x1.Sel,vp [2] 0 8,⟨.tup [],[([2],some (.cells [.b i2.Lock,.i i2.Rep,.i i2.Seg,.y i2.Op,.i i2.Mod,.i i2.Reg,.i i2.RM,.w i2.Disp,.w x1.Imm,.w i2.Sel] 0))]⟩,vp [2] 0 9,⟨.tup [],[([2],some (.cells [.b i2.Lock,.i i2.Rep,.i i2.Seg,.y i2.Op,.i i2.Mod,.i i2.Reg,.i i2.RM,.w i2.Disp,.w x1.Imm,.w x1.Sel] 0))]⟩]<|Rd<|az<|ai<|Runs.canon (aY x1 ({ i2 with Imm:=x1.Imm,Sel:=x1.Sel }:Inst) r3) Cz ?_
   exact aU x_ x1 ({ i2 with Imm:=x1.Imm,Sel:=x1.Sel }:Inst) r3 r h
  | false =>
   replace h:=ab hb_18 h
   refine Cf<|Runs.skip<|az<|ai<|Runs.canon (aY x1 i2 r3) Cz ?_
   exact aU x_ x1 i2 r3 r h
theorem fu (x_:Inst) (x1:Inst) (i2:Inst) (r3:Row) (t61:Int) (t77:Bool) (r:Inst) (h:bM x1 i2 r3 t61 t77=some r):Runs L Cr (em x1 i2 r3 t61 t77) (kB 1 (kS L zi (bK x_ r))):=by
 unfold bM at h
 cases hb_15:(t77:Bool) with
 | true =>
  replace h:=aa hb_15 h
  refine Ct<|Ro<|Rc 4 [vp [1] 0 8,vw x1.Imm,vw (Int.tmod x1.Imm 256),vy (IntKind.wrap .u8 (Int.tmod x1.Imm 256))] ?_
  obtain ⟨r_6,hr_6,h⟩:=ah h
  have hc_6:=iq (IntKind.wrap .u8 (Int.tmod x1.Imm 256)) r_6 hr_6
  refine Rt (some 84) (.callf 12) [] none [.y (IntKind.wrap .u8 (Int.tmod x1.Imm 256))] (.w r_6) [] (cc hc_6)<|Rc 2 [vp [2] 0 8,⟨.tup [],[([2],some (.cells [.b i2.Lock,.i i2.Rep,.i i2.Seg,.y i2.Op,.i i2.Mod,.i i2.Reg,.i i2.RM,.w i2.Disp,.w r_6,.w i2.Sel] 0))]⟩]<|Rd<|az<|ai<|Runs.canon (aY x1 ({ i2 with Imm:=r_6 }:Inst) r3) Cz ?_
  exact aU x_ x1 ({ i2 with Imm:=r_6 }:Inst) r3 r h
 | false =>
  replace h:=ab hb_15 h
  refine Cf<|Sq<|Sq<|Ro<|Rc 2 [vb (t61==7),vb (t61==7)]<|Rk ?_
  cases hb_16:((t61==7):Bool) with
  | true =>
   replace h:=aa hb_16 h
   refine Ct<|Runs.skip<|ai<|Runs.canon (cu x1 i2 r3 t61 true) Cz ?_
   exact cx x_ x1 i2 r3 t61 true r h
  | false =>
   replace h:=ab hb_16 h
   refine Cf<|Sq<|Ro<|Rc 2 [vb (t61==10),vb (t61==10)]<|Rk ?_
   cases hb_19:((t61==10):Bool) with
   | true =>
    replace h:=aa hb_19 h
    refine Ct<|Runs.skip<|ai<|Runs.canon (cu x1 i2 r3 t61 true) Cz ?_
    exact cx x_ x1 i2 r3 t61 true r h
   | false =>
    replace h:=ab hb_19 h
    refine Cf<|Sq<|Ro<|Rc 2 [vb (t61==12),vb (t61==12)]<|Rk ?_
    cases hb_20:((t61==12):Bool) with
    | true =>
     replace h:=aa hb_20 h
     refine Ct<|Runs.skip<|ai<|Runs.canon (cu x1 i2 r3 t61 true) Cz ?_
     exact cx x_ x1 i2 r3 t61 true r h
    | false =>
     replace h:=ab hb_20 h
     refine Cf<|Ro<|Rc 2 [vb (t61==13),vb (t61==13)]<|Rk<|Runs.canon (cu x1 i2 r3 t61 (t61==13)) Cz ?_
     exact cx x_ x1 i2 r3 t61 (t61==13) r h
theorem fv (x_:Inst) (x1:Inst) (i2:Inst) (r3:Row) (k5:Int) (r:Inst) (h:bN x1 i2 r3 k5=some r):Runs L Cv (ek x1 i2 r3 k5) (bK x_ r):=by
 unfold bN at h
 refine Sq<|Sq<|Ro<|Rc 1 [vi k5]<|Rk<|Runs.block<|Sq<|Ro<|Rc 2 [vb (k5==6),vb (k5==6)]<|Rk ?_
 cases hb_4:((k5==6):Bool) with
 | true =>
  replace h:=aa hb_4 h
  refine Ct<|Sq<|Ro<|Rc 5 [vp [1] 0 8,vw x1.Imm,vw (Int.tmod x1.Imm 256),vp [2] 0 8,⟨.tup [],[([2],some (.cells [.b i2.Lock,.i i2.Rep,.i i2.Seg,.y i2.Op,.i i2.Mod,.i i2.Reg,.i i2.RM,.w i2.Disp,.w (Int.tmod x1.Imm 256),.w i2.Sel] 0))]⟩]<|Rk<|Sq<|Ro<|Rc 4 [vp [3] 0 0,vi r3.Name,vb (r3.Name==70),vb (r3.Name==70)] ?_
  cases hb_5:((r3.Name==70):Bool) with
  | true =>
   replace h:=aa hb_5 h
   refine Rc 4 [vn,vn,vn,vb true]<|Rk<|Ct<|Ro<|Rc 2 [vp [2] 0 8,⟨.tup [],[([2],some (.cells [.b i2.Lock,.i i2.Rep,.i i2.Seg,.y i2.Op,.i i2.Mod,.i i2.Reg,.i i2.RM,.w i2.Disp,.w 10,.w i2.Sel] 0))]⟩]<|Rd<|az<|ai<|Runs.canon (aY x1 ({ i2 with Imm:=10 }:Inst) r3) Cz ?_
   exact aU x_ x1 ({ i2 with Imm:=10 }:Inst) r3 r h
  | false =>
   replace h:=ab hb_5 h
   refine Rc 4 [vp [3] 0 0,vi r3.Name,vb (r3.Name==71),vb (r3.Name==71)]<|Rk ?_
   cases hb_13:((r3.Name==71):Bool) with
   | true =>
    replace h:=aa hb_13 h
    refine Ct<|Ro<|Rc 2 [vp [2] 0 8,⟨.tup [],[([2],some (.cells [.b i2.Lock,.i i2.Rep,.i i2.Seg,.y i2.Op,.i i2.Mod,.i i2.Reg,.i i2.RM,.w i2.Disp,.w 10,.w i2.Sel] 0))]⟩]<|Rd<|az<|ai<|Runs.canon (aY x1 ({ i2 with Imm:=10 }:Inst) r3) Cz ?_
    exact aU x_ x1 ({ i2 with Imm:=10 }:Inst) r3 r h
   | false =>
    replace h:=ab hb_13 h
    refine Cf<|Runs.skip<|az<|ai<|Runs.canon (aY x1 ({ i2 with Imm:=(Int.tmod x1.Imm 256) }:Inst) r3) Cz ?_
    exact aU x_ x1 ({ i2 with Imm:=(Int.tmod x1.Imm 256) }:Inst) r3 r h
 | false =>
  replace h:=ab hb_4 h
  refine Cf<|Sq<|Sq<|Ro<|Rc 2 [vb (k5==8),vb (k5==8)]<|Rk ?_
  cases hb_14:((k5==8):Bool) with
  | true =>
   replace h:=aa hb_14 h
   refine Ct<|Runs.skip<|ai<|Runs.canon (em x1 i2 r3 k5 true) Cz ?_
   exact fu x_ x1 i2 r3 k5 true r h
  | false =>
   replace h:=ab hb_14 h
   refine Cf<|Ro<|Rc 2 [vb (k5==9),vb (k5==9)]<|Rk<|Runs.canon (em x1 i2 r3 k5 (k5==9)) Cz ?_
   exact fu x_ x1 i2 r3 k5 (k5==9) r h
theorem cy (x_:Inst) (x1:Inst) (i2:Inst) (r3:Row) (r:Inst) (h:aX x1 i2 r3=some r):Runs L Cw (ct x1 i2 r3) (bK x_ r):=by
 unfold aX at h
 refine Sq<|Ro<|Rc 3 [vp [3] 0 1,vi r3.A,vi r3.A]<|Rk<|Sq<|Sq<|Ro<|Rc 1 [vi r3.A] ?_
 obtain ⟨r_2,hr_2,h⟩:=ah h
 have hc_2:=gR r3.A r_2 hr_2
 refine Rt (some 57) (.callf 13) [] none [.i r3.A] (.i r_2) [] (cc hc_2)<|Rc 1 [vb (r_2==0)]<|Rk ?_
 cases hb_3:((r_2==0):Bool) with
 | true =>
  replace h:=aa hb_3 h
  refine Ct<|Ro<|Rc 3 [vp [3] 0 2,vi r3.B,vi r3.B]<|Rk<|Runs.canon (ek x1 i2 r3 r3.B) Cz ?_
  exact fv x_ x1 i2 r3 r3.B r h
 | false =>
  replace h:=ab hb_3 h
  refine Cf<|Runs.skip<|ai<|Runs.canon (ek x1 i2 r3 r3.A) Cz ?_
  exact fv x_ x1 i2 r3 r3.A r h
theorem lB (x_:Inst) (r:Inst) (h:cK x_=some r):Runs L F4.body ⟨a9 [.d (Inst.d x_)] 0,ay (fun _=>none) []⟩ (bK x_ r):=by
 unfold cK at h
 refine Sq<|Ro<|Rc 2 [⟨.ptr [1] 0 0,[([1],some (.cells [.b x_.Lock,.i x_.Rep,.i x_.Seg,.y x_.Op,.i x_.Mod,.i x_.Reg,.i x_.RM,.w x_.Disp,.w x_.Imm,.w x_.Sel] 0))]⟩,⟨.ptr [2] 0 0,[([2],some (.cells [.b false,.i 0,.i 0,.y 0,.i 0,.i 0,.i 0,.w 0,.w 0,.w 0] 0))]⟩]<|Rk<|Sq<|Ro<|Rc 6 [vp [1] 0 3,vy x_.Op,vp [1] 0 0,vb x_.Lock,⟨.d (.agg [.bool x_.Lock,.int .i64 0,.int .i64 0,.int .u8 x_.Op,.int .i64 0,.int .i64 0,.int .i64 0,.int .u16 0,.int .u16 0,.int .u16 0]),[]⟩,⟨.tup [],[([2],some (.cells [.b x_.Lock,.i 0,.i 0,.y x_.Op,.i 0,.i 0,.i 0,.w 0,.w 0,.w 0] 0))]⟩]<|Rk<|Sq<|Ro<|Rc 5 [vp [1] 0 5,vi x_.Reg,vi (ak .and .i64 x_.Reg 7),vp [2] 0 5,⟨.tup [],[([2],some (.cells [.b x_.Lock,.i 0,.i 0,.y x_.Op,.i 0,.i (ak .and .i64 x_.Reg 7),.i 0,.w 0,.w 0,.w 0] 0))]⟩]<|Rk<|Sq<|Ro<|Rc 1 [⟨.d (.agg [.bool x_.Lock,.int .i64 0,.int .i64 0,.int .u8 x_.Op,.int .i64 0,.int .i64 (ak .and .i64 x_.Reg 7),.int .i64 0,.int .u16 0,.int .u16 0,.int .u16 0]),[]⟩] ?_
 obtain ⟨r_1,hr_1,h⟩:=ah h
 have hc_1:=dh ({ x_ with Rep:=0,Seg:=0,Mod:=0,Reg:=(ak .and .i64 x_.Reg 7),RM:=0,Disp:=0,Imm:=0,Sel:=0 }:Inst) r_1 hr_1
 refine Rt (some 18) (.callf 5) [] none [.d (.agg [.bool x_.Lock,.int .i64 0,.int .i64 0,.int .u8 x_.Op,.int .i64 0,.int .i64 (ak .and .i64 x_.Reg 7),.int .i64 0,.int .u16 0,.int .u16 0,.int .u16 0])] (.tup [.d (Row.d r_1.1),.b r_1.2]) [] (cc hc_1)<|Rc 6 [⟨.tup [.d (Row.d r_1.1),.b r_1.2],[]⟩,⟨.d (Row.d r_1.1),[]⟩,vb r_1.2,⟨.ptr [3] 0 0,[([3],some (.cells [.i 0,.i 0,.i 0,.b false] 0))]⟩,⟨.tup [],[([3],some (.cells [.i r_1.1.Name,.i r_1.1.A,.i r_1.1.B,.b r_1.1.Mod] 0))]⟩,vb r_1.2]<|Rk<|Sq<|Sq<|Ro<|Rc 2 [vb r_1.2,vb (!r_1.2)]<|Rk ?_
 cases hb_1:((!r_1.2):Bool) with
 | true =>
  replace h:=aa hb_1 h
  refine Ct<|Sq<|Ro<|Rc 2 [⟨.d (.agg [.bool false,.int .i64 0,.int .i64 0,.int .u8 144,.int .i64 0,.int .i64 0,.int .i64 0,.int .u16 0,.int .u16 0,.int .u16 0]),[]⟩,⟨.tup [],[([2],some (.cells [.b false,.i 0,.i 0,.y 144,.i 0,.i 0,.i 0,.w 0,.w 0,.w 0] 0))]⟩]<|Rk<|Runs.ret<|ae ?_
  cases h
  exact Fq
 | false =>
  replace h:=ab hb_1 h
  refine Cf<|Runs.skip<|ai<|Sq<|Sq<|Ro<|Rc 3 [vp [3] 0 3,vb r_1.1.Mod,vb (!r_1.1.Mod)]<|Rk ?_
  cases hb_2:((!r_1.1.Mod):Bool) with
  | true =>
   replace h:=aa hb_2 h
   refine Ct<|Ro<|Rc 2 [vp [2] 0 5,⟨.tup [],[([2],some (.cells [.b x_.Lock,.i 0,.i 0,.y x_.Op,.i 0,.i 0,.i 0,.w 0,.w 0,.w 0] 0))]⟩]<|Rk<|Runs.canon (ct x_ ({ x_ with Rep:=0,Seg:=0,Mod:=0,Reg:=0,RM:=0,Disp:=0,Imm:=0,Sel:=0 }:Inst) r_1.1) Cz ?_
   exact cy x_ x_ ({ x_ with Rep:=0,Seg:=0,Mod:=0,Reg:=0,RM:=0,Disp:=0,Imm:=0,Sel:=0 }:Inst) r_1.1 r h
  | false =>
   replace h:=ab hb_2 h
   refine Cf<|Sq<|Ro<|Rc 10 [vp [1] 0 4,vi x_.Mod,vi (ak .and .i64 x_.Mod 3),vp [1] 0 6,vi x_.RM,vi (ak .and .i64 x_.RM 7),vp [2] 0 4,⟨.tup [],[([2],some (.cells [.b x_.Lock,.i 0,.i 0,.y x_.Op,.i (ak .and .i64 x_.Mod 3),.i (ak .and .i64 x_.Reg 7),.i 0,.w 0,.w 0,.w 0] 0))]⟩,vp [2] 0 6,⟨.tup [],[([2],some (.cells [.b x_.Lock,.i 0,.i 0,.y x_.Op,.i (ak .and .i64 x_.Mod 3),.i (ak .and .i64 x_.Reg 7),.i (ak .and .i64 x_.RM 7),.w 0,.w 0,.w 0] 0))]⟩]<|Rk<|Sq<|Ro<|Rc 4 [vp [2] 0 4,vi (ak .and .i64 x_.Mod 3),vp [2] 0 6,vi (ak .and .i64 x_.RM 7)] ?_
   obtain ⟨r_7,hr_7,h⟩:=ah h
   have hc_7:=gS (ak .and .i64 x_.Mod 3) (ak .and .i64 x_.RM 7) r_7 hr_7
   refine Rt (some 40) (.callf 11) [] none [.i (ak .and .i64 x_.Mod 3),.i (ak .and .i64 x_.RM 7)] (.i r_7) [] (cc hc_7)<|Rk<|Runs.block<|Sq<|Ro<|Rc 2 [vb (r_7==1),vb (r_7==1)]<|Rk ?_
   cases hb_21:((r_7==1):Bool) with
   | true =>
    replace h:=aa hb_21 h
    refine Ct<|Ro<|Rc 4 [vp [1] 0 7,vw x_.Disp,vw (Int.tmod x_.Disp 256),vy (IntKind.wrap .u8 (Int.tmod x_.Disp 256))] ?_
    obtain ⟨r_8,hr_8,h⟩:=ah h
    have hc_8:=iq (IntKind.wrap .u8 (Int.tmod x_.Disp 256)) r_8 hr_8
    refine Rt (some 47) (.callf 12) [] none [.y (IntKind.wrap .u8 (Int.tmod x_.Disp 256))] (.w r_8) [] (cc hc_8)<|Rc 2 [vp [2] 0 7,⟨.tup [],[([2],some (.cells [.b x_.Lock,.i 0,.i 0,.y x_.Op,.i (ak .and .i64 x_.Mod 3),.i (ak .and .i64 x_.Reg 7),.i (ak .and .i64 x_.RM 7),.w r_8,.w 0,.w 0] 0))]⟩]<|Rd<|az<|ai<|Runs.canon (ct x_ ({ x_ with Rep:=0,Seg:=0,Mod:=(ak .and .i64 x_.Mod 3),Reg:=(ak .and .i64 x_.Reg 7),RM:=(ak .and .i64 x_.RM 7),Disp:=r_8,Imm:=0,Sel:=0 }:Inst) r_1.1) Cz ?_
    exact cy x_ x_ ({ x_ with Rep:=0,Seg:=0,Mod:=(ak .and .i64 x_.Mod 3),Reg:=(ak .and .i64 x_.Reg 7),RM:=(ak .and .i64 x_.RM 7),Disp:=r_8,Imm:=0,Sel:=0 }:Inst) r_1.1 r h
   | false =>
    replace h:=ab hb_21 h
    refine Cf<|Sq<|Ro<|Rc 2 [vb (r_7==2),vb (r_7==2)]<|Rk ?_
    cases hb_22:((r_7==2):Bool) with
    | true =>
     replace h:=aa hb_22 h
     refine Ct<|Ro<|Rc 4 [vp [1] 0 7,vw x_.Disp,vp [2] 0 7,⟨.tup [],[([2],some (.cells [.b x_.Lock,.i 0,.i 0,.y x_.Op,.i (ak .and .i64 x_.Mod 3),.i (ak .and .i64 x_.Reg 7),.i (ak .and .i64 x_.RM 7),.w x_.Disp,.w 0,.w 0] 0))]⟩]<|Rd<|az<|ai<|Runs.canon (ct x_ ({ x_ with Rep:=0,Seg:=0,Mod:=(ak .and .i64 x_.Mod 3),Reg:=(ak .and .i64 x_.Reg 7),RM:=(ak .and .i64 x_.RM 7),Imm:=0,Sel:=0 }:Inst) r_1.1) Cz ?_
     exact cy x_ x_ ({ x_ with Rep:=0,Seg:=0,Mod:=(ak .and .i64 x_.Mod 3),Reg:=(ak .and .i64 x_.Reg 7),RM:=(ak .and .i64 x_.RM 7),Imm:=0,Sel:=0 }:Inst) r_1.1 r h
    | false =>
     replace h:=ab hb_22 h
     refine Cf<|Runs.skip<|az<|ai<|Runs.canon (ct x_ ({ x_ with Rep:=0,Seg:=0,Mod:=(ak .and .i64 x_.Mod 3),Reg:=(ak .and .i64 x_.Reg 7),RM:=(ak .and .i64 x_.RM 7),Disp:=0,Imm:=0,Sel:=0 }:Inst) r_1.1) Cz ?_
     exact cy x_ x_ ({ x_ with Rep:=0,Seg:=0,Mod:=(ak .and .i64 x_.Mod 3),Reg:=(ak .and .i64 x_.Reg 7),RM:=(ak .and .i64 x_.RM 7),Disp:=0,Imm:=0,Sel:=0 }:Inst) r_1.1 r h
theorem mR (x_:Inst) (r:Inst) (h:cK x_=some r):L 4 [.d (Inst.d x_)]=some (.d (Inst.d r),[.d (Inst.d x_)]):=by
 obtain ⟨p,⟨hne,hf⟩,hr⟩:=lB x_ r h
 obtain ⟨k,hk⟩:=aD (F:=F4) (args:=[.d (Inst.d x_)]) (ap:=[.d (Inst.d x_)]) (bx0:=ay (fun _=>none) []) rfl rfl (by kernel_rfl) ⟨p,⟨hne,hf⟩,hr⟩
 exact aA (k:=k) rfl hk
def kK (i_:Inst) (size_:Int) (r:Operand) (p:Out × St):Prop:=(∀ i,p.1≠.exit i)∧aV F37 [.d (Inst.d i_),.i size_] p.2=some (.d (Operand.d r),[.d (Inst.d i_),.i size_])
theorem j5 (i_:Inst) (size_:Int) (r:Operand) (h:aZ i_ size_=some r):Runs L F37.body ⟨a9 [.d (Inst.d i_),.i size_] 0,ay (fun _=>none) []⟩ (kK i_ size_ r):=by
 unfold aZ at h
 refine Sq<|Ro<|Rc 2 [⟨.ptr [2] 0 0,[([2],some (.cells [.b i_.Lock,.i i_.Rep,.i i_.Seg,.y i_.Op,.i i_.Mod,.i i_.Reg,.i i_.RM,.w i_.Disp,.w i_.Imm,.w i_.Sel] 0))]⟩,⟨.ptr [4] 0 0,[([4],some (.cells [.i 0,.i 0,.i 0,.i 0,.i 0,.i 0,.i 0,.i 0,.b false,.i 0,.i 0,.b false] 0))]⟩]<|Rk<|Sq<|Ro<|Rc 11 [vp [2] 0 6,vi i_.RM,vi size_,vp [2] 0 7,vw i_.Disp,⟨.d (.int .i16 (IntKind.wrap .i16 i_.Disp)),[]⟩,vi (IntKind.wrap .i64 (IntKind.wrap .i16 i_.Disp)),⟨.d (.agg [.int .i64 (IntKind.wrap .i64 (IntKind.wrap .i16 i_.Disp)),.int .i64 0,.int .i64 0,.int .i64 0,.int .i64 0,.bool true]),[]⟩,⟨.d (.agg [.int .i64 5,.int .i64 0,.int .i64 i_.RM,.int .i64 (IntKind.wrap .i64 (IntKind.wrap .i16 i_.Disp)),.int .i64 0,.int .i64 0,.int .i64 0,.int .i64 0,.bool true,.int .i64 size_,.int .i64 0,.bool false]),[]⟩,⟨.ptr [5] 0 0,[([5],some (.cells [.i 0,.i 0,.i 0,.i 0,.i 0,.i 0,.i 0,.i 0,.b false,.i 0,.i 0,.b false] 0))]⟩,⟨.tup [],[([5],some (.cells [.i 5,.i 0,.i i_.RM,.i (IntKind.wrap .i64 (IntKind.wrap .i16 i_.Disp)),.i 0,.i 0,.i 0,.i 0,.b true,.i size_,.i 0,.b false] 0))]⟩] ?_
 refine Rk<|Sq<|Sq<|Ro<|Rc 4 [vp [2] 0 4,vi i_.Mod,vb (i_.Mod==0),vb (i_.Mod==0)] ?_
 cases hb_1:((i_.Mod==0):Bool) with
 | true =>
  replace h:=aa hb_1 h
  refine Rc 4 [vp [2] 0 6,vi i_.RM,vb (i_.RM==6),vb (i_.RM==6)]<|Rk ?_
  cases hb_2:((i_.RM==6):Bool) with
  | true =>
   replace h:=aa hb_2 h
   refine Ct<|Sq<|Ro<|Rc 2 [vp [5] 0 2,⟨.tup [],[([5],some (.cells [.i 5,.i 0,.i 8,.i (IntKind.wrap .i64 (IntKind.wrap .i16 i_.Disp)),.i 0,.i 0,.i 0,.i 0,.b true,.i size_,.i 0,.b false] 0))]⟩]<|Rk<|Ro<|Rc 6 [vp [2] 0 7,vw i_.Disp,vi (IntKind.wrap .i64 i_.Disp),vp [5] 0 3,vp [5] 0 3,⟨.tup [],[([5],some (.cells [.i 5,.i 0,.i 8,.i (IntKind.wrap .i64 i_.Disp),.i 0,.i 0,.i 0,.i 0,.b true,.i size_,.i 0,.b false] 0))]⟩]<|Rk<|Sq<|Sq<|Ro<|Rc 3 [vp [2] 0 4,vi i_.Mod,vb (i_.Mod==2)]<|Rk ?_
   cases hb_3:((i_.Mod==2):Bool) with
   | true =>
    replace h:=aa hb_3 h
    refine Ct<|Ro<|Rc 7 [vp [2] 0 7,vw i_.Disp,⟨.d (.int .i16 (IntKind.wrap .i16 i_.Disp)),[]⟩,vi (IntKind.wrap .i64 (IntKind.wrap .i16 i_.Disp)),vp [5] 0 3,vp [5] 0 3,⟨.tup [],[([5],some (.cells [.i 5,.i 0,.i 8,.i (IntKind.wrap .i64 (IntKind.wrap .i16 i_.Disp)),.i 0,.i 0,.i 0,.i 0,.b true,.i size_,.i 0,.b false] 0))]⟩]<|Rk<|Sq<|Ro<|Rc 2 [⟨.d (.agg [.int .i64 5,.int .i64 0,.int .i64 8,.int .i64 (IntKind.wrap .i64 (IntKind.wrap .i16 i_.Disp)),.int .i64 0,.int .i64 0,.int .i64 0,.int .i64 0,.bool true,.int .i64 size_,.int .i64 0,.bool false]),[]⟩,⟨.tup [],[([4],some (.cells [.i 5,.i 0,.i 8,.i (IntKind.wrap .i64 (IntKind.wrap .i16 i_.Disp)),.i 0,.i 0,.i 0,.i 0,.b true,.i size_,.i 0,.b false] 0))]⟩]<|Rk<|Runs.ret ?_
    cases h
    exact Fq
   | false =>
    replace h:=ab hb_3 h
    refine Cf<|Runs.skip<|ai<|Sq<|Ro<|Rc 2 [⟨.d (.agg [.int .i64 5,.int .i64 0,.int .i64 8,.int .i64 (IntKind.wrap .i64 i_.Disp),.int .i64 0,.int .i64 0,.int .i64 0,.int .i64 0,.bool true,.int .i64 size_,.int .i64 0,.bool false]),[]⟩,⟨.tup [],[([4],some (.cells [.i 5,.i 0,.i 8,.i (IntKind.wrap .i64 i_.Disp),.i 0,.i 0,.i 0,.i 0,.b true,.i size_,.i 0,.b false] 0))]⟩]<|Rk<|Runs.ret ?_
    cases h
    exact Fq
  | false =>
   replace h:=ab hb_2 h
   refine Cf<|Runs.skip<|ai<|Sq<|Sq<|Ro<|Rc 3 [vp [2] 0 4,vi i_.Mod,vb (i_.Mod==2)]<|Rk ?_
   cases hb_4:((i_.Mod==2):Bool) with
   | true =>
    replace h:=aa hb_4 h
    refine Ct<|Ro<|Rc 7 [vp [2] 0 7,vw i_.Disp,⟨.d (.int .i16 (IntKind.wrap .i16 i_.Disp)),[]⟩,vi (IntKind.wrap .i64 (IntKind.wrap .i16 i_.Disp)),vp [5] 0 3,vp [5] 0 3,⟨.tup [],[([5],some (.cells [.i 5,.i 0,.i i_.RM,.i (IntKind.wrap .i64 (IntKind.wrap .i16 i_.Disp)),.i 0,.i 0,.i 0,.i 0,.b true,.i size_,.i 0,.b false] 0))]⟩]<|Rk<|Sq<|Ro<|Rc 2 [⟨.d (.agg [.int .i64 5,.int .i64 0,.int .i64 i_.RM,.int .i64 (IntKind.wrap .i64 (IntKind.wrap .i16 i_.Disp)),.int .i64 0,.int .i64 0,.int .i64 0,.int .i64 0,.bool true,.int .i64 size_,.int .i64 0,.bool false]),[]⟩,⟨.tup [],[([4],some (.cells [.i 5,.i 0,.i i_.RM,.i (IntKind.wrap .i64 (IntKind.wrap .i16 i_.Disp)),.i 0,.i 0,.i 0,.i 0,.b true,.i size_,.i 0,.b false] 0))]⟩]<|Rk<|Runs.ret ?_
    cases h
    exact Fq
   | false =>
    replace h:=ab hb_4 h
    refine Cf<|Runs.skip<|ai<|Sq<|Ro<|Rc 2 [⟨.d (.agg [.int .i64 5,.int .i64 0,.int .i64 i_.RM,.int .i64 (IntKind.wrap .i64 (IntKind.wrap .i16 i_.Disp)),.int .i64 0,.int .i64 0,.int .i64 0,.int .i64 0,.bool true,.int .i64 size_,.int .i64 0,.bool false]),[]⟩,⟨.tup [],[([4],some (.cells [.i 5,.i 0,.i i_.RM,.i (IntKind.wrap .i64 (IntKind.wrap .i16 i_.Disp)),.i 0,.i 0,.i 0,.i 0,.b true,.i size_,.i 0,.b false] 0))]⟩]<|Rk<|Runs.ret ?_
    cases h
    exact Fq
 | false =>
  replace h:=ab hb_1 h
  refine Rc 4 [vn,vn,vn,vb false]<|Rk<|Cf<|Runs.skip<|ai<|Sq<|Sq<|Ro<|Rc 3 [vp [2] 0 4,vi i_.Mod,vb (i_.Mod==2)]<|Rk ?_
  cases hb_5:((i_.Mod==2):Bool) with
  | true =>
   replace h:=aa hb_5 h
   refine Ct<|Ro<|Rc 7 [vp [2] 0 7,vw i_.Disp,⟨.d (.int .i16 (IntKind.wrap .i16 i_.Disp)),[]⟩,vi (IntKind.wrap .i64 (IntKind.wrap .i16 i_.Disp)),vp [5] 0 3,vp [5] 0 3,⟨.tup [],[([5],some (.cells [.i 5,.i 0,.i i_.RM,.i (IntKind.wrap .i64 (IntKind.wrap .i16 i_.Disp)),.i 0,.i 0,.i 0,.i 0,.b true,.i size_,.i 0,.b false] 0))]⟩]<|Rk<|Sq<|Ro<|Rc 2 [⟨.d (.agg [.int .i64 5,.int .i64 0,.int .i64 i_.RM,.int .i64 (IntKind.wrap .i64 (IntKind.wrap .i16 i_.Disp)),.int .i64 0,.int .i64 0,.int .i64 0,.int .i64 0,.bool true,.int .i64 size_,.int .i64 0,.bool false]),[]⟩,⟨.tup [],[([4],some (.cells [.i 5,.i 0,.i i_.RM,.i (IntKind.wrap .i64 (IntKind.wrap .i16 i_.Disp)),.i 0,.i 0,.i 0,.i 0,.b true,.i size_,.i 0,.b false] 0))]⟩]<|Rk<|Runs.ret ?_
   cases h
   exact Fq
  | false =>
   replace h:=ab hb_5 h
   refine Cf<|Runs.skip<|ai<|Sq<|Ro<|Rc 2 [⟨.d (.agg [.int .i64 5,.int .i64 0,.int .i64 i_.RM,.int .i64 (IntKind.wrap .i64 (IntKind.wrap .i16 i_.Disp)),.int .i64 0,.int .i64 0,.int .i64 0,.int .i64 0,.bool true,.int .i64 size_,.int .i64 0,.bool false]),[]⟩,⟨.tup [],[([4],some (.cells [.i 5,.i 0,.i i_.RM,.i (IntKind.wrap .i64 (IntKind.wrap .i16 i_.Disp)),.i 0,.i 0,.i 0,.i 0,.b true,.i size_,.i 0,.b false] 0))]⟩]<|Rk<|Runs.ret ?_
   cases h
   exact Fq
theorem di (i_:Inst) (size_:Int) (r:Operand) (h:aZ i_ size_=some r):L 37 [.d (Inst.d i_),.i size_]=some (.d (Operand.d r),[.d (Inst.d i_),.i size_]):=by
 obtain ⟨p,⟨hne,hf⟩,hr⟩:=j5 i_ size_ r h
 obtain ⟨k,hk⟩:=aD (F:=F37) (args:=[.d (Inst.d i_),.i size_]) (ap:=[.d (Inst.d i_),.i size_]) (bx0:=ay (fun _=>none) []) rfl rfl (by kernel_rfl) ⟨p,⟨hne,hf⟩,hr⟩
 exact aA (k:=k) rfl hk
def kL (w_:Int) (r:Operand) (p:Out × St):Prop:=(∀ i,p.1≠.exit i)∧aV F38 [.w w_] p.2=some (.d (Operand.d r),[.w w_])
theorem j6 (w_:Int) (r:Operand) (h:a8 w_=some r):Runs L F38.body ⟨a9 [.w w_] 0,ay (fun _=>none) []⟩ (kL w_ r):=by
 unfold a8 at h
 refine Sq<|Ro<|Rc 1 [⟨.ptr [2] 0 0,[([2],some (.cells [.i 0,.i 0,.i 0,.i 0,.i 0,.i 0,.i 0,.i 0,.b false,.i 0,.i 0,.b false] 0))]⟩]<|Rk<|Sq<|Ro<|Rc 5 [vw w_,vi (IntKind.wrap .i64 w_),⟨.d (.agg [.int .i64 (IntKind.wrap .i64 w_),.int .i64 0,.int .i64 0,.int .i64 0,.int .i64 0,.bool true]),[]⟩,⟨.d (.agg [.int .i64 4,.int .i64 0,.int .i64 8,.int .i64 (IntKind.wrap .i64 w_),.int .i64 0,.int .i64 0,.int .i64 0,.int .i64 0,.bool true,.int .i64 0,.int .i64 0,.bool false]),[]⟩,⟨.tup [],[([2],some (.cells [.i 4,.i 0,.i 8,.i (IntKind.wrap .i64 w_),.i 0,.i 0,.i 0,.i 0,.b true,.i 0,.i 0,.b false] 0))]⟩]<|Rk<|Runs.ret ?_
 cases h
 exact Fq
theorem dj (w_:Int) (r:Operand) (h:a8 w_=some r):L 38 [.w w_]=some (.d (Operand.d r),[.w w_]):=by
 obtain ⟨p,⟨hne,hf⟩,hr⟩:=j6 w_ r h
 obtain ⟨k,hk⟩:=aD (F:=F38) (args:=[.w w_]) (ap:=[.w w_]) (bx0:=ay (fun _=>none) []) rfl rfl (by kernel_rfl) ⟨p,⟨hne,hf⟩,hr⟩
 exact aA (k:=k) rfl hk
def dv (i2:Inst) (b_4:Operand) (k1:Int) (t6:Int) (t42:Bool):St:=⟨tab [(1,.i k1),(2,.ptr [2] 0 0),(4,.ptr [4] 0 0),(6,.i t6),(42,.b t42)],be [([2],some (.cells [.b i2.Lock,.i i2.Rep,.i i2.Seg,.y i2.Op,.i i2.Mod,.i i2.Reg,.i i2.RM,.w i2.Disp,.w i2.Imm,.w i2.Sel] 0)),([4],some (.cells [.i b_4.Kind,.i b_4.N,.i b_4.RM,.i b_4.V.N,.i b_4.V.From,.i b_4.V.Which,.i b_4.V.Type_,.i b_4.V.Wants,.b b_4.V.Known,.i b_4.Type_,.i b_4.Over,.b b_4.Short] 0))]⟩
def dw (i2:Inst) (b_4:Operand) (k1:Int) (t6:Int) (t60:Bool):St:=⟨tab [(1,.i k1),(2,.ptr [2] 0 0),(4,.ptr [4] 0 0),(6,.i t6),(60,.b t60)],be [([2],some (.cells [.b i2.Lock,.i i2.Rep,.i i2.Seg,.y i2.Op,.i i2.Mod,.i i2.Reg,.i i2.RM,.w i2.Disp,.w i2.Imm,.w i2.Sel] 0)),([4],some (.cells [.i b_4.Kind,.i b_4.N,.i b_4.RM,.i b_4.V.N,.i b_4.V.From,.i b_4.V.Which,.i b_4.V.Type_,.i b_4.V.Wants,.b b_4.V.Known,.i b_4.Type_,.i b_4.Over,.b b_4.Short] 0))]⟩
def dx (i2:Inst) (b_4:Operand) (k1:Int) (t6:Int) (t70:Bool):St:=⟨tab [(1,.i k1),(2,.ptr [2] 0 0),(4,.ptr [4] 0 0),(6,.i t6),(70,.b t70)],be [([2],some (.cells [.b i2.Lock,.i i2.Rep,.i i2.Seg,.y i2.Op,.i i2.Mod,.i i2.Reg,.i i2.RM,.w i2.Disp,.w i2.Imm,.w i2.Sel] 0)),([4],some (.cells [.i b_4.Kind,.i b_4.N,.i b_4.RM,.i b_4.V.N,.i b_4.V.From,.i b_4.V.Which,.i b_4.V.Type_,.i b_4.V.Wants,.b b_4.V.Known,.i b_4.Type_,.i b_4.Over,.b b_4.Short] 0))]⟩
def cS (i_:Inst) (k_:Int) (r:Operand) (p:Out × St):Prop:=(∀ i,p.1≠.exit i)∧aV F17 [.d (Inst.d i_),.i k_] p.2=some (.d (Operand.d r),[.d (Inst.d i_),.i k_])
theorem ep (i_:Inst) (k_:Int) (i2:Inst) (b_4:Operand) (k1:Int) (t6:Int) (t70:Bool) (r:Operand) (h:bh i2 b_4 k1 t6 t70=some r):Runs L zq (dx i2 b_4 k1 t6 t70) (kB 0 (kS L pf (cS i_ k_ r))):=by
 unfold bh at h
 cases hb_14:(t70:Bool) with
 | true =>
  replace h:=aa hb_14 h
  refine Ct<|Sq<|Ro<|Rc 4 [vi k1,vi (IntKind.wrap .i64 (k1 - 14)),⟨.d (.agg [.int .i64 1,.int .i64 (IntKind.wrap .i64 (k1 - 14)),.int .i64 0,.int .i64 0,.int .i64 0,.int .i64 0,.int .i64 0,.int .i64 0,.bool false,.int .i64 0,.int .i64 0,.bool false]),[]⟩,⟨.tup [],[([4],some (.cells [.i 1,.i (IntKind.wrap .i64 (k1 - 14)),.i 0,.i 0,.i 0,.i 0,.i 0,.i 0,.b false,.i 0,.i 0,.b false] 0))]⟩]<|Rk<|Runs.ret<|aj<|ae ?_
  cases h
  exact Fq
 | false =>
  replace h:=ab hb_14 h
  refine Cf<|Sq<|Ro<|Rc 2 [vb (t6==16),vb (t6==16)]<|Rk ?_
  cases hb_15:((t6==16):Bool) with
  | true =>
   replace h:=aa hb_15 h
   refine Ct<|Sq<|Ro<|Rc 2 [⟨.d (.agg [.int .i64 2,.int .i64 0,.int .i64 0,.int .i64 0,.int .i64 0,.int .i64 0,.int .i64 0,.int .i64 0,.bool false,.int .i64 0,.int .i64 0,.bool false]),[]⟩,⟨.tup [],[([4],some (.cells [.i 2,.i 0,.i 0,.i 0,.i 0,.i 0,.i 0,.i 0,.b false,.i 0,.i 0,.b false] 0))]⟩]<|Rk<|Runs.ret<|aj<|ae ?_
   cases h
   exact Fq
  | false =>
   replace h:=ab hb_15 h
   refine Cf<|Sq<|Ro<|Rc 2 [vb (t6==17),vb (t6==17)]<|Rk ?_
   cases hb_16:((t6==17):Bool) with
   | true =>
    replace h:=aa hb_16 h
    refine Ct<|Sq<|Ro<|Rc 2 [⟨.d (.agg [.int .i64 2,.int .i64 2,.int .i64 0,.int .i64 0,.int .i64 0,.int .i64 0,.int .i64 0,.int .i64 0,.bool false,.int .i64 0,.int .i64 0,.bool false]),[]⟩,⟨.tup [],[([4],some (.cells [.i 2,.i 2,.i 0,.i 0,.i 0,.i 0,.i 0,.i 0,.b false,.i 0,.i 0,.b false] 0))]⟩]<|Rk<|Runs.ret<|aj<|ae ?_
    cases h
    exact Fq
   | false =>
    replace h:=ab hb_16 h
    refine Cf<|Sq<|Ro<|Rc 2 [vb (t6==18),vb (t6==18)]<|Rk ?_
    cases hb_17:((t6==18):Bool) with
    | true =>
     replace h:=aa hb_17 h
     refine Ct<|Sq<|Ro ?_
     obtain ⟨r_5,hr_5,h⟩:=ah h
     have hc_5:=dj 1 r_5 hr_5
     refine Rt (some 84) (.callf 38) [] none [.w 1] (.d (Operand.d r_5)) [] (cc hc_5)<|Rc 1 [⟨.tup [],[([4],some (.cells [.i r_5.Kind,.i r_5.N,.i r_5.RM,.i r_5.V.N,.i r_5.V.From,.i r_5.V.Which,.i r_5.V.Type_,.i r_5.V.Wants,.b r_5.V.Known,.i r_5.Type_,.i r_5.Over,.b r_5.Short] 0))]⟩]<|Rk<|Runs.ret<|aj<|ae ?_
     cases h
     exact Fq
    | false =>
     replace h:=ab hb_17 h
     refine Cf<|Sq<|Ro<|Rc 2 [vb (t6==19),vb (t6==19)]<|Rk ?_
     cases hb_18:((t6==19):Bool) with
     | true =>
      replace h:=aa hb_18 h
      refine Ct<|Sq<|Ro<|Rc 1 [⟨.d (Inst.d i2),[]⟩] ?_
      obtain ⟨r_6,hr_6,h⟩:=ah h
      have hc_6:=di i2 4 r_6 hr_6
      refine Rt (some 88) (.callf 37) [] none [.d (Inst.d i2),.i 4] (.d (Operand.d r_6)) [] (cc hc_6)<|Rc 1 [⟨.tup [],[([4],some (.cells [.i r_6.Kind,.i r_6.N,.i r_6.RM,.i r_6.V.N,.i r_6.V.From,.i r_6.V.Which,.i r_6.V.Type_,.i r_6.V.Wants,.b r_6.V.Known,.i r_6.Type_,.i r_6.Over,.b r_6.Short] 0))]⟩]<|Rk<|Runs.ret<|aj<|ae ?_
      cases h
      exact Fq
     | false =>
      replace h:=ab hb_18 h
      refine Cf<|Sq<|Ro<|Rc 2 [vb (t6==20),vb (t6==20)]<|Rk ?_
      cases hb_19:((t6==20):Bool) with
      | true =>
       replace h:=aa hb_19 h
       refine Ct<|Sq<|Ro<|Rc 1 [⟨.d (Inst.d i2),[]⟩] ?_
       obtain ⟨r_7,hr_7,h⟩:=ah h
       have hc_7:=di i2 0 r_7 hr_7
       refine Rt (some 92) (.callf 37) [] none [.d (Inst.d i2),.i 0] (.d (Operand.d r_7)) [] (cc hc_7)<|Rc 1 [⟨.tup [],[([4],some (.cells [.i r_7.Kind,.i r_7.N,.i r_7.RM,.i r_7.V.N,.i r_7.V.From,.i r_7.V.Which,.i r_7.V.Type_,.i r_7.V.Wants,.b r_7.V.Known,.i r_7.Type_,.i r_7.Over,.b r_7.Short] 0))]⟩]<|Rk<|Runs.ret<|aj<|ae ?_
       cases h
       exact Fq
      | false =>
       replace h:=ab hb_19 h
       refine Cf<|Sq<|Ro<|Rc 2 [vb (t6==21),vb (t6==21)]<|Rk ?_
       cases hb_20:((t6==21):Bool) with
       | true =>
        replace h:=aa hb_20 h
        refine Ct<|Sq<|Ro<|Rc 6 [vp [2] 0 3,vy i2.Op,vy (Int.tmod i2.Op 8),vi (IntKind.wrap .i64 (Int.tmod i2.Op 8)),⟨.d (.agg [.int .i64 1,.int .i64 (IntKind.wrap .i64 (Int.tmod i2.Op 8)),.int .i64 0,.int .i64 0,.int .i64 0,.int .i64 0,.int .i64 0,.int .i64 0,.bool false,.int .i64 0,.int .i64 0,.bool false]),[]⟩,⟨.tup [],[([4],some (.cells [.i 1,.i (IntKind.wrap .i64 (Int.tmod i2.Op 8)),.i 0,.i 0,.i 0,.i 0,.i 0,.i 0,.b false,.i 0,.i 0,.b false] 0))]⟩]<|Rk<|Runs.ret<|aj<|ae ?_
        cases h
        exact Fq
       | false =>
        replace h:=ab hb_20 h
        refine Cf<|Sq<|Ro<|Rc 2 [vb (t6==22),vb (t6==22)]<|Rk ?_
        cases hb_21:((t6==22):Bool) with
        | true =>
         replace h:=aa hb_21 h
         refine Ct<|Sq<|Ro<|Rc 6 [vp [2] 0 3,vy i2.Op,vy (Int.tmod i2.Op 8),vi (IntKind.wrap .i64 (Int.tmod i2.Op 8)),⟨.d (.agg [.int .i64 2,.int .i64 (IntKind.wrap .i64 (Int.tmod i2.Op 8)),.int .i64 0,.int .i64 0,.int .i64 0,.int .i64 0,.int .i64 0,.int .i64 0,.bool false,.int .i64 0,.int .i64 0,.bool false]),[]⟩,⟨.tup [],[([4],some (.cells [.i 2,.i (IntKind.wrap .i64 (Int.tmod i2.Op 8)),.i 0,.i 0,.i 0,.i 0,.i 0,.i 0,.b false,.i 0,.i 0,.b false] 0))]⟩]<|Rk<|Runs.ret<|aj<|ae ?_
         cases h
         exact Fq
        | false =>
         replace h:=ab hb_21 h
         refine Cf<|Sq<|Ro<|Rc 2 [vb (t6==23),vb (t6==23)]<|Rk ?_
         cases hb_22:((t6==23):Bool) with
         | true =>
          replace h:=aa hb_22 h
          refine Ct<|Sq<|Ro<|Rc 7 [vp [2] 0 3,vy i2.Op,vy (IntKind.wrap .u8 (Int.tdiv i2.Op 8)),vy (Int.tmod (IntKind.wrap .u8 (Int.tdiv i2.Op 8)) 4),vi (IntKind.wrap .i64 (Int.tmod (IntKind.wrap .u8 (Int.tdiv i2.Op 8)) 4)),⟨.d (.agg [.int .i64 3,.int .i64 (IntKind.wrap .i64 (Int.tmod (IntKind.wrap .u8 (Int.tdiv i2.Op 8)) 4)),.int .i64 0,.int .i64 0,.int .i64 0,.int .i64 0,.int .i64 0,.int .i64 0,.bool false,.int .i64 0,.int .i64 0,.bool false]),[]⟩,⟨.tup [],[([4],some (.cells [.i 3,.i (IntKind.wrap .i64 (Int.tmod (IntKind.wrap .u8 (Int.tdiv i2.Op 8)) 4)),.i 0,.i 0,.i 0,.i 0,.i 0,.i 0,.b false,.i 0,.i 0,.b false] 0))]⟩]<|Rk<|Runs.ret<|aj<|ae ?_
          cases h
          exact Fq
         | false =>
          replace h:=ab hb_22 h
          refine Cf<|Sq<|Ro<|Rc 2 [vb (t6==24),vb (t6==24)]<|Rk ?_
          cases hb_23:((t6==24):Bool) with
          | true =>
           replace h:=aa hb_23 h
           refine Ct<|Sq<|Ro ?_
           obtain ⟨r_8,hr_8,h⟩:=ah h
           have hc_8:=dj 3 r_8 hr_8
           refine Rt (some 117) (.callf 38) [] none [.w 3] (.d (Operand.d r_8)) [] (cc hc_8)<|Rc 1 [⟨.tup [],[([4],some (.cells [.i r_8.Kind,.i r_8.N,.i r_8.RM,.i r_8.V.N,.i r_8.V.From,.i r_8.V.Which,.i r_8.V.Type_,.i r_8.V.Wants,.b r_8.V.Known,.i r_8.Type_,.i r_8.Over,.b r_8.Short] 0))]⟩]<|Rk<|Runs.ret<|aj<|ae ?_
           cases h
           exact Fq
          | false =>
           replace h:=ab hb_23 h
           refine Cf<|Runs.skip<|az<|ai<|Sq<|Ro<|Rc 2 [⟨.d (.agg [.int .i64 0,.int .i64 0,.int .i64 0,.int .i64 0,.int .i64 0,.int .i64 0,.int .i64 0,.int .i64 0,.bool false,.int .i64 0,.int .i64 0,.bool false]),[]⟩,⟨.tup [],[([4],some (.cells [.i 0,.i 0,.i 0,.i 0,.i 0,.i 0,.i 0,.i 0,.b false,.i 0,.i 0,.b false] 0))]⟩]<|Rk<|Runs.ret ?_
           cases h
           exact Fq
theorem eu (i_:Inst) (k_:Int) (i2:Inst) (b_4:Operand) (k1:Int) (t6:Int) (t60:Bool) (r:Operand) (h:bi i2 b_4 k1 t6 t60=some r):Runs L zr (dw i2 b_4 k1 t6 t60) (kB 0 (kS L pf (cS i_ k_ r))):=by
 unfold bi at h
 cases hb_12:(t60:Bool) with
 | true =>
  replace h:=aa hb_12 h
  refine Ct<|Sq<|Ro<|Rc 8 [vi k1,vi (IntKind.wrap .i64 (k1 - 11)),vp [2] 0 8,vw i2.Imm,vi (IntKind.wrap .i64 i2.Imm),⟨.d (.agg [.int .i64 (IntKind.wrap .i64 i2.Imm),.int .i64 0,.int .i64 0,.int .i64 0,.int .i64 0,.bool true]),[]⟩,⟨.d (.agg [.int .i64 5,.int .i64 0,.int .i64 8,.int .i64 (IntKind.wrap .i64 i2.Imm),.int .i64 0,.int .i64 0,.int .i64 0,.int .i64 0,.bool true,.int .i64 (IntKind.wrap .i64 (k1 - 11)),.int .i64 0,.bool false]),[]⟩,⟨.tup [],[([4],some (.cells [.i 5,.i 0,.i 8,.i (IntKind.wrap .i64 i2.Imm),.i 0,.i 0,.i 0,.i 0,.b true,.i (IntKind.wrap .i64 (k1 - 11)),.i 0,.b false] 0))]⟩]<|Rk<|Runs.ret<|aj<|ae ?_
  cases h
  exact Fq
 | false =>
  replace h:=ab hb_12 h
  refine Cf<|Sq<|Sq<|Ro<|Rc 2 [vb (t6==14),vb (t6==14)]<|Rk ?_
  cases hb_13:((t6==14):Bool) with
  | true =>
   replace h:=aa hb_13 h
   refine Ct<|Runs.skip<|ai<|Runs.canon (dx i2 b_4 k1 t6 true) Cz ?_
   exact ep i_ k_ i2 b_4 k1 t6 true r h
  | false =>
   replace h:=ab hb_13 h
   refine Cf<|Ro<|Rc 2 [vb (t6==15),vb (t6==15)]<|Rk<|Runs.canon (dx i2 b_4 k1 t6 (t6==15)) Cz ?_
   exact ep i_ k_ i2 b_4 k1 t6 (t6==15) r h
theorem ez (i_:Inst) (k_:Int) (i2:Inst) (b_4:Operand) (k1:Int) (t6:Int) (t42:Bool) (r:Operand) (h:bj i2 b_4 k1 t6 t42=some r):Runs L zs (dv i2 b_4 k1 t6 t42) (kB 0 (kS L pf (cS i_ k_ r))):=by
 unfold bj at h
 cases hb_9:(t42:Bool) with
 | true =>
  replace h:=aa hb_9 h
  refine Ct<|Sq<|Ro<|Rc 2 [vp [2] 0 8,vw i2.Imm] ?_
  obtain ⟨r_3,hr_3,h⟩:=ah h
  have hc_3:=dj i2.Imm r_3 hr_3
  refine Rt (some 47) (.callf 38) [] none [.w i2.Imm] (.d (Operand.d r_3)) [] (cc hc_3)<|Rc 1 [⟨.tup [],[([4],some (.cells [.i r_3.Kind,.i r_3.N,.i r_3.RM,.i r_3.V.N,.i r_3.V.From,.i r_3.V.Which,.i r_3.V.Type_,.i r_3.V.Wants,.b r_3.V.Known,.i r_3.Type_,.i r_3.Over,.b r_3.Short] 0))]⟩]<|Rk<|Runs.ret<|aj<|ae ?_
  cases h
  exact Fq
 | false =>
  replace h:=ab hb_9 h
  refine Cf<|Sq<|Ro<|Rc 2 [vb (t6==8),vb (t6==8)]<|Rk ?_
  cases hb_10:((t6==8):Bool) with
  | true =>
   replace h:=aa hb_10 h
   refine Ct<|Sq<|Ro<|Rc 2 [vp [2] 0 8,vw i2.Imm] ?_
   obtain ⟨r_4,hr_4,h⟩:=ah h
   have hc_4:=dj i2.Imm r_4 hr_4
   refine Rt (some 52) (.callf 38) [] none [.w i2.Imm] (.d (Operand.d r_4)) [] (cc hc_4)<|Rc 2 [⟨.ptr [5] 0 0,[([5],some (.cells [.i 0,.i 0,.i 0,.i 0,.i 0,.i 0,.i 0,.i 0,.b false,.i 0,.i 0,.b false] 0))]⟩,⟨.tup [],[([5],some (.cells [.i r_4.Kind,.i r_4.N,.i r_4.RM,.i r_4.V.N,.i r_4.V.From,.i r_4.V.Which,.i r_4.V.Type_,.i r_4.V.Wants,.b r_4.V.Known,.i r_4.Type_,.i r_4.Over,.b r_4.Short] 0))]⟩]<|Rk<|Sq<|Ro<|Rc 7 [vp [2] 0 8,vw i2.Imm,⟨.d (.int .i16 (IntKind.wrap .i16 i2.Imm)),[]⟩,vi (IntKind.wrap .i64 (IntKind.wrap .i16 i2.Imm)),vp [5] 0 3,vp [5] 0 3,⟨.tup [],[([5],some (.cells [.i r_4.Kind,.i r_4.N,.i r_4.RM,.i (IntKind.wrap .i64 (IntKind.wrap .i16 i2.Imm)),.i r_4.V.From,.i r_4.V.Which,.i r_4.V.Type_,.i r_4.V.Wants,.b r_4.V.Known,.i r_4.Type_,.i r_4.Over,.b r_4.Short] 0))]⟩]<|Rk<|Sq<|Ro<|Rc 2 [⟨.d (.agg [.int .i64 r_4.Kind,.int .i64 r_4.N,.int .i64 r_4.RM,.int .i64 (IntKind.wrap .i64 (IntKind.wrap .i16 i2.Imm)),.int .i64 r_4.V.From,.int .i64 r_4.V.Which,.int .i64 r_4.V.Type_,.int .i64 r_4.V.Wants,.bool r_4.V.Known,.int .i64 r_4.Type_,.int .i64 r_4.Over,.bool r_4.Short]),[]⟩,⟨.tup [],[([4],some (.cells [.i r_4.Kind,.i r_4.N,.i r_4.RM,.i (IntKind.wrap .i64 (IntKind.wrap .i16 i2.Imm)),.i r_4.V.From,.i r_4.V.Which,.i r_4.V.Type_,.i r_4.V.Wants,.b r_4.V.Known,.i r_4.Type_,.i r_4.Over,.b r_4.Short] 0))]⟩] ?_
   refine Rk<|Runs.ret<|aj<|ae ?_
   cases h
   exact Fq
  | false =>
   replace h:=ab hb_10 h
   refine Cf<|Sq<|Sq<|Ro<|Rc 2 [vb (t6==12),vb (t6==12)]<|Rk ?_
   cases hb_11:((t6==12):Bool) with
   | true =>
    replace h:=aa hb_11 h
    refine Ct<|Runs.skip<|ai<|Runs.canon (dw i2 b_4 k1 t6 true) Cz ?_
    exact eu i_ k_ i2 b_4 k1 t6 true r h
   | false =>
    replace h:=ab hb_11 h
    refine Cf<|Ro<|Rc 2 [vb (t6==13),vb (t6==13)]<|Rk<|Runs.canon (dw i2 b_4 k1 t6 (t6==13)) Cz ?_
    exact eu i_ k_ i2 b_4 k1 t6 (t6==13) r h
theorem jD (i_:Inst) (k_:Int) (r:Operand) (h:bw i_ k_=some r):Runs L F17.body ⟨a9 [.d (Inst.d i_),.i k_] 0,ay (fun _=>none) []⟩ (cS i_ k_ r):=by
 unfold bw at h
 refine Sq<|Ro<|Rc 2 [⟨.ptr [2] 0 0,[([2],some (.cells [.b i_.Lock,.i i_.Rep,.i i_.Seg,.y i_.Op,.i i_.Mod,.i i_.Reg,.i i_.RM,.w i_.Disp,.w i_.Imm,.w i_.Sel] 0))]⟩,⟨.ptr [4] 0 0,[([4],some (.cells [.i 0,.i 0,.i 0,.i 0,.i 0,.i 0,.i 0,.i 0,.b false,.i 0,.i 0,.b false] 0))]⟩]<|Rk<|Sq<|Sq<|Ro<|Rc 1 [vi k_]<|Rk<|Runs.block<|Sq<|Ro<|Rc 2 [vb (k_==1),vb (k_==1)]<|Rk ?_
 cases hb_1:((k_==1):Bool) with
 | true =>
  replace h:=aa hb_1 h
  refine Ct<|Sq<|Sq<|Ro<|Rc 3 [vp [2] 0 4,vi i_.Mod,vb (i_.Mod==3)]<|Rk ?_
  cases hb_2:((i_.Mod==3):Bool) with
  | true =>
   replace h:=aa hb_2 h
   refine Ct<|Sq<|Ro<|Rc 4 [vp [2] 0 6,vi i_.RM,⟨.d (.agg [.int .i64 1,.int .i64 i_.RM,.int .i64 0,.int .i64 0,.int .i64 0,.int .i64 0,.int .i64 0,.int .i64 0,.bool false,.int .i64 0,.int .i64 0,.bool false]),[]⟩,⟨.tup [],[([4],some (.cells [.i 1,.i i_.RM,.i 0,.i 0,.i 0,.i 0,.i 0,.i 0,.b false,.i 0,.i 0,.b false] 0))]⟩]<|Rk<|Runs.ret<|ae<|aj<|ae ?_
   cases h
   exact Fq
  | false =>
   replace h:=ab hb_2 h
   refine Cf<|Runs.skip<|ai<|Sq<|Ro<|Rc 1 [⟨.d (Inst.d i_),[]⟩] ?_
   obtain ⟨r_1,hr_1,h⟩:=ah h
   have hc_1:=di i_ 1 r_1 hr_1
   refine Rt (some 16) (.callf 37) [] none [.d (Inst.d i_),.i 1] (.d (Operand.d r_1)) [] (cc hc_1)<|Rc 1 [⟨.tup [],[([4],some (.cells [.i r_1.Kind,.i r_1.N,.i r_1.RM,.i r_1.V.N,.i r_1.V.From,.i r_1.V.Which,.i r_1.V.Type_,.i r_1.V.Wants,.b r_1.V.Known,.i r_1.Type_,.i r_1.Over,.b r_1.Short] 0))]⟩]<|Rk<|Runs.ret<|aj<|ae ?_
   cases h
   exact Fq
 | false =>
  replace h:=ab hb_1 h
  refine Cf<|Sq<|Ro<|Rc 2 [vb (k_==2),vb (k_==2)]<|Rk ?_
  cases hb_3:((k_==2):Bool) with
  | true =>
   replace h:=aa hb_3 h
   refine Ct<|Sq<|Sq<|Ro<|Rc 3 [vp [2] 0 4,vi i_.Mod,vb (i_.Mod==3)]<|Rk ?_
   cases hb_4:((i_.Mod==3):Bool) with
   | true =>
    replace h:=aa hb_4 h
    refine Ct<|Sq<|Ro<|Rc 4 [vp [2] 0 6,vi i_.RM,⟨.d (.agg [.int .i64 2,.int .i64 i_.RM,.int .i64 0,.int .i64 0,.int .i64 0,.int .i64 0,.int .i64 0,.int .i64 0,.bool false,.int .i64 0,.int .i64 0,.bool false]),[]⟩,⟨.tup [],[([4],some (.cells [.i 2,.i i_.RM,.i 0,.i 0,.i 0,.i 0,.i 0,.i 0,.b false,.i 0,.i 0,.b false] 0))]⟩]<|Rk<|Runs.ret<|ae<|aj<|ae ?_
    cases h
    exact Fq
   | false =>
    replace h:=ab hb_4 h
    refine Cf<|Runs.skip<|ai<|Sq<|Ro<|Rc 1 [⟨.d (Inst.d i_),[]⟩] ?_
    obtain ⟨r_2,hr_2,h⟩:=ah h
    have hc_2:=di i_ 2 r_2 hr_2
    refine Rt (some 26) (.callf 37) [] none [.d (Inst.d i_),.i 2] (.d (Operand.d r_2)) [] (cc hc_2)<|Rc 1 [⟨.tup [],[([4],some (.cells [.i r_2.Kind,.i r_2.N,.i r_2.RM,.i r_2.V.N,.i r_2.V.From,.i r_2.V.Which,.i r_2.V.Type_,.i r_2.V.Wants,.b r_2.V.Known,.i r_2.Type_,.i r_2.Over,.b r_2.Short] 0))]⟩]<|Rk<|Runs.ret<|aj<|ae ?_
    cases h
    exact Fq
  | false =>
   replace h:=ab hb_3 h
   refine Cf<|Sq<|Ro<|Rc 2 [vb (k_==3),vb (k_==3)]<|Rk ?_
   cases hb_5:((k_==3):Bool) with
   | true =>
    replace h:=aa hb_5 h
    refine Ct<|Sq<|Ro<|Rc 4 [vp [2] 0 5,vi i_.Reg,⟨.d (.agg [.int .i64 1,.int .i64 i_.Reg,.int .i64 0,.int .i64 0,.int .i64 0,.int .i64 0,.int .i64 0,.int .i64 0,.bool false,.int .i64 0,.int .i64 0,.bool false]),[]⟩,⟨.tup [],[([4],some (.cells [.i 1,.i i_.Reg,.i 0,.i 0,.i 0,.i 0,.i 0,.i 0,.b false,.i 0,.i 0,.b false] 0))]⟩]<|Rk<|Runs.ret<|aj<|ae ?_
    cases h
    exact Fq
   | false =>
    replace h:=ab hb_5 h
    refine Cf<|Sq<|Ro<|Rc 2 [vb (k_==4),vb (k_==4)]<|Rk ?_
    cases hb_6:((k_==4):Bool) with
    | true =>
     replace h:=aa hb_6 h
     refine Ct<|Sq<|Ro<|Rc 4 [vp [2] 0 5,vi i_.Reg,⟨.d (.agg [.int .i64 2,.int .i64 i_.Reg,.int .i64 0,.int .i64 0,.int .i64 0,.int .i64 0,.int .i64 0,.int .i64 0,.bool false,.int .i64 0,.int .i64 0,.bool false]),[]⟩,⟨.tup [],[([4],some (.cells [.i 2,.i i_.Reg,.i 0,.i 0,.i 0,.i 0,.i 0,.i 0,.b false,.i 0,.i 0,.b false] 0))]⟩]<|Rk<|Runs.ret<|aj<|ae ?_
     cases h
     exact Fq
    | false =>
     replace h:=ab hb_6 h
     refine Cf<|Sq<|Ro<|Rc 2 [vb (k_==5),vb (k_==5)]<|Rk ?_
     cases hb_7:((k_==5):Bool) with
     | true =>
      replace h:=aa hb_7 h
      refine Ct<|Sq<|Ro<|Rc 4 [vp [2] 0 5,vi i_.Reg,⟨.d (.agg [.int .i64 3,.int .i64 i_.Reg,.int .i64 0,.int .i64 0,.int .i64 0,.int .i64 0,.int .i64 0,.int .i64 0,.bool false,.int .i64 0,.int .i64 0,.bool false]),[]⟩,⟨.tup [],[([4],some (.cells [.i 3,.i i_.Reg,.i 0,.i 0,.i 0,.i 0,.i 0,.i 0,.b false,.i 0,.i 0,.b false] 0))]⟩]<|Rk<|Runs.ret<|aj<|ae ?_
      cases h
      exact Fq
     | false =>
      replace h:=ab hb_7 h
      refine Cf<|Sq<|Sq<|Ro<|Rc 2 [vb (k_==6),vb (k_==6)]<|Rk ?_
      cases hb_8:((k_==6):Bool) with
      | true =>
       replace h:=aa hb_8 h
       refine Ct<|Runs.skip<|ai<|Runs.canon (dv i_ ({ Kind:=0,N:=0,RM:=0,V:=({ N:=0,From:=0,Which:=0,Type_:=0,Wants:=0,Known:=false }:api_Value),Type_:=0,Over:=0,Short:=false }:Operand) k_ k_ true) Cz ?_
       exact ez i_ k_ i_ ({ Kind:=0,N:=0,RM:=0,V:=({ N:=0,From:=0,Which:=0,Type_:=0,Wants:=0,Known:=false }:api_Value),Type_:=0,Over:=0,Short:=false }:Operand) k_ k_ true r h
      | false =>
       replace h:=ab hb_8 h
       refine Cf<|Ro<|Rc 2 [vb (k_==7),vb (k_==7)]<|Rk<|Runs.canon (dv i_ ({ Kind:=0,N:=0,RM:=0,V:=({ N:=0,From:=0,Which:=0,Type_:=0,Wants:=0,Known:=false }:api_Value),Type_:=0,Over:=0,Short:=false }:Operand) k_ k_ (k_==7)) Cz ?_
       exact ez i_ k_ i_ ({ Kind:=0,N:=0,RM:=0,V:=({ N:=0,From:=0,Which:=0,Type_:=0,Wants:=0,Known:=false }:api_Value),Type_:=0,Over:=0,Short:=false }:Operand) k_ k_ (k_==7) r h
theorem f9 (i_:Inst) (k_:Int) (r:Operand) (h:bw i_ k_=some r):L 17 [.d (Inst.d i_),.i k_]=some (.d (Operand.d r),[.d (Inst.d i_),.i k_]):=by
 obtain ⟨p,⟨hne,hf⟩,hr⟩:=jD i_ k_ r h
 obtain ⟨k,hk⟩:=aD (F:=F17) (args:=[.d (Inst.d i_),.i k_]) (ap:=[.d (Inst.d i_),.i k_]) (bx0:=ay (fun _=>none) []) rfl rfl (by kernel_rfl) ⟨p,⟨hne,hf⟩,hr⟩
 exact aA (k:=k) rfl hk
def mS (i_:Inst) (r:((A2 Operand) × Bool)) (p:Out × St):Prop:=(∀ i,p.1≠.exit i)∧aV F6 [.d (Inst.d i_)] p.2=some (.tup [.d (.agg [.int .i64 r.1.a0.Kind,.int .i64 r.1.a0.N,.int .i64 r.1.a0.RM,.int .i64 r.1.a0.V.N,.int .i64 r.1.a0.V.From,.int .i64 r.1.a0.V.Which,.int .i64 r.1.a0.V.Type_,.int .i64 r.1.a0.V.Wants,.bool r.1.a0.V.Known,.int .i64 r.1.a0.Type_,.int .i64 r.1.a0.Over,.bool r.1.a0.Short,.int .i64 r.1.a1.Kind,.int .i64 r.1.a1.N,.int .i64 r.1.a1.RM,.int .i64 r.1.a1.V.N,.int .i64 r.1.a1.V.From,.int .i64 r.1.a1.V.Which,.int .i64 r.1.a1.V.Type_,.int .i64 r.1.a1.V.Wants,.bool r.1.a1.V.Known,.int .i64 r.1.a1.Type_,.int .i64 r.1.a1.Over,.bool r.1.a1.Short]),.b r.2],[.d (Inst.d i_)])
theorem lC (i_:Inst) (r:((A2 Operand) × Bool)) (h:cL i_=some r):Runs L F6.body ⟨a9 [.d (Inst.d i_)] 0,ay (fun _=>none) []⟩ (mS i_ r):=by
 unfold cL at h
 refine Sq<|Ro<|Rc 3 [⟨.ptr [1] 0 0,[([1],some (.cells [.b i_.Lock,.i i_.Rep,.i i_.Seg,.y i_.Op,.i i_.Mod,.i i_.Reg,.i i_.RM,.w i_.Disp,.w i_.Imm,.w i_.Sel] 0))]⟩,⟨.ptr [2] 0 0,[([2],some (.cells [.i 0,.i 0,.i 0,.i 0,.i 0,.i 0,.i 0,.i 0,.b false,.i 0,.i 0,.b false,.i 0,.i 0,.i 0,.i 0,.i 0,.i 0,.i 0,.i 0,.b false,.i 0,.i 0,.b false] 0))]⟩,vb false]<|Rk<|Sq<|Ro<|Rc 1 [⟨.d (Inst.d i_),[]⟩] ?_
 obtain ⟨r_1,hr_1,h⟩:=ah h
 have hc_1:=dh i_ r_1 hr_1
 refine Rt (some 8) (.callf 5) [] none [.d (Inst.d i_)] (.tup [.d (Row.d r_1.1),.b r_1.2]) [] (cc hc_1)<|Rc 6 [⟨.tup [.d (Row.d r_1.1),.b r_1.2],[]⟩,⟨.d (Row.d r_1.1),[]⟩,vb r_1.2,⟨.ptr [4] 0 0,[([4],some (.cells [.i 0,.i 0,.i 0,.b false] 0))]⟩,⟨.tup [],[([4],some (.cells [.i r_1.1.Name,.i r_1.1.A,.i r_1.1.B,.b r_1.1.Mod] 0))]⟩,vb r_1.2]<|Rk<|Sq<|Ro<|Rc 3 [⟨.d (Inst.d i_),[]⟩,vp [4] 0 1,vi r_1.1.A] ?_
 obtain ⟨r_2,hr_2,h⟩:=ah h
 have hc_2:=f9 i_ r_1.1.A r_2 hr_2
 refine Rt (some 14) (.callf 17) [] (some []) [.d (Inst.d i_),.i r_1.1.A] (.d (Operand.d r_2)) [] (cc hc_2)<|Rc 3 [⟨.d (Inst.d i_),[]⟩,vp [4] 0 2,vi r_1.1.B] ?_
 obtain ⟨r_3,hr_3,h⟩:=ah h
 have hc_3:=f9 i_ r_1.1.B r_3 hr_3
 refine Rt (some 18) (.callf 17) [] (some []) [.d (Inst.d i_),.i r_1.1.B] (.d (Operand.d r_3)) [] (cc hc_3)<|Rc 5 [⟨.d (.agg [.int .i64 r_2.Kind,.int .i64 r_2.N,.int .i64 r_2.RM,.int .i64 r_2.V.N,.int .i64 r_2.V.From,.int .i64 r_2.V.Which,.int .i64 r_2.V.Type_,.int .i64 r_2.V.Wants,.bool r_2.V.Known,.int .i64 r_2.Type_,.int .i64 r_2.Over,.bool r_2.Short,.int .i64 r_3.Kind,.int .i64 r_3.N,.int .i64 r_3.RM,.int .i64 r_3.V.N,.int .i64 r_3.V.From,.int .i64 r_3.V.Which,.int .i64 r_3.V.Type_,.int .i64 r_3.V.Wants,.bool r_3.V.Known,.int .i64 r_3.Type_,.int .i64 r_3.Over,.bool r_3.Short]),[]⟩,vp [4] 0 1,vi r_1.1.A,vb (r_1.1.A != 9),vb (r_1.1.A != 9)] ?_
 cases hb_1:((r_1.1.A != 9):Bool) with
 | true =>
  replace h:=aa hb_1 h
  refine Rc 5 [vp [4] 0 1,vi r_1.1.A,vb (r_1.1.A != 10),vb (r_1.1.A != 10),vb (r_1.1.A != 10)] ?_
  cases hb_2:((r_1.1.A != 10):Bool) with
  | true =>
   replace h:=aa hb_2 h
   refine Rc 6 [vp [4] 0 1,vi r_1.1.A,vb (r_1.1.A != 11),vb (r_1.1.A != 11),⟨.tup [],[([2],some (.cells [.i r_2.Kind,.i r_2.N,.i r_2.RM,.i r_2.V.N,.i r_2.V.From,.i r_2.V.Which,.i r_2.V.Type_,.i r_2.V.Wants,.b r_2.V.Known,.i r_2.Type_,.i r_2.Over,.b r_2.Short,.i r_3.Kind,.i r_3.N,.i r_3.RM,.i r_3.V.N,.i r_3.V.From,.i r_3.V.Which,.i r_3.V.Type_,.i r_3.V.Wants,.b r_3.V.Known,.i r_3.Type_,.i r_3.Over,.b r_3.Short] 0))]⟩,vb (r_1.1.A != 11)]<|Rk<|Runs.ret ?_
   cases h
   exact Fq
  | false =>
   replace h:=ab hb_2 h
   refine Rc 6 [vn,vn,vn,vb false,⟨.tup [],[([2],some (.cells [.i r_2.Kind,.i r_2.N,.i r_2.RM,.i r_2.V.N,.i r_2.V.From,.i r_2.V.Which,.i r_2.V.Type_,.i r_2.V.Wants,.b r_2.V.Known,.i r_2.Type_,.i r_2.Over,.b r_2.Short,.i r_3.Kind,.i r_3.N,.i r_3.RM,.i r_3.V.N,.i r_3.V.From,.i r_3.V.Which,.i r_3.V.Type_,.i r_3.V.Wants,.b r_3.V.Known,.i r_3.Type_,.i r_3.Over,.b r_3.Short] 0))]⟩,vb false]<|Rk<|Runs.ret ?_
   cases h
   exact Fq
 | false =>
  replace h:=ab hb_1 h
  refine Rc 11 [vn,vn,vn,vb false,vb false,vn,vn,vn,vb false,⟨.tup [],[([2],some (.cells [.i r_2.Kind,.i r_2.N,.i r_2.RM,.i r_2.V.N,.i r_2.V.From,.i r_2.V.Which,.i r_2.V.Type_,.i r_2.V.Wants,.b r_2.V.Known,.i r_2.Type_,.i r_2.Over,.b r_2.Short,.i r_3.Kind,.i r_3.N,.i r_3.RM,.i r_3.V.N,.i r_3.V.From,.i r_3.V.Which,.i r_3.V.Type_,.i r_3.V.Wants,.b r_3.V.Known,.i r_3.Type_,.i r_3.Over,.b r_3.Short] 0))]⟩,vb false]<|Rk<|Runs.ret ?_
  cases h
  exact Fq
theorem mT (i_:Inst) (r:((A2 Operand) × Bool)) (h:cL i_=some r):L 6 [.d (Inst.d i_)]=some (.tup [.d (.agg [.int .i64 r.1.a0.Kind,.int .i64 r.1.a0.N,.int .i64 r.1.a0.RM,.int .i64 r.1.a0.V.N,.int .i64 r.1.a0.V.From,.int .i64 r.1.a0.V.Which,.int .i64 r.1.a0.V.Type_,.int .i64 r.1.a0.V.Wants,.bool r.1.a0.V.Known,.int .i64 r.1.a0.Type_,.int .i64 r.1.a0.Over,.bool r.1.a0.Short,.int .i64 r.1.a1.Kind,.int .i64 r.1.a1.N,.int .i64 r.1.a1.RM,.int .i64 r.1.a1.V.N,.int .i64 r.1.a1.V.From,.int .i64 r.1.a1.V.Which,.int .i64 r.1.a1.V.Type_,.int .i64 r.1.a1.V.Wants,.bool r.1.a1.V.Known,.int .i64 r.1.a1.Type_,.int .i64 r.1.a1.Over,.bool r.1.a1.Short]),.b r.2],[.d (Inst.d i_)]):=by
 obtain ⟨p,⟨hne,hf⟩,hr⟩:=lC i_ r h
 obtain ⟨k,hk⟩:=aD (F:=F6) (args:=[.d (Inst.d i_)]) (ap:=[.d (Inst.d i_)]) (bx0:=ay (fun _=>none) []) rfl rfl (by kernel_rfl) ⟨p,⟨hne,hf⟩,hr⟩
 exact aA (k:=k) rfl hk
def ir (s0:(List UInt8)) (t3:(List UInt8)) (t8:Bool):St:=⟨tab [(0,.d (.str s0)),(3,.d (.str t3)),(8,.b t8)],be []⟩
def iu (s0:(List UInt8)) (t3:(List UInt8)) (t11:Bool):St:=⟨tab [(0,.d (.str s0)),(3,.d (.str t3)),(11,.b t11)],be []⟩
def jE (s_:(List UInt8)) (r:(List UInt8)) (p:Out × St):Prop:=(∀ i,p.1≠.exit i)∧aV F67 [.d (.str s_)] p.2=some (.d (.str r),[.d (.str s_)])
theorem iL (s_:(List UInt8)) (s0:(List UInt8)) (t3:(List UInt8)) (t11:Bool) (r:(List UInt8)) (h:dW s0 t3 t11=some r):Runs L zT (iu s0 t3 t11) (kB 0 (kS L tg (jE s_ r))):=by
 unfold dW at h
 cases hb_6:(t11:Bool) with
 | true =>
  replace h:=aa hb_6 h
  refine Ct<|Sq<|Ro<|Rc 1 [⟨.d (.str ([74,78,66]:List UInt8)),[]⟩]<|Rk<|Runs.ret<|aj<|ae ?_
  cases h
  exact Fq
 | false =>
  replace h:=ab hb_6 h
  refine Cf<|Sq<|Ro<|Rc 2 [vb (t3==([74,78,65]:List UInt8)),vb (t3==([74,78,65]:List UInt8))]<|Rk ?_
  cases hb_7:((t3==([74,78,65]:List UInt8)):Bool) with
  | true =>
   replace h:=aa hb_7 h
   refine Ct<|Sq<|Ro<|Rc 1 [⟨.d (.str ([74,66,69]:List UInt8)),[]⟩]<|Rk<|Runs.ret<|aj<|ae ?_
   cases h
   exact Fq
  | false =>
   replace h:=ab hb_7 h
   refine Cf<|Sq<|Ro<|Rc 2 [vb (t3==([74,78,66,69]:List UInt8)),vb (t3==([74,78,66,69]:List UInt8))]<|Rk ?_
   cases hb_8:((t3==([74,78,66,69]:List UInt8)):Bool) with
   | true =>
    replace h:=aa hb_8 h
    refine Ct<|Sq<|Ro<|Rc 1 [⟨.d (.str ([74,65]:List UInt8)),[]⟩]<|Rk<|Runs.ret<|aj<|ae ?_
    cases h
    exact Fq
   | false =>
    replace h:=ab hb_8 h
    refine Cf<|Sq<|Ro<|Rc 2 [vb (t3==([74,80,69]:List UInt8)),vb (t3==([74,80,69]:List UInt8))]<|Rk ?_
    cases hb_9:((t3==([74,80,69]:List UInt8)):Bool) with
    | true =>
     replace h:=aa hb_9 h
     refine Ct<|Sq<|Ro<|Rc 1 [⟨.d (.str ([74,80]:List UInt8)),[]⟩]<|Rk<|Runs.ret<|aj<|ae ?_
     cases h
     exact Fq
    | false =>
     replace h:=ab hb_9 h
     refine Cf<|Sq<|Ro<|Rc 2 [vb (t3==([74,80,79]:List UInt8)),vb (t3==([74,80,79]:List UInt8))]<|Rk ?_
     cases hb_10:((t3==([74,80,79]:List UInt8)):Bool) with
     | true =>
      replace h:=aa hb_10 h
      refine Ct<|Sq<|Ro<|Rc 1 [⟨.d (.str ([74,78,80]:List UInt8)),[]⟩]<|Rk<|Runs.ret<|aj<|ae ?_
      cases h
      exact Fq
     | false =>
      replace h:=ab hb_10 h
      refine Cf<|Sq<|Ro<|Rc 2 [vb (t3==([74,78,71,69]:List UInt8)),vb (t3==([74,78,71,69]:List UInt8))]<|Rk ?_
      cases hb_11:((t3==([74,78,71,69]:List UInt8)):Bool) with
      | true =>
       replace h:=aa hb_11 h
       refine Ct<|Sq<|Ro<|Rc 1 [⟨.d (.str ([74,76]:List UInt8)),[]⟩]<|Rk<|Runs.ret<|aj<|ae ?_
       cases h
       exact Fq
      | false =>
       replace h:=ab hb_11 h
       refine Cf<|Sq<|Ro<|Rc 2 [vb (t3==([74,78,76]:List UInt8)),vb (t3==([74,78,76]:List UInt8))]<|Rk ?_
       cases hb_12:((t3==([74,78,76]:List UInt8)):Bool) with
       | true =>
        replace h:=aa hb_12 h
        refine Ct<|Sq<|Ro<|Rc 1 [⟨.d (.str ([74,71,69]:List UInt8)),[]⟩]<|Rk<|Runs.ret<|aj<|ae ?_
        cases h
        exact Fq
       | false =>
        replace h:=ab hb_12 h
        refine Cf<|Sq<|Ro<|Rc 2 [vb (t3==([74,78,71]:List UInt8)),vb (t3==([74,78,71]:List UInt8))]<|Rk ?_
        cases hb_13:((t3==([74,78,71]:List UInt8)):Bool) with
        | true =>
         replace h:=aa hb_13 h
         refine Ct<|Sq<|Ro<|Rc 1 [⟨.d (.str ([74,76,69]:List UInt8)),[]⟩]<|Rk<|Runs.ret<|aj<|ae ?_
         cases h
         exact Fq
        | false =>
         replace h:=ab hb_13 h
         refine Cf<|Sq<|Ro<|Rc 2 [vb (t3==([74,78,76,69]:List UInt8)),vb (t3==([74,78,76,69]:List UInt8))]<|Rk ?_
         cases hb_14:((t3==([74,78,76,69]:List UInt8)):Bool) with
         | true =>
          replace h:=aa hb_14 h
          refine Ct<|Sq<|Ro<|Rc 1 [⟨.d (.str ([74,71]:List UInt8)),[]⟩]<|Rk<|Runs.ret<|aj<|ae ?_
          cases h
          exact Fq
         | false =>
          replace h:=ab hb_14 h
          refine Cf<|Sq<|Ro<|Rc 2 [vb (t3==([76,79,79,80,69]:List UInt8)),vb (t3==([76,79,79,80,69]:List UInt8))]<|Rk ?_
          cases hb_15:((t3==([76,79,79,80,69]:List UInt8)):Bool) with
          | true =>
           replace h:=aa hb_15 h
           refine Ct<|Sq<|Ro<|Rc 1 [⟨.d (.str ([76,79,79,80,90]:List UInt8)),[]⟩]<|Rk<|Runs.ret<|aj<|ae ?_
           cases h
           exact Fq
          | false =>
           replace h:=ab hb_15 h
           refine Cf<|Sq<|Ro<|Rc 2 [vb (t3==([76,79,79,80,78,69]:List UInt8)),vb (t3==([76,79,79,80,78,69]:List UInt8))]<|Rk ?_
           cases hb_16:((t3==([76,79,79,80,78,69]:List UInt8)):Bool) with
           | true =>
            replace h:=aa hb_16 h
            refine Ct<|Sq<|Ro<|Rc 1 [⟨.d (.str ([76,79,79,80,78,90]:List UInt8)),[]⟩]<|Rk<|Runs.ret<|aj<|ae ?_
            cases h
            exact Fq
           | false =>
            replace h:=ab hb_16 h
            refine Cf<|Sq<|Ro<|Rc 2 [vb (t3==([83,65,76]:List UInt8)),vb (t3==([83,65,76]:List UInt8))]<|Rk ?_
            cases hb_17:((t3==([83,65,76]:List UInt8)):Bool) with
            | true =>
             replace h:=aa hb_17 h
             refine Ct<|Sq<|Ro<|Rc 1 [⟨.d (.str ([83,72,76]:List UInt8)),[]⟩]<|Rk<|Runs.ret<|aj<|ae ?_
             cases h
             exact Fq
            | false =>
             replace h:=ab hb_17 h
             refine Cf<|Runs.skip<|az<|ai<|Sq<|Ro<|Rc 2 [⟨.d (.str s0),[]⟩,⟨.d (.str s0),[]⟩]<|Rk<|Runs.ret ?_
             cases h
             exact Fq
theorem iM (s_:(List UInt8)) (s0:(List UInt8)) (t3:(List UInt8)) (t8:Bool) (r:(List UInt8)) (h:dX s0 t3 t8=some r):Runs L zU (ir s0 t3 t8) (kB 0 (kS L tg (jE s_ r))):=by
 unfold dX at h
 cases hb_4:(t8:Bool) with
 | true =>
  replace h:=aa hb_4 h
  refine Ct<|Sq<|Ro<|Rc 1 [⟨.d (.str ([74,66]:List UInt8)),[]⟩]<|Rk<|Runs.ret<|aj<|ae ?_
  cases h
  exact Fq
 | false =>
  replace h:=ab hb_4 h
  refine Cf<|Sq<|Sq<|Ro<|Rc 2 [vb (t3==([74,78,67]:List UInt8)),vb (t3==([74,78,67]:List UInt8))]<|Rk ?_
  cases hb_5:((t3==([74,78,67]:List UInt8)):Bool) with
  | true =>
   replace h:=aa hb_5 h
   refine Ct<|Runs.skip<|ai<|Runs.canon (iu s0 t3 true) Cz ?_
   exact iL s_ s0 t3 true r h
  | false =>
   replace h:=ab hb_5 h
   refine Cf<|Ro<|Rc 2 [vb (t3==([74,65,69]:List UInt8)),vb (t3==([74,65,69]:List UInt8))]<|Rk<|Runs.canon (iu s0 t3 (t3==([74,65,69]:List UInt8))) Cz ?_
   exact iL s_ s0 t3 (t3==([74,65,69]:List UInt8)) r h
theorem q6 (s_:(List UInt8)) (r:(List UInt8)) (h:dY s_=some r):Runs L F67.body ⟨a9 [.d (.str s_)] 0,ay (fun _=>none) []⟩ (jE s_ r):=by
 unfold dY at h
 refine Sq<|Ro<|Rc 1 [⟨.d (.str ([]:List UInt8)),[]⟩]<|Rk<|Sq<|Sq<|Ro<|Rc 1 [⟨.d (.str s_),[]⟩]<|Rk<|Runs.block<|Sq<|Ro<|Rc 2 [vb (s_==([74,69]:List UInt8)),vb (s_==([74,69]:List UInt8))]<|Rk ?_
 cases hb_1:((s_==([74,69]:List UInt8)):Bool) with
 | true =>
  replace h:=aa hb_1 h
  refine Ct<|Sq<|Ro<|Rc 1 [⟨.d (.str ([74,90]:List UInt8)),[]⟩]<|Rk<|Runs.ret<|aj<|ae ?_
  cases h
  exact Fq
 | false =>
  replace h:=ab hb_1 h
  refine Cf<|Sq<|Ro<|Rc 2 [vb (s_==([74,78,69]:List UInt8)),vb (s_==([74,78,69]:List UInt8))]<|Rk ?_
  cases hb_2:((s_==([74,78,69]:List UInt8)):Bool) with
  | true =>
   replace h:=aa hb_2 h
   refine Ct<|Sq<|Ro<|Rc 1 [⟨.d (.str ([74,78,90]:List UInt8)),[]⟩]<|Rk<|Runs.ret<|aj<|ae ?_
   cases h
   exact Fq
  | false =>
   replace h:=ab hb_2 h
   refine Cf<|Sq<|Sq<|Ro<|Rc 2 [vb (s_==([74,67]:List UInt8)),vb (s_==([74,67]:List UInt8))]<|Rk ?_
   cases hb_3:((s_==([74,67]:List UInt8)):Bool) with
   | true =>
    replace h:=aa hb_3 h
    refine Ct<|Runs.skip<|ai<|Runs.canon (ir s_ s_ true) Cz ?_
    exact iM s_ s_ s_ true r h
   | false =>
    replace h:=ab hb_3 h
    refine Cf<|Ro<|Rc 2 [vb (s_==([74,78,65,69]:List UInt8)),vb (s_==([74,78,65,69]:List UInt8))]<|Rk<|Runs.canon (ir s_ s_ (s_==([74,78,65,69]:List UInt8))) Cz ?_
    exact iM s_ s_ s_ (s_==([74,78,65,69]:List UInt8)) r h
theorem tz (s_:(List UInt8)) (r:(List UInt8)) (h:dY s_=some r):L 67 [.d (.str s_)]=some (.d (.str r),[.d (.str s_)]):=by
 obtain ⟨p,⟨hne,hf⟩,hr⟩:=q6 s_ r h
 obtain ⟨k,hk⟩:=aD (F:=F67) (args:=[.d (.str s_)]) (ap:=[.d (.str s_)]) (bx0:=ay (fun _=>none) []) rfl rfl (by kernel_rfl) ⟨p,⟨hne,hf⟩,hr⟩
 exact aA (k:=k) rfl hk
def jF (s0:(List UInt8)) (t5:(List (List UInt8))) (t6:Int) (t7:Int):St:=⟨tab [(0,.d (.str s0)),(5,.d (.sl (List.map D.str t5))),(6,.i t6),(7,.i t7)],be []⟩
def q7 :St:=⟨tab [],be []⟩
def uW (s_:(List UInt8)) (r:Int) (p:Out × St):Prop:=(∀ i,p.1≠.exit i)∧aV F66 [.d (.str s_)] p.2=some (.i r,[.d (.str s_)])
def nJ (s_:(List UInt8)) (s0:(List UInt8)) (t5:(List (List UInt8))) (t6:Int) (e:(Int ⊕ Unit)) (p:Out × St):Prop:=match e with
 | .inl x=>p.1=.ret∧aV F66 [.d (.str s_)] p.2=some (.i x,[.d (.str s_)])
 | .inr x=>p.1=.exit 0∧∃ g:Unit,Canon [] [] [] p.2 (q7)
theorem oY (s_:(List UInt8)) (s0:(List UInt8)) (t5:(List (List UInt8))) (t6:Int) (t7:Int) (r:(Lp Int (Int ⊕ Unit))) (h:bT s0 t5 t6 t7=some r):Runs L CN (jF s0 t5 t6 t7) (LQ [.frz 5] [0,5,6,7] [] (fun (x:Int) (g:Unit)=>jF s0 t5 t6 x) (nJ s_ s0 t5 t6) r):=by
 unfold bT at h
 refine Sq<|Ro<|Rc 1 [vb (decide (t7<t6))]<|Rk<|Sq ?_
 cases hb_1:((decide (t7<t6)):Bool) with
 | true =>
  replace h:=aa hb_1 h
  refine Ct<|Runs.skip<|ai<|Sq<|Runs.block<|Sq<|Ro<|Rc 1 [vi t7] ?_
  obtain ⟨z_1,hz_1,h⟩:=ah h
  refine Rt (some 10) (.iaddrS 1) [] none [.d (.sl (List.map D.str t5)),.i t7] (.elt (.str z_1) 0) [] (s5 hz_1 (fun _=>rfl))<|Rc 3 [⟨.d (.str z_1),[]⟩,vi t7,⟨.d (.str z_1),[]⟩]<|Rk<|Sq<|Ro<|Rc 3 [⟨.d (.str z_1),[]⟩,⟨.d (.str s0),[]⟩,vb (z_1==s0)]<|Rk ?_
  cases hb_2:((z_1==s0):Bool) with
  | true =>
   replace h:=aa hb_2 h
   refine Ct<|Sq<|Ro<|Rc 3 [vi t7,vi (IntKind.wrap .i64 (t7+1)),vi (IntKind.wrap .i64 (t7+1))]<|Rk<|Runs.ret<|aj<|ae ?_
   obtain rfl:=sj h
   exact ⟨nofun,rfl,(by kernel_rfl)⟩
  | false =>
   replace h:=ab hb_2 h
   refine Cf<|Runs.skip<|az<|ai<|Ro<|Rc 2 [vi (IntKind.wrap .i64 (t7+1)),vi (IntKind.wrap .i64 (t7+1))]<|Rd ?_
   obtain rfl:=sj h
   exact ⟨rfl,(),(Canon.same (by kernel_rfl) Cz)⟩
 | false =>
  replace h:=ab hb_1 h
  refine Cf<|Runs.exit<|bz ?_
  obtain rfl:=sj h
  exact ⟨nofun,rfl,(),Cz⟩
theorem tA (s_:(List UInt8)) (r:Int) (h:hD s_=some r):Runs L F66.body ⟨a9 [.d (.str s_)] 0,ay (fun _=>none) []⟩ (uW s_ r):=by
 unfold hD at h
 refine Sq<|Ro<|Rc 1 [vi 0]<|Rk<|Sq<|Sq<|Ro ?_
 obtain ⟨r_1,hr_1,h⟩:=ah h
 have hc_1:=oj qe r_1 hr_1
 refine Rt (some 5) (.callf 72) [] none [.d (.str qe)] (.ref [5] 0 0 (List.map D.str r_1).length 1) [([5],some (.arr (List.map D.str r_1) 0 false))] (jd (k9 (ws:=[]) (us:=[]) (by kernel_rfl) (cO (ws:=[]) (dP (by kernel_rfl)) gf) hc_1 (by kernel_rfl) (by kernel_rfl))) ?_
 refine Rt (some 6) .lenL [] none [.ref [5] 0 0 (List.map D.str r_1).length 1] (.i (r_1.length:Int)) [] (nj (e:=D.str) r_1 rfl)<|Rc 1 [vi 0]<|Rk<|Runs.block ?_
 obtain ⟨e_1,he_1,h⟩:=ah h
 refine Runs.loop (fun x:Int=>bT s_ r_1 (r_1.length:Int) x) (fun (x:Int) (g:Unit)=>jF s_ r_1 (r_1.length:Int) x) (nJ s_ s_ r_1 (r_1.length:Int)) (fun x g r hr=>oY s_ s_ r_1 (r_1.length:Int) x  r hr) () he_1 (Canon.cons (xo (e:=D.str) (l:=r_1) (id:=[5]) (v:=0) (n:=1) (fz:=false) (by kernel_rfl) (by kernel_rfl) rfl) Cz) ?_
 rintro ⟨o,s⟩ hp
 cases e_1 with
 | inl e_2 =>
  obtain ⟨ho,hf⟩:=hp
  have ho':o=.ret:=ho
  subst ho'
  refine aj<|ae ?_
  obtain rfl:=sj h
  exact ⟨Out.ret_ne,hf⟩
 | inr e_3 =>
  obtain ⟨ho,g_1,hk_1⟩:=hp
  have ho':o=.exit 0:=ho
  subst ho'
  refine cN<|ai<|Runs.canon _ hk_1<|Sq<|Ro<|Rc 1 [vi 0]<|Rk<|Runs.ret ?_
  cases h
  exact Fq
theorem uX (s_:(List UInt8)) (r:Int) (h:hD s_=some r):L 66 [.d (.str s_)]=some (.i r,[.d (.str s_)]):=by
 obtain ⟨p,⟨hne,hf⟩,hr⟩:=tA s_ r h
 obtain ⟨k,hk⟩:=aD (F:=F66) (args:=[.d (.str s_)]) (ap:=[.d (.str s_)]) (bx0:=ay (fun _=>none) []) rfl rfl (by kernel_rfl) ⟨p,⟨hne,hf⟩,hr⟩
 exact aA (k:=k) rfl hk
def uY (s_:(List UInt8)) (r:(Int × Int)) (p:Out × St):Prop:=(∀ i,p.1≠.exit i)∧aV F39 [.d (.str s_)] p.2=some (.tup [.i r.1,.i r.2],[.d (.str s_)])
theorem tB (s_:(List UInt8)) (r:(Int × Int)) (h:hH s_=some r):Runs L F39.body ⟨a9 [.d (.str s_)] 0,ay (fun _=>none) []⟩ (uY s_ r):=by
 unfold hH at h
 refine Sq<|Ro<|Rc 2 [vi 0,vi 0]<|Rk<|Sq<|Ro<|Rc 1 [⟨.d (.str s_),[]⟩] ?_
 obtain ⟨r_1,hr_1,h⟩:=ah h
 have hc_1:=tz s_ r_1 hr_1
 refine Rt (some 6) (.callf 67) [] none [.d (.str s_)] (.d (.str r_1)) [] (cc hc_1) ?_
 obtain ⟨r_2,hr_2,h⟩:=ah h
 have hc_2:=uX r_1 r_2 hr_2
 refine Rt (some 7) (.callf 66) [] none [.d (.str r_1)] (.i r_2) [] (cc hc_2)<|Rc 1 [vi r_2]<|Rk<|Sq<|Sq<|Ro<|Rc 1 [vi r_2]<|Rk<|Runs.block<|Sq<|Ro<|Rc 2 [vb (r_2==80),vb (r_2==80)]<|Rk ?_
 cases hb_1:((r_2==80):Bool) with
 | true =>
  replace h:=aa hb_1 h
  refine Ct<|Sq<|Ro<|Rc 3 [vi r_2,vi r_2,vi 81]<|Rk<|Runs.ret<|aj<|ae ?_
  cases h
  exact Fq
 | false =>
  replace h:=ab hb_1 h
  refine Cf<|Sq<|Ro<|Rc 2 [vb (r_2==39),vb (r_2==39)]<|Rk ?_
  cases hb_2:((r_2==39):Bool) with
  | true =>
   replace h:=aa hb_2 h
   refine Ct<|Sq<|Ro<|Rc 3 [vi r_2,vi r_2,vi 40]<|Rk<|Runs.ret<|aj<|ae ?_
   cases h
   exact Fq
  | false =>
   replace h:=ab hb_2 h
   refine Cf<|Runs.skip<|az<|ai<|Sq<|Ro<|Rc 3 [vi r_2,vi r_2,vi 0]<|Rk<|Runs.ret ?_
   cases h
   exact Fq
theorem uZ (s_:(List UInt8)) (r:(Int × Int)) (h:hH s_=some r):L 39 [.d (.str s_)]=some (.tup [.i r.1,.i r.2],[.d (.str s_)]):=by
 obtain ⟨p,⟨hne,hf⟩,hr⟩:=tB s_ r h
 obtain ⟨k,hk⟩:=aD (F:=F39) (args:=[.d (.str s_)]) (ap:=[.d (.str s_)]) (bx0:=ay (fun _=>none) []) rfl rfl (by kernel_rfl) ⟨p,⟨hne,hf⟩,hr⟩
 exact aA (k:=k) rfl hk
def q8 (op_:Int) (r:Bool) (p:Out × St):Prop:=(∀ i,p.1≠.exit i)∧aV F19 [.y op_] p.2=some (.b r,[.y op_])
theorem qz (op_:Int) (r:Bool) (h:dB op_=some r):Runs L F19.body ⟨a9 [.y op_] 0,ay (fun _=>none) []⟩ (q8 op_ r):=by
 unfold dB at h
 refine Sq<|Ro<|Rc 1 [vb false]<|Rk<|Sq<|Sq<|Ro<|Rc 1 [vy op_]<|Rk<|Runs.block<|Sq<|Sq<|Ro<|Rc 2 [vb (op_==128),vb (op_==128)]<|Rk ?_
 cases hb_1:((op_==128):Bool) with
 | true =>
  replace h:=aa hb_1 h
  refine Ct<|Runs.skip<|ai<|Ct<|Sq<|Ro<|Rc 1 [vb true]<|Rk<|Runs.ret<|aj<|ae ?_
  cases h
  exact Fq
 | false =>
  replace h:=ab hb_1 h
  refine Cf<|Sq<|Ro<|Rc 2 [vb (op_==129),vb (op_==129)]<|Rk ?_
  cases hb_2:((op_==129):Bool) with
  | true =>
   replace h:=aa hb_2 h
   refine Ct<|Runs.skip<|ai<|Ct<|Sq<|Ro<|Rc 1 [vb true]<|Rk<|Runs.ret<|aj<|ae ?_
   cases h
   exact Fq
  | false =>
   replace h:=ab hb_2 h
   refine Cf<|Sq<|Ro<|Rc 2 [vb (op_==131),vb (op_==131)]<|Rk ?_
   cases hb_3:((op_==131):Bool) with
   | true =>
    replace h:=aa hb_3 h
    refine Ct<|Runs.skip<|ai<|Ct<|Sq<|Ro<|Rc 1 [vb true]<|Rk<|Runs.ret<|aj<|ae ?_
    cases h
    exact Fq
   | false =>
    replace h:=ab hb_3 h
    refine Cf<|Sq<|Ro<|Rc 2 [vb (op_==143),vb (op_==143)]<|Rk ?_
    cases hb_4:((op_==143):Bool) with
    | true =>
     replace h:=aa hb_4 h
     refine Ct<|Runs.skip<|ai<|Ct<|Sq<|Ro<|Rc 1 [vb true]<|Rk<|Runs.ret<|aj<|ae ?_
     cases h
     exact Fq
    | false =>
     replace h:=ab hb_4 h
     refine Cf<|Sq<|Ro<|Rc 2 [vb (op_==198),vb (op_==198)]<|Rk ?_
     cases hb_5:((op_==198):Bool) with
     | true =>
      replace h:=aa hb_5 h
      refine Ct<|Runs.skip<|ai<|Ct<|Sq<|Ro<|Rc 1 [vb true]<|Rk<|Runs.ret<|aj<|ae ?_
      cases h
      exact Fq
     | false =>
      replace h:=ab hb_5 h
      refine Cf<|Sq<|Ro<|Rc 2 [vb (op_==199),vb (op_==199)]<|Rk ?_
      cases hb_6:((op_==199):Bool) with
      | true =>
       replace h:=aa hb_6 h
       refine Ct<|Runs.skip<|ai<|Ct<|Sq<|Ro<|Rc 1 [vb true]<|Rk<|Runs.ret<|aj<|ae ?_
       cases h
       exact Fq
      | false =>
       replace h:=ab hb_6 h
       refine Cf<|Sq<|Ro<|Rc 2 [vb (op_==208),vb (op_==208)]<|Rk ?_
       cases hb_7:((op_==208):Bool) with
       | true =>
        replace h:=aa hb_7 h
        refine Ct<|Runs.skip<|ai<|Ct<|Sq<|Ro<|Rc 1 [vb true]<|Rk<|Runs.ret<|aj<|ae ?_
        cases h
        exact Fq
       | false =>
        replace h:=ab hb_7 h
        refine Cf<|Sq<|Ro<|Rc 2 [vb (op_==209),vb (op_==209)]<|Rk ?_
        cases hb_8:((op_==209):Bool) with
        | true =>
         replace h:=aa hb_8 h
         refine Ct<|Runs.skip<|ai<|Ct<|Sq<|Ro<|Rc 1 [vb true]<|Rk<|Runs.ret<|aj<|ae ?_
         cases h
         exact Fq
        | false =>
         replace h:=ab hb_8 h
         refine Cf<|Sq<|Ro<|Rc 2 [vb (op_==210),vb (op_==210)]<|Rk ?_
         cases hb_9:((op_==210):Bool) with
         | true =>
          replace h:=aa hb_9 h
          refine Ct<|Runs.skip<|ai<|Ct<|Sq<|Ro<|Rc 1 [vb true]<|Rk<|Runs.ret<|aj<|ae ?_
          cases h
          exact Fq
         | false =>
          replace h:=ab hb_9 h
          refine Cf<|Sq<|Ro<|Rc 2 [vb (op_==211),vb (op_==211)]<|Rk ?_
          cases hb_10:((op_==211):Bool) with
          | true =>
           replace h:=aa hb_10 h
           refine Ct<|Runs.skip<|ai<|Ct<|Sq<|Ro<|Rc 1 [vb true]<|Rk<|Runs.ret<|aj<|ae ?_
           cases h
           exact Fq
          | false =>
           replace h:=ab hb_10 h
           refine Cf<|Sq<|Ro<|Rc 2 [vb (op_==246),vb (op_==246)]<|Rk ?_
           cases hb_11:((op_==246):Bool) with
           | true =>
            replace h:=aa hb_11 h
            refine Ct<|Runs.skip<|ai<|Ct<|Sq<|Ro<|Rc 1 [vb true]<|Rk<|Runs.ret<|aj<|ae ?_
            cases h
            exact Fq
           | false =>
            replace h:=ab hb_11 h
            refine Cf<|Sq<|Ro<|Rc 2 [vb (op_==247),vb (op_==247)]<|Rk ?_
            cases hb_12:((op_==247):Bool) with
            | true =>
             replace h:=aa hb_12 h
             refine Ct<|Runs.skip<|ai<|Ct<|Sq<|Ro<|Rc 1 [vb true]<|Rk<|Runs.ret<|aj<|ae ?_
             cases h
             exact Fq
            | false =>
             replace h:=ab hb_12 h
             refine Cf<|Sq<|Ro<|Rc 2 [vb (op_==254),vb (op_==254)]<|Rk ?_
             cases hb_13:((op_==254):Bool) with
             | true =>
              replace h:=aa hb_13 h
              refine Ct<|Runs.skip<|ai<|Ct<|Sq<|Ro<|Rc 1 [vb true]<|Rk<|Runs.ret<|aj<|ae ?_
              cases h
              exact Fq
             | false =>
              replace h:=ab hb_13 h
              refine Cf<|Ro<|Rc 2 [vb (op_==255),vb (op_==255)]<|Rk ?_
              cases hb_14:((op_==255):Bool) with
              | true =>
               replace h:=aa hb_14 h
               refine Ct<|Sq<|Ro<|Rc 1 [vb true]<|Rk<|Runs.ret<|aj<|ae ?_
               cases h
               exact Fq
              | false =>
               replace h:=ab hb_14 h
               refine Cf<|Runs.skip<|az<|ai<|Sq<|Ro<|Rc 1 [vb false]<|Rk<|Runs.ret ?_
               cases h
               exact Fq
theorem lR (op_:Int) (r:Bool) (h:dB op_=some r):L 19 [.y op_]=some (.b r,[.y op_]):=by
 obtain ⟨p,⟨hne,hf⟩,hr⟩:=qz op_ r h
 obtain ⟨k,hk⟩:=aD (F:=F19) (args:=[.y op_]) (ap:=[.y op_]) (bx0:=ay (fun _=>none) []) rfl rfl (by kernel_rfl) ⟨p,⟨hne,hf⟩,hr⟩
 exact aA (k:=k) rfl hk
def tC (b_:Int) (r:Bool) (p:Out × St):Prop:=(∀ i,p.1≠.exit i)∧aV F20 [.y b_] p.2=some (.b r,[.y b_])
theorem q9 (b_:Int) (r:Bool) (h:dF b_=some r):Runs L F20.body ⟨a9 [.y b_] 0,ay (fun _=>none) []⟩ (tC b_ r):=by
 unfold dF at h
 refine Sq<|Ro<|Rc 1 [vb false]<|Rk<|Sq<|Sq<|Ro<|Rc 1 [vy b_]<|Rk<|Runs.block<|Sq<|Sq<|Ro<|Rc 2 [vb (b_==38),vb (b_==38)]<|Rk ?_
 cases hb_1:((b_==38):Bool) with
 | true =>
  replace h:=aa hb_1 h
  refine Ct<|Runs.skip<|ai<|Ct<|Sq<|Ro<|Rc 1 [vb true]<|Rk<|Runs.ret<|aj<|ae ?_
  cases h
  exact Fq
 | false =>
  replace h:=ab hb_1 h
  refine Cf<|Sq<|Ro<|Rc 2 [vb (b_==46),vb (b_==46)]<|Rk ?_
  cases hb_2:((b_==46):Bool) with
  | true =>
   replace h:=aa hb_2 h
   refine Ct<|Runs.skip<|ai<|Ct<|Sq<|Ro<|Rc 1 [vb true]<|Rk<|Runs.ret<|aj<|ae ?_
   cases h
   exact Fq
  | false =>
   replace h:=ab hb_2 h
   refine Cf<|Sq<|Ro<|Rc 2 [vb (b_==54),vb (b_==54)]<|Rk ?_
   cases hb_3:((b_==54):Bool) with
   | true =>
    replace h:=aa hb_3 h
    refine Ct<|Runs.skip<|ai<|Ct<|Sq<|Ro<|Rc 1 [vb true]<|Rk<|Runs.ret<|aj<|ae ?_
    cases h
    exact Fq
   | false =>
    replace h:=ab hb_3 h
    refine Cf<|Sq<|Ro<|Rc 2 [vb (b_==62),vb (b_==62)]<|Rk ?_
    cases hb_4:((b_==62):Bool) with
    | true =>
     replace h:=aa hb_4 h
     refine Ct<|Runs.skip<|ai<|Ct<|Sq<|Ro<|Rc 1 [vb true]<|Rk<|Runs.ret<|aj<|ae ?_
     cases h
     exact Fq
    | false =>
     replace h:=ab hb_4 h
     refine Cf<|Sq<|Ro<|Rc 2 [vb (b_==240),vb (b_==240)]<|Rk ?_
     cases hb_5:((b_==240):Bool) with
     | true =>
      replace h:=aa hb_5 h
      refine Ct<|Runs.skip<|ai<|Ct<|Sq<|Ro<|Rc 1 [vb true]<|Rk<|Runs.ret<|aj<|ae ?_
      cases h
      exact Fq
     | false =>
      replace h:=ab hb_5 h
      refine Cf<|Sq<|Ro<|Rc 2 [vb (b_==242),vb (b_==242)]<|Rk ?_
      cases hb_6:((b_==242):Bool) with
      | true =>
       replace h:=aa hb_6 h
       refine Ct<|Runs.skip<|ai<|Ct<|Sq<|Ro<|Rc 1 [vb true]<|Rk<|Runs.ret<|aj<|ae ?_
       cases h
       exact Fq
      | false =>
       replace h:=ab hb_6 h
       refine Cf<|Ro<|Rc 2 [vb (b_==243),vb (b_==243)]<|Rk ?_
       cases hb_7:((b_==243):Bool) with
       | true =>
        replace h:=aa hb_7 h
        refine Ct<|Sq<|Ro<|Rc 1 [vb true]<|Rk<|Runs.ret<|aj<|ae ?_
        cases h
        exact Fq
       | false =>
        replace h:=ab hb_7 h
        refine Cf<|Runs.skip<|az<|ai<|Sq<|Ro<|Rc 1 [vb false]<|Rk<|Runs.ret ?_
        cases h
        exact Fq
theorem jG (b_:Int) (r:Bool) (h:dF b_=some r):L 20 [.y b_]=some (.b r,[.y b_]):=by
 obtain ⟨p,⟨hne,hf⟩,hr⟩:=q9 b_ r h
 obtain ⟨k,hk⟩:=aD (F:=F20) (args:=[.y b_]) (ap:=[.y b_]) (bx0:=ay (fun _=>none) []) rfl rfl (by kernel_rfl) ⟨p,⟨hne,hf⟩,hr⟩
 exact aA (k:=k) rfl hk
def yw (name_:Int) (a_:Int) (b_:Int) (r:(Row × Bool)) (p:Out × St):Prop:=(∀ i,p.1≠.exit i)∧aV F68 [.i name_,.i a_,.i b_] p.2=some (.tup [.d (Row.d r.1),.b r.2],[.i name_,.i a_,.i b_])
theorem wM (name_:Int) (a_:Int) (b_:Int) (r:(Row × Bool)) (h:aL name_ a_ b_=some r):Runs L F68.body ⟨a9 [.i name_,.i a_,.i b_] 0,ay (fun _=>none) []⟩ (yw name_ a_ b_ r):=by
 unfold aL at h
 refine Sq<|Ro<|Rc 2 [⟨.ptr [6] 0 0,[([6],some (.cells [.i 0,.i 0,.i 0,.b false] 0))]⟩,vb false]<|Rk<|Sq<|Ro<|Rc 6 [vi name_,vi a_,vi b_,⟨.d (.agg [.int .i64 name_,.int .i64 a_,.int .i64 b_,.bool true]),[]⟩,⟨.tup [],[([6],some (.cells [.i name_,.i a_,.i b_,.b true] 0))]⟩,vb true]<|Rk<|Runs.ret ?_
 cases h
 exact Fq
theorem aF (name_:Int) (a_:Int) (b_:Int) (r:(Row × Bool)) (h:aL name_ a_ b_=some r):L 68 [.i name_,.i a_,.i b_]=some (.tup [.d (Row.d r.1),.b r.2],[.i name_,.i a_,.i b_]):=by
 obtain ⟨p,⟨hne,hf⟩,hr⟩:=wM name_ a_ b_ r h
 obtain ⟨k,hk⟩:=aD (F:=F68) (args:=[.i name_,.i a_,.i b_]) (ap:=[.i name_,.i a_,.i b_]) (bx0:=ay (fun _=>none) []) rfl rfl (by kernel_rfl) ⟨p,⟨hne,hf⟩,hr⟩
 exact aA (k:=k) rfl hk
def yx (name_:Int) (a_:Int) (b_:Int) (r:(Row × Bool)) (p:Out × St):Prop:=(∀ i,p.1≠.exit i)∧aV F41 [.i name_,.i a_,.i b_] p.2=some (.tup [.d (Row.d r.1),.b r.2],[.i name_,.i a_,.i b_])
theorem wN (name_:Int) (a_:Int) (b_:Int) (r:(Row × Bool)) (h:aE name_ a_ b_=some r):Runs L F41.body ⟨a9 [.i name_,.i a_,.i b_] 0,ay (fun _=>none) []⟩ (yx name_ a_ b_ r):=by
 unfold aE at h
 refine Sq<|Ro<|Rc 2 [⟨.ptr [6] 0 0,[([6],some (.cells [.i 0,.i 0,.i 0,.b false] 0))]⟩,vb false]<|Rk<|Sq<|Ro<|Rc 6 [vi name_,vi a_,vi b_,⟨.d (.agg [.int .i64 name_,.int .i64 a_,.int .i64 b_,.bool false]),[]⟩,⟨.tup [],[([6],some (.cells [.i name_,.i a_,.i b_,.b false] 0))]⟩,vb true]<|Rk<|Runs.ret ?_
 cases h
 exact Fq
theorem aB (name_:Int) (a_:Int) (b_:Int) (r:(Row × Bool)) (h:aE name_ a_ b_=some r):L 41 [.i name_,.i a_,.i b_]=some (.tup [.d (Row.d r.1),.b r.2],[.i name_,.i a_,.i b_]):=by
 obtain ⟨p,⟨hne,hf⟩,hr⟩:=wN name_ a_ b_ r h
 obtain ⟨k,hk⟩:=aD (F:=F41) (args:=[.i name_,.i a_,.i b_]) (ap:=[.i name_,.i a_,.i b_]) (bx0:=ay (fun _=>none) []) rfl rfl (by kernel_rfl) ⟨p,⟨hne,hf⟩,hr⟩
 exact aA (k:=k) rfl hk
def yy  (r:(Row × Bool)) (p:Out × St):Prop:=(∀ i,p.1≠.exit i)∧aV F42 [] p.2=some (.tup [.d (Row.d r.1),.b r.2],[])
theorem wO  (r:(Row × Bool)) (h:cj=some r):Runs L F42.body ⟨a9 [] 0,ay (fun _=>none) []⟩ (yy  r):=by
 unfold cj at h
 refine Sq<|Ro<|Rc 2 [⟨.ptr [0] 0 0,[([0],some (.cells [.i 0,.i 0,.i 0,.b false] 0))]⟩,vb false]<|Rk<|Sq<|Ro<|Rc 3 [⟨.d (.agg [.int .i64 0,.int .i64 0,.int .i64 0,.bool false]),[]⟩,⟨.tup [],[([0],some (.cells [.i 0,.i 0,.i 0,.b false] 0))]⟩,vb false]<|Rk<|Runs.ret ?_
 cases h
 exact Fq
theorem bt  (r:(Row × Bool)) (h:cj=some r):L 42 []=some (.tup [.d (Row.d r.1),.b r.2],[]):=by
 obtain ⟨p,⟨hne,hf⟩,hr⟩:=wO  r h
 obtain ⟨k,hk⟩:=aD (F:=F42) (args:=[]) (ap:=[]) (bx0:=ay (fun _=>none) []) rfl rfl (by kernel_rfl) ⟨p,⟨hne,hf⟩,hr⟩
 exact aA (k:=k) rfl hk
def fO (b_2:Row) (t47:Int) (t48:Bool):St:=⟨tab [(2,.ptr [2] 0 0),(47,.y t47),(48,.b t48)],be [([2],some (.cells [.i b_2.Name,.i b_2.A,.i b_2.B,.b b_2.Mod] 0))]⟩
def g6 (b_2:Row) (t47:Int) (t56:Bool):St:=⟨tab [(2,.ptr [2] 0 0),(47,.y t47),(56,.b t56)],be [([2],some (.cells [.i b_2.Name,.i b_2.A,.i b_2.B,.b b_2.Mod] 0))]⟩
def mU (op_:Int) (r:(Row × Bool)) (p:Out × St):Prop:=(∀ i,p.1≠.exit i)∧aV F40 [.y op_] p.2=some (.tup [.d (Row.d r.1),.b r.2],[.y op_])
theorem gH (op_:Int) (b_2:Row) (t47:Int) (t56:Bool) (r:(Row × Bool)) (h:fH b_2 t47 t56=some r):Runs L zA (g6 b_2 t47 t56) (kB 1 (kS L tc (mU op_ r))):=by
 unfold fH at h
 cases hb_10:(t56:Bool) with
 | true =>
  replace h:=aa hb_10 h
  refine Ct<|Sq<|Ro ?_
  obtain ⟨r_8,hr_8,h⟩:=ah h
  have hc_8:=aB 10 23 0 r_8 hr_8
  refine Rt (some 60) (.callf 41) [] none [.i 10,.i 23,.i 0] (.tup [.d (Row.d r_8.1),.b r_8.2]) [] (cc hc_8)<|Rc 4 [⟨.d (Row.d r_8.1),[]⟩,vb r_8.2,⟨.tup [],[([2],some (.cells [.i r_8.1.Name,.i r_8.1.A,.i r_8.1.B,.b r_8.1.Mod] 0))]⟩,vb r_8.2]<|Rk<|Runs.ret<|aj<|ae ?_
  cases h
  exact Fq
 | false =>
  replace h:=ab hb_10 h
  refine Cf<|Sq<|Ro<|Rc 2 [vb (t47==39),vb (t47==39)]<|Rk ?_
  cases hb_11:((t47==39):Bool) with
  | true =>
   replace h:=aa hb_11 h
   refine Ct<|Sq<|Ro ?_
   obtain ⟨r_9,hr_9,h⟩:=ah h
   have hc_9:=aB 11 0 0 r_9 hr_9
   refine Rt (some 65) (.callf 41) [] none [.i 11,.i 0,.i 0] (.tup [.d (Row.d r_9.1),.b r_9.2]) [] (cc hc_9)<|Rc 4 [⟨.d (Row.d r_9.1),[]⟩,vb r_9.2,⟨.tup [],[([2],some (.cells [.i r_9.1.Name,.i r_9.1.A,.i r_9.1.B,.b r_9.1.Mod] 0))]⟩,vb r_9.2]<|Rk<|Runs.ret<|aj<|ae ?_
   cases h
   exact Fq
  | false =>
   replace h:=ab hb_11 h
   refine Cf<|Sq<|Ro<|Rc 2 [vb (t47==47),vb (t47==47)]<|Rk ?_
   cases hb_12:((t47==47):Bool) with
   | true =>
    replace h:=aa hb_12 h
    refine Ct<|Sq<|Ro ?_
    obtain ⟨r_10,hr_10,h⟩:=ah h
    have hc_10:=aB 12 0 0 r_10 hr_10
    refine Rt (some 70) (.callf 41) [] none [.i 12,.i 0,.i 0] (.tup [.d (Row.d r_10.1),.b r_10.2]) [] (cc hc_10)<|Rc 4 [⟨.d (Row.d r_10.1),[]⟩,vb r_10.2,⟨.tup [],[([2],some (.cells [.i r_10.1.Name,.i r_10.1.A,.i r_10.1.B,.b r_10.1.Mod] 0))]⟩,vb r_10.2]<|Rk<|Runs.ret<|aj<|ae ?_
    cases h
    exact Fq
   | false =>
    replace h:=ab hb_12 h
    refine Cf<|Sq<|Ro<|Rc 2 [vb (t47==55),vb (t47==55)]<|Rk ?_
    cases hb_13:((t47==55):Bool) with
    | true =>
     replace h:=aa hb_13 h
     refine Ct<|Sq<|Ro ?_
     obtain ⟨r_11,hr_11,h⟩:=ah h
     have hc_11:=aB 13 0 0 r_11 hr_11
     refine Rt (some 75) (.callf 41) [] none [.i 13,.i 0,.i 0] (.tup [.d (Row.d r_11.1),.b r_11.2]) [] (cc hc_11)<|Rc 4 [⟨.d (Row.d r_11.1),[]⟩,vb r_11.2,⟨.tup [],[([2],some (.cells [.i r_11.1.Name,.i r_11.1.A,.i r_11.1.B,.b r_11.1.Mod] 0))]⟩,vb r_11.2]<|Rk<|Runs.ret<|aj<|ae ?_
     cases h
     exact Fq
    | false =>
     replace h:=ab hb_13 h
     refine Cf<|Sq<|Ro<|Rc 2 [vb (t47==63),vb (t47==63)]<|Rk ?_
     cases hb_14:((t47==63):Bool) with
     | true =>
      replace h:=aa hb_14 h
      refine Ct<|Sq<|Ro ?_
      obtain ⟨r_12,hr_12,h⟩:=ah h
      have hc_12:=aB 14 0 0 r_12 hr_12
      refine Rt (some 80) (.callf 41) [] none [.i 14,.i 0,.i 0] (.tup [.d (Row.d r_12.1),.b r_12.2]) [] (cc hc_12)<|Rc 4 [⟨.d (Row.d r_12.1),[]⟩,vb r_12.2,⟨.tup [],[([2],some (.cells [.i r_12.1.Name,.i r_12.1.A,.i r_12.1.B,.b r_12.1.Mod] 0))]⟩,vb r_12.2]<|Rk<|Runs.ret<|aj<|ae ?_
      cases h
      exact Fq
     | false =>
      replace h:=ab hb_14 h
      refine Cf<|Runs.skip<|az<|ai<|Sq<|Ro ?_
      obtain ⟨r_13,hr_13,h⟩:=ah h
      have hc_13:=bt r_13 hr_13
      refine Rt (some 83) (.callf 42) [] none [] (.tup [.d (Row.d r_13.1),.b r_13.2]) [] (cc hc_13)<|Rc 4 [⟨.d (Row.d r_13.1),[]⟩,vb r_13.2,⟨.tup [],[([2],some (.cells [.i r_13.1.Name,.i r_13.1.A,.i r_13.1.B,.b r_13.1.Mod] 0))]⟩,vb r_13.2]<|Rk<|Runs.ret ?_
      cases h
      exact Fq
theorem eV (op_:Int) (b_2:Row) (t47:Int) (t48:Bool) (r:(Row × Bool)) (h:eF b_2 t47 t48=some r):Runs L zB (fO b_2 t47 t48) (kB 1 (kS L tc (mU op_ r))):=by
 unfold eF at h
 cases hb_8:(t48:Bool) with
 | true =>
  replace h:=aa hb_8 h
  refine Ct<|Sq<|Ro ?_
  obtain ⟨r_7,hr_7,h⟩:=ah h
  have hc_7:=aB 9 23 0 r_7 hr_7
  refine Rt (some 53) (.callf 41) [] none [.i 9,.i 23,.i 0] (.tup [.d (Row.d r_7.1),.b r_7.2]) [] (cc hc_7)<|Rc 4 [⟨.d (Row.d r_7.1),[]⟩,vb r_7.2,⟨.tup [],[([2],some (.cells [.i r_7.1.Name,.i r_7.1.A,.i r_7.1.B,.b r_7.1.Mod] 0))]⟩,vb r_7.2]<|Rk<|Runs.ret<|aj<|ae ?_
  cases h
  exact Fq
 | false =>
  replace h:=ab hb_8 h
  refine Cf<|Sq<|Sq<|Ro<|Rc 2 [vb (t47==7),vb (t47==7)]<|Rk ?_
  cases hb_9:((t47==7):Bool) with
  | true =>
   replace h:=aa hb_9 h
   refine Ct<|Runs.skip<|ai<|Runs.canon (g6 b_2 t47 true) Cz ?_
   exact gH op_ b_2 t47 true r h
  | false =>
   replace h:=ab hb_9 h
   refine Cf<|Sq<|Ro<|Rc 2 [vb (t47==23),vb (t47==23)]<|Rk ?_
   cases hb_15:((t47==23):Bool) with
   | true =>
    replace h:=aa hb_15 h
    refine Ct<|Runs.skip<|ai<|Runs.canon (g6 b_2 t47 true) Cz ?_
    exact gH op_ b_2 t47 true r h
   | false =>
    replace h:=ab hb_15 h
    refine Cf<|Ro<|Rc 2 [vb (t47==31),vb (t47==31)]<|Rk<|Runs.canon (g6 b_2 t47 (t47==31)) Cz ?_
    exact gH op_ b_2 t47 (t47==31) r h
theorem u0 (op_:Int) (r:(Row × Bool)) (h:nz op_=some r):Runs L F40.body ⟨a9 [.y op_] 0,ay (fun _=>none) []⟩ (mU op_ r):=by
 unfold nz at h
 refine Sq<|Ro<|Rc 2 [⟨.ptr [2] 0 0,[([2],some (.cells [.i 0,.i 0,.i 0,.b false] 0))]⟩,vb false]<|Rk<|Sq<|Ro<|Rc 5 [vy op_,vy (bd .u8 op_ 3),vi (IntKind.wrap .i64 (bd .u8 op_ 3)),vi (IntKind.wrap .i64 (1+(IntKind.wrap .i64 (bd .u8 op_ 3)))),vi (IntKind.wrap .i64 (1+(IntKind.wrap .i64 (bd .u8 op_ 3))))]<|Rk<|Sq<|Sq<|Ro<|Rc 2 [vy op_,vy (ak .and .u8 op_ 7)]<|Rk<|Runs.block<|Sq<|Ro<|Rc 2 [vb ((ak .and .u8 op_ 7)==0),vb ((ak .and .u8 op_ 7)==0)]<|Rk ?_
 cases hb_1:(((ak .and .u8 op_ 7)==0):Bool) with
 | true =>
  replace h:=aa hb_1 h
  refine Ct<|Sq<|Ro<|Rc 1 [vi (IntKind.wrap .i64 (1+(IntKind.wrap .i64 (bd .u8 op_ 3))))] ?_
  obtain ⟨r_1,hr_1,h⟩:=ah h
  have hc_1:=aF (IntKind.wrap .i64 (1+(IntKind.wrap .i64 (bd .u8 op_ 3)))) 1 3 r_1 hr_1
  refine Rt (some 14) (.callf 68) [] none [.i (IntKind.wrap .i64 (1+(IntKind.wrap .i64 (bd .u8 op_ 3)))),.i 1,.i 3] (.tup [.d (Row.d r_1.1),.b r_1.2]) [] (cc hc_1)<|Rc 4 [⟨.d (Row.d r_1.1),[]⟩,vb r_1.2,⟨.tup [],[([2],some (.cells [.i r_1.1.Name,.i r_1.1.A,.i r_1.1.B,.b r_1.1.Mod] 0))]⟩,vb r_1.2]<|Rk<|Runs.ret<|aj<|ae ?_
  cases h
  exact Fq
 | false =>
  replace h:=ab hb_1 h
  refine Cf<|Sq<|Ro<|Rc 2 [vb ((ak .and .u8 op_ 7)==1),vb ((ak .and .u8 op_ 7)==1)]<|Rk ?_
  cases hb_2:(((ak .and .u8 op_ 7)==1):Bool) with
  | true =>
   replace h:=aa hb_2 h
   refine Ct<|Sq<|Ro<|Rc 1 [vi (IntKind.wrap .i64 (1+(IntKind.wrap .i64 (bd .u8 op_ 3))))] ?_
   obtain ⟨r_2,hr_2,h⟩:=ah h
   have hc_2:=aF (IntKind.wrap .i64 (1+(IntKind.wrap .i64 (bd .u8 op_ 3)))) 2 4 r_2 hr_2
   refine Rt (some 20) (.callf 68) [] none [.i (IntKind.wrap .i64 (1+(IntKind.wrap .i64 (bd .u8 op_ 3)))),.i 2,.i 4] (.tup [.d (Row.d r_2.1),.b r_2.2]) [] (cc hc_2)<|Rc 4 [⟨.d (Row.d r_2.1),[]⟩,vb r_2.2,⟨.tup [],[([2],some (.cells [.i r_2.1.Name,.i r_2.1.A,.i r_2.1.B,.b r_2.1.Mod] 0))]⟩,vb r_2.2]<|Rk<|Runs.ret<|aj<|ae ?_
   cases h
   exact Fq
  | false =>
   replace h:=ab hb_2 h
   refine Cf<|Sq<|Ro<|Rc 2 [vb ((ak .and .u8 op_ 7)==2),vb ((ak .and .u8 op_ 7)==2)]<|Rk ?_
   cases hb_3:(((ak .and .u8 op_ 7)==2):Bool) with
   | true =>
    replace h:=aa hb_3 h
    refine Ct<|Sq<|Ro<|Rc 1 [vi (IntKind.wrap .i64 (1+(IntKind.wrap .i64 (bd .u8 op_ 3))))] ?_
    obtain ⟨r_3,hr_3,h⟩:=ah h
    have hc_3:=aF (IntKind.wrap .i64 (1+(IntKind.wrap .i64 (bd .u8 op_ 3)))) 3 1 r_3 hr_3
    refine Rt (some 26) (.callf 68) [] none [.i (IntKind.wrap .i64 (1+(IntKind.wrap .i64 (bd .u8 op_ 3)))),.i 3,.i 1] (.tup [.d (Row.d r_3.1),.b r_3.2]) [] (cc hc_3)<|Rc 4 [⟨.d (Row.d r_3.1),[]⟩,vb r_3.2,⟨.tup [],[([2],some (.cells [.i r_3.1.Name,.i r_3.1.A,.i r_3.1.B,.b r_3.1.Mod] 0))]⟩,vb r_3.2]<|Rk<|Runs.ret<|aj<|ae ?_
    cases h
    exact Fq
   | false =>
    replace h:=ab hb_3 h
    refine Cf<|Sq<|Ro<|Rc 2 [vb ((ak .and .u8 op_ 7)==3),vb ((ak .and .u8 op_ 7)==3)]<|Rk ?_
    cases hb_4:(((ak .and .u8 op_ 7)==3):Bool) with
    | true =>
     replace h:=aa hb_4 h
     refine Ct<|Sq<|Ro<|Rc 1 [vi (IntKind.wrap .i64 (1+(IntKind.wrap .i64 (bd .u8 op_ 3))))] ?_
     obtain ⟨r_4,hr_4,h⟩:=ah h
     have hc_4:=aF (IntKind.wrap .i64 (1+(IntKind.wrap .i64 (bd .u8 op_ 3)))) 4 2 r_4 hr_4
     refine Rt (some 32) (.callf 68) [] none [.i (IntKind.wrap .i64 (1+(IntKind.wrap .i64 (bd .u8 op_ 3)))),.i 4,.i 2] (.tup [.d (Row.d r_4.1),.b r_4.2]) [] (cc hc_4)<|Rc 4 [⟨.d (Row.d r_4.1),[]⟩,vb r_4.2,⟨.tup [],[([2],some (.cells [.i r_4.1.Name,.i r_4.1.A,.i r_4.1.B,.b r_4.1.Mod] 0))]⟩,vb r_4.2]<|Rk<|Runs.ret<|aj<|ae ?_
     cases h
     exact Fq
    | false =>
     replace h:=ab hb_4 h
     refine Cf<|Sq<|Ro<|Rc 2 [vb ((ak .and .u8 op_ 7)==4),vb ((ak .and .u8 op_ 7)==4)]<|Rk ?_
     cases hb_5:(((ak .and .u8 op_ 7)==4):Bool) with
     | true =>
      replace h:=aa hb_5 h
      refine Ct<|Sq<|Ro<|Rc 1 [vi (IntKind.wrap .i64 (1+(IntKind.wrap .i64 (bd .u8 op_ 3))))] ?_
      obtain ⟨r_5,hr_5,h⟩:=ah h
      have hc_5:=aB (IntKind.wrap .i64 (1+(IntKind.wrap .i64 (bd .u8 op_ 3)))) 14 6 r_5 hr_5
      refine Rt (some 38) (.callf 41) [] none [.i (IntKind.wrap .i64 (1+(IntKind.wrap .i64 (bd .u8 op_ 3)))),.i 14,.i 6] (.tup [.d (Row.d r_5.1),.b r_5.2]) [] (cc hc_5)<|Rc 4 [⟨.d (Row.d r_5.1),[]⟩,vb r_5.2,⟨.tup [],[([2],some (.cells [.i r_5.1.Name,.i r_5.1.A,.i r_5.1.B,.b r_5.1.Mod] 0))]⟩,vb r_5.2]<|Rk<|Runs.ret<|aj<|ae ?_
      cases h
      exact Fq
     | false =>
      replace h:=ab hb_5 h
      refine Cf<|Sq<|Ro<|Rc 2 [vb ((ak .and .u8 op_ 7)==5),vb ((ak .and .u8 op_ 7)==5)]<|Rk ?_
      cases hb_6:(((ak .and .u8 op_ 7)==5):Bool) with
      | true =>
       replace h:=aa hb_6 h
       refine Ct<|Sq<|Ro<|Rc 1 [vi (IntKind.wrap .i64 (1+(IntKind.wrap .i64 (bd .u8 op_ 3))))] ?_
       obtain ⟨r_6,hr_6,h⟩:=ah h
       have hc_6:=aB (IntKind.wrap .i64 (1+(IntKind.wrap .i64 (bd .u8 op_ 3)))) 16 7 r_6 hr_6
       refine Rt (some 44) (.callf 41) [] none [.i (IntKind.wrap .i64 (1+(IntKind.wrap .i64 (bd .u8 op_ 3)))),.i 16,.i 7] (.tup [.d (Row.d r_6.1),.b r_6.2]) [] (cc hc_6)<|Rc 4 [⟨.d (Row.d r_6.1),[]⟩,vb r_6.2,⟨.tup [],[([2],some (.cells [.i r_6.1.Name,.i r_6.1.A,.i r_6.1.B,.b r_6.1.Mod] 0))]⟩,vb r_6.2]<|Rk<|Runs.ret<|aj<|ae ?_
       cases h
       exact Fq
      | false =>
       replace h:=ab hb_6 h
       refine Cf<|Runs.skip<|az<|ai<|Sq<|Sq<|Ro<|Rc 1 [vy op_]<|Rk<|Runs.block<|Sq<|Sq<|Ro<|Rc 2 [vb (op_==6),vb (op_==6)]<|Rk ?_
       cases hb_7:((op_==6):Bool) with
       | true =>
        replace h:=aa hb_7 h
        refine Ct<|Runs.skip<|ai<|Runs.canon (fO ({ Name:=0,A:=0,B:=0,Mod:=false }:Row) op_ true) Cz ?_
        exact eV op_ ({ Name:=0,A:=0,B:=0,Mod:=false }:Row) op_ true r h
       | false =>
        replace h:=ab hb_7 h
        refine Cf<|Sq<|Ro<|Rc 2 [vb (op_==14),vb (op_==14)]<|Rk ?_
        cases hb_16:((op_==14):Bool) with
        | true =>
         replace h:=aa hb_16 h
         refine Ct<|Runs.skip<|ai<|Runs.canon (fO ({ Name:=0,A:=0,B:=0,Mod:=false }:Row) op_ true) Cz ?_
         exact eV op_ ({ Name:=0,A:=0,B:=0,Mod:=false }:Row) op_ true r h
        | false =>
         replace h:=ab hb_16 h
         refine Cf<|Sq<|Ro<|Rc 2 [vb (op_==22),vb (op_==22)]<|Rk ?_
         cases hb_17:((op_==22):Bool) with
         | true =>
          replace h:=aa hb_17 h
          refine Ct<|Runs.skip<|ai<|Runs.canon (fO ({ Name:=0,A:=0,B:=0,Mod:=false }:Row) op_ true) Cz ?_
          exact eV op_ ({ Name:=0,A:=0,B:=0,Mod:=false }:Row) op_ true r h
         | false =>
          replace h:=ab hb_17 h
          refine Cf<|Ro<|Rc 2 [vb (op_==30),vb (op_==30)]<|Rk<|Runs.canon (fO ({ Name:=0,A:=0,B:=0,Mod:=false }:Row) op_ (op_==30)) Cz ?_
          exact eV op_ ({ Name:=0,A:=0,B:=0,Mod:=false }:Row) op_ (op_==30) r h
theorem wP (op_:Int) (r:(Row × Bool)) (h:nz op_=some r):L 40 [.y op_]=some (.tup [.d (Row.d r.1),.b r.2],[.y op_]):=by
 obtain ⟨p,⟨hne,hf⟩,hr⟩:=u0 op_ r h
 obtain ⟨k,hk⟩:=aD (F:=F40) (args:=[.y op_]) (ap:=[.y op_]) (bx0:=ay (fun _=>none) []) rfl rfl (by kernel_rfl) ⟨p,⟨hne,hf⟩,hr⟩
 exact aA (k:=k) rfl hk
def u1 (op_:Int) (reg_:Int) (r:(Row × Bool)) (p:Out × St):Prop:=(∀ i,p.1≠.exit i)∧aV F43 [.y op_,.i reg_] p.2=some (.tup [.d (Row.d r.1),.b r.2],[.y op_,.i reg_])
theorem tD (op_:Int) (reg_:Int) (r:(Row × Bool)) (h:lh op_ reg_=some r):Runs L F43.body ⟨a9 [.y op_,.i reg_] 0,ay (fun _=>none) []⟩ (u1 op_ reg_ r):=by
 unfold lh at h
 refine Sq<|Ro<|Rc 2 [⟨.ptr [4] 0 0,[([4],some (.cells [.i 0,.i 0,.i 0,.b false] 0))]⟩,vb false]<|Rk<|Sq<|Sq<|Ro<|Rc 1 [vy op_]<|Rk<|Runs.block<|Sq<|Ro<|Rc 2 [vb (op_==128),vb (op_==128)]<|Rk ?_
 cases hb_1:((op_==128):Bool) with
 | true =>
  replace h:=aa hb_1 h
  refine Ct<|Sq<|Ro<|Rc 2 [vi reg_,vi (IntKind.wrap .i64 (1+reg_))] ?_
  obtain ⟨r_1,hr_1,h⟩:=ah h
  have hc_1:=aF (IntKind.wrap .i64 (1+reg_)) 1 6 r_1 hr_1
  refine Rt (some 11) (.callf 68) [] none [.i (IntKind.wrap .i64 (1+reg_)),.i 1,.i 6] (.tup [.d (Row.d r_1.1),.b r_1.2]) [] (cc hc_1)<|Rc 4 [⟨.d (Row.d r_1.1),[]⟩,vb r_1.2,⟨.tup [],[([4],some (.cells [.i r_1.1.Name,.i r_1.1.A,.i r_1.1.B,.b r_1.1.Mod] 0))]⟩,vb r_1.2]<|Rk<|Runs.ret<|aj<|ae ?_
  cases h
  exact Fq
 | false =>
  replace h:=ab hb_1 h
  refine Cf<|Sq<|Ro<|Rc 2 [vb (op_==129),vb (op_==129)]<|Rk ?_
  cases hb_2:((op_==129):Bool) with
  | true =>
   replace h:=aa hb_2 h
   refine Ct<|Sq<|Ro<|Rc 2 [vi reg_,vi (IntKind.wrap .i64 (1+reg_))] ?_
   obtain ⟨r_2,hr_2,h⟩:=ah h
   have hc_2:=aF (IntKind.wrap .i64 (1+reg_)) 2 7 r_2 hr_2
   refine Rt (some 18) (.callf 68) [] none [.i (IntKind.wrap .i64 (1+reg_)),.i 2,.i 7] (.tup [.d (Row.d r_2.1),.b r_2.2]) [] (cc hc_2)<|Rc 4 [⟨.d (Row.d r_2.1),[]⟩,vb r_2.2,⟨.tup [],[([4],some (.cells [.i r_2.1.Name,.i r_2.1.A,.i r_2.1.B,.b r_2.1.Mod] 0))]⟩,vb r_2.2]<|Rk<|Runs.ret<|aj<|ae ?_
   cases h
   exact Fq
  | false =>
   replace h:=ab hb_2 h
   refine Cf<|Sq<|Ro<|Rc 2 [vb (op_==131),vb (op_==131)]<|Rk ?_
   cases hb_3:((op_==131):Bool) with
   | true =>
    replace h:=aa hb_3 h
    refine Ct<|Sq<|Sq<|Ro<|Rc 3 [vi reg_,vb (reg_==1),vb (reg_==1)] ?_
    cases hb_4:((reg_==1):Bool) with
    | true =>
     replace h:=aa hb_4 h
     refine Rc 7 [vn,vn,vb true,vb true,vn,vn,vb true]<|Rk<|Ct<|Sq<|Ro ?_
     obtain ⟨r_3,hr_3,h⟩:=ah h
     have hc_3:=bt r_3 hr_3
     refine Rt (some 33) (.callf 42) [] none [] (.tup [.d (Row.d r_3.1),.b r_3.2]) [] (cc hc_3)<|Rc 4 [⟨.d (Row.d r_3.1),[]⟩,vb r_3.2,⟨.tup [],[([4],some (.cells [.i r_3.1.Name,.i r_3.1.A,.i r_3.1.B,.b r_3.1.Mod] 0))]⟩,vb r_3.2]<|Rk<|Runs.ret<|ae<|aj<|ae ?_
     cases h
     exact Fq
    | false =>
     replace h:=ab hb_4 h
     refine Rc 4 [vi reg_,vb (reg_==4),vb (reg_==4),vb (reg_==4)] ?_
     cases hb_5:((reg_==4):Bool) with
     | true =>
      replace h:=aa hb_5 h
      refine Rc 3 [vn,vn,vb true]<|Rk<|Ct<|Sq<|Ro ?_
      obtain ⟨r_4,hr_4,h⟩:=ah h
      have hc_4:=bt r_4 hr_4
      refine Rt (some 33) (.callf 42) [] none [] (.tup [.d (Row.d r_4.1),.b r_4.2]) [] (cc hc_4)<|Rc 4 [⟨.d (Row.d r_4.1),[]⟩,vb r_4.2,⟨.tup [],[([4],some (.cells [.i r_4.1.Name,.i r_4.1.A,.i r_4.1.B,.b r_4.1.Mod] 0))]⟩,vb r_4.2]<|Rk<|Runs.ret<|ae<|aj<|ae ?_
      cases h
      exact Fq
     | false =>
      replace h:=ab hb_5 h
      refine Rc 3 [vi reg_,vb (reg_==6),vb (reg_==6)]<|Rk ?_
      cases hb_6:((reg_==6):Bool) with
      | true =>
       replace h:=aa hb_6 h
       refine Ct<|Sq<|Ro ?_
       obtain ⟨r_5,hr_5,h⟩:=ah h
       have hc_5:=bt r_5 hr_5
       refine Rt (some 33) (.callf 42) [] none [] (.tup [.d (Row.d r_5.1),.b r_5.2]) [] (cc hc_5)<|Rc 4 [⟨.d (Row.d r_5.1),[]⟩,vb r_5.2,⟨.tup [],[([4],some (.cells [.i r_5.1.Name,.i r_5.1.A,.i r_5.1.B,.b r_5.1.Mod] 0))]⟩,vb r_5.2]<|Rk<|Runs.ret<|ae<|aj<|ae ?_
       cases h
       exact Fq
      | false =>
       replace h:=ab hb_6 h
       refine Cf<|Runs.skip<|ai<|Sq<|Ro<|Rc 2 [vi reg_,vi (IntKind.wrap .i64 (1+reg_))] ?_
       obtain ⟨r_6,hr_6,h⟩:=ah h
       have hc_6:=aF (IntKind.wrap .i64 (1+reg_)) 2 8 r_6 hr_6
       refine Rt (some 38) (.callf 68) [] none [.i (IntKind.wrap .i64 (1+reg_)),.i 2,.i 8] (.tup [.d (Row.d r_6.1),.b r_6.2]) [] (cc hc_6)<|Rc 4 [⟨.d (Row.d r_6.1),[]⟩,vb r_6.2,⟨.tup [],[([4],some (.cells [.i r_6.1.Name,.i r_6.1.A,.i r_6.1.B,.b r_6.1.Mod] 0))]⟩,vb r_6.2]<|Rk<|Runs.ret<|aj<|ae ?_
       cases h
       exact Fq
   | false =>
    replace h:=ab hb_3 h
    refine Cf<|Sq<|Ro<|Rc 2 [vb (op_==132),vb (op_==132)]<|Rk ?_
    cases hb_7:((op_==132):Bool) with
    | true =>
     replace h:=aa hb_7 h
     refine Ct<|Sq<|Ro ?_
     obtain ⟨r_7,hr_7,h⟩:=ah h
     have hc_7:=aF 33 1 3 r_7 hr_7
     refine Rt (some 43) (.callf 68) [] none [.i 33,.i 1,.i 3] (.tup [.d (Row.d r_7.1),.b r_7.2]) [] (cc hc_7)<|Rc 4 [⟨.d (Row.d r_7.1),[]⟩,vb r_7.2,⟨.tup [],[([4],some (.cells [.i r_7.1.Name,.i r_7.1.A,.i r_7.1.B,.b r_7.1.Mod] 0))]⟩,vb r_7.2]<|Rk<|Runs.ret<|aj<|ae ?_
     cases h
     exact Fq
    | false =>
     replace h:=ab hb_7 h
     refine Cf<|Sq<|Ro<|Rc 2 [vb (op_==133),vb (op_==133)]<|Rk ?_
     cases hb_8:((op_==133):Bool) with
     | true =>
      replace h:=aa hb_8 h
      refine Ct<|Sq<|Ro ?_
      obtain ⟨r_8,hr_8,h⟩:=ah h
      have hc_8:=aF 33 2 4 r_8 hr_8
      refine Rt (some 48) (.callf 68) [] none [.i 33,.i 2,.i 4] (.tup [.d (Row.d r_8.1),.b r_8.2]) [] (cc hc_8)<|Rc 4 [⟨.d (Row.d r_8.1),[]⟩,vb r_8.2,⟨.tup [],[([4],some (.cells [.i r_8.1.Name,.i r_8.1.A,.i r_8.1.B,.b r_8.1.Mod] 0))]⟩,vb r_8.2]<|Rk<|Runs.ret<|aj<|ae ?_
      cases h
      exact Fq
     | false =>
      replace h:=ab hb_8 h
      refine Cf<|Sq<|Ro<|Rc 2 [vb (op_==134),vb (op_==134)]<|Rk ?_
      cases hb_9:((op_==134):Bool) with
      | true =>
       replace h:=aa hb_9 h
       refine Ct<|Sq<|Ro ?_
       obtain ⟨r_9,hr_9,h⟩:=ah h
       have hc_9:=aF 34 1 3 r_9 hr_9
       refine Rt (some 53) (.callf 68) [] none [.i 34,.i 1,.i 3] (.tup [.d (Row.d r_9.1),.b r_9.2]) [] (cc hc_9)<|Rc 4 [⟨.d (Row.d r_9.1),[]⟩,vb r_9.2,⟨.tup [],[([4],some (.cells [.i r_9.1.Name,.i r_9.1.A,.i r_9.1.B,.b r_9.1.Mod] 0))]⟩,vb r_9.2]<|Rk<|Runs.ret<|aj<|ae ?_
       cases h
       exact Fq
      | false =>
       replace h:=ab hb_9 h
       refine Cf<|Sq<|Ro<|Rc 2 [vb (op_==135),vb (op_==135)]<|Rk ?_
       cases hb_10:((op_==135):Bool) with
       | true =>
        replace h:=aa hb_10 h
        refine Ct<|Sq<|Ro ?_
        obtain ⟨r_10,hr_10,h⟩:=ah h
        have hc_10:=aF 34 2 4 r_10 hr_10
        refine Rt (some 58) (.callf 68) [] none [.i 34,.i 2,.i 4] (.tup [.d (Row.d r_10.1),.b r_10.2]) [] (cc hc_10)<|Rc 4 [⟨.d (Row.d r_10.1),[]⟩,vb r_10.2,⟨.tup [],[([4],some (.cells [.i r_10.1.Name,.i r_10.1.A,.i r_10.1.B,.b r_10.1.Mod] 0))]⟩,vb r_10.2]<|Rk<|Runs.ret<|aj<|ae ?_
        cases h
        exact Fq
       | false =>
        replace h:=ab hb_10 h
        refine Cf<|Sq<|Ro<|Rc 2 [vb (op_==136),vb (op_==136)]<|Rk ?_
        cases hb_11:((op_==136):Bool) with
        | true =>
         replace h:=aa hb_11 h
         refine Ct<|Sq<|Ro ?_
         obtain ⟨r_11,hr_11,h⟩:=ah h
         have hc_11:=aF 35 1 3 r_11 hr_11
         refine Rt (some 63) (.callf 68) [] none [.i 35,.i 1,.i 3] (.tup [.d (Row.d r_11.1),.b r_11.2]) [] (cc hc_11)<|Rc 4 [⟨.d (Row.d r_11.1),[]⟩,vb r_11.2,⟨.tup [],[([4],some (.cells [.i r_11.1.Name,.i r_11.1.A,.i r_11.1.B,.b r_11.1.Mod] 0))]⟩,vb r_11.2]<|Rk<|Runs.ret<|aj<|ae ?_
         cases h
         exact Fq
        | false =>
         replace h:=ab hb_11 h
         refine Cf<|Sq<|Ro<|Rc 2 [vb (op_==137),vb (op_==137)]<|Rk ?_
         cases hb_12:((op_==137):Bool) with
         | true =>
          replace h:=aa hb_12 h
          refine Ct<|Sq<|Ro ?_
          obtain ⟨r_12,hr_12,h⟩:=ah h
          have hc_12:=aF 35 2 4 r_12 hr_12
          refine Rt (some 68) (.callf 68) [] none [.i 35,.i 2,.i 4] (.tup [.d (Row.d r_12.1),.b r_12.2]) [] (cc hc_12)<|Rc 4 [⟨.d (Row.d r_12.1),[]⟩,vb r_12.2,⟨.tup [],[([4],some (.cells [.i r_12.1.Name,.i r_12.1.A,.i r_12.1.B,.b r_12.1.Mod] 0))]⟩,vb r_12.2]<|Rk<|Runs.ret<|aj<|ae ?_
          cases h
          exact Fq
         | false =>
          replace h:=ab hb_12 h
          refine Cf<|Sq<|Ro<|Rc 2 [vb (op_==138),vb (op_==138)]<|Rk ?_
          cases hb_13:((op_==138):Bool) with
          | true =>
           replace h:=aa hb_13 h
           refine Ct<|Sq<|Ro ?_
           obtain ⟨r_13,hr_13,h⟩:=ah h
           have hc_13:=aF 35 3 1 r_13 hr_13
           refine Rt (some 73) (.callf 68) [] none [.i 35,.i 3,.i 1] (.tup [.d (Row.d r_13.1),.b r_13.2]) [] (cc hc_13)<|Rc 4 [⟨.d (Row.d r_13.1),[]⟩,vb r_13.2,⟨.tup [],[([4],some (.cells [.i r_13.1.Name,.i r_13.1.A,.i r_13.1.B,.b r_13.1.Mod] 0))]⟩,vb r_13.2]<|Rk<|Runs.ret<|aj<|ae ?_
           cases h
           exact Fq
          | false =>
           replace h:=ab hb_13 h
           refine Cf<|Sq<|Ro<|Rc 2 [vb (op_==139),vb (op_==139)]<|Rk ?_
           cases hb_14:((op_==139):Bool) with
           | true =>
            replace h:=aa hb_14 h
            refine Ct<|Sq<|Ro ?_
            obtain ⟨r_14,hr_14,h⟩:=ah h
            have hc_14:=aF 35 4 2 r_14 hr_14
            refine Rt (some 78) (.callf 68) [] none [.i 35,.i 4,.i 2] (.tup [.d (Row.d r_14.1),.b r_14.2]) [] (cc hc_14)<|Rc 4 [⟨.d (Row.d r_14.1),[]⟩,vb r_14.2,⟨.tup [],[([4],some (.cells [.i r_14.1.Name,.i r_14.1.A,.i r_14.1.B,.b r_14.1.Mod] 0))]⟩,vb r_14.2]<|Rk<|Runs.ret<|aj<|ae ?_
            cases h
            exact Fq
           | false =>
            replace h:=ab hb_14 h
            refine Cf<|Sq<|Ro<|Rc 2 [vb (op_==140),vb (op_==140)]<|Rk ?_
            cases hb_15:((op_==140):Bool) with
            | true =>
             replace h:=aa hb_15 h
             refine Ct<|Sq<|Ro<|Rc 2 [vi reg_,vb (decide (reg_<4))]<|Rk ?_
             cases hb_16:((decide (reg_<4)):Bool) with
             | true =>
              replace h:=aa hb_16 h
              refine Ct<|Sq<|Ro ?_
              obtain ⟨r_15,hr_15,h⟩:=ah h
              have hc_15:=aF 35 2 5 r_15 hr_15
              refine Rt (some 85) (.callf 68) [] none [.i 35,.i 2,.i 5] (.tup [.d (Row.d r_15.1),.b r_15.2]) [] (cc hc_15)<|Rc 4 [⟨.d (Row.d r_15.1),[]⟩,vb r_15.2,⟨.tup [],[([4],some (.cells [.i r_15.1.Name,.i r_15.1.A,.i r_15.1.B,.b r_15.1.Mod] 0))]⟩,vb r_15.2]<|Rk<|Runs.ret<|aj<|ae ?_
              cases h
              exact Fq
             | false =>
              replace h:=ab hb_16 h
              refine Cf<|Runs.skip<|az<|ai<|Sq<|Ro ?_
              obtain ⟨r_16,hr_16,h⟩:=ah h
              have hc_16:=bt r_16 hr_16
              refine Rt (some 111) (.callf 42) [] none [] (.tup [.d (Row.d r_16.1),.b r_16.2]) [] (cc hc_16)<|Rc 4 [⟨.d (Row.d r_16.1),[]⟩,vb r_16.2,⟨.tup [],[([4],some (.cells [.i r_16.1.Name,.i r_16.1.A,.i r_16.1.B,.b r_16.1.Mod] 0))]⟩,vb r_16.2]<|Rk<|Runs.ret ?_
              cases h
              exact Fq
            | false =>
             replace h:=ab hb_15 h
             refine Cf<|Sq<|Ro<|Rc 2 [vb (op_==141),vb (op_==141)]<|Rk ?_
             cases hb_17:((op_==141):Bool) with
             | true =>
              replace h:=aa hb_17 h
              refine Ct<|Sq<|Ro ?_
              obtain ⟨r_17,hr_17,h⟩:=ah h
              have hc_17:=aF 36 4 20 r_17 hr_17
              refine Rt (some 90) (.callf 68) [] none [.i 36,.i 4,.i 20] (.tup [.d (Row.d r_17.1),.b r_17.2]) [] (cc hc_17)<|Rc 4 [⟨.d (Row.d r_17.1),[]⟩,vb r_17.2,⟨.tup [],[([4],some (.cells [.i r_17.1.Name,.i r_17.1.A,.i r_17.1.B,.b r_17.1.Mod] 0))]⟩,vb r_17.2]<|Rk<|Runs.ret<|aj<|ae ?_
              cases h
              exact Fq
             | false =>
              replace h:=ab hb_17 h
              refine Cf<|Sq<|Ro<|Rc 2 [vb (op_==142),vb (op_==142)]<|Rk ?_
              cases hb_18:((op_==142):Bool) with
              | true =>
               replace h:=aa hb_18 h
               refine Ct<|Sq<|Ro<|Rc 3 [vi reg_,vb (decide (reg_<4)),vb (decide (reg_<4))] ?_
               cases hb_19:((decide (reg_<4)):Bool) with
               | true =>
                replace h:=aa hb_19 h
                refine Rc 3 [vi reg_,vb (reg_ != 1),vb (reg_ != 1)]<|Rk ?_
                cases hb_20:((reg_ != 1):Bool) with
                | true =>
                 replace h:=aa hb_20 h
                 refine Ct<|Sq<|Ro ?_
                 obtain ⟨r_18,hr_18,h⟩:=ah h
                 have hc_18:=aF 35 5 2 r_18 hr_18
                 refine Rt (some 101) (.callf 68) [] none [.i 35,.i 5,.i 2] (.tup [.d (Row.d r_18.1),.b r_18.2]) [] (cc hc_18)<|Rc 4 [⟨.d (Row.d r_18.1),[]⟩,vb r_18.2,⟨.tup [],[([4],some (.cells [.i r_18.1.Name,.i r_18.1.A,.i r_18.1.B,.b r_18.1.Mod] 0))]⟩,vb r_18.2]<|Rk<|Runs.ret<|aj<|ae ?_
                 cases h
                 exact Fq
                | false =>
                 replace h:=ab hb_20 h
                 refine Cf<|Runs.skip<|az<|ai<|Sq<|Ro ?_
                 obtain ⟨r_19,hr_19,h⟩:=ah h
                 have hc_19:=bt r_19 hr_19
                 refine Rt (some 111) (.callf 42) [] none [] (.tup [.d (Row.d r_19.1),.b r_19.2]) [] (cc hc_19)<|Rc 4 [⟨.d (Row.d r_19.1),[]⟩,vb r_19.2,⟨.tup [],[([4],some (.cells [.i r_19.1.Name,.i r_19.1.A,.i r_19.1.B,.b r_19.1.Mod] 0))]⟩,vb r_19.2]<|Rk<|Runs.ret ?_
                 cases h
                 exact Fq
               | false =>
                replace h:=ab hb_19 h
                refine Rc 3 [vn,vn,vb false]<|Rk<|Cf<|Runs.skip<|az<|ai<|Sq<|Ro ?_
                obtain ⟨r_20,hr_20,h⟩:=ah h
                have hc_20:=bt r_20 hr_20
                refine Rt (some 111) (.callf 42) [] none [] (.tup [.d (Row.d r_20.1),.b r_20.2]) [] (cc hc_20)<|Rc 4 [⟨.d (Row.d r_20.1),[]⟩,vb r_20.2,⟨.tup [],[([4],some (.cells [.i r_20.1.Name,.i r_20.1.A,.i r_20.1.B,.b r_20.1.Mod] 0))]⟩,vb r_20.2]<|Rk<|Runs.ret ?_
                cases h
                exact Fq
              | false =>
               replace h:=ab hb_18 h
               refine Cf<|Sq<|Ro<|Rc 2 [vb (op_==143),vb (op_==143)]<|Rk ?_
               cases hb_21:((op_==143):Bool) with
               | true =>
                replace h:=aa hb_21 h
                refine Ct<|Sq<|Ro<|Rc 2 [vi reg_,vb (reg_==0)]<|Rk ?_
                cases hb_22:((reg_==0):Bool) with
                | true =>
                 replace h:=aa hb_22 h
                 refine Ct<|Sq<|Ro ?_
                 obtain ⟨r_21,hr_21,h⟩:=ah h
                 have hc_21:=aF 10 2 0 r_21 hr_21
                 refine Rt (some 108) (.callf 68) [] none [.i 10,.i 2,.i 0] (.tup [.d (Row.d r_21.1),.b r_21.2]) [] (cc hc_21)<|Rc 4 [⟨.d (Row.d r_21.1),[]⟩,vb r_21.2,⟨.tup [],[([4],some (.cells [.i r_21.1.Name,.i r_21.1.A,.i r_21.1.B,.b r_21.1.Mod] 0))]⟩,vb r_21.2]<|Rk<|Runs.ret<|aj<|ae ?_
                 cases h
                 exact Fq
                | false =>
                 replace h:=ab hb_22 h
                 refine Cf<|Runs.skip<|az<|ai<|Sq<|Ro ?_
                 obtain ⟨r_22,hr_22,h⟩:=ah h
                 have hc_22:=bt r_22 hr_22
                 refine Rt (some 111) (.callf 42) [] none [] (.tup [.d (Row.d r_22.1),.b r_22.2]) [] (cc hc_22)<|Rc 4 [⟨.d (Row.d r_22.1),[]⟩,vb r_22.2,⟨.tup [],[([4],some (.cells [.i r_22.1.Name,.i r_22.1.A,.i r_22.1.B,.b r_22.1.Mod] 0))]⟩,vb r_22.2]<|Rk<|Runs.ret ?_
                 cases h
                 exact Fq
               | false =>
                replace h:=ab hb_21 h
                refine Cf<|Runs.skip<|az<|ai<|Sq<|Ro ?_
                obtain ⟨r_23,hr_23,h⟩:=ah h
                have hc_23:=bt r_23 hr_23
                refine Rt (some 111) (.callf 42) [] none [] (.tup [.d (Row.d r_23.1),.b r_23.2]) [] (cc hc_23)<|Rc 4 [⟨.d (Row.d r_23.1),[]⟩,vb r_23.2,⟨.tup [],[([4],some (.cells [.i r_23.1.Name,.i r_23.1.A,.i r_23.1.B,.b r_23.1.Mod] 0))]⟩,vb r_23.2]<|Rk<|Runs.ret ?_
                cases h
                exact Fq
theorem u2 (op_:Int) (reg_:Int) (r:(Row × Bool)) (h:lh op_ reg_=some r):L 43 [.y op_,.i reg_]=some (.tup [.d (Row.d r.1),.b r.2],[.y op_,.i reg_]):=by
 obtain ⟨p,⟨hne,hf⟩,hr⟩:=tD op_ reg_ r h
 obtain ⟨k,hk⟩:=aD (F:=F43) (args:=[.y op_,.i reg_]) (ap:=[.y op_,.i reg_]) (bx0:=ay (fun _=>none) []) rfl rfl (by kernel_rfl) ⟨p,⟨hne,hf⟩,hr⟩
 exact aA (k:=k) rfl hk
def u3 (op_:Int) (r:(Row × Bool)) (p:Out × St):Prop:=(∀ i,p.1≠.exit i)∧aV F44 [.y op_] p.2=some (.tup [.d (Row.d r.1),.b r.2],[.y op_])
theorem tE (op_:Int) (r:(Row × Bool)) (h:li op_=some r):Runs L F44.body ⟨a9 [.y op_] 0,ay (fun _=>none) []⟩ (u3 op_ r):=by
 unfold li at h
 refine Sq<|Ro<|Rc 2 [⟨.ptr [2] 0 0,[([2],some (.cells [.i 0,.i 0,.i 0,.b false] 0))]⟩,vb false]<|Rk<|Sq<|Sq<|Ro<|Rc 2 [vy op_,vb (decide (op_<152))]<|Rk ?_
 cases hb_1:((decide (op_<152)):Bool) with
 | true =>
  replace h:=aa hb_1 h
  refine Ct<|Sq<|Ro ?_
  obtain ⟨r_1,hr_1,h⟩:=ah h
  have hc_1:=aB 34 16 22 r_1 hr_1
  refine Rt (some 7) (.callf 41) [] none [.i 34,.i 16,.i 22] (.tup [.d (Row.d r_1.1),.b r_1.2]) [] (cc hc_1)<|Rc 4 [⟨.d (Row.d r_1.1),[]⟩,vb r_1.2,⟨.tup [],[([2],some (.cells [.i r_1.1.Name,.i r_1.1.A,.i r_1.1.B,.b r_1.1.Mod] 0))]⟩,vb r_1.2]<|Rk<|Runs.ret<|ae ?_
  cases h
  exact Fq
 | false =>
  replace h:=ab hb_1 h
  refine Cf<|Runs.skip<|ai<|Sq<|Sq<|Ro<|Rc 2 [vy op_,vb (op_==154)]<|Rk ?_
  cases hb_2:((op_==154):Bool) with
  | true =>
   replace h:=aa hb_2 h
   refine Ct<|Sq<|Ro ?_
   obtain ⟨r_2,hr_2,h⟩:=ah h
   have hc_2:=aB 40 11 0 r_2 hr_2
   refine Rt (some 12) (.callf 41) [] none [.i 40,.i 11,.i 0] (.tup [.d (Row.d r_2.1),.b r_2.2]) [] (cc hc_2)<|Rc 4 [⟨.d (Row.d r_2.1),[]⟩,vb r_2.2,⟨.tup [],[([2],some (.cells [.i r_2.1.Name,.i r_2.1.A,.i r_2.1.B,.b r_2.1.Mod] 0))]⟩,vb r_2.2]<|Rk<|Runs.ret<|ae ?_
   cases h
   exact Fq
  | false =>
   replace h:=ab hb_2 h
   refine Cf<|Runs.skip<|ai<|Sq<|Ro<|Rc 3 [⟨.ref [15] 0 0 (List.map (D.int .i64) ([37,38,0,41,42,43,44,45]:List Int)).length 1,[([15],some (.arr (List.map (D.int .i64) ([37,38,0,41,42,43,44,45]:List Int)) 0 false))]⟩,vy op_,vy (IntKind.wrap .u8 (op_ - 152))] ?_
   obtain ⟨z_1,hz_1,h⟩:=ah h
   refine Rt (some 18) (.iaddrS 1) [] none [.ref [15] 0 0 (List.map (D.int .i64) ([37,38,0,41,42,43,44,45]:List Int)).length 1,.y (IntKind.wrap .u8 (op_ - 152))] (.eref [15] 0 (0+((IntKind.wrap .u8 (op_ - 152))).toNat) 0) [] (gV (e:=(D.int .i64)) (l:=([37,38,0,41,42,43,44,45]:List Int)) hz_1 rfl)<|Rt (some 19) (.load none) [] none [.eref [15] 0 (0+((IntKind.wrap .u8 (op_ - 152))).toNat) 0] (.i z_1) [] (eE (e:=(D.int .i64)) (l:=([37,38,0,41,42,43,44,45]:List Int)) (fz:=false) (y:=z_1) (by kernel_rfl) hz_1 (by kernel_rfl) (by kernel_rfl))<|Rc 1 [vi z_1]<|Rk<|Sq<|Ro<|Rc 1 [vi z_1] ?_
   obtain ⟨r_3,hr_3,h⟩:=ah h
   have hc_3:=aB z_1 0 0 r_3 hr_3
   refine Rt (some 21) (.callf 41) [] none [.i z_1,.i 0,.i 0] (.tup [.d (Row.d r_3.1),.b r_3.2]) [] (cc hc_3)<|Rc 4 [⟨.d (Row.d r_3.1),[]⟩,vb r_3.2,⟨.tup [],[([2],some (.cells [.i r_3.1.Name,.i r_3.1.A,.i r_3.1.B,.b r_3.1.Mod] 0))]⟩,vb r_3.2]<|Rk<|Runs.ret ?_
   cases h
   exact Fq
theorem u4 (op_:Int) (r:(Row × Bool)) (h:li op_=some r):L 44 [.y op_]=some (.tup [.d (Row.d r.1),.b r.2],[.y op_]):=by
 obtain ⟨p,⟨hne,hf⟩,hr⟩:=tE op_ r h
 obtain ⟨k,hk⟩:=aD (F:=F44) (args:=[.y op_]) (ap:=[.y op_]) (bx0:=ay (fun _=>none) []) rfl rfl (by kernel_rfl) ⟨p,⟨hne,hf⟩,hr⟩
 exact aA (k:=k) rfl hk
def u5 (op_:Int) (r:(Row × Bool)) (p:Out × St):Prop:=(∀ i,p.1≠.exit i)∧aV F45 [.y op_] p.2=some (.tup [.d (Row.d r.1),.b r.2],[.y op_])
theorem tF (op_:Int) (r:(Row × Bool)) (h:lj op_=some r):Runs L F45.body ⟨a9 [.y op_] 0,ay (fun _=>none) []⟩ (u5 op_ r):=by
 unfold lj at h
 refine Sq<|Ro<|Rc 2 [⟨.ptr [2] 0 0,[([2],some (.cells [.i 0,.i 0,.i 0,.b false] 0))]⟩,vb false]<|Rk<|Sq<|Sq<|Ro<|Rc 1 [vy op_]<|Rk<|Runs.block<|Sq<|Ro<|Rc 2 [vb (op_==160),vb (op_==160)]<|Rk ?_
 cases hb_1:((op_==160):Bool) with
 | true =>
  replace h:=aa hb_1 h
  refine Ct<|Sq<|Ro ?_
  obtain ⟨r_1,hr_1,h⟩:=ah h
  have hc_1:=aB 35 14 12 r_1 hr_1
  refine Rt (some 7) (.callf 41) [] none [.i 35,.i 14,.i 12] (.tup [.d (Row.d r_1.1),.b r_1.2]) [] (cc hc_1)<|Rc 4 [⟨.d (Row.d r_1.1),[]⟩,vb r_1.2,⟨.tup [],[([2],some (.cells [.i r_1.1.Name,.i r_1.1.A,.i r_1.1.B,.b r_1.1.Mod] 0))]⟩,vb r_1.2]<|Rk<|Runs.ret<|aj<|ae ?_
  cases h
  exact Fq
 | false =>
  replace h:=ab hb_1 h
  refine Cf<|Sq<|Ro<|Rc 2 [vb (op_==161),vb (op_==161)]<|Rk ?_
  cases hb_2:((op_==161):Bool) with
  | true =>
   replace h:=aa hb_2 h
   refine Ct<|Sq<|Ro ?_
   obtain ⟨r_2,hr_2,h⟩:=ah h
   have hc_2:=aB 35 16 13 r_2 hr_2
   refine Rt (some 12) (.callf 41) [] none [.i 35,.i 16,.i 13] (.tup [.d (Row.d r_2.1),.b r_2.2]) [] (cc hc_2)<|Rc 4 [⟨.d (Row.d r_2.1),[]⟩,vb r_2.2,⟨.tup [],[([2],some (.cells [.i r_2.1.Name,.i r_2.1.A,.i r_2.1.B,.b r_2.1.Mod] 0))]⟩,vb r_2.2]<|Rk<|Runs.ret<|aj<|ae ?_
   cases h
   exact Fq
  | false =>
   replace h:=ab hb_2 h
   refine Cf<|Sq<|Ro<|Rc 2 [vb (op_==162),vb (op_==162)]<|Rk ?_
   cases hb_3:((op_==162):Bool) with
   | true =>
    replace h:=aa hb_3 h
    refine Ct<|Sq<|Ro ?_
    obtain ⟨r_3,hr_3,h⟩:=ah h
    have hc_3:=aB 35 12 14 r_3 hr_3
    refine Rt (some 17) (.callf 41) [] none [.i 35,.i 12,.i 14] (.tup [.d (Row.d r_3.1),.b r_3.2]) [] (cc hc_3)<|Rc 4 [⟨.d (Row.d r_3.1),[]⟩,vb r_3.2,⟨.tup [],[([2],some (.cells [.i r_3.1.Name,.i r_3.1.A,.i r_3.1.B,.b r_3.1.Mod] 0))]⟩,vb r_3.2]<|Rk<|Runs.ret<|aj<|ae ?_
    cases h
    exact Fq
   | false =>
    replace h:=ab hb_3 h
    refine Cf<|Sq<|Ro<|Rc 2 [vb (op_==163),vb (op_==163)]<|Rk ?_
    cases hb_4:((op_==163):Bool) with
    | true =>
     replace h:=aa hb_4 h
     refine Ct<|Sq<|Ro ?_
     obtain ⟨r_4,hr_4,h⟩:=ah h
     have hc_4:=aB 35 13 16 r_4 hr_4
     refine Rt (some 22) (.callf 41) [] none [.i 35,.i 13,.i 16] (.tup [.d (Row.d r_4.1),.b r_4.2]) [] (cc hc_4)<|Rc 4 [⟨.d (Row.d r_4.1),[]⟩,vb r_4.2,⟨.tup [],[([2],some (.cells [.i r_4.1.Name,.i r_4.1.A,.i r_4.1.B,.b r_4.1.Mod] 0))]⟩,vb r_4.2]<|Rk<|Runs.ret<|aj<|ae ?_
     cases h
     exact Fq
    | false =>
     replace h:=ab hb_4 h
     refine Cf<|Sq<|Ro<|Rc 2 [vb (op_==168),vb (op_==168)]<|Rk ?_
     cases hb_5:((op_==168):Bool) with
     | true =>
      replace h:=aa hb_5 h
      refine Ct<|Sq<|Ro ?_
      obtain ⟨r_5,hr_5,h⟩:=ah h
      have hc_5:=aB 33 14 6 r_5 hr_5
      refine Rt (some 27) (.callf 41) [] none [.i 33,.i 14,.i 6] (.tup [.d (Row.d r_5.1),.b r_5.2]) [] (cc hc_5)<|Rc 4 [⟨.d (Row.d r_5.1),[]⟩,vb r_5.2,⟨.tup [],[([2],some (.cells [.i r_5.1.Name,.i r_5.1.A,.i r_5.1.B,.b r_5.1.Mod] 0))]⟩,vb r_5.2]<|Rk<|Runs.ret<|aj<|ae ?_
      cases h
      exact Fq
     | false =>
      replace h:=ab hb_5 h
      refine Cf<|Sq<|Ro<|Rc 2 [vb (op_==169),vb (op_==169)]<|Rk ?_
      cases hb_6:((op_==169):Bool) with
      | true =>
       replace h:=aa hb_6 h
       refine Ct<|Sq<|Ro ?_
       obtain ⟨r_6,hr_6,h⟩:=ah h
       have hc_6:=aB 33 16 7 r_6 hr_6
       refine Rt (some 32) (.callf 41) [] none [.i 33,.i 16,.i 7] (.tup [.d (Row.d r_6.1),.b r_6.2]) [] (cc hc_6)<|Rc 4 [⟨.d (Row.d r_6.1),[]⟩,vb r_6.2,⟨.tup [],[([2],some (.cells [.i r_6.1.Name,.i r_6.1.A,.i r_6.1.B,.b r_6.1.Mod] 0))]⟩,vb r_6.2]<|Rk<|Runs.ret<|aj<|ae ?_
       cases h
       exact Fq
      | false =>
       replace h:=ab hb_6 h
       refine Cf<|Runs.skip<|az<|ai<|Sq<|Sq<|Ro<|Rc 2 [vy op_,vb (decide (op_<168))]<|Rk ?_
       cases hb_7:((decide (op_<168)):Bool) with
       | true =>
        replace h:=aa hb_7 h
        refine Ct<|Sq<|Ro<|Rc 4 [vy op_,vy (IntKind.wrap .u8 (op_ - 164)),vi (IntKind.wrap .i64 (IntKind.wrap .u8 (op_ - 164))),vi (IntKind.wrap .i64 (46+(IntKind.wrap .i64 (IntKind.wrap .u8 (op_ - 164)))))] ?_
        obtain ⟨r_7,hr_7,h⟩:=ah h
        have hc_7:=aB (IntKind.wrap .i64 (46+(IntKind.wrap .i64 (IntKind.wrap .u8 (op_ - 164))))) 0 0 r_7 hr_7
        refine Rt (some 41) (.callf 41) [] none [.i (IntKind.wrap .i64 (46+(IntKind.wrap .i64 (IntKind.wrap .u8 (op_ - 164))))),.i 0,.i 0] (.tup [.d (Row.d r_7.1),.b r_7.2]) [] (cc hc_7)<|Rc 4 [⟨.d (Row.d r_7.1),[]⟩,vb r_7.2,⟨.tup [],[([2],some (.cells [.i r_7.1.Name,.i r_7.1.A,.i r_7.1.B,.b r_7.1.Mod] 0))]⟩,vb r_7.2]<|Rk<|Runs.ret<|ae ?_
        cases h
        exact Fq
       | false =>
        replace h:=ab hb_7 h
        refine Cf<|Runs.skip<|ai<|Sq<|Ro<|Rc 4 [vy op_,vy (IntKind.wrap .u8 (op_ - 170)),vi (IntKind.wrap .i64 (IntKind.wrap .u8 (op_ - 170))),vi (IntKind.wrap .i64 (50+(IntKind.wrap .i64 (IntKind.wrap .u8 (op_ - 170)))))] ?_
        obtain ⟨r_8,hr_8,h⟩:=ah h
        have hc_8:=aB (IntKind.wrap .i64 (50+(IntKind.wrap .i64 (IntKind.wrap .u8 (op_ - 170))))) 0 0 r_8 hr_8
        refine Rt (some 48) (.callf 41) [] none [.i (IntKind.wrap .i64 (50+(IntKind.wrap .i64 (IntKind.wrap .u8 (op_ - 170))))),.i 0,.i 0] (.tup [.d (Row.d r_8.1),.b r_8.2]) [] (cc hc_8)<|Rc 4 [⟨.d (Row.d r_8.1),[]⟩,vb r_8.2,⟨.tup [],[([2],some (.cells [.i r_8.1.Name,.i r_8.1.A,.i r_8.1.B,.b r_8.1.Mod] 0))]⟩,vb r_8.2]<|Rk<|Runs.ret ?_
        cases h
        exact Fq
theorem u6 (op_:Int) (r:(Row × Bool)) (h:lj op_=some r):L 45 [.y op_]=some (.tup [.d (Row.d r.1),.b r.2],[.y op_]):=by
 obtain ⟨p,⟨hne,hf⟩,hr⟩:=tF op_ r h
 obtain ⟨k,hk⟩:=aD (F:=F45) (args:=[.y op_]) (ap:=[.y op_]) (bx0:=ay (fun _=>none) []) rfl rfl (by kernel_rfl) ⟨p,⟨hne,hf⟩,hr⟩
 exact aA (k:=k) rfl hk
def u7 (op_:Int) (reg_:Int) (r:(Row × Bool)) (p:Out × St):Prop:=(∀ i,p.1≠.exit i)∧aV F46 [.y op_,.i reg_] p.2=some (.tup [.d (Row.d r.1),.b r.2],[.y op_,.i reg_])
theorem tG (op_:Int) (reg_:Int) (r:(Row × Bool)) (h:lk op_ reg_=some r):Runs L F46.body ⟨a9 [.y op_,.i reg_] 0,ay (fun _=>none) []⟩ (u7 op_ reg_ r):=by
 unfold lk at h
 refine Sq<|Ro<|Rc 2 [⟨.ptr [4] 0 0,[([4],some (.cells [.i 0,.i 0,.i 0,.b false] 0))]⟩,vb false]<|Rk<|Sq<|Sq<|Ro<|Rc 1 [vy op_]<|Rk<|Runs.block<|Sq<|Ro<|Rc 2 [vb (op_==194),vb (op_==194)]<|Rk ?_
 cases hb_1:((op_==194):Bool) with
 | true =>
  replace h:=aa hb_1 h
  refine Ct<|Sq<|Ro ?_
  obtain ⟨r_1,hr_1,h⟩:=ah h
  have hc_1:=aB 56 7 0 r_1 hr_1
  refine Rt (some 9) (.callf 41) [] none [.i 56,.i 7,.i 0] (.tup [.d (Row.d r_1.1),.b r_1.2]) [] (cc hc_1)<|Rc 4 [⟨.d (Row.d r_1.1),[]⟩,vb r_1.2,⟨.tup [],[([4],some (.cells [.i r_1.1.Name,.i r_1.1.A,.i r_1.1.B,.b r_1.1.Mod] 0))]⟩,vb r_1.2]<|Rk<|Runs.ret<|aj<|ae ?_
  cases h
  exact Fq
 | false =>
  replace h:=ab hb_1 h
  refine Cf<|Sq<|Ro<|Rc 2 [vb (op_==195),vb (op_==195)]<|Rk ?_
  cases hb_2:((op_==195):Bool) with
  | true =>
   replace h:=aa hb_2 h
   refine Ct<|Sq<|Ro ?_
   obtain ⟨r_2,hr_2,h⟩:=ah h
   have hc_2:=aB 56 0 0 r_2 hr_2
   refine Rt (some 14) (.callf 41) [] none [.i 56,.i 0,.i 0] (.tup [.d (Row.d r_2.1),.b r_2.2]) [] (cc hc_2)<|Rc 4 [⟨.d (Row.d r_2.1),[]⟩,vb r_2.2,⟨.tup [],[([4],some (.cells [.i r_2.1.Name,.i r_2.1.A,.i r_2.1.B,.b r_2.1.Mod] 0))]⟩,vb r_2.2]<|Rk<|Runs.ret<|aj<|ae ?_
   cases h
   exact Fq
  | false =>
   replace h:=ab hb_2 h
   refine Cf<|Sq<|Ro<|Rc 2 [vb (op_==196),vb (op_==196)]<|Rk ?_
   cases hb_3:((op_==196):Bool) with
   | true =>
    replace h:=aa hb_3 h
    refine Ct<|Sq<|Ro ?_
    obtain ⟨r_3,hr_3,h⟩:=ah h
    have hc_3:=aF 58 4 19 r_3 hr_3
    refine Rt (some 19) (.callf 68) [] none [.i 58,.i 4,.i 19] (.tup [.d (Row.d r_3.1),.b r_3.2]) [] (cc hc_3)<|Rc 4 [⟨.d (Row.d r_3.1),[]⟩,vb r_3.2,⟨.tup [],[([4],some (.cells [.i r_3.1.Name,.i r_3.1.A,.i r_3.1.B,.b r_3.1.Mod] 0))]⟩,vb r_3.2]<|Rk<|Runs.ret<|aj<|ae ?_
    cases h
    exact Fq
   | false =>
    replace h:=ab hb_3 h
    refine Cf<|Sq<|Ro<|Rc 2 [vb (op_==197),vb (op_==197)]<|Rk ?_
    cases hb_4:((op_==197):Bool) with
    | true =>
     replace h:=aa hb_4 h
     refine Ct<|Sq<|Ro ?_
     obtain ⟨r_4,hr_4,h⟩:=ah h
     have hc_4:=aF 59 4 19 r_4 hr_4
     refine Rt (some 24) (.callf 68) [] none [.i 59,.i 4,.i 19] (.tup [.d (Row.d r_4.1),.b r_4.2]) [] (cc hc_4)<|Rc 4 [⟨.d (Row.d r_4.1),[]⟩,vb r_4.2,⟨.tup [],[([4],some (.cells [.i r_4.1.Name,.i r_4.1.A,.i r_4.1.B,.b r_4.1.Mod] 0))]⟩,vb r_4.2]<|Rk<|Runs.ret<|aj<|ae ?_
     cases h
     exact Fq
    | false =>
     replace h:=ab hb_4 h
     refine Cf<|Sq<|Ro<|Rc 2 [vb (op_==198),vb (op_==198)]<|Rk ?_
     cases hb_5:((op_==198):Bool) with
     | true =>
      replace h:=aa hb_5 h
      refine Ct<|Sq<|Ro<|Rc 2 [vi reg_,vb (reg_==0)]<|Rk ?_
      cases hb_6:((reg_==0):Bool) with
      | true =>
       replace h:=aa hb_6 h
       refine Ct<|Sq<|Ro ?_
       obtain ⟨r_5,hr_5,h⟩:=ah h
       have hc_5:=aF 35 1 6 r_5 hr_5
       refine Rt (some 31) (.callf 68) [] none [.i 35,.i 1,.i 6] (.tup [.d (Row.d r_5.1),.b r_5.2]) [] (cc hc_5)<|Rc 4 [⟨.d (Row.d r_5.1),[]⟩,vb r_5.2,⟨.tup [],[([4],some (.cells [.i r_5.1.Name,.i r_5.1.A,.i r_5.1.B,.b r_5.1.Mod] 0))]⟩,vb r_5.2]<|Rk<|Runs.ret<|aj<|ae ?_
       cases h
       exact Fq
      | false =>
       replace h:=ab hb_6 h
       refine Cf<|Runs.skip<|az<|ai<|Sq<|Ro ?_
       obtain ⟨r_6,hr_6,h⟩:=ah h
       have hc_6:=bt r_6 hr_6
       refine Rt (some 71) (.callf 42) [] none [] (.tup [.d (Row.d r_6.1),.b r_6.2]) [] (cc hc_6)<|Rc 4 [⟨.d (Row.d r_6.1),[]⟩,vb r_6.2,⟨.tup [],[([4],some (.cells [.i r_6.1.Name,.i r_6.1.A,.i r_6.1.B,.b r_6.1.Mod] 0))]⟩,vb r_6.2]<|Rk<|Runs.ret ?_
       cases h
       exact Fq
     | false =>
      replace h:=ab hb_5 h
      refine Cf<|Sq<|Ro<|Rc 2 [vb (op_==199),vb (op_==199)]<|Rk ?_
      cases hb_7:((op_==199):Bool) with
      | true =>
       replace h:=aa hb_7 h
       refine Ct<|Sq<|Ro<|Rc 2 [vi reg_,vb (reg_==0)]<|Rk ?_
       cases hb_8:((reg_==0):Bool) with
       | true =>
        replace h:=aa hb_8 h
        refine Ct<|Sq<|Ro ?_
        obtain ⟨r_7,hr_7,h⟩:=ah h
        have hc_7:=aF 35 2 7 r_7 hr_7
        refine Rt (some 38) (.callf 68) [] none [.i 35,.i 2,.i 7] (.tup [.d (Row.d r_7.1),.b r_7.2]) [] (cc hc_7)<|Rc 4 [⟨.d (Row.d r_7.1),[]⟩,vb r_7.2,⟨.tup [],[([4],some (.cells [.i r_7.1.Name,.i r_7.1.A,.i r_7.1.B,.b r_7.1.Mod] 0))]⟩,vb r_7.2]<|Rk<|Runs.ret<|aj<|ae ?_
        cases h
        exact Fq
       | false =>
        replace h:=ab hb_8 h
        refine Cf<|Runs.skip<|az<|ai<|Sq<|Ro ?_
        obtain ⟨r_8,hr_8,h⟩:=ah h
        have hc_8:=bt r_8 hr_8
        refine Rt (some 71) (.callf 42) [] none [] (.tup [.d (Row.d r_8.1),.b r_8.2]) [] (cc hc_8)<|Rc 4 [⟨.d (Row.d r_8.1),[]⟩,vb r_8.2,⟨.tup [],[([4],some (.cells [.i r_8.1.Name,.i r_8.1.A,.i r_8.1.B,.b r_8.1.Mod] 0))]⟩,vb r_8.2]<|Rk<|Runs.ret ?_
        cases h
        exact Fq
      | false =>
       replace h:=ab hb_7 h
       refine Cf<|Sq<|Ro<|Rc 2 [vb (op_==202),vb (op_==202)]<|Rk ?_
       cases hb_9:((op_==202):Bool) with
       | true =>
        replace h:=aa hb_9 h
        refine Ct<|Sq<|Ro ?_
        obtain ⟨r_9,hr_9,h⟩:=ah h
        have hc_9:=aB 57 7 0 r_9 hr_9
        refine Rt (some 43) (.callf 41) [] none [.i 57,.i 7,.i 0] (.tup [.d (Row.d r_9.1),.b r_9.2]) [] (cc hc_9)<|Rc 4 [⟨.d (Row.d r_9.1),[]⟩,vb r_9.2,⟨.tup [],[([4],some (.cells [.i r_9.1.Name,.i r_9.1.A,.i r_9.1.B,.b r_9.1.Mod] 0))]⟩,vb r_9.2]<|Rk<|Runs.ret<|aj<|ae ?_
        cases h
        exact Fq
       | false =>
        replace h:=ab hb_9 h
        refine Cf<|Sq<|Ro<|Rc 2 [vb (op_==203),vb (op_==203)]<|Rk ?_
        cases hb_10:((op_==203):Bool) with
        | true =>
         replace h:=aa hb_10 h
         refine Ct<|Sq<|Ro ?_
         obtain ⟨r_10,hr_10,h⟩:=ah h
         have hc_10:=aB 57 0 0 r_10 hr_10
         refine Rt (some 48) (.callf 41) [] none [.i 57,.i 0,.i 0] (.tup [.d (Row.d r_10.1),.b r_10.2]) [] (cc hc_10)<|Rc 4 [⟨.d (Row.d r_10.1),[]⟩,vb r_10.2,⟨.tup [],[([4],some (.cells [.i r_10.1.Name,.i r_10.1.A,.i r_10.1.B,.b r_10.1.Mod] 0))]⟩,vb r_10.2]<|Rk<|Runs.ret<|aj<|ae ?_
         cases h
         exact Fq
        | false =>
         replace h:=ab hb_10 h
         refine Cf<|Sq<|Ro<|Rc 2 [vb (op_==204),vb (op_==204)]<|Rk ?_
         cases hb_11:((op_==204):Bool) with
         | true =>
          replace h:=aa hb_11 h
          refine Ct<|Sq<|Ro ?_
          obtain ⟨r_11,hr_11,h⟩:=ah h
          have hc_11:=aB 60 24 0 r_11 hr_11
          refine Rt (some 53) (.callf 41) [] none [.i 60,.i 24,.i 0] (.tup [.d (Row.d r_11.1),.b r_11.2]) [] (cc hc_11)<|Rc 4 [⟨.d (Row.d r_11.1),[]⟩,vb r_11.2,⟨.tup [],[([4],some (.cells [.i r_11.1.Name,.i r_11.1.A,.i r_11.1.B,.b r_11.1.Mod] 0))]⟩,vb r_11.2]<|Rk<|Runs.ret<|aj<|ae ?_
          cases h
          exact Fq
         | false =>
          replace h:=ab hb_11 h
          refine Cf<|Sq<|Ro<|Rc 2 [vb (op_==205),vb (op_==205)]<|Rk ?_
          cases hb_12:((op_==205):Bool) with
          | true =>
           replace h:=aa hb_12 h
           refine Ct<|Sq<|Ro ?_
           obtain ⟨r_12,hr_12,h⟩:=ah h
           have hc_12:=aB 60 6 0 r_12 hr_12
           refine Rt (some 58) (.callf 41) [] none [.i 60,.i 6,.i 0] (.tup [.d (Row.d r_12.1),.b r_12.2]) [] (cc hc_12)<|Rc 4 [⟨.d (Row.d r_12.1),[]⟩,vb r_12.2,⟨.tup [],[([4],some (.cells [.i r_12.1.Name,.i r_12.1.A,.i r_12.1.B,.b r_12.1.Mod] 0))]⟩,vb r_12.2]<|Rk<|Runs.ret<|aj<|ae ?_
           cases h
           exact Fq
          | false =>
           replace h:=ab hb_12 h
           refine Cf<|Sq<|Ro<|Rc 2 [vb (op_==206),vb (op_==206)]<|Rk ?_
           cases hb_13:((op_==206):Bool) with
           | true =>
            replace h:=aa hb_13 h
            refine Ct<|Sq<|Ro ?_
            obtain ⟨r_13,hr_13,h⟩:=ah h
            have hc_13:=aB 61 0 0 r_13 hr_13
            refine Rt (some 63) (.callf 41) [] none [.i 61,.i 0,.i 0] (.tup [.d (Row.d r_13.1),.b r_13.2]) [] (cc hc_13)<|Rc 4 [⟨.d (Row.d r_13.1),[]⟩,vb r_13.2,⟨.tup [],[([4],some (.cells [.i r_13.1.Name,.i r_13.1.A,.i r_13.1.B,.b r_13.1.Mod] 0))]⟩,vb r_13.2]<|Rk<|Runs.ret<|aj<|ae ?_
            cases h
            exact Fq
           | false =>
            replace h:=ab hb_13 h
            refine Cf<|Sq<|Ro<|Rc 2 [vb (op_==207),vb (op_==207)]<|Rk ?_
            cases hb_14:((op_==207):Bool) with
            | true =>
             replace h:=aa hb_14 h
             refine Ct<|Sq<|Ro ?_
             obtain ⟨r_14,hr_14,h⟩:=ah h
             have hc_14:=aB 62 0 0 r_14 hr_14
             refine Rt (some 68) (.callf 41) [] none [.i 62,.i 0,.i 0] (.tup [.d (Row.d r_14.1),.b r_14.2]) [] (cc hc_14)<|Rc 4 [⟨.d (Row.d r_14.1),[]⟩,vb r_14.2,⟨.tup [],[([4],some (.cells [.i r_14.1.Name,.i r_14.1.A,.i r_14.1.B,.b r_14.1.Mod] 0))]⟩,vb r_14.2]<|Rk<|Runs.ret<|aj<|ae ?_
             cases h
             exact Fq
            | false =>
             replace h:=ab hb_14 h
             refine Cf<|Runs.skip<|az<|ai<|Sq<|Ro ?_
             obtain ⟨r_15,hr_15,h⟩:=ah h
             have hc_15:=bt r_15 hr_15
             refine Rt (some 71) (.callf 42) [] none [] (.tup [.d (Row.d r_15.1),.b r_15.2]) [] (cc hc_15)<|Rc 4 [⟨.d (Row.d r_15.1),[]⟩,vb r_15.2,⟨.tup [],[([4],some (.cells [.i r_15.1.Name,.i r_15.1.A,.i r_15.1.B,.b r_15.1.Mod] 0))]⟩,vb r_15.2]<|Rk<|Runs.ret ?_
             cases h
             exact Fq
theorem u9 (op_:Int) (reg_:Int) (r:(Row × Bool)) (h:lk op_ reg_=some r):L 46 [.y op_,.i reg_]=some (.tup [.d (Row.d r.1),.b r.2],[.y op_,.i reg_]):=by
 obtain ⟨p,⟨hne,hf⟩,hr⟩:=tG op_ reg_ r h
 obtain ⟨k,hk⟩:=aD (F:=F46) (args:=[.y op_,.i reg_]) (ap:=[.y op_,.i reg_]) (bx0:=ay (fun _=>none) []) rfl rfl (by kernel_rfl) ⟨p,⟨hne,hf⟩,hr⟩
 exact aA (k:=k) rfl hk
def vc (op_:Int) (reg_:Int) (r:(Row × Bool)) (p:Out × St):Prop:=(∀ i,p.1≠.exit i)∧aV F47 [.y op_,.i reg_] p.2=some (.tup [.d (Row.d r.1),.b r.2],[.y op_,.i reg_])
theorem tH (op_:Int) (reg_:Int) (r:(Row × Bool)) (h:ll op_ reg_=some r):Runs L F47.body ⟨a9 [.y op_,.i reg_] 0,ay (fun _=>none) []⟩ (vc op_ reg_ r):=by
 unfold ll at h
 refine Sq<|Ro<|Rc 2 [⟨.ptr [4] 0 0,[([4],some (.cells [.i 0,.i 0,.i 0,.b false] 0))]⟩,vb false]<|Rk<|Sq<|Sq<|Ro<|Rc 2 [vy op_,vb (decide (op_<212))]<|Rk ?_
 cases hb_1:((decide (op_<212)):Bool) with
 | true =>
  replace h:=aa hb_1 h
  refine Ct<|Sq<|Sq<|Ro<|Rc 2 [vi reg_,vb (reg_==6)]<|Rk ?_
  cases hb_2:((reg_==6):Bool) with
  | true =>
   replace h:=aa hb_2 h
   refine Ct<|Sq<|Ro ?_
   obtain ⟨r_1,hr_1,h⟩:=ah h
   have hc_1:=bt r_1 hr_1
   refine Rt (some 13) (.callf 42) [] none [] (.tup [.d (Row.d r_1.1),.b r_1.2]) [] (cc hc_1)<|Rc 4 [⟨.d (Row.d r_1.1),[]⟩,vb r_1.2,⟨.tup [],[([4],some (.cells [.i r_1.1.Name,.i r_1.1.A,.i r_1.1.B,.b r_1.1.Mod] 0))]⟩,vb r_1.2]<|Rk<|Runs.ret<|ae<|ae ?_
   cases h
   exact Fq
  | false =>
   replace h:=ab hb_2 h
   refine Cf<|Runs.skip<|ai<|Sq<|Ro<|Rc 2 [⟨.ref [16] 0 0 (List.map (D.int .i64) ([63,64,65,66,67,68,0,69]:List Int)).length 1,[([16],some (.arr (List.map (D.int .i64) ([63,64,65,66,67,68,0,69]:List Int)) 0 false))]⟩,vi reg_] ?_
   obtain ⟨z_1,hz_1,h⟩:=ah h
   refine Rt (some 18) (.iaddrS 1) [] none [.ref [16] 0 0 (List.map (D.int .i64) ([63,64,65,66,67,68,0,69]:List Int)).length 1,.i reg_] (.eref [16] 0 (0+(reg_).toNat) 0) [] (gV (e:=(D.int .i64)) (l:=([63,64,65,66,67,68,0,69]:List Int)) hz_1 rfl)<|Rt (some 19) (.load none) [] none [.eref [16] 0 (0+(reg_).toNat) 0] (.i z_1) [] (eE (e:=(D.int .i64)) (l:=([63,64,65,66,67,68,0,69]:List Int)) (fz:=false) (y:=z_1) (by kernel_rfl) hz_1 (by kernel_rfl) (by kernel_rfl))<|Rc 1 [vi z_1]<|Rk<|Sq<|Ro<|Rc 2 [vi 1,vi 18]<|Rk<|Sq<|Sq<|Ro<|Rc 3 [vy op_,vy (ak .and .u8 op_ 1),vb ((ak .and .u8 op_ 1)==1)]<|Rk ?_
   cases hb_3:(((ak .and .u8 op_ 1)==1):Bool) with
   | true =>
    replace h:=aa hb_3 h
    refine Ct<|Ro<|Rc 1 [vi 2]<|Rk<|Sq<|Sq<|Ro<|Rc 3 [vy op_,vy (ak .and .u8 op_ 2),vb ((ak .and .u8 op_ 2) != 0)]<|Rk ?_
    cases hb_4:(((ak .and .u8 op_ 2) != 0):Bool) with
    | true =>
     replace h:=aa hb_4 h
     refine Ct<|Ro<|Rc 1 [vi 15]<|Rk<|Sq<|Ro<|Rc 3 [vi z_1,vi 2,vi 15] ?_
     obtain ⟨r_2,hr_2,h⟩:=ah h
     have hc_2:=aF z_1 2 15 r_2 hr_2
     refine Rt (some 29) (.callf 68) [] none [.i z_1,.i 2,.i 15] (.tup [.d (Row.d r_2.1),.b r_2.2]) [] (cc hc_2)<|Rc 4 [⟨.d (Row.d r_2.1),[]⟩,vb r_2.2,⟨.tup [],[([4],some (.cells [.i r_2.1.Name,.i r_2.1.A,.i r_2.1.B,.b r_2.1.Mod] 0))]⟩,vb r_2.2]<|Rk<|Runs.ret<|ae ?_
     cases h
     exact Fq
    | false =>
     replace h:=ab hb_4 h
     refine Cf<|Runs.skip<|ai<|Sq<|Ro<|Rc 3 [vi z_1,vi 2,vi 18] ?_
     obtain ⟨r_3,hr_3,h⟩:=ah h
     have hc_3:=aF z_1 2 18 r_3 hr_3
     refine Rt (some 29) (.callf 68) [] none [.i z_1,.i 2,.i 18] (.tup [.d (Row.d r_3.1),.b r_3.2]) [] (cc hc_3)<|Rc 4 [⟨.d (Row.d r_3.1),[]⟩,vb r_3.2,⟨.tup [],[([4],some (.cells [.i r_3.1.Name,.i r_3.1.A,.i r_3.1.B,.b r_3.1.Mod] 0))]⟩,vb r_3.2]<|Rk<|Runs.ret<|ae ?_
     cases h
     exact Fq
   | false =>
    replace h:=ab hb_3 h
    refine Cf<|Runs.skip<|ai<|Sq<|Sq<|Ro<|Rc 3 [vy op_,vy (ak .and .u8 op_ 2),vb ((ak .and .u8 op_ 2) != 0)]<|Rk ?_
    cases hb_5:(((ak .and .u8 op_ 2) != 0):Bool) with
    | true =>
     replace h:=aa hb_5 h
     refine Ct<|Ro<|Rc 1 [vi 15]<|Rk<|Sq<|Ro<|Rc 3 [vi z_1,vi 1,vi 15] ?_
     obtain ⟨r_4,hr_4,h⟩:=ah h
     have hc_4:=aF z_1 1 15 r_4 hr_4
     refine Rt (some 29) (.callf 68) [] none [.i z_1,.i 1,.i 15] (.tup [.d (Row.d r_4.1),.b r_4.2]) [] (cc hc_4)<|Rc 4 [⟨.d (Row.d r_4.1),[]⟩,vb r_4.2,⟨.tup [],[([4],some (.cells [.i r_4.1.Name,.i r_4.1.A,.i r_4.1.B,.b r_4.1.Mod] 0))]⟩,vb r_4.2]<|Rk<|Runs.ret<|ae ?_
     cases h
     exact Fq
    | false =>
     replace h:=ab hb_5 h
     refine Cf<|Runs.skip<|ai<|Sq<|Ro<|Rc 3 [vi z_1,vi 1,vi 18] ?_
     obtain ⟨r_5,hr_5,h⟩:=ah h
     have hc_5:=aF z_1 1 18 r_5 hr_5
     refine Rt (some 29) (.callf 68) [] none [.i z_1,.i 1,.i 18] (.tup [.d (Row.d r_5.1),.b r_5.2]) [] (cc hc_5)<|Rc 4 [⟨.d (Row.d r_5.1),[]⟩,vb r_5.2,⟨.tup [],[([4],some (.cells [.i r_5.1.Name,.i r_5.1.A,.i r_5.1.B,.b r_5.1.Mod] 0))]⟩,vb r_5.2]<|Rk<|Runs.ret<|ae ?_
     cases h
     exact Fq
 | false =>
  replace h:=ab hb_1 h
  refine Cf<|Runs.skip<|ai<|Sq<|Runs.block<|Sq<|Ro<|Rc 3 [vy op_,vb (op_==212),vb (op_==212)]<|Rk ?_
  cases hb_6:((op_==212):Bool) with
  | true =>
   replace h:=aa hb_6 h
   refine Ct<|Sq<|Ro ?_
   obtain ⟨r_6,hr_6,h⟩:=ah h
   have hc_6:=aB 70 6 0 r_6 hr_6
   refine Rt (some 35) (.callf 41) [] none [.i 70,.i 6,.i 0] (.tup [.d (Row.d r_6.1),.b r_6.2]) [] (cc hc_6)<|Rc 4 [⟨.d (Row.d r_6.1),[]⟩,vb r_6.2,⟨.tup [],[([4],some (.cells [.i r_6.1.Name,.i r_6.1.A,.i r_6.1.B,.b r_6.1.Mod] 0))]⟩,vb r_6.2]<|Rk<|Runs.ret<|aj<|ae ?_
   cases h
   exact Fq
  | false =>
   replace h:=ab hb_6 h
   refine Cf<|Sq<|Ro<|Rc 3 [vy op_,vb (op_==213),vb (op_==213)]<|Rk ?_
   cases hb_7:((op_==213):Bool) with
   | true =>
    replace h:=aa hb_7 h
    refine Ct<|Sq<|Ro ?_
    obtain ⟨r_7,hr_7,h⟩:=ah h
    have hc_7:=aB 71 6 0 r_7 hr_7
    refine Rt (some 41) (.callf 41) [] none [.i 71,.i 6,.i 0] (.tup [.d (Row.d r_7.1),.b r_7.2]) [] (cc hc_7)<|Rc 4 [⟨.d (Row.d r_7.1),[]⟩,vb r_7.2,⟨.tup [],[([4],some (.cells [.i r_7.1.Name,.i r_7.1.A,.i r_7.1.B,.b r_7.1.Mod] 0))]⟩,vb r_7.2]<|Rk<|Runs.ret<|aj<|ae ?_
    cases h
    exact Fq
   | false =>
    replace h:=ab hb_7 h
    refine Cf<|Sq<|Ro<|Rc 3 [vy op_,vb (op_==215),vb (op_==215)]<|Rk ?_
    cases hb_8:((op_==215):Bool) with
    | true =>
     replace h:=aa hb_8 h
     refine Ct<|Sq<|Ro ?_
     obtain ⟨r_8,hr_8,h⟩:=ah h
     have hc_8:=aB 72 0 0 r_8 hr_8
     refine Rt (some 47) (.callf 41) [] none [.i 72,.i 0,.i 0] (.tup [.d (Row.d r_8.1),.b r_8.2]) [] (cc hc_8)<|Rc 4 [⟨.d (Row.d r_8.1),[]⟩,vb r_8.2,⟨.tup [],[([4],some (.cells [.i r_8.1.Name,.i r_8.1.A,.i r_8.1.B,.b r_8.1.Mod] 0))]⟩,vb r_8.2]<|Rk<|Runs.ret<|aj<|ae ?_
     cases h
     exact Fq
    | false =>
     replace h:=ab hb_8 h
     refine Cf<|Sq<|Ro<|Rc 3 [vy op_,vb (decide (op_≥216)),vb (decide (op_≥216))]<|Rk ?_
     cases hb_9:((decide (op_≥216)):Bool) with
     | true =>
      replace h:=aa hb_9 h
      refine Ct<|Sq<|Ro ?_
      obtain ⟨r_9,hr_9,h⟩:=ah h
      have hc_9:=aF 73 2 0 r_9 hr_9
      refine Rt (some 53) (.callf 68) [] none [.i 73,.i 2,.i 0] (.tup [.d (Row.d r_9.1),.b r_9.2]) [] (cc hc_9)<|Rc 4 [⟨.d (Row.d r_9.1),[]⟩,vb r_9.2,⟨.tup [],[([4],some (.cells [.i r_9.1.Name,.i r_9.1.A,.i r_9.1.B,.b r_9.1.Mod] 0))]⟩,vb r_9.2]<|Rk<|Runs.ret<|aj<|ae ?_
      cases h
      exact Fq
     | false =>
      replace h:=ab hb_9 h
      refine Cf<|Runs.skip<|az<|ai<|Sq<|Ro ?_
      obtain ⟨r_10,hr_10,h⟩:=ah h
      have hc_10:=bt r_10 hr_10
      refine Rt (some 56) (.callf 42) [] none [] (.tup [.d (Row.d r_10.1),.b r_10.2]) [] (cc hc_10)<|Rc 4 [⟨.d (Row.d r_10.1),[]⟩,vb r_10.2,⟨.tup [],[([4],some (.cells [.i r_10.1.Name,.i r_10.1.A,.i r_10.1.B,.b r_10.1.Mod] 0))]⟩,vb r_10.2]<|Rk<|Runs.ret ?_
      cases h
      exact Fq
theorem vd (op_:Int) (reg_:Int) (r:(Row × Bool)) (h:ll op_ reg_=some r):L 47 [.y op_,.i reg_]=some (.tup [.d (Row.d r.1),.b r.2],[.y op_,.i reg_]):=by
 obtain ⟨p,⟨hne,hf⟩,hr⟩:=tH op_ reg_ r h
 obtain ⟨k,hk⟩:=aD (F:=F47) (args:=[.y op_,.i reg_]) (ap:=[.y op_,.i reg_]) (bx0:=ay (fun _=>none) []) rfl rfl (by kernel_rfl) ⟨p,⟨hne,hf⟩,hr⟩
 exact aA (k:=k) rfl hk
def fP (b_2:Row) (op0:Int) (t4:Int) (t5:Bool):St:=⟨tab [(0,.y op0),(2,.ptr [2] 0 0),(4,.y t4),(5,.b t5)],be [([2],some (.cells [.i b_2.Name,.i b_2.A,.i b_2.B,.b b_2.Mod] 0))]⟩
def qA (op_:Int) (r:(Row × Bool)) (p:Out × St):Prop:=(∀ i,p.1≠.exit i)∧aV F48 [.y op_] p.2=some (.tup [.d (Row.d r.1),.b r.2],[.y op_])
end Go.Es.Pko
