/- The law PickOwn in plain Lean. No condition. -/
import Derived.Test.YtappijlcmhdilaaDoorPkoH
set_option linter.unusedVariables false
set_option linter.unusedSimpArgs false
set_option maxHeartbeats 4000000
set_option maxRecDepth 100000
namespace Go.Es.Pko
def eqI (c i:Inst):Bool:=(c.Lock==i.Lock && (c.Rep==i.Rep && (c.Seg==i.Seg && (c.Op==i.Op && (c.Mod==i.Mod && (c.Reg==i.Reg && (c.RM==i.RM && (c.Disp==i.Disp && (c.Imm==i.Imm && (c.Sel==i.Sel && true))))))))))
theorem AA (i:Inst):eqI i i=true:=by simp [eqI]
def isF (i:Inst) (c:Choice):Bool:=eqI c.I i || (c.I.Op==i.Op && decide (c.I.Mod<i.Mod))
theorem agY (i:Inst) (r:Row) (c:Choice) (hc:Good r.Name c) (l:List Choice) (fd:Bool) (k:Int) (h0:0≤k) (h1:k≤100000) :
  aR i r c.I l fd k=some (.next (fd || isF i c,k+1)):=by
 unfold aR
 have hn:(aG c.I.Op c.I.Reg).1.Name=r.Name:=hc.2.2.2.2.2
 rw [qo c.I hc.1.1,Option.bind_some,bg (n:=k+1) (by omega) (by omega),hn]
 have hne:(r.Name != r.Name)=false:=by simp
 rw [hne]
 simp only [Bool.false_eq_true,if_false]
 unfold isF eqI
 cases fd with
 | true=>rfl
 | false =>
  simp only [Bool.false_eq_true,if_false,Bool.false_or]
  split
  ·rename_i h; rw [h]; rfl
  ·rename_i h
   have h':=Bool.eq_false_iff.2 h
   rw [h']
   cases (c.I.Op==i.Op) <;> rfl
theorem AB (i:Inst) (r:Row) (l:List Choice) (hl:l.length≤60000) (hG:∀ c ∈ l,Good r.Name c) (hs:l.Pairwise fun a b=>fV a.I≤fV b.I) :
  cr (fun x:(Bool × Int)=>aM i r l x.1 x.2) (false,0)=some (.inr (l.any (isF i))):=by
 have:=qq l (fun xs=>(xs.any (isF i),(xs.length:Int))) (fun _=>True) (f:=fun x:(Bool × Int)=>aM i r l x.1 x.2) (.inr (l.any (isF i))) ?_ ?_ trivial
 ·simpa using this
 ·intro xs v ys hR _
  left
  refine ⟨?_,trivial⟩
  have hv:Good r.Name v:=hG v (by rw [hR]; simp)
  have hx:=wI hR
  have hlt:decide ((xs.length:Int)<(l.length:Int))=true:=by simpa using hx
  have fin:aR i r v.I l (xs.any (isF i)) (xs.length:Int)=some (.next ((xs++[v]).any (isF i),((xs++[v]).length:Int))):=by
   rw [agY i r v hv l _ _ (by omega) (by omega)]
   simp
  unfold aM
  simp only [hlt,if_true,tl hR,Option.bind_some,wH v.I hv.1,hv.2.1,Bool.not_true,Bool.false_eq_true,if_false]
  by_cases h0:(xs.length:Int)>0
  ·rw [show decide ((xs.length:Int)>0)=true by simpa using h0]
   have hw:IntKind.wrap .i64 ((xs.length:Int) - 1)=((xs.length - 1:Nat):Int):=by rw [bg (by omega) (by omega)]; omega
   have hp:xs.length - 1<l.length:=by omega
   have e:idx l ((xs.length - 1:Nat):Int)=some l[xs.length - 1]:=la hp
   have hg:Good r.Name l[xs.length - 1]:=hG _ (List.getElem_mem _)
   have hvl:l[xs.length]=v:=by subst hR; simp
   have hle:fV l[xs.length - 1].I≤fV v.I:=by
    rw [List.pairwise_iff_getElem] at hs
    have:=hs (xs.length - 1) xs.length hp hx (by omega)
    rw [hvl] at this; exact this
   simp only [if_true,qy hv,Option.bind_some,hw,e,qy hg]
   rw [show decide (fV v.I<fV l[xs.length - 1].I)=false by simp; omega]
   simp only [Bool.false_eq_true,if_false]
   exact fin
  ·rw [show decide ((xs.length:Int)>0)=false by simpa using h0]
   exact fin
 ·intro _
  unfold aM
  have:decide ((l.length:Int)<(l.length:Int))=false:=by simp
  simp only [this,Bool.false_eq_true,if_false]
theorem Ch {i:Inst} (hm:gZ i=true) (hl:i.Lock=false∧i.Rep=0∧i.Seg=0):1≤fV i∧fV i≤12:=by
 unfold fV
 rw [hl.1,hl.2.1,hl.2.2]
 have h2:(aG i.Op i.Reg).2=true:=by unfold gZ at hm; simp only [Bool.and_eq_true] at hm; exact hm.1
 have hb:=ld (aG i.Op i.Reg).1.A
 have hc:=ld (aG i.Op i.Reg).1.B
 have hd:=qn i.Mod i.RM
 have e1:pb false=0:=rfl
 have e2:pb (decide ((0:Int)>0))=0:=rfl
 rw [e1,e2]
 split <;> omega
theorem uV (i:Inst) (k:Int) (hk:k=1∨k=2∨k=19):(opd i k).Kind=5→(opd i k).Type_≠0:=by
 intro h
 rcases hk with rfl | rfl | rfl
 ·have e:opd i 1=if (i.Mod==3)=true then plO 1 i.RM else meO i 1:=rfl
  rw [e] at h ⊢
  split at h
  ·cases h
  ·rename_i hq; rw [if_neg hq,io]; decide
 ·have e:opd i 2=if (i.Mod==3)=true then plO 2 i.RM else meO i 2:=rfl
  rw [e] at h ⊢
  split at h
  ·cases h
  ·rename_i hq; rw [if_neg hq,io]; decide
 ·have e:opd i 19=meO i 4:=rfl
  rw [e,io]; decide
theorem Ci (i:Inst) (ho:okI i) (hm:gZ i=true) (hl:i.Lock=false∧i.Rep=0∧i.Seg=0) (h9:(aG i.Op i.Reg).1.A≠9∧(aG i.Op i.Reg).1.A≠10∧(aG i.Op i.Reg).1.A≠11) :
  ∃ l,dg (aG i.Op i.Reg).1.Name ⟨opd i (aG i.Op i.Reg).1.A,opd i (aG i.Op i.Reg).1.B⟩=some l∧l.length≤60000∧(∀ c ∈ l,Good (aG i.Op i.Reg).1.Name c)∧(l.Pairwise fun a b=>fV a.I≤fV b.I) ∧
   ∃ c ∈ l,c.I=i∨(c.I.Op=i.Op∧c.I.Mod<i.Mod)∨(216≤i.Op∧i.Op≤223):=by
 have hm0:=hm
 unfold gZ at hm
 simp only [Bool.and_eq_true] at hm
 obtain ⟨hr2,hs,hb,hp⟩:=hm
 have o0:=ho.1
 have hr:=tq o0.1 o0.2 hr2
 obtain ⟨hsel,h6,h8,hi0⟩:=sx hr h9 hb
 obtain ⟨hpp,hx,_⟩:=sw hr2
 -- the row's number
 have hreg:grp i.Op.toNat=true→0≤i.Reg∧i.Reg≤7:=by
  intro hg
  cases hmod:(aG i.Op i.Reg).1.Mod with
  | true=>exact ((oi hmod).1 hs).2.1
  | false=>have:=hr.ng hmod; rw [hg] at this; cases this
 obtain ⟨g,hg1,hg2,hg3⟩:∃ g:Int,(0≤g∧g≤7)∧(grp i.Op.toNat=true→g=i.Reg)∧(grp i.Op.toNat=false→g=0):=by
  cases hgr:grp i.Op.toNat with
  | true=>exact ⟨i.Reg,hreg hgr,fun _=>rfl,fun h=>by cases h⟩
  | false=>exact ⟨0,⟨by decide,by decide⟩,(fun h=>by cases h),fun _=>rfl⟩
 have hrow:aG i.Op g=aG i.Op i.Reg:=by
  cases hgr:grp i.Op.toNat with
  | true=>rw [hg2 hgr]
  | false=>rw [hg3 hgr]; exact hr.ze hgr
 have d8:(i.Op*8+g) / 8=i.Op:=by omega
 have m8:(i.Op*8+g) % 8=g:=by omega
 obtain ⟨j,e1,e2,e3,e4,_,_,_,e5⟩:=yv i ho hm0 hl h9 g hg2
 have hP:∀ out out',ci ⟨opd i (aG i.Op i.Reg).1.A,opd i (aG i.Op i.Reg).1.B⟩ out (aG i.Op i.Reg).1.Name (i.Op*8+g)=some (.next (out',i.Op*8+g+1))→out.length≤4096→∃ c,c ∈ out'∧c.I=j:=by
  intro out out' h hlen
  obtain ⟨o,q1,_,q3⟩:=sy ⟨opd i (aG i.Op i.Reg).1.A,opd i (aG i.Op i.Reg).1.B⟩ out (aG i.Op i.Reg).1.Name (i.Op*8+g) (by omega) (by omega) hlen
  rw [q1] at h
  injection h with h; injection h with h; injection h with h _
  subst h
  rw [d8,m8,hrow] at q3
  obtain ⟨c,rfl,_,hc⟩:=q3 hpp hg3 hr2 rfl
   (fun l f=>xF i ho hr.a h9 (fun h=>h6 (.inl h)) (fun h=>h8 (.inl h)) l f)
   (fun l f=>xF i ho hr.b hr.b9 (fun h=>h6 (.inr h)) (fun h=>h8 (.inr h)) l f)
   ⟨fun h=>uV i _ h,fun h=>uV i _ h⟩ (by rw [e1]; exact e3)
  exact ⟨c,by simp,by rw [hc,e1]⟩
 obtain ⟨o,q1,q2,q3,q4⟩:=uU _ _ (i.Op*8+g) (fun c=>c.I=j) hP 2048 0 [] rfl (by omega) (by simp) (by simp) (fun h=>by omega)
 obtain ⟨c,hc,hcj⟩:=q4 (by omega)
 have hsl:=tu o 12
 refine ⟨srt o 12,?_,by omega,fun d hd=>q3 d ((pg o 12 d).1 hd).1,xG o 12,c,?_,?_⟩
 ·unfold dg
  rw [q1,Option.bind_some,Ce o _ q2 q3]; rfl
 ·have hgc:=q3 c hc
  have:=Ch hgc.2.1 ⟨hgc.2.2.1,hgc.2.2.2.1,hgc.2.2.2.2.1⟩
  exact (pg o 12 c).2 ⟨hc,this.1,this.2⟩
 ·rw [hcj]
  rcases e5 with h | h | h
  ·exact .inl h
  ·exact .inr (.inl ⟨e4,h⟩)
  ·exact .inr (.inr h)
theorem tw (x:Inst) (wx:Inst.wf x):cE x=some true:=by
 obtain ⟨y,hy,oy,my⟩:=yq x (Wu wx)
 unfold cE
 rw [hy,Option.bind_some]
 generalize hi:({ y with Lock:=false,Rep:=0,Seg:=0 }:Inst)=i
 have e1:y.Op=i.Op:=by rw [← hi]
 have e2:y.Reg=i.Reg:=by rw [← hi]
 have ho:okI i:=by rw [← hi]; exact oy
 have hm:gZ i=true:=by
  unfold gZ at my ⊢
  simp only [Bool.and_eq_true] at my ⊢
  obtain ⟨a,b,c,_⟩:=my
  rw [e1,e2] at a b c
  refine ⟨a,?_,?_,?_⟩
  ·rw [← b]; subst hi; rfl
  ·rw [← c]; subst hi; rfl
  ·subst hi; rfl
 have hl:i.Lock=false∧i.Rep=0∧i.Seg=0:=by rw [← hi]; exact ⟨rfl,rfl,rfl⟩
 have hboth:cL i=some (⟨opd i (aG i.Op i.Reg).1.A,opd i (aG i.Op i.Reg).1.B⟩,(aG i.Op i.Reg).1.A != 9 && ((aG i.Op i.Reg).1.A != 10 && (aG i.Op i.Reg).1.A != 11)):=by
  unfold cL
  rw [qo i ho.1,Option.bind_some,Av i ho,Option.bind_some,Av i ho,Option.bind_some]
  cases ((aG i.Op i.Reg).1.A != 9) <;> cases ((aG i.Op i.Reg).1.A != 10) <;> rfl
 rw [qo i ho.1,Option.bind_some,hboth,Option.bind_some,awk]
 cases h9:((aG i.Op i.Reg).1.A != 9 && ((aG i.Op i.Reg).1.A != 10 && (aG i.Op i.Reg).1.A != 11)) with
 | false=>rfl
 | true =>
  simp only [Bool.and_eq_true,bne_iff_ne,ne_eq] at h9
  obtain ⟨l,p1,p2,p3,p4,c,hc,hcase⟩:=Ci i ho hm hl h9
  have hne:((l.length:Int)==0)=false:=by
   have:0<l.length:=List.length_pos_of_mem hc
   simp; intro h; rw [h] at this; simp at this
  simp only [Bool.not_true,Bool.false_eq_true,if_false,p1,Option.bind_some,hne]
  rw [AB i _ l p2 p3 p4]
  simp only [Option.bind_some,if_true]
  rcases hcase with h | ⟨h1,h2⟩ | ⟨h1,h2⟩
  ·have:l.any (isF i)=true:=List.any_eq_true.2 ⟨c,hc,by unfold isF; rw [h,AA]; rfl⟩
   rw [this]; rfl
  ·have:l.any (isF i)=true:=List.any_eq_true.2 ⟨c,hc,by unfold isF; simp [h1,h2]⟩
   rw [this]; rfl
  ·split
   ·rfl
   ·rw [e1,show decide (i.Op≥216)=true by simpa using h1,show decide (i.Op≤223)=true by simpa using h2]; rfl
end Go.Es.Pko
