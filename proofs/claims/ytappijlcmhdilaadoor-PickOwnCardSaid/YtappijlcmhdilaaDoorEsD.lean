/- EsD: part of an interpreter of the program's code whose answers are the machine's. No condition. -/
import Derived.Test.YtappijlcmhdilaaDoorEsC
import Derived.KernelRfl
import Derived.Laws.BitsLemmas
set_option linter.unusedSimpArgs false
set_option linter.unusedVariables false
namespace Go.Es
def ajd (C:Cs) (ts:List Nat) (bs:List Id) (b:Ac):Nat→St→Option (Out × St)
 | 0,_=>none
 | k+1,h=>(bp C (k+1) b h).bind fun p=>match p.1 with
  | .nrm=>iter (bp C (k+1) (.seq (.keep ts bs) b)) k p.2
  | o=>some (o,p.2)
def Ev (f:Nat→Option (Out × St)) (p:Out × St):Prop:=∃ k0,∀ k,k0≤k→f k=some p
theorem Ev.of {f:Nat→Option (Out × St)} {p:Out × St} (h:∀ k,f k=some p):Ev f p:=⟨0,fun k _=>h k⟩
end Go.Es
namespace Go.Es
def Runs (C:Cs) (c:Ac) (s:St) (Q:Out × St→Prop):Prop:=∃ p,Q p∧∃ k0,∀ k,k0≤k→bp C k c s=some p
def RunAt (C:Cs) (L:List Ao) (i:Nat) (s:St) (R:St→Prop):Prop:=∃ s',bO C (L.drop i) s=some s'∧R s'
def kS (C:Cs) (b:Ac) (Q:Out × St→Prop) (p:Out × St):Prop:=match p.1 with | .nrm=>Runs C b p.2 Q | _=>Q p
def kB (id:Nat) (Q:Out × St→Prop) (p:Out × St):Prop:=match p.1 with | .exit i=>if i=id then Q (.nrm,p.2) else Q p | _=>Q p
section
variable {C:Cs} {a b c:Ac} {s s':St} {Q:Out × St→Prop} {R:St→Prop} {id:Nat}
theorem ai (h:Runs C b s Q):kS C b Q (.nrm,s):=h
theorem ae (h:Q (.ret,s)):kS C b Q (.ret,s):=h
theorem bz {i:Nat} (h:Q (.exit i,s)):kS C b Q (.exit i,s):=h
theorem az (h:Q (.nrm,s)):kB id Q (.nrm,s):=h
theorem aj (h:Q (.ret,s)):kB id Q (.ret,s):=h
theorem cN (h:Q (.nrm,s)):kB id Q (.exit id,s):=by simpa only [kB,if_true] using h
theorem Runs.seq (h:Runs C a s (kS C b Q)):Runs C (.seq a b) s Q:=by
 obtain ⟨⟨o,s1⟩,hq,k0,h1⟩:=h
 cases o with
 | nrm =>
  obtain ⟨p,hp,k1,h2⟩:=hq
  exact ⟨p,hp,max k0 k1,fun k hk=>by simp only [bp,h1 k (by omega),Option.bind_some]; exact h2 k (by omega)⟩
 | exit i=>exact ⟨(.exit i,s1),hq,k0,fun k hk=>by simp only [bp,h1 k hk,Option.bind_some]⟩
 | ret=>exact ⟨(.ret,s1),hq,k0,fun k hk=>by simp only [bp,h1 k hk,Option.bind_some]⟩
theorem Runs.ops {l:List Ao} (h:RunAt C l 0 s (fun s'=>Q (.nrm,s'))):Runs C (.ops l) s Q:=by
 obtain ⟨s',h1,h2⟩:=h
 exact ⟨_,h2,0,fun k _=>by simp only [bp]; rw [List.drop_zero] at h1; rw [h1]; rfl⟩
theorem Runs.cond_t {x:O} (hb:asB (x.ev s.tm)=some true) (h:Runs C a s Q):Runs C (.cond x a b) s Q:=by
 obtain ⟨p,hq,k0,h1⟩:=h
 exact ⟨p,hq,k0,fun k hk=>by simp only [bp,hb,Option.bind_some,if_true]; exact h1 k hk⟩
theorem Runs.cond_f {x:O} (hb:asB (x.ev s.tm)=some false) (h:Runs C b s Q):Runs C (.cond x a b) s Q:=by
 obtain ⟨p,hq,k0,h1⟩:=h
 exact ⟨p,hq,k0,fun k hk=>by simp only [bp,hb,Option.bind_some,Bool.false_eq_true,if_false]; exact h1 k hk⟩
theorem Runs.block (h:Runs C c s (kB id Q)):Runs C (.block id c) s Q:=by
 obtain ⟨⟨o,s1⟩,hq,k0,h1⟩:=h
 cases o with
 | nrm=>exact ⟨(.nrm,s1),hq,k0,fun k hk=>by simp only [bp,h1 k hk,Option.bind_some]⟩
 | ret=>exact ⟨(.ret,s1),hq,k0,fun k hk=>by simp only [bp,h1 k hk,Option.bind_some]⟩
 | exit i =>
  by_cases e:i=id
  ·simp only [kB,if_pos e] at hq
   exact ⟨(.nrm,s1),hq,k0,fun k hk=>by simp only [bp,h1 k hk,Option.bind_some,if_pos e]⟩
  ·simp only [kB,if_neg e] at hq
   exact ⟨(.exit i,s1),hq,k0,fun k hk=>by simp only [bp,h1 k hk,Option.bind_some,if_neg e]⟩
theorem Runs.skip (h:Q (.nrm,s)):Runs C .skip s Q:=⟨_,h,0,fun k _=>rfl⟩
theorem Runs.exit {i:Nat} (h:Q (.exit i,s)):Runs C (.exit i) s Q:=⟨_,h,0,fun k _=>rfl⟩
theorem Runs.ret (h:Q (.ret,s)):Runs C .ret s Q:=⟨_,h,0,fun k _=>rfl⟩
theorem Runs.keep {ts:List Nat} {bs:List Id} (s':St) (hk:pj ts bs s=some s') (h:Q (.nrm,s')):Runs C (.keep ts bs) s Q:=⟨_,h,0,fun k _=>by simp only [bp,hk]; rfl⟩
theorem Runs.gh {l:List Gs} (s':St) (hk:iQ l s=some s') (h:Q (.nrm,s')):Runs C (.gh l) s Q:=⟨_,h,0,fun k _=>by simp only [bp,hk]; rfl⟩
def ay (bx:Bx):List (Id × Option Box)→Bx
 | []=>bx
 | p :: r=>ay (upd bx p.1 p.2) r
structure W where
 v:A
 b:List (Id × Option Box):=[]
def adv:List Ao→List W→St→St
 | o :: r,w :: ws,s=>adv r ws (iX s o.dst w.v (ay s.bx w.b))
 | _,_,s=>s
theorem sh (l m:List Ao) (s:St):bO C (l++m) s=(bO C l s).bind fun s'=>bO C m s':=by
 induction l generalizing s with
 | nil=>rfl
 | cons o l ih =>
  simp only [List.cons_append,bO]
  cases step C o s with
  | none=>rfl
  | some s1=>exact ih s1
theorem RunAt.done {L:List Ao} {i:Nat} (hi:L.drop i=[]) (h:R s):RunAt C L i s R:=⟨s,by rw [hi]; rfl,h⟩
theorem RunAt.chunk {L:List Ao} {i:Nat} (n:Nat) (ws:List W) (h:bO C ((L.drop i).take n) s=some (adv ((L.drop i).take n) ws s))
  (k:RunAt C L (i+n) (adv ((L.drop i).take n) ws s) R):RunAt C L i s R:=by
 obtain ⟨s',h1,h2⟩:=k
 refine ⟨s',?_,h2⟩
 rw [← List.take_append_drop n (L.drop i),sh,h,Option.bind_some,List.drop_drop]
 exact h1
def ww (o:Ao):Option Nat × K × List Id × Option (List Id):=(o.dst,o.k,o.av,o.al)
theorem xm (o:Ao) (xs:List A) (bx:Bx):sem C o xs bx=sem C ⟨o.dst,o.k,[],none,o.av,o.al⟩ xs bx:=by
 obtain ⟨d,k,os,g,av,al⟩:=o
 unfold sem
 rfl
theorem RunAt.cut {L:List Ao} {i:Nat} (d:Option Nat) (k:K) (av:List Id) (al:Option (List Id)) (xs:List A) (v:A) (ws:List (Id × Option Box))
  (hk:(L[i]?).map ww=some (d,k,av,al)) (hg:((L[i]?).bind fun o=>wanted s o.g)=some true) (hx:(L[i]?).map (fun o=>o.xs.map (O.ev s.tm))=some xs)
  (hs:sem C ⟨d,k,[],none,av,al⟩ xs s.bx=some (v,ay s.bx ws)) (kk:RunAt C L (i+1) (iX s d v (ay s.bx ws)) R):RunAt C L i s R:=by
 obtain ⟨s',h1,h2⟩:=kk
 refine ⟨s',?_,h2⟩
 cases ho:L[i]? with
 | none=>rw [ho] at hk; cases hk
 | some o =>
  rw [ho] at hk hg hx
  simp only [Option.map_some,Option.some.injEq,ww,Prod.mk.injEq] at hk
  simp only [Option.map_some,Option.some.injEq] at hx
  simp only [Option.bind_some] at hg
  obtain ⟨rfl,rfl,rfl,rfl⟩:=hk
  obtain ⟨hlt,he⟩:=List.getElem?_eq_some_iff.1 ho
  rw [List.drop_eq_getElem_cons hlt,he]
  simp only [bO,step,hg,Option.bind_some,if_true,hx]
  rw [xm,hs]
  exact h1
inductive Lp (α β:Type) where
 | next (a:α)
 | out (b:β)
def loopN {α β:Type} (f:α→Option (Lp α β)):Nat→α→Option β
 | 0,_=>none
 | n+1,x=>(f x).bind fun r=>match r with
  | .next y=>loopN f n y
  | .out b=>some b
open Classical in
noncomputable def cr {α β:Type} (f:α→Option (Lp α β)) (x:α):Option β :=
 if h:∃ b n,loopN f n x=some b then some h.choose else none
theorem mr {α β:Type} {f:α→Option (Lp α β)}:∀ {n m:Nat} {x:α} {b:β},n≤m→loopN f n x=some b→loopN f m x=some b
 | 0,_,_,_,_,h=>by simp [loopN] at h
 | n+1,0,_,_,hk,_=>by omega
 | n+1,m+1,x,b,hk,h=>by
  simp only [loopN,Option.bind_eq_some_iff] at h ⊢
  obtain ⟨r,h1,h2⟩:=h
  refine ⟨r,h1,?_⟩
  cases r with
  | next y=>exact mr (by omega) h2
  | out b=>exact h2
theorem eC {α β:Type} {f:α→Option (Lp α β)} {x:α} {b:β}:cr f x=some b ↔ ∃ n,loopN f n x=some b:=by
 unfold cr
 constructor
 ·intro h
  split at h
  ·rename_i hx
   cases h
   exact hx.choose_spec
  ·cases h
 ·rintro ⟨n,h⟩
  have hx:∃ b n,loopN f n x=some b:=⟨b,n,h⟩
  rw [dif_pos hx]
  obtain ⟨m,hm⟩:=hx.choose_spec
  have h1:=mr (Nat.le_max_left n m) h
  have h2:=mr (Nat.le_max_right n m) hm
  rw [h1] at h2
  exact congrArg some (Option.some.inj h2).symm
theorem bD {α β:Type} (f:α→Option (Lp α β)) (x:α):cr f x=(f x).bind fun r=>match r with | .next y=>cr f y | .out b=>some b:=by
 cases hx:f x with
 | none =>
  rw [Option.bind_none]
  cases h:cr f x with
  | none=>rfl
  | some b =>
   obtain ⟨n,hn⟩:=eC.1 h
   cases n with
   | zero=>simp [loopN] at hn
   | succ n=>simp [loopN,hx] at hn
 | some r =>
  rw [Option.bind_some]
  cases r with
  | out b=>exact eC.2 ⟨1,by simp [loopN,hx]⟩
  | next y =>
   simp only
   cases h:cr f y with
   | some b =>
    obtain ⟨n,hn⟩:=eC.1 h
    exact eC.2 ⟨n+1,by simp [loopN,hx,hn]⟩
   | none =>
    cases h':cr f x with
    | none=>rfl
    | some b =>
     obtain ⟨n,hn⟩:=eC.1 h'
     cases n with
     | zero=>simp [loopN] at hn
     | succ n =>
      simp only [loopN,hx,Option.bind_some] at hn
      rw [eC.2 ⟨n,hn⟩] at h; cases h
def Canon (l:List Gs) (ts:List Nat) (bs:List Id) (s s':St):Prop:=(iQ l s).bind (pj ts bs)=some s'
theorem Canon.nil {ts:List Nat} {bs:List Id} (h:pj ts bs s=some s'):Canon [] ts bs s s':=h
theorem Canon.cons {ts:List Nat} {bs:List Id} {g:Gs} {l:List Gs} {s1:St} (h:iF s g=some s1) (k:Canon l ts bs s1 s'):Canon (g :: l) ts bs s s':=by
 unfold Canon at k ⊢
 simp only [iQ,h,Option.bind_some]
 exact k
abbrev o0 (k:K) (xs:List O):Ao:=⟨none,k,xs,none,[],none⟩
abbrev og (d:Nat) (k:K) (xs:List O) (t:Nat) (b:Bool):Ao:=⟨some d,k,xs,some (t,b),[],none⟩
abbrev o3 (d:Nat) (k:K) (xs:List O):Ao:=⟨some d,k,xs,none,[],none⟩
theorem Rc {C:Cs} {s:St} {R:St→Prop} {L:List Ao} {i:Nat} (n:Nat) (ws:List W) (k:RunAt C L (i+n) (adv ((L.drop i).take n) ws s) R)
  (h:bO C ((L.drop i).take n) s=some (adv ((L.drop i).take n) ws s):=by kernel_rfl):RunAt C L i s R:=RunAt.chunk n ws h k
theorem Rd {C:Cs} {s:St} {R:St→Prop} {L:List Ao} {i:Nat} (h:R s) (hi:L.drop i=[]:=by kernel_rfl):RunAt C L i s R:=RunAt.done hi h
theorem Rt {C:Cs} {s:St} {R:St→Prop} {L:List Ao} {i:Nat} (d:Option Nat) (k:K) (av:List Id) (al:Option (List Id)) (xs:List A) (v:A) (ws:List (Id × Option Box))
  (hs:sem C ⟨d,k,[],none,av,al⟩ xs s.bx=some (v,ay s.bx ws)) (kk:RunAt C L (i+1) (iX s d v (ay s.bx ws)) R)
  (hk:(L[i]?).map ww=some (d,k,av,al):=by kernel_rfl) (hg:((L[i]?).bind fun o=>wanted s o.g)=some true:=by kernel_rfl) (hx:(L[i]?).map (fun o=>o.xs.map (O.ev s.tm))=some xs:=by kernel_rfl):RunAt C L i s R :=
 RunAt.cut d k av al xs v ws hk hg hx hs kk
theorem Ct {C:Cs} {s:St} {Q:Out × St→Prop} {a b:Ac} {x:O} (h:Runs C a s Q) (hb:asB (x.ev s.tm)=some true:=by kernel_rfl):Runs C (.cond x a b) s Q:=Runs.cond_t hb h
theorem Cf {C:Cs} {s:St} {Q:Out × St→Prop} {a b:Ac} {x:O} (h:Runs C b s Q) (hb:asB (x.ev s.tm)=some false:=by kernel_rfl):Runs C (.cond x a b) s Q:=Runs.cond_f hb h
abbrev Sq:=@Runs.seq
abbrev Ro:=@Runs.ops
theorem Runs.canon {l:List Gs} {ts:List Nat} {bs:List Id} (s':St) (hk:Canon l ts bs s s') (h:Runs C b s' Q):Runs C (.seq (.gh l) (.seq (.keep ts bs) b)) s Q:=by
 obtain ⟨p,hp,k0,hr⟩:=h
 refine ⟨p,hp,k0,fun k hk'=>?_⟩
 unfold Canon at hk
 cases hg:iQ l s with
 | none=>rw [hg] at hk; cases hk
 | some s1 =>
  rw [hg,Option.bind_some] at hk
  simp only [bp,hg,hk,Option.bind_some]
  exact hr k hk'
def LQ {α β γ:Type} (l:List Gs) (ts:List Nat) (bs:List Id) (hd:α→γ→St) (PE:β→Out × St→Prop) (r:Lp α β) (p:Out × St):Prop :=
 match r with
 | .next x=>p.1=.nrm∧∃ g,Canon l ts bs p.2 (hd x g)
 | .out e=>p.1≠.nrm∧PE e p
def si (C:Cs) (l:List Gs) (ts:List Nat) (bs:List Id) (b:Ac):Nat→St→Option (Out × St)
 | 0,_=>none
 | k+1,h=>(bp C (k+1) b h).bind fun p=>match p.1 with
  | .nrm=>iter (bp C (k+1) (.seq (.gh l) (.seq (.keep ts bs) b))) k p.2
  | o=>some (o,p.2)
theorem p8 {l:List Gs} {ts:List Nat} {bs:List Id} (k:Nat) (hk:Canon l ts bs s s') :
  bp C k (.loop (.seq (.gh l) (.seq (.keep ts bs) b))) s=si C l ts bs b k s':=by
 unfold Canon at hk
 cases hg:iQ l s with
 | none=>rw [hg] at hk; cases hk
 | some s1 =>
  rw [hg,Option.bind_some] at hk
  cases k with
  | zero=>rfl
  | succ k =>
   simp only [bp,iter,si,hg,hk,Option.bind_some]
   rfl
theorem Runs.loop {α β γ:Type} {l:List Gs} {ts:List Nat} {bs:List Id} (body:α→Option (Lp α β)) (hd:α→γ→St) (PE:β→Out × St→Prop)
  (hstep:∀ x g r,body x=some r→Runs C b (hd x g) (LQ l ts bs hd PE r)) {x:α} (g:γ) {e:β} (h:cr body x=some e) (hk:Canon l ts bs s (hd x g))
  (hQ:∀ p,PE e p→Q p):Runs C (.loop (.seq (.gh l) (.seq (.keep ts bs) b))) s Q:=by
 obtain ⟨n,hn⟩:=eC.1 h
 have key:∀ n x g,loopN body n x=some e→∃ p,(p.1≠.nrm∧PE e p)∧Ev (fun k=>si C l ts bs b k (hd x g)) p:=by
  intro n
  induction n with
  | zero=>intro x g h; simp [loopN] at h
  | succ n ih =>
   intro x g hx
   simp only [loopN,Option.bind_eq_some_iff] at hx
   obtain ⟨r,h1,h2⟩:=hx
   obtain ⟨⟨o,s1⟩,hq,k0,he⟩:=hstep x g r h1
   cases r with
   | next y =>
    simp only [LQ] at hq
    obtain ⟨rfl,g',hg'⟩:=hq
    obtain ⟨p,hp,k1,hev⟩:=ih y g' h2
    refine ⟨p,hp,max k0 k1+2,fun k hle=>?_⟩
    match k,hle with
    | k+2,hle =>
     have h1:si C l ts bs b (k+1) (hd y g')=some p:=hev _ (by omega)
     have h2:bp C (k+1) (.loop (.seq (.gh l) (.seq (.keep ts bs) b))) s1=some p:=by rw [p8 _ hg']; exact h1
     simp only [si,he (k+2) (by omega),Option.bind_some]
     simp only [bp] at h2
     exact kX (fun s p hs=>g9 (fun f a r h=>h) (Nat.le_succ _) hs) (Nat.le_refl _) h2
   | out e' =>
    simp only [Option.some.injEq] at h2; subst h2
    obtain ⟨hne,hpe⟩:=hq
    refine ⟨_,⟨hne,hpe⟩,k0+1,fun k hle=>?_⟩
    match k,hle with
    | k+1,hle =>
     simp only [si,he (k+1) (by omega),Option.bind_some]
 obtain ⟨p,⟨h1,h2⟩,k0,hev⟩:=key n x g hn
 exact ⟨p,hQ p h2,k0,fun k hk'=>by rw [p8 _ hk]; exact hev k hk'⟩
def aV (F:Fn) (pa:List A) (s:St):Option (T × List T) :=
 (sE s F.rs).bind fun rs=>(iD (if F.mvp then 0 else F.np) s.bx rs).bind fun o=>yC F o pa
def FQ (F:Fn) (pa:List A) (t:T × List T) (p:Out × St):Prop:=(∀ i,p.1≠.exit i)∧aV F pa p.2=some t
theorem FQ.nrm {F:Fn} {pa:List A} {t:T × List T} (h:aV F pa s=some t):FQ F pa t (.nrm,s):=⟨(fun _ h=>by cases h),h⟩
theorem FQ.ret {F:Fn} {pa:List A} {t:T × List T} (h:aV F pa s=some t):FQ F pa t (.ret,s):=⟨(fun _ h=>by cases h),h⟩
theorem aD {F:Fn} {args:List T} {ap:List A} {bx0:Bx} {t:T × List T} (hsp:F.sp=false) (hl:args.length=F.np) (ht:kd (fun _=>none) 0 args=some (ap,bx0)) (h:Runs C F.body ⟨a9 ap 0,bx0⟩ (FQ F ap t)) :
  ∃ k,run C k F args=some t:=by
 obtain ⟨⟨o,s1⟩,⟨hx,hf⟩,k0,he⟩:=h
 refine ⟨k0,?_⟩
 have hr:run C k0 F args=run1 C k0 F args:=by unfold run; rw [hsp]
 rw [hr]
 unfold run1 oR
 rw [if_pos hl,ht,Option.bind_some,he k0 (Nat.le_refl _),Option.bind_some]
 cases o with
 | exit i=>exact absurd rfl (hx i)
 | nrm=>exact hf
 | ret=>exact hf
def idx {α:Type} (l:List α) (i:Int):Option α:=if 0≤i then l[i.toNat]? else none
def ajj {α:Type} (l:List α) (i:Int) (y:α):Option (List α):=if 0≤i∧i.toNat<l.length then some (l.set i.toNat y) else none
def p9 {α:Type} (bytes:Nat) (l m:List α):Option (List α):=if (l.length+m.length)*bytes≤2 ^ 40∧l.length+m.length≤2 ^ 40 then some (l++m) else none
def ajk (a b:List UInt8):Option (List UInt8):=if a.length+b.length≤2 ^ 40 then some (a++b) else none
def sY {α:Type} (l:List α) (lo hi:Int):Option (List α):=if 0≤lo∧lo≤hi∧hi≤(l.length:Int) then some ((l.drop lo.toNat).take (hi.toNat - lo.toNat)) else none
def b2s (l:List Int):List UInt8:=l.map fun n=>UInt8.ofNat n.toNat
def s2b (s:List UInt8):List Int:=s.map fun c=>(c.toNat:Int)
def aje {α:Type} (bytes:Nat) (z:α) (l:List α) (n:Int):Option (List α):=if 0≤n∧n≤2 ^ 40∧n*bytes≤2 ^ 40∧(l.length+n.toNat)*bytes≤2 ^ 40∧l.length+n.toNat≤2 ^ 40 then some (l++List.replicate n.toNat z) else none
def cpy {α:Type} (l:List α) (off len:Nat) (ys:List α):List α:=if off+len≤l.length then l.take off++ys.take (min ys.length len)++l.drop (off+min ys.length len) else l
def mk {α:Type} (bytes:Nat) (z:α) (n:Int):Option (List α):=if 0≤n∧n*bytes≤2 ^ 40∧n≤2 ^ 40 then some (List.replicate n.toNat z) else none
theorem aa {β:Type} {b:Bool} {x y:Option β} {r:β} (hb:b=true) (h:(if b=true then x else y)=some r):x=some r:=by rwa [if_pos hb] at h
theorem ab {β:Type} {b:Bool} {x y:Option β} {r:β} (hb:b=false) (h:(if b=true then x else y)=some r):y=some r:=by rwa [if_neg (by rw [hb]; decide)] at h
theorem ah {α β:Type} {x:Option α} {f:α→Option β} {r:β} (h:x.bind f=some r):∃ y,x=some y∧f y=some r:=Option.bind_eq_some_iff.1 h
theorem ni {α:Type} {l:List α} {i:Int} {y:α} (h:idx l i=some y):0≤i∧l[i.toNat]?=some y:=by
 unfold idx at h
 split at h
 ·exact ⟨‹_›,h⟩
 ·cases h
end
abbrev A.i (n:Int):A:=.d (.int .i64 n)
abbrev A.y (n:Int):A:=.d (.int .u8 n)
abbrev A.w (n:Int):A:=.d (.int .u16 n)
abbrev A.u (n:Int):A:=.d (.int .u32 n)
abbrev A.b (x:Bool):A:=.d (.bool x)
abbrev T.i (n:Int):T:=.d (.int .i64 n)
abbrev T.y (n:Int):T:=.d (.int .u8 n)
abbrev T.w (n:Int):T:=.d (.int .u16 n)
abbrev T.u (n:Int):T:=.d (.int .u32 n)
abbrev T.b (x:Bool):T:=.d (.bool x)
abbrev O.i (n:Int):O:=.c (.d (.int .i64 n))
abbrev O.y (n:Int):O:=.c (.d (.int .u8 n))
abbrev O.w (n:Int):O:=.c (.d (.int .u16 n))
abbrev O.u (n:Int):O:=.c (.d (.int .u32 n))
abbrev O.b (x:Bool):O:=.c (.d (.bool x))
abbrev vi (n:Int):W:=⟨.i n,[]⟩
abbrev vy (n:Int):W:=⟨.y n,[]⟩
abbrev vw (n:Int):W:=⟨.w n,[]⟩
abbrev vu (n:Int):W:=⟨.u n,[]⟩
abbrev vb (x:Bool):W:=⟨.b x,[]⟩
abbrev vn:W:=⟨.tup [],[]⟩
abbrev vp (id:Id) (v o:Nat):W:=⟨.ptr id v o,[]⟩
abbrev mY (l:List Int):List D:=l.map (D.int .u8)
abbrev so (l:List Ao) (c:Ac):Ac:=.seq (.ops l) c
abbrev cd (t:Nat) (a b:Ac):Ac:=.cond (.t t) a b
abbrev om (d n:Nat):Ao:=o3 d .mv [.t n]
abbrev oe (d n t:Nat):Ao:=o3 d (.extract n) [.t t]
theorem Rk {C:Cs} {s:St} {Q:Out × St→Prop} {L:List Ao} {i:Nat} {b:Ac} (h:Runs C b s Q) (hi:L.drop i=[]:=by kernel_rfl):RunAt C L i s (fun s=>kS C b Q (.nrm,s)):=Rd (ai h) hi
theorem sj {α:Type} {a b:α} (h:some a=some b):a=b:=Option.some.inj h
theorem Cz {s s':St} {ts:List Nat} {bs:List Id} (h:pj ts bs s=some s':=by kernel_rfl):Canon [] ts bs s s':=h
open Classical in
noncomputable def ofD {α:Type} (f:α→D) (z:D):Option α:=if h:∃ b,z=f b then some h.choose else none
end Go.Es
namespace Go.Es
variable {C:Cs} {bx:Bx} {d:Option Nat} {av:List Id} {al:Option (List Id)} {α:Type} {e:α→D} {l l':List α} {y:α} {k k':IntKind} {i lo hi:Int}
theorem uC (bx:Bx) (a b:List (Id × Option Box)):ay bx (a++b)=ay (ay bx a) b:=by
 induction a generalizing bx with
 | nil=>rfl
 | cons p r ih=>exact ih _
theorem sZ {i:Int} (h:idx l i=some y):0≤i∧i.toNat<l.length∧(l.map e)[i.toNat]?=some (e y):=by
 obtain ⟨h0,h1⟩:=ni h
 exact ⟨h0,(List.getElem?_eq_some_iff.1 h1).1,by rw [List.getElem?_map,h1]; rfl⟩
theorem s5 {n:Nat} (h:idx l i=some y) (hc:∀ y,(e y).cells.length=n) :
  sem C ⟨d,.iaddrS n,[],none,av,al⟩ [.d (.sl (l.map e)),.d (.int k i)] bx=some (.elt (e y) 0,ay bx []):=by
 obtain ⟨h0,h1,h2⟩:=sZ (e:=e) h
 simp only [sem,asI,Option.bind_some,if_pos h0,h2,hc y,if_true,ay]
theorem gV {len:Nat} {id:Id} {v n:Nat} (h:idx l i=some y) (hl:len=(List.map e l).length) :
  sem C ⟨d,.iaddrS n,[],none,av,al⟩ [.ref id v 0 len n,.d (.int k i)] bx=some (.eref id v (0+i.toNat) 0,ay bx []):=by
 subst hl
 obtain ⟨h0,h1,h2⟩:=sZ (e:=e) h
 simp only [sem,asI,Option.bind_some,ay]
 rw [if_pos ⟨h0,by rw [List.length_map]; omega,trivial⟩]
theorem eE {id:Id} {v:Nat} {fz:Bool} {agg:Option Nat} {off:Nat} {z:D} (hb:bx id=some (.arr (l.map e) v fz)) (h:idx l i=some y) (ho:bJ av id=true) (hp:m4 (e y) agg off=some z) :
  sem C ⟨d,.load agg,[],none,av,al⟩ [.eref id v (0+i.toNat) off] bx=some (.d z,ay bx []):=by
 obtain ⟨h0,h1,h2⟩:=sZ (e:=e) h
 simp only [sem,hU,ho,if_true,hb,Nat.zero_add,h2,Option.bind_some,hp,ay]
theorem s6 (es:List D):sub es 0 es.length=some es:=by simp [sub]
theorem wy {len:Nat} {id:Id} {v n:Nat} {fz:Bool} (hb:bx id=some (.arr (l.map e) v fz)) (ho:bJ av id=true) (hl:len=(List.map e l).length) :
  gA av bx false (.ref id v 0 len n)=some (l.map e,ay bx []):=by
 subst hl
 simp only [gA,Bool.false_eq_true,if_false,fA,ho,if_true,hb,s6,Option.bind_some,ay]
theorem y7 {n:Nat} (hc:∀ y,(e y).cells.length=n) (l:List α):lW (l.map e) n=true:=by
 cases l with
 | nil=>rfl
 | cons a r=>simp [lW,hc a]
theorem yh {b:Nat} {l m l':List α} (h:p9 b l m=some l'):(l.length+m.length)*b≤2 ^ 40∧l.length+m.length≤2 ^ 40∧l'=l++m:=by
 unfold p9 at h
 split at h
 ·cases h; exact ⟨‹_∧_›.1,‹_∧_›.2,rfl⟩
 ·cases h
theorem yi {len:Nat} {t n b v:Nat} {id:Id} {fz str:Bool} {x:A} {ys:List α} {ws:List (Id × Option Box)} (hx:gA av bx str x=some (ys.map e,ay bx ws)) (hc:lW (ys.map e) n=true) (hg:p9 b l ys=some l')
  (hb:ay bx ws id=some (.arr (l.map e) v fz)) (ho:(bJ av id && fw al id)=true) (hl:len=(List.map e l).length) :
  sem C ⟨some t,.append n b str,[],none,av,al⟩ [.ref id v 0 len n,x] bx=some (.ref id (v+1) 0 (List.map e l').length n,ay bx (ws++[(id,some (.arr (l'.map e) (v+1) fz))])):=by
 subst hl
 obtain ⟨h1,h2,rfl⟩:=yh hg
 have hc':True∧True∧True∧True∧((List.map e l).length+(List.map e ys).length)*b≤2 ^ 40∧(List.map e l).length+(List.map e ys).length≤2 ^ 40 :=
  ⟨trivial,trivial,trivial,trivial,by simpa only [List.length_map] using h1,by simpa only [List.length_map] using h2⟩
 simp only [sem,hx,Option.bind_some,hc,if_true,ho,hb,List.map_append,List.length_append]
 rw [if_pos hc',uC]
 rfl
theorem qc {len:Nat} {t n b v:Nat} {id:Id} {fz str:Bool} {x:A} {ys:List α} {ws:List (Id × Option Box)} (hx:gA av bx str x=some (ys.map e,ay bx ws)) (hc:∀ y,(e y).cells.length=n) (hg:p9 b l ys=some l')
  (hb:ay bx ws id=some (.arr (l.map e) v fz)) (ho:(bJ av id && fw al id)=true) (hl:len=(List.map e l).length) :
  sem C ⟨some t,.append n b str,[],none,av,al⟩ [.ref id v 0 len n,x] bx=some (.ref id (v+1) 0 (List.map e l').length n,ay bx (ws++[(id,some (.arr (l'.map e) (v+1) fz))])):=yi hx (y7 hc _) hg hb ho hl
theorem xn (l:List α):sem C ⟨d,.lenL,[],none,av,al⟩ [.d (.sl (l.map e))] bx=some (.d (.int .i64 (l.length:Int)),ay bx []):=by
 simp only [sem,goI,List.length_map,ay]
theorem nj {len:Nat} {id:Id} {v o n:Nat} (l:List α) (hl:len=(List.map e l).length):sem C ⟨d,.lenL,[],none,av,al⟩ [.ref id v o len n] bx=some (.d (.int .i64 (l.length:Int)),ay bx []):=by
 subst hl
 simp only [sem,goI,List.length_map,ay]
theorem gB (s:List UInt8):sem C ⟨d,.lenS,[],none,av,al⟩ [.d (.str s)] bx=some (.d (.int .i64 (s.length:Int)),ay bx []):=rfl
theorem yj {l l':List α} {lo hi:Int} (h:sY l lo hi=some l'):0≤lo∧lo≤hi∧hi≤(l.length:Int)∧l'=(l.drop lo.toNat).take (hi.toNat - lo.toNat):=by
 unfold sY at h
 split at h
 ·rename_i hc; cases h; exact ⟨hc.1,hc.2.1,hc.2.2,rfl⟩
 ·cases h
theorem uD {n:Nat} (h0:0≤i) (h1:i≤(n:Int)):iW (.d (.int k i)) n=some i.toNat:=by
 simp only [iW,asI,Option.bind_some,if_pos (⟨h0,h1⟩:0≤i∧i≤(n:Int))]
theorem C3 {n:Nat} (h0:0≤lo) (h1:lo≤hi) (h2:hi≤(n:Int)):eZ n true true false [.d (.int k lo),.d (.int k' hi)]=some (lo.toNat,hi.toNat):=by
 simp only [eZ,uD (k:=k') (by omega:0≤hi) h2,Option.bind_some,uD (k:=k) h0 (by omega:lo≤((hi.toNat:Nat):Int))]
theorem k8 {s s':List UInt8} (h:sY s lo hi=some s'):sem C ⟨d,.substr true true,[],none,av,al⟩ [.d (.str s),.d (.int k lo),.d (.int k' hi)] bx=some (.d (.str s'),ay bx []):=by
 obtain ⟨h0,h1,h2,rfl⟩:=yj h
 simp only [sem,asS,Option.bind_some,C3 h0 h1 h2,ay]
theorem nk {s:List UInt8} {c:UInt8} (h:idx s i=some c):sem C ⟨d,.indexS,[],none,av,al⟩ [.d (.str s),.d (.int k i)] bx=some (.d (.int .u8 (c.toNat:Int)),ay bx []):=by
 obtain ⟨h0,h1⟩:=ni h
 simp only [sem,asS,asI,Option.bind_some,if_pos h0,h1,fW,ay]
theorem gf:gives av al bx []=some ([],ay bx []):=rfl
theorem cO {a:A} {as:List A} {t:T} {ts:List T} {ws vs:List (Id × Option Box)} (h:sB av al bx a=some (t,ay bx ws)) (h2:gives av al (ay bx ws) as=some (ts,ay (ay bx ws) vs)) :
  gives av al bx (a :: as)=some (t :: ts,ay bx (ws++vs)):=by
 simp only [gives,h,Option.bind_some,h2,uC]
theorem y8 {len:Nat} {id:Id} {v n:Nat} {fz:Bool} (hb:bx id=some (.arr (l.map e) v fz)) (ho:bJ av id=true) (hl:len=(List.map e l).length) :
  sB av al bx (.ref id v 0 len n)=some (.d (.sl (l.map e)),ay bx [(id,some (.arr (l.map e) v true))]):=by
 subst hl
 simp only [sB,gy,snap,dS,eU,ho,if_true,hb,s6,Option.bind_some,frz,ay]
theorem dP {a:A} {t:T} (h:sB av al bx a=some (t,bx)):sB av al bx a=some (t,ay bx []):=h
theorem k9 {id:Id} {f:Nat} {args:List A} {ts ts':List T} {r:T} {v:A} {ws us vs:List (Id × Option Box)} (hp:(dI (ptrIds args) && (ptrIds args).all (fw al))=true)
  (hg:gives av al bx args=some (ts,ay bx ws)) (hC:C f ts=some (r,ts')) (hb:kb (ay bx ws) args ts'=some (ay bx us)) (ht:take id (ay bx us) r=some (v,ay bx vs))
  (hl:args.map (iE av bx)=args:=by kernel_rfl) (hi:lids args=[]:=by kernel_rfl) :
  fX C av al bx id f args=some (v,ay bx vs):=by
 simp only [fX,hl,lH,hi,List.nil_append,hp,Bool.not_true,Bool.false_eq_true,if_false,hg,Option.bind_some,hC,hb,ht]
theorem jd {t f:Nat} {xs:List A} {v:A} {ws:List (Id × Option Box)} (h:fX C av al bx [t] f xs=some (v,ay bx ws)) :
  sem C ⟨some t,.callf f,[],none,av,al⟩ xs bx=some (v,ay bx ws):=by
 have:sem C ⟨some t,.callf f,[],none,av,al⟩ xs bx=fX C av al bx [t] f xs:=by cases xs <;> rfl
 rw [this,h]
theorem cc {t f:Nat} {xs:List A} {v:A} {ts ts':List T} {r:T} {vs:List (Id × Option Box)} (hC:C f ts=some (r,ts')) (hp:(dI (ptrIds xs) && (ptrIds xs).all (fw al))=true:=by kernel_rfl)
  (hg:gives av al bx xs=some (ts,ay bx []):=by kernel_rfl) (hb:kb (ay bx []) xs ts'=some (ay bx []):=by kernel_rfl) (ht:take [t] (ay bx []) r=some (v,ay bx vs):=by kernel_rfl)
  (hl:xs.map (iE av bx)=xs:=by kernel_rfl) (hi:lids xs=[]:=by kernel_rfl) :
  sem C ⟨some t,.callf f,[],none,av,al⟩ xs bx=some (v,ay bx vs):=jd (k9 hp hg hC hb ht hl hi)
theorem Canon.len {s:St} {f:Nat→St} {a b:Nat} {ts:List Nat} {bs:List Id} {l:List Gs} (h:a=b) (k:Canon l ts bs s (f b)):Canon l ts bs s (f a):=h ▸ k
theorem Canon.same {s s':St} {ts:List Nat} {bs:List Id} {g:Gs} {l:List Gs} (h:iF s g=some s) (k:Canon l ts bs s s'):Canon (g :: l) ts bs s s':=Canon.cons h k
theorem xo {len:Nat} {s:St} {t:Nat} {id:Id} {v n:Nat} {fz:Bool} (ht:s.tm t=.ref id v 0 len n) (hb:s.bx id=some (.arr (l.map e) v fz)) (hl:len=(List.map e l).length) :
  iF s (.frz t)=some ⟨upd s.tm t (.d (.sl (l.map e))),ay s.bx [(id,some (.arr (l.map e) v true))]⟩:=by
 subst hl
 simp only [iF,yB,iP,ht,snap,dS,eU,bJ,List.all_nil,if_true,hb,s6,Option.bind_some,frz,ay]
theorem xp {s:St} {t v n:Nat} {id:Id} (e:α→D) (ht:s.tm t=.nils) (hv:au s.bx id=v) :
  iF s (.own t id n)=some ⟨upd s.tm t (.ref id v 0 (List.map e []).length n),ay s.bx [(id,some (.arr (List.map e []) v false))]⟩:=by
 subst hv
 simp only [iF,iP,ht,xK,Option.bind_some,List.map_nil,List.length_nil,ay]
theorem Out.ret_ne {s:St}:∀ i,((.ret,s):Out × St).1≠.exit i:=fun _ h=>by cases h
theorem Fq {s:St} {P:Prop} (h:P:=by kernel_rfl):(∀ i,((.ret,s):Out × St).1≠.exit i)∧P:=⟨Out.ret_ne,h⟩
theorem nm {l:List α} {i:Int} {y y':α} (h:idx l i=some y):idx (List.set l i.toNat y') i=some y':=by
 obtain ⟨h0,h1⟩:=ni h
 have:=(List.getElem?_eq_some_iff.1 h1).1
 unfold idx
 rw [if_pos h0,List.getElem?_set_self this]
def mnI (x y:Int):Int:=if y<x then y else x
def mxI (x y:Int):Int:=if y>x then y else x
def ajl (k:IntKind) (x y:Int):Option Int:=if y=0 then none else some (k.wrap (x.tdiv y))
def ajm (k:IntKind) (x y:Int):Option Int:=if y=0 then none else some (x.tmod y)
def ajn (k:IntKind) (x y:Int):Option Int:=if y<0 then none else some (WF k x y)
def ajo (k:IntKind) (x y:Int):Option Int:=if y<0 then none else some (bd k x y)
variable {np:Nat}
theorem uE:iD np bx []=some ([],ay bx []):=rfl
theorem uF {len:Nat} {id:Id} {v n:Nat} {fz:Bool} {es:List D} {r:List A} {ts:List T} {ws:List (Id × Option Box)} (hb:bx id=some (.arr es v fz)) (hn:np≤id.getLastD 0) (hl:len=es.length)
  (h:iD np (ay bx [(id,some (.arr [] (v+1) false))]) r=some (ts,ay (ay bx [(id,some (.arr [] (v+1) false))]) ws))
  (h0:n≠0:=by decide):iD np bx (.ref id v 0 len n :: r)=some (.arr fz n es :: ts,ay bx ((id,some (.arr [] (v+1) false)) :: ws)):=by
 subst hl
 have h':iD np (husk bx id v) r=some (ts,ay bx ((id,some (.arr [] (v+1) false)) :: ws)):=h
 simp only [iD,xI,jl,hb,hn,if_true,ne_eq,h0,not_false_eq_true,and_self,Option.bind_some,h']
theorem y9 {F:Fn} {pa:List A} {s:St} {rs:List A} {os ps:List T} {ws vs:List (Id × Option Box)} (h1:sE s F.rs=some rs) (hp:(dI (ptrIds pa) && inB.go F.pb pa)=true)
  (h2:iD F.np s.bx rs=some (os,ay s.bx ws)) (h3:gives [] none (ay s.bx ws) pa=some (ps,ay (ay s.bx ws) vs))
  (hm:F.mvp=false:=by kernel_rfl) (hl:pa.map (pi (ay s.bx ws))=pa:=by kernel_rfl) (hi:lids pa=[]:=by kernel_rfl):aV F pa s=some (one os,ps):=by
 simp only [aV,yC,h1,hm,Bool.false_eq_true,if_false,h2,Option.bind_some,hl,hi,hp,Bool.not_true,h3]
def ajp {α:Type} (l:List α) (lo hi mx:Int):Option (List α):=if 0≤lo∧lo≤hi∧hi≤mx∧mx≤(l.length:Int) then some ((l.drop lo.toNat).take (hi.toNat - lo.toNat)) else none
end Go.Es
namespace Go.Es
variable {C:Cs} {bx:Bx} {d:Option Nat} {av:List Id} {al:Option (List Id)} {α:Type} {e:α→D} {k:IntKind}
theorem gW {l:List α} {i:Int} {y:α} (h:idx l i=some y):0≤i∧i.toNat<l.length∧l[i.toNat]?=some y:=by
 obtain ⟨h0,h1⟩:=ni h
 exact ⟨h0,(List.getElem?_eq_some_iff.1 h1).1,h1⟩
theorem s7 {n:Nat} {l:List α} {i:Int} {y:α} (h:idx l i=some y) (hn:l.length=n) :
  sem C ⟨d,.indexA n 1 none,[],none,av,al⟩ [.d (.agg (l.map e)),.d (.int k i)] bx=some (.d (e y),ay bx []):=by
 obtain ⟨h0,h1,h2⟩:=gW h
 simp only [sem,asI,Option.bind_some]
 rw [if_pos ⟨h0,by omega⟩]
 simp only [xH,Option.bind_some,tZ,Nat.mul_one,List.getElem?_map,h2,Option.map_some,ay]
theorem gX {n s o v:Nat} {id:Id} {l:List α} {i:Int} {y:α} (h:idx l i=some y) (hn:l.length=n) :
  sem C ⟨d,.iaddrA n s,[],none,av,al⟩ [.ptr id v o,.d (.int k i)] bx=some (.ptr id v (o+i.toNat*s),ay bx []):=by
 obtain ⟨h0,h1,h2⟩:=gW h
 simp only [sem,asI,Option.bind_some,ay]
 rw [if_pos ⟨h0,by omega⟩]
theorem xq {f:α→List D} {z:Nat} (hz:∀ a,(f a).length=z):∀ {l:List α} {j fo:Nat} {y:α},l[j]?=some y→fo<z→(l.flatMap f)[j*z+fo]?=(f y)[fo]?
 | [],j,fo,y,h,_=>by cases j <;> cases h
 | a :: l,0,fo,y,h,hf=>by
  cases h
  rw [List.flatMap_cons,Nat.zero_mul,Nat.zero_add,List.getElem?_append_left (by rw [hz]; exact hf)]
 | a :: l,j+1,fo,y,h,hf=>by
  rw [List.flatMap_cons,List.getElem?_append_right (by rw [hz,Nat.add_mul]; omega),hz]
  have e:(j+1)*z+fo - z=j*z+fo:=by rw [Nat.add_mul]; omega
  rw [e]
  exact xq hz (by simpa using h) hf
theorem xr {f:α→List D} {z:Nat} (hz:∀ a,(f a).length=z) {fo n:Nat}:∀ {l:List α} {j:Nat} {y:α},l[j]?=some y→fo+n≤z →
  ((l.flatMap f).drop (j*z+fo)).take n=((f y).drop fo).take n∧j*z+fo+n≤(l.flatMap f).length
 | [],j,y,h,_=>by cases j <;> cases h
 | a :: l,0,y,h,hf=>by
  cases h
  rw [List.flatMap_cons,Nat.zero_mul,Nat.zero_add,List.drop_append_of_le_length (by rw [hz]; omega),List.take_append_of_le_length (by rw [List.length_drop,hz]; omega)]
  exact ⟨rfl,by rw [List.length_append,hz]; omega⟩
 | a :: l,j+1,y,h,hf=>by
  obtain ⟨h1,h2⟩:=xr hz (l:=l) (j:=j) (y:=y) (by simpa using h) hf
  have e:(j+1)*z+fo=(f a).length+(j*z+fo):=by rw [hz,Nat.add_mul]; omega
  rw [List.flatMap_cons,e,List.drop_append,List.length_append]
  refine ⟨?_,by omega⟩
  rw [List.drop_eq_nil_of_le (by omega),List.nil_append,Nat.add_sub_cancel_left,h1]
theorem uG:∀ l:List D,sA (l.map A.d)=some l
 | []=>rfl
 | x :: l=>by simp [sA,uG l]
theorem je {v z fo:Nat} {id:Id} {l:List α} {i:Int} {y:α} {f:α→List D} {x:D} (h:idx l i=some y) (hz:∀ a,(f a).length=z)
  (hb:bx id=some (.cells ((l.flatMap f).map A.d) v)) (ho:bJ av id=true) (hx:(f y)[fo]?=some x) :
  sem C ⟨d,.load none,[],none,av,al⟩ [.ptr id v (0+i.toNat*z+fo)] bx=some (.d x,ay bx []):=by
 obtain ⟨h0,h1,h2⟩:=gW h
 have hf:fo<z:=by rw [← hz y]; exact (List.getElem?_eq_some_iff.1 hx).1
 simp only [sem,hU,ho,if_true,hb,Nat.zero_add,List.getElem?_map,xq hz h2 hf,hx,Option.map_some,Option.bind_some,ay]
theorem qd {v z fo n:Nat} {id:Id} {l:List α} {i:Int} {y:α} {f:α→List D} {xs:List D} (h:idx l i=some y) (hz:∀ a,(f a).length=z)
  (hb:bx id=some (.cells ((l.flatMap f).map A.d) v)) (ho:bJ av id=true) (hx:sub (f y) fo n=some xs) :
  sem C ⟨d,.load (some n),[],none,av,al⟩ [.ptr id v (0+i.toNat*z+fo)] bx=some (.d (.agg xs),ay bx []):=by
 obtain ⟨h0,h1,h2⟩:=gW h
 unfold sub at hx
 split at hx
 ·rename_i hn
  rw [hz] at hn
  obtain ⟨e1,e2⟩:=xr hz h2 hn
  have hx:=(Option.some.inj hx)
  have:sub ((l.flatMap f).map A.d) (0+i.toNat*z+fo) n=some (xs.map A.d):=by
   unfold sub
   rw [List.length_map,Nat.zero_add,if_pos e2,← List.map_drop,← List.map_take,e1,hx]
  simp only [sem,hU,ho,if_true,hb,this,Option.bind_some,mkAgg,uG,ay]
 ·cases hx
structure A2 (α:Type) where
 a0:α
 a1:α
 deriving DecidableEq,Inhabited
def A2.l (x:A2 α):List α:=[x.a0,x.a1]
def A2.set (x:A2 α) (i:Int) (y:α):A2 α:=⟨if i=0 then y else x.a0,if i=1 then y else x.a1⟩
def A2.wf (w:α→Prop) (x:A2 α):Prop:=w x.a0∧w x.a1
theorem A2.len (x:A2 α):x.l.length=2:=rfl
theorem A2.setl {x:A2 α} {i:Int} {y z:α} (h:idx x.l i=some z):x.l.set i.toNat y=(x.set i y).l:=by
 obtain ⟨h0,h1,h2⟩:=gW h
 rw [A2.len] at h1
 obtain ⟨j,rfl⟩:∃ j:Nat,i=j:=⟨i.toNat,by omega⟩
 rw [Int.toNat_natCast] at h1 ⊢
 match j,h1 with
 | 0,_=>rfl
 | 1,_=>rfl
theorem A2.get_set {x:A2 α} {i:Int} {y z:α} (h:idx x.l i=some z):idx (x.set i y).l i=some y:=by rw [← A2.setl h]; exact nm h
structure A3 (α:Type) where
 a0:α
 a1:α
 a2:α
 deriving DecidableEq,Inhabited
def A3.l (x:A3 α):List α:=[x.a0,x.a1,x.a2]
def A3.set (x:A3 α) (i:Int) (y:α):A3 α:=⟨if i=0 then y else x.a0,if i=1 then y else x.a1,if i=2 then y else x.a2⟩
def A3.wf (w:α→Prop) (x:A3 α):Prop:=w x.a0∧w x.a1∧w x.a2
theorem A3.len (x:A3 α):x.l.length=3:=rfl
theorem A3.setl {x:A3 α} {i:Int} {y z:α} (h:idx x.l i=some z):x.l.set i.toNat y=(x.set i y).l:=by
 obtain ⟨h0,h1,h2⟩:=gW h
 rw [A3.len] at h1
 obtain ⟨j,rfl⟩:∃ j:Nat,i=j:=⟨i.toNat,by omega⟩
 rw [Int.toNat_natCast] at h1 ⊢
 match j,h1 with
 | 0,_=>rfl
 | 1,_=>rfl
 | 2,_=>rfl
theorem A3.get_set {x:A3 α} {i:Int} {y z:α} (h:idx x.l i=some z):idx (x.set i y).l i=some y:=by rw [← A3.setl h]; exact nm h
structure A4 (α:Type) where
 a0:α
 a1:α
 a2:α
 a3:α
 deriving DecidableEq,Inhabited
def A4.l (x:A4 α):List α:=[x.a0,x.a1,x.a2,x.a3]
def A4.set (x:A4 α) (i:Int) (y:α):A4 α:=⟨if i=0 then y else x.a0,if i=1 then y else x.a1,if i=2 then y else x.a2,if i=3 then y else x.a3⟩
def A4.wf (w:α→Prop) (x:A4 α):Prop:=w x.a0∧w x.a1∧w x.a2∧w x.a3
theorem A4.len (x:A4 α):x.l.length=4:=rfl
theorem A4.setl {x:A4 α} {i:Int} {y z:α} (h:idx x.l i=some z):x.l.set i.toNat y=(x.set i y).l:=by
 obtain ⟨h0,h1,h2⟩:=gW h
 rw [A4.len] at h1
 obtain ⟨j,rfl⟩:∃ j:Nat,i=j:=⟨i.toNat,by omega⟩
 rw [Int.toNat_natCast] at h1 ⊢
 match j,h1 with
 | 0,_=>rfl
 | 1,_=>rfl
 | 2,_=>rfl
 | 3,_=>rfl
theorem A4.get_set {x:A4 α} {i:Int} {y z:α} (h:idx x.l i=some z):idx (x.set i y).l i=some y:=by rw [← A4.setl h]; exact nm h
structure A5 (α:Type) where
 a0:α
 a1:α
 a2:α
 a3:α
 a4:α
 deriving DecidableEq,Inhabited
def A5.l (x:A5 α):List α:=[x.a0,x.a1,x.a2,x.a3,x.a4]
def A5.set (x:A5 α) (i:Int) (y:α):A5 α:=⟨if i=0 then y else x.a0,if i=1 then y else x.a1,if i=2 then y else x.a2,if i=3 then y else x.a3,if i=4 then y else x.a4⟩
def A5.wf (w:α→Prop) (x:A5 α):Prop:=w x.a0∧w x.a1∧w x.a2∧w x.a3∧w x.a4
theorem A5.len (x:A5 α):x.l.length=5:=rfl
theorem A5.setl {x:A5 α} {i:Int} {y z:α} (h:idx x.l i=some z):x.l.set i.toNat y=(x.set i y).l:=by
 obtain ⟨h0,h1,h2⟩:=gW h
 rw [A5.len] at h1
 obtain ⟨j,rfl⟩:∃ j:Nat,i=j:=⟨i.toNat,by omega⟩
 rw [Int.toNat_natCast] at h1 ⊢
 match j,h1 with
 | 0,_=>rfl
 | 1,_=>rfl
 | 2,_=>rfl
 | 3,_=>rfl
 | 4,_=>rfl
theorem A5.get_set {x:A5 α} {i:Int} {y z:α} (h:idx x.l i=some z):idx (x.set i y).l i=some y:=by rw [← A5.setl h]; exact nm h
structure A8 (α:Type) where
 a0:α
 a1:α
 a2:α
 a3:α
 a4:α
 a5:α
 a6:α
 a7:α
 deriving DecidableEq,Inhabited
def A8.l (x:A8 α):List α:=[x.a0,x.a1,x.a2,x.a3,x.a4,x.a5,x.a6,x.a7]
def A8.set (x:A8 α) (i:Int) (y:α):A8 α:=⟨if i=0 then y else x.a0,if i=1 then y else x.a1,if i=2 then y else x.a2,if i=3 then y else x.a3,if i=4 then y else x.a4,if i=5 then y else x.a5,if i=6 then y else x.a6,if i=7 then y else x.a7⟩
def A8.wf (w:α→Prop) (x:A8 α):Prop:=w x.a0∧w x.a1∧w x.a2∧w x.a3∧w x.a4∧w x.a5∧w x.a6∧w x.a7
theorem A8.len (x:A8 α):x.l.length=8:=rfl
theorem A8.setl {x:A8 α} {i:Int} {y z:α} (h:idx x.l i=some z):x.l.set i.toNat y=(x.set i y).l:=by
 obtain ⟨h0,h1,h2⟩:=gW h
 rw [A8.len] at h1
 obtain ⟨j,rfl⟩:∃ j:Nat,i=j:=⟨i.toNat,by omega⟩
 rw [Int.toNat_natCast] at h1 ⊢
 match j,h1 with
 | 0,_=>rfl
 | 1,_=>rfl
 | 2,_=>rfl
 | 3,_=>rfl
 | 4,_=>rfl
 | 5,_=>rfl
 | 6,_=>rfl
 | 7,_=>rfl
theorem A8.get_set {x:A8 α} {i:Int} {y z:α} (h:idx x.l i=some z):idx (x.set i y).l i=some y:=by rw [← A8.setl h]; exact nm h
def A2.ag {α:Type} (e:α→D) (x:A2 α):D:=.agg [e x.a0,e x.a1]
def A3.ag {α:Type} (e:α→D) (x:A3 α):D:=.agg [e x.a0,e x.a1,e x.a2]
def A4.ag {α:Type} (e:α→D) (x:A4 α):D:=.agg [e x.a0,e x.a1,e x.a2,e x.a3]
def A5.ag {α:Type} (e:α→D) (x:A5 α):D:=.agg [e x.a0,e x.a1,e x.a2,e x.a3,e x.a4]
def A8.ag {α:Type} (e:α→D) (x:A8 α):D:=.agg [e x.a0,e x.a1,e x.a2,e x.a3,e x.a4,e x.a5,e x.a6,e x.a7]
end Go.Es
namespace Go.Es
variable {P:Program} {α:Type}
def Dec (P:Program) (t:TypeId) (cs:α→List D) (wf:α→Prop):Prop:=∀ l,OfT P t l→∃ v,l=cs v∧wf v
def wfI (k:IntKind) (n:Int):Prop:=(Lit.int k n).wf=true
def wfL (wf:α→Prop) (l:List α):Prop:=l.length≤maxLen∧∀ v ∈ l,wf v
def wfS (s:List UInt8):Prop:=s.length≤maxLen
theorem xt {k:IntKind} {n:Int}:wfI k n ↔ k.min≤n∧n≤k.max:=by
 unfold wfI; simp [Lit.wf]
theorem C4 {n:Int}:wfI .u8 n ↔ 0≤n∧n≤255:=by
 rw [xt]; simp [IntKind.min,IntKind.max,IntKind.signed,IntKind.bits]
theorem s8 {n:Int}:wfI .u16 n ↔ 0≤n∧n≤65535:=by
 rw [xt]; simp [IntKind.min,IntKind.max,IntKind.signed,IntKind.bits]
theorem s9 {t:TypeId} {k:IntKind} (hu:P.underlying t=some (.int k)):Dec P t (fun n=>[.int k n]) (wfI k):=by
 intro l h
 cases h with
 | int _ k' n h hw=>rw [hu] at h; cases h; exact ⟨n,rfl,hw⟩
 | bool _ _ h=>rw [hu] at h; cases h
 | str _ _ h _=>rw [hu] at h; cases h
 | slice _ _ _ h=>rw [hu] at h; cases h
 | struct _ _ _ h=>rw [hu] at h; cases h
 | array _ _ _ _ h=>rw [hu] at h; cases h
theorem za {t:TypeId} (hu:P.underlying t=some .bool):Dec P t (fun b=>[.bool b]) (fun _=>True):=by
 intro l h
 cases h with
 | int _ k' n h hw=>rw [hu] at h; cases h
 | bool _ b h=>exact ⟨b,rfl,trivial⟩
 | str _ _ h _=>rw [hu] at h; cases h
 | slice _ _ _ h=>rw [hu] at h; cases h
 | struct _ _ _ h=>rw [hu] at h; cases h
 | array _ _ _ _ h=>rw [hu] at h; cases h
def WJ (P:Program) (t:TypeId) (e:α→D) (wf:α→Prop):Prop:=∀ x,OfT P t x.cells→eS P t x→∃ v,x=e v∧wf v
def zb (P:Program) (t:TypeId):Bool:=match P.underlying t with | some (.struct _) | some (.array _ _)=>true | _=>false
theorem zc {t:TypeId} {cs:α→List D} {wf:α→Prop} (ha:zb P t=true) (h:Dec P t cs wf):WJ P t (fun v=>.agg (cs v)) wf:=by
 intro x hx hs
 obtain ⟨v,he,hw⟩:=h _ hx
 unfold zb at ha
 unfold eS at hs
 refine ⟨v,?_,hw⟩
 split at hs
 ·obtain ⟨l,rfl⟩:=hs; simp only [D.cells] at he; rw [he]
 ·obtain ⟨l,rfl⟩:=hs; simp only [D.cells] at he; rw [he]
 ·rename_i h1 h2
  split at ha
  ·rename_i fs h3; exact absurd h3 (h1 fs)
  ·rename_i n e h3; exact absurd h3 (h2 n e)
  ·cases ha
def fieldsOf (P:Program) (t:TypeId):List (TypeId × Nat):=match P.underlying t with | some (.struct fs)=>fs.toList.map fun f=>(f.type,f.offset) | _=>[]
def ajf (P:Program) (t:TypeId):Option (Nat × TypeId):=match P.underlying t with | some (.array n e)=>some (n,e) | _=>none
theorem yk {t:TypeId} {l:List D} (h:OfT P t l) (hs:(fieldsOf P t).isEmpty=false):l.length=P.cellsOf t∧∀ ft off n,(ft,off) ∈ fieldsOf P t→P.cellsOf ft=n→OfT P ft ((l.drop off).take n):=by
 unfold fieldsOf at *
 split at hs
 ·rename_i fs hu
  cases h with
  | int _ k' n h hw=>rw [hu] at h; cases h
  | bool _ b h=>rw [hu] at h; cases h
  | str _ _ h _=>rw [hu] at h; cases h
  | slice _ _ _ h=>rw [hu] at h; cases h
  | struct _ fs' cs h hl hf =>
   rw [hu] at h; cases h
   refine ⟨hl,fun ft off n hm hn=>?_⟩
   subst hn
   simp only [List.mem_map,Prod.mk.injEq] at hm
   obtain ⟨f,hf',rfl,rfl⟩:=hm
   exact hf f hf'
  | array _ _ _ _ h=>rw [hu] at h; cases h
 ·cases hs
def ajq (P:Program) (t:TypeId) (cs:α→List D) (wf:α→Prop) (n:Nat):Prop:=∀ l,SizeOf.sizeOf l<n→OfT P t l→∃ v,l=cs v∧wf v
def wfR (e:α→D) (wf:α→Prop) (l:List D):Prop:=∃ bs:List α,l=bs.map e∧bs.length≤maxLen∧∀ b ∈ bs,wf b
end Go.Es
namespace Go.Es
section
variable {α β:Type}
theorem n6 {f:α→Option (Lp α β)} (I:α→Prop) (m:α→Nat) (Q:β→Prop)
  (h:∀ x,I x→(∃ y,f x=some (.next y)∧I y∧m y<m x)∨(∃ b,f x=some (.out b)∧Q b)) {x:α} (hx:I x):∃ b,cr f x=some b∧Q b:=by
 have key:∀ n x,m x<n→I x→∃ b,cr f x=some b∧Q b:=by
  intro n
  induction n with
  | zero=>intro x h; omega
  | succ n ih =>
   intro x hm hx
   rcases h x hx with ⟨y,hy,hI,hlt⟩ | ⟨b,hb,hQ⟩
   ·obtain ⟨b,h1,h2⟩:=ih y (by omega) hI
    exact ⟨b,by rw [bD,hy]; exact h1,h2⟩
   ·exact ⟨b,by rw [bD,hb]; rfl,hQ⟩
 exact key (m x+1) x (by omega) hx
theorem ta {f:α→Option (Lp α β)} (g:α→β) (I:α→Prop) (m:α→Nat)
  (h:∀ x,I x→(∃ y,f x=some (.next y)∧I y∧m y<m x∧g y=g x)∨f x=some (.out (g x))) {x:α} (hx:I x):cr f x=some (g x):=by
 obtain ⟨b,h1,h2⟩:=n6 (f:=f) (fun y=>I y∧g y=g x) m (fun b=>b=g x) (fun y hy=>by
  rcases h y hy.1 with ⟨z,h1,h2,h3,h4⟩ | h1
  ·exact .inl ⟨z,h1,⟨h2,h4.trans hy.2⟩,h3⟩
  ·exact .inr ⟨_,h1,hy.2⟩) ⟨hx,rfl⟩
 rw [h1,h2]
theorem C5 {l:List α} {i:Int} (h0:0≤i) (h1:i<(l.length:Int)):idx l i=some (l[i.toNat]'(by omega)):=by
 unfold idx
 rw [if_pos h0,List.getElem?_eq_getElem]
theorem la {l:List α} {i:Nat} (h:i<l.length):idx l (i:Int)=some l[i]:=by
 rw [C5 (by omega) (by omega)]; simp
theorem xu {b:Nat} {l m:List α} (h1:(l.length+m.length)*b≤2 ^ 40) (h2:l.length+m.length≤2 ^ 40):p9 b l m=some (l++m):=by
 unfold p9; rw [if_pos ⟨h1,h2⟩]
theorem pe {l:List α} {lo hi:Int} (h0:0≤lo) (h1:lo≤hi) (h2:hi≤(l.length:Int)):sY l lo hi=some ((l.drop lo.toNat).take (hi.toNat - lo.toNat)):=by
 unfold sY; rw [if_pos ⟨h0,h1,h2⟩]
end
theorem bg {n:Int} (h0:-9223372036854775808≤n) (h1:n≤9223372036854775807):IntKind.wrap .i64 n=n:=by rw [IntKind.wrap_i64]; omega
theorem C6 {n:Int} (h0:0≤n) (h1:n≤255):IntKind.wrap .u8 n=n:=by rw [IntKind.wrap_u8]; omega
theorem sk (n:Int):IntKind.wrap .u16 n=n % 65536:=by simp [IntKind.wrap,IntKind.bits,IntKind.signed]
theorem AN {n:Int} (h0:0≤n) (h1:n≤65535):IntKind.wrap .u16 n=n:=by rw [sk]; omega
theorem uH (w:Nat) (n:Int):((BitVec.ofInt w n).toNat:Int)=n % (2 ^ w:Nat):=by
 rw [BitVec.toNat_ofInt]
 have:(0:Int)<((2 ^ w:Nat):Int):=by exact_mod_cast Nat.two_pow_pos w
 exact Int.toNat_of_nonneg (Int.emod_nonneg _ (by omega))
theorem nn (x:Int) (j:Nat) (hj:j≤62):ak .and .i64 x ((2 ^ j - 1:Nat):Int)=x % (2 ^ j:Nat):=by
 have hp:2 ^ j≤2 ^ 62:=Nat.pow_le_pow_right (by omega) hj
 have h1:0<2 ^ j:=Nat.two_pow_pos j
 have e1:(BitVec.ofInt 64 ((2 ^ j - 1:Nat):Int)).toNat=2 ^ j - 1:=by
  rw [BitVec.toNat_ofInt]; omega
 have e2:(BitVec.ofInt 64 x &&& BitVec.ofInt 64 ((2 ^ j - 1:Nat):Int)).toNat=(BitVec.ofInt 64 x).toNat % 2 ^ j:=by
  rw [BitVec.toNat_and,e1,Nat.and_two_pow_sub_one_eq_mod]
 have h3:(((BitVec.ofInt 64 x).toNat % 2 ^ j:Nat):Int)=x % (2 ^ j:Nat):=by
  rw [Int.natCast_emod,uH]
  have hd:((2 ^ j:Nat):Int) ∣ ((2 ^ 64:Nat):Int):=by
   exact_mod_cast Nat.pow_dvd_pow 2 (by omega:j≤64)
  exact Int.emod_emod_of_dvd x hd
 have h4:(BitVec.ofInt 64 x).toNat % 2 ^ j<2 ^ j:=Nat.mod_lt _ h1
 have h5:ak .and .i64 x ((2 ^ j - 1:Nat):Int)=IntKind.wrap .i64 (((BitVec.ofInt 64 x &&& BitVec.ofInt 64 ((2 ^ j - 1:Nat):Int)).toNat:Nat):Int):=rfl
 rw [h5,e2,bg (by omega) (by omega),h3]
theorem zd {k:IntKind} {x:Int} {j:Nat} (hj:j≤k.bits):bd k x (j:Int)=x / (2 ^ j:Nat):=by
 unfold bd
 rw [Int.toNat_natCast,Nat.min_eq_left hj,Int.fdiv_eq_ediv_of_nonneg _ (by exact_mod_cast Nat.zero_le _)]
 simp
end Go.Es
namespace Go.Es
variable {df:List Deferred} {mg m0:Mm} {w0:World} {OO:Nat→Prop} {g:Gh} {bx:Bx} {w:World} {P:Program} {N:Nat} {pa:List A} {pv:List Value}
structure Dead (m0:Mm) (w0:World) (O:Nat→Prop) (m:Mm) (w:World):Prop where
 mle:m0.le m
 cons:yG m w
 keep:∀ b,b<w0.heap.size→¬ O b→w.heap[b]?=w0.heap[b]?∧∀ o,m b o=m0 b o
 size:Grown w0 w
 os:w.os=w0.os
 tape:w.tape=w0.tape
 output:w.output=w0.output
theorem Inv.dead (h:Inv m0 w0 OO g bx w):Dead m0 w0 OO g.m w:=⟨h.mle,h.sim.cons,h.keep,h.size,h.os,h.tape,h.output⟩
def Cm (U:Nat) (e:Int):List PanicEntry:=[{ v:=.iface U (.int .i64 e),recovered:=false }]
abbrev Kd:=Nat→List T→Int→Prop
def ag1 (mg:Mm) (P:Program) (U:Nat) (f:Nat) (args:List T) (e:Int):Prop :=
 ∀ m w vs bs,mg.le m→yG m w→Each (RT m w) args vs bs→bs.Nodup→(∀ b ∈ bs,b<w.heap.size) →
  (∃ fn,P.funcs[f]?=some fn∧fn.body.isSome=true∧(fn.name == "runtime.NumGoroutine")=false) ∧
  Calls P f vs.toArray w fun en w'=>∃ m',en=.panicked (Cm U e)∧Dead m w (· ∈ bs) m' w'
def xv (K:Kd) (av:List Id) (al:Option (List Id)) (bx:Bx) (f:Nat) (args:List A) (e:Int):Prop :=
 ∃ ts bx1,(dI (ptrIds (args.map (iE av bx))) && (ptrIds (args.map (iE av bx))).all (fw al))=true ∧
  gives (lids (args.map (iE av bx))++av) al bx (args.map (iE av bx))=some (ts,bx1)∧K f ts e
inductive Kills (C:Cs) (K:Kd) (U:Nat) (dy:List Nat):Ac→St→Int→Prop where
 | ops (l1 l2:List Ao) (o:Ao) (s s':St) (f:Nat) (e:Int) (h:bO C l1 s=some s') (hw:wanted s' o.g=some true) (hk:o.k=.callf f) (hf:dy.contains f=true)
   (hd:xv K o.av o.al s'.bx f (o.xs.map (O.ev s'.tm)) e):Kills C K U dy (.ops (l1++o :: l2)) s e
 | pan (s:St) (e:Int):Kills C K U dy (.cond (.c .top) (.ops [⟨some U,.mv,[.c (.d (.int .i64 e))],none,[],none⟩]) .skip) s e
 | seqL (a b:Ac) (s:St) (e:Int) (h:Kills C K U dy a s e):Kills C K U dy (.seq a b) s e
 | seqR (a b:Ac) (s s':St) (k:Nat) (e:Int) (h:bp C k a s=some (.nrm,s')) (h2:Kills C K U dy b s' e):Kills C K U dy (.seq a b) s e
 | condT (x:O) (a b:Ac) (s:St) (e:Int) (hb:asB (x.ev s.tm)=some true) (h:Kills C K U dy a s e):Kills C K U dy (.cond x a b) s e
 | condF (x:O) (a b:Ac) (s:St) (e:Int) (hb:asB (x.ev s.tm)=some false) (h:Kills C K U dy b s e):Kills C K U dy (.cond x a b) s e
 | block (id:Nat) (c:Ac) (s:St) (e:Int) (h:Kills C K U dy c s e):Kills C K U dy (.block id c) s e
 | loop0 (c:Ac) (s:St) (e:Int) (h:Kills C K U dy c s e):Kills C K U dy (.loop c) s e
 | loopS (c:Ac) (s s':St) (k:Nat) (e:Int) (h:bp C k c s=some (.nrm,s')) (h2:Kills C K U dy (.loop c) s' e):Kills C K U dy (.loop c) s e
def okD (dy:List Nat):Code→Bool
 | .region _ ops draw=>(!draw || ops.toList.all fun o=>match o.op with | .call c=>(match c.callee with | .value (.func f)=>!dy.contains f | _=>true) | _=>true) && (match (ops[0]?:Option Oper) with | some o=>(match o.op with | .makeMap _ _=>false | _=>true) | none=>true)
 | .seq a b=>okD dy a && okD dy b
 | .cond (.tmp _) a b=>okD dy a && okD dy b
 | .cond _ _ _=>false
 | .block _ c=>okD dy c
 | .loop c=>okD dy c
 | _=>true
def lb:Ac→Bool
 | .seq (.ops _) (.seq (.gh _) (.ops _))=>false
 | .seq a b=>lb a && lb b
 | .cond _ a b=>lb a && lb b
 | .block _ c=>lb c
 | .loop c=>lb c
 | _=>true
def ajr (df:List Deferred) (m0:Mm) (w0:World) (OO:Nat→Prop) (U:Nat) (e:Int) (Q:Exit→Act→World→Prop):Prop:=∀ a w m,a.defers=df→Dead m0 w0 OO m w→Q (.panic (Cm U e)) a w
inductive KN (C:Cs) (K:Kd) (U:Nat) (dy:List Nat) (a:Ac) (e:Int):Nat→St→Prop where
 | zero (s:St) (n:Nat) (h:Kills C K U dy a s e):KN C K U dy a e (n+1) s
 | succ (s s':St) (k n:Nat) (h:bp C k a s=some (.nrm,s')) (h2:KN C K U dy a e n s'):KN C K U dy a e (n+1) s
theorem Kills.kn {C:Cs} {K:Kd} {U:Nat} {dy:List Nat} {a:Ac} {e:Int} {s:St} (h:Kills C K U dy (.loop a) s e):∃ n,KN C K U dy a e n s:=by
 generalize hc:Ac.loop a=c at h
 induction h with
 | loop0 c s e h _=>cases hc; exact ⟨1,.zero s 0 h⟩
 | loopS c s s' k e h _ ih=>cases hc; obtain ⟨n,hn⟩:=ih rfl; exact ⟨n+1,.succ s s' k n h hn⟩
 | _=>cases hc
variable {C:Cs} {KK:Kd} {U:Nat} {dy:List Nat}
def RunsD (C:Cs) (KK:Kd) (U:Nat) (dy:List Nat) (eo:Option Int) (c:Ac) (s:St) (Q:Out × St→Prop):Prop:=(∃ e,eo=some e∧Kills C KK U dy c s e)∨Runs C c s Q
def KillsAt (C:Cs) (KK:Kd) (dy:List Nat) (l:List Ao) (s:St) (e:Int):Prop:=∃ l1 o l2 s' f,l=l1++o :: l2∧bO C l1 s=some s'∧wanted s' o.g=some true∧o.k=.callf f∧dy.contains f=true∧xv KK o.av o.al s'.bx f (o.xs.map (O.ev s'.tm)) e
def RunAtD (C:Cs) (KK:Kd) (dy:List Nat) (eo:Option Int) (L:List Ao) (i:Nat) (s:St) (R:St→Prop):Prop:=(∃ e,eo=some e∧KillsAt C KK dy (L.drop i) s e)∨RunAt C L i s R
def kSD (C:Cs) (KK:Kd) (U:Nat) (dy:List Nat) (eo:Option Int) (b:Ac) (Q:Out × St→Prop) (p:Out × St):Prop:=match p.1 with | .nrm=>RunsD C KK U dy eo b p.2 Q | _=>Q p
section
variable {eo:Option Int} {a b c:Ac} {s s':St} {Q:Out × St→Prop} {R:St→Prop} {id:Nat}
theorem RunsD.seq (h:RunsD C KK U dy eo a s (kSD C KK U dy eo b Q)):RunsD C KK U dy eo (.seq a b) s Q:=by
 rcases h with ⟨e,he,h⟩ | ⟨⟨o,s1⟩,hq,k0,h1⟩
 ·exact .inl ⟨e,he,.seqL _ _ _ _ h⟩
 ·cases o with
  | nrm =>
   rcases hq with ⟨e,he,h2⟩ | hq
   ·exact .inl ⟨e,he,.seqR _ _ _ _ k0 _ (h1 k0 (Nat.le_refl _)) h2⟩
   ·exact .inr (Runs.seq ⟨(.nrm,s1),hq,k0,h1⟩)
  | exit i=>exact .inr (Runs.seq ⟨(.exit i,s1),hq,k0,h1⟩)
  | ret=>exact .inr (Runs.seq ⟨(.ret,s1),hq,k0,h1⟩)
theorem RunsD.ops {l:List Ao} (h:RunAtD C KK dy eo l 0 s (fun s'=>Q (.nrm,s'))):RunsD C KK U dy eo (.ops l) s Q:=by
 rcases h with ⟨e,he,l1,o,l2,s',f,hl,h1,h2,h3,h4,h5⟩ | h
 ·rw [List.drop_zero] at hl
  subst hl
  exact .inl ⟨e,he,.ops l1 l2 o s s' f e h1 h2 h3 h4 h5⟩
 ·exact .inr (Runs.ops h)
theorem RunsD.cond_t {x:O} (hb:asB (x.ev s.tm)=some true) (h:RunsD C KK U dy eo a s Q):RunsD C KK U dy eo (.cond x a b) s Q:=by
 rcases h with ⟨e,he,h⟩ | h
 ·exact .inl ⟨e,he,.condT _ _ _ _ _ hb h⟩
 ·exact .inr (Runs.cond_t hb h)
theorem RunsD.cond_f {x:O} (hb:asB (x.ev s.tm)=some false) (h:RunsD C KK U dy eo b s Q):RunsD C KK U dy eo (.cond x a b) s Q:=by
 rcases h with ⟨e,he,h⟩ | h
 ·exact .inl ⟨e,he,.condF _ _ _ _ _ hb h⟩
 ·exact .inr (Runs.cond_f hb h)
theorem RunsD.block (h:RunsD C KK U dy eo c s (kB id Q)):RunsD C KK U dy eo (.block id c) s Q:=by
 rcases h with ⟨e,he,h⟩ | h
 ·exact .inl ⟨e,he,.block _ _ _ _ h⟩
 ·exact .inr (Runs.block h)
theorem RunsD.skip (h:Q (.nrm,s)):RunsD C KK U dy eo .skip s Q:=.inr (Runs.skip h)
theorem RunsD.exit {i:Nat} (h:Q (.exit i,s)):RunsD C KK U dy eo (.exit i) s Q:=.inr (Runs.exit h)
theorem RunsD.ret (h:Q (.ret,s)):RunsD C KK U dy eo .ret s Q:=.inr (Runs.ret h)
theorem RunsD.pan {e:Int}:RunsD C KK U dy (some e) (yQ U (.int .i64 e)) s Q:=.inl ⟨e,rfl,.pan s e⟩
theorem Kills.canon {l:List Gs} {ts:List Nat} {bs:List Id} {e:Int} (hk:Canon l ts bs s s') (h:Kills C KK U dy b s' e):Kills C KK U dy (.seq (.gh l) (.seq (.keep ts bs) b)) s e:=by
 unfold Canon at hk
 simp only [Option.bind_eq_some_iff] at hk
 obtain ⟨s1,h1,h2⟩:=hk
 refine .seqR _ _ _ s1 0 _ (by simp only [bp,h1,Option.bind_some]) (.seqR _ _ _ s' 0 _ (by simp only [bp,h2,Option.bind_some]) h)
theorem RunsD.canon {l:List Gs} {ts:List Nat} {bs:List Id} (s':St) (hk:Canon l ts bs s s') (h:RunsD C KK U dy eo b s' Q):RunsD C KK U dy eo (.seq (.gh l) (.seq (.keep ts bs) b)) s Q:=by
 rcases h with ⟨e,he,h⟩ | h
 ·exact .inl ⟨e,he,.canon hk h⟩
 ·exact .inr (Runs.canon s' hk h)
theorem RunAtD.done {L:List Ao} {i:Nat} (hi:L.drop i=[]) (h:R s):RunAtD C KK dy eo L i s R:=.inr (RunAt.done hi h)
theorem KillsAt.pre {l m:List Ao} {s s':St} {e:Int} (h:bO C l s=some s') (k:KillsAt C KK dy m s' e):KillsAt C KK dy (l++m) s e:=by
 obtain ⟨l1,o,l2,s2,f,rfl,h1,h2⟩:=k
 refine ⟨l++l1,o,l2,s2,f,by simp,?_,h2⟩
 rw [sh,h]; exact h1
theorem RunAtD.chunk {L:List Ao} {i:Nat} (n:Nat) (ws:List W) (h:bO C ((L.drop i).take n) s=some (adv ((L.drop i).take n) ws s))
  (k:RunAtD C KK dy eo L (i+n) (adv ((L.drop i).take n) ws s) R):RunAtD C KK dy eo L i s R:=by
 rcases k with ⟨e,he,k⟩ | k
 ·refine .inl ⟨e,he,?_⟩
  rw [← List.take_append_drop n (L.drop i),List.drop_drop]
  exact .pre h k
 ·exact .inr (RunAt.chunk n ws h k)
theorem RunAtD.cut {L:List Ao} {i:Nat} (d:Option Nat) (k:K) (av:List Id) (al:Option (List Id)) (xs:List A) (v:A) (ws:List (Id × Option Box))
  (hk:(L[i]?).map ww=some (d,k,av,al)) (hg:((L[i]?).bind fun o=>wanted s o.g)=some true) (hx:(L[i]?).map (fun o=>o.xs.map (O.ev s.tm))=some xs)
  (hs:sem C ⟨d,k,[],none,av,al⟩ xs s.bx=some (v,ay s.bx ws)) (kk:RunAtD C KK dy eo L (i+1) (iX s d v (ay s.bx ws)) R):RunAtD C KK dy eo L i s R:=by
 rcases kk with ⟨e,he,kk⟩ | kk
 ·refine .inl ⟨e,he,?_⟩
  cases ho:L[i]? with
  | none=>rw [ho] at hk; cases hk
  | some o =>
   rw [ho] at hk hg hx
   simp only [Option.map_some,Option.some.injEq,ww,Prod.mk.injEq] at hk
   simp only [Option.map_some,Option.some.injEq] at hx
   simp only [Option.bind_some] at hg
   obtain ⟨rfl,rfl,rfl,rfl⟩:=hk
   obtain ⟨hlt,hel⟩:=List.getElem?_eq_some_iff.1 ho
   rw [List.drop_eq_getElem_cons hlt,hel]
   refine KillsAt.pre (l:=[o]) (s':=iX s o.dst v (ay s.bx ws)) ?_ kk
   simp only [bO,step,hg,Option.bind_some,if_true,hx]
   rw [xm,hs]; rfl
 ·exact .inr (RunAt.cut d k av al xs v ws hk hg hx hs kk)
theorem RunAtD.die {L:List Ao} {i:Nat} {e:Int} (d:Option Nat) (f:Nat) (av:List Id) (al:Option (List Id)) (xs:List A) (ts:List T) (ws:List (Id × Option Box))
  (hk:(L[i]?).map ww=some (d,.callf f,av,al)) (hg:((L[i]?).bind fun o=>wanted s o.g)=some true) (hx:(L[i]?).map (fun o=>o.xs.map (O.ev s.tm))=some xs) (hf:dy.contains f=true)
  (hl:xs.map (iE av s.bx)=xs) (hi:lids xs=[]) (hp:(dI (ptrIds xs) && (ptrIds xs).all (fw al))=true) (hgv:gives av al s.bx xs=some (ts,ay s.bx ws)) (hd:KK f ts e):RunAtD C KK dy (some e) L i s R:=by
 refine .inl ⟨e,rfl,?_⟩
 cases ho:L[i]? with
 | none=>rw [ho] at hk; cases hk
 | some o =>
  rw [ho] at hk hg hx
  simp only [Option.map_some,Option.some.injEq,ww,Prod.mk.injEq] at hk
  simp only [Option.map_some,Option.some.injEq] at hx
  simp only [Option.bind_some] at hg
  obtain ⟨rfl,hkk,rfl,rfl⟩:=hk
  obtain ⟨hlt,hel⟩:=List.getElem?_eq_some_iff.1 ho
  rw [List.drop_eq_getElem_cons hlt,hel]
  refine ⟨[],o,L.drop (i+1),s,f,rfl,rfl,hg,hkk,hf,?_⟩
  rw [hx]
  exact ⟨ts,_,by rw [hl]; exact hp,by rw [hl,hi,List.nil_append]; exact hgv,hd⟩
abbrev SqD:=@RunsD.seq
abbrev RoD:=@RunsD.ops
def lpE {α:Type}:Lp α Int→Option Int
 | .next _=>none
 | .out e=>some e
def LQD {α γ:Type} (l:List Gs) (ts:List Nat) (bs:List Id) (hd:α→γ→St) (r:Lp α Int) (p:Out × St):Prop :=
 match r with
 | .next x=>p.1=.nrm∧∃ g,Canon l ts bs p.2 (hd x g)
 | .out _=>False
theorem RunsD.loop {α γ:Type} {l:List Gs} {ts:List Nat} {bs:List Id} (body:α→Option (Lp α Int)) (hd:α→γ→St)
  (hstep:∀ x g r,body x=some r→RunsD C KK U dy (lpE r) b (hd x g) (LQD l ts bs hd r)) {x:α} (g:γ) {e:Int} (h:cr body x=some e) (hk:Canon l ts bs s (hd x g)) :
  RunsD C KK U dy (some e) (.loop (.seq (.gh l) (.seq (.keep ts bs) b))) s Q:=by
 obtain ⟨n,hn⟩:=eC.1 h
 refine .inl ⟨e,rfl,?_⟩
 clear h
 induction n generalizing x g s with
 | zero=>simp [loopN] at hn
 | succ n ih =>
  simp only [loopN,Option.bind_eq_some_iff] at hn
  obtain ⟨r,h1,h2⟩:=hn
  rcases hstep x g r h1 with ⟨e',he,hkill⟩ | ⟨⟨o,s1⟩,hq,k0,he⟩
  ·cases r with
   | next y=>cases he
   | out e1 =>
    cases he
    simp only [Option.some.injEq] at h2; subst h2
    exact .loop0 _ _ _ (.canon hk hkill)
  ·cases r with
   | out e1=>exact hq.elim
   | next y =>
    simp only [LQD] at hq
    obtain ⟨rfl,g',hg'⟩:=hq
    refine .loopS _ _ s1 k0 _ ?_ (ih (x:=y) g' hg' h2)
    unfold Canon at hk
    simp only [Option.bind_eq_some_iff] at hk
    obtain ⟨s2,h3,h4⟩:=hk
    simp only [bp,h3,h4,Option.bind_some]
    exact he k0 (Nat.le_refl _)
def orD (o:Option Int) (k:Option Int):Option Int:=match o with | some e=>some e | none=>k
def orL {α:Type} (o:Option Int) (k:Option (Lp α Int)):Option (Lp α Int):=match o with | some e=>some (.out e) | none=>k
end
def okF (P:Program) (dy:List Nat) (f:Nat):Bool:=match P.funcs[f]? with
 | some fn=>match fn.body with | some c=>okD dy c | none=>false
 | none=>false
def lQ:List UInt8:=[65,68,68,32,79,82,32,65,68,67,32,83,66,66,32,65,78,68,32,83,85,66,32,88,79,82,32,67,77,80,32,80,85,83,72,32,80,79,80,32,68,65,65,32,68,65,83,32,65,65,65,32,65,65,83,32,73,78,67,32,68,69,67,32,74,79,32,74,78,79,32,74,66,32,74,78,66,32,74,90,32,74,78,90,32,74,66,69,32,74,65,32,74,83,32,74,78,83,32,74,80,32,74,78,80,32,74,76,32,74,71,69,32,74,76,69,32,74,71,32,84,69,83,84,32,88,67,72,71,32,77,79,86,32,76,69,65,32,67,66,87,32,67,87,68,32,67,65,76,76,32,67,65,76,76,70,32,87,65,73,84,32,80,85,83,72,70,32,80,79,80,70,32,83,65,72,70,32,76,65,72,70,32,77,79,86,83,66,32,77,79,86,83,87,32,67,77,80,83,66,32,67,77,80,83,87,32,83,84,79,83,66,32,83,84,79,83,87,32,76,79,68,83,66,32,76,79,68,83,87,32,83,67,65,83,66,32,83,67,65,83,87,32,82,69,84,32,82,69,84,70,32,76,69,83,32,76,68,83,32,73,78,84,32,73,78,84,79,32,73,82,69,84,32,82,79,76,32,82,79,82,32,82,67,76,32,82,67,82,32,83,72,76,32,83,72,82,32,83,65,82,32,65,65,77,32,65,65,68,32,88,76,65,84,32,69,83,67,32,76,79,79,80,78,90,32,76,79,79,80,90,32,76,79,79,80,32,74,67,88,90,32,73,78,32,79,85,84,32,74,77,80,32,74,77,80,70,32,72,76,84,32,67,77,67,32,78,79,84,32,78,69,71,32,77,85,76,32,73,77,85,76,32,68,73,86,32,73,68,73,86,32,67,76,67,32,83,84,67,32,67,76,73,32,83,84,73,32,67,76,68,32,83,84,68,32]
def qe:List UInt8:=[65,68,68,32,79,82,32,65,68,67,32,83,66,66,32,65,78,68,32,83,85,66,32,88,79,82,32,67,77,80,32,80,85,83,72,32,80,79,80,32,68,65,65,32,68,65,83,32,65,65,65,32,65,65,83,32,73,78,67,32,68,69,67,32,74,79,32,74,78,79,32,74,66,32,74,78,66,32,74,90,32,74,78,90,32,74,66,69,32,74,65,32,74,83,32,74,78,83,32,74,80,32,74,78,80,32,74,76,32,74,71,69,32,74,76,69,32,74,71,32,84,69,83,84,32,88,67,72,71,32,77,79,86,32,76,69,65,32,67,66,87,32,67,87,68,32,67,65,76,76,32,67,65,76,76,70,32,87,65,73,84,32,80,85,83,72,70,32,80,79,80,70,32,83,65,72,70,32,76,65,72,70,32,77,79,86,83,66,32,77,79,86,83,87,32,67,77,80,83,66,32,67,77,80,83,87,32,83,84,79,83,66,32,83,84,79,83,87,32,76,79,68,83,66,32,76,79,68,83,87,32,83,67,65,83,66,32,83,67,65,83,87,32,82,69,84,32,82,69,84,70,32,76,69,83,32,76,68,83,32,73,78,84,32,73,78,84,79,32,73,82,69,84,32,82,79,76,32,82,79,82,32,82,67,76,32,82,67,82,32,83,72,76,32,83,72,82,32,83,65,82,32,65,65,77,32,65,65,68,32,88,76,65,84,32,69,83,67,32,76,79,79,80,78,90,32,76,79,79,80,90,32,76,79,79,80,32,74,67,88,90,32,73,78,32,79,85,84,32,74,77,80,32,74,77,80,70,32,72,76,84,32,67,77,67,32,78,79,84,32,78,69,71,32,77,85,76,32,73,77,85,76,32,68,73,86,32,73,68,73,86,32,67,76,67,32,83,84,67,32,67,76,73,32,83,84,73,32,67,76,68,32,83,84,68]
def uI:List UInt8:=[65,68,68,58,69,98,58,71,98,32,65,68,68,58,69,118,58,71,118,32,65,68,68,58,71,98,58,69,98,32,65,68,68,58,71,118,58,69,118,32,65,68,68,58,65,76,58,73,98,32,65,68,68,58,65,88,58,73,118,32,80,85,83,72,58,90,115,32,80,79,80,58,90,115,32,79,82,58,69,98,58,71,98,32,79,82,58,69,118,58,71,118,32,79,82,58,71,98,58,69,98,32,79,82,58,71,118,58,69,118,32,79,82,58,65,76,58,73,98,32,79,82,58,65,88,58,73,118,32,80,85,83,72,58,90,115,32,45,32,65,68,67,58,69,98,58,71,98,32,65,68,67,58,69,118,58,71,118,32,65,68,67,58,71,98,58,69,98,32,65,68,67,58,71,118,58,69,118,32,65,68,67,58,65,76,58,73,98,32,65,68,67,58,65,88,58,73,118,32,80,85,83,72,58,90,115,32,80,79,80,58,90,115,32,83,66,66,58,69,98,58,71,98,32,83,66,66,58,69,118,58,71,118,32,83,66,66,58,71,98,58,69,98,32,83,66,66,58,71,118,58,69,118,32,83,66,66,58,65,76,58,73,98,32,83,66,66,58,65,88,58,73,118,32,80,85,83,72,58,90,115,32,80,79,80,58,90,115,32,65,78,68,58,69,98,58,71,98,32,65,78,68,58,69,118,58,71,118,32,65,78,68,58,71,98,58,69,98,32,65,78,68,58,71,118,58,69,118,32,65,78,68,58,65,76,58,73,98,32,65,78,68,58,65,88,58,73,118,32,45,32,68,65,65,32,83,85,66,58,69,98,58,71,98,32,83,85,66,58,69,118,58,71,118,32,83,85,66,58,71,98,58,69,98,32,83,85,66,58,71,118,58,69,118,32,83,85,66,58,65,76,58,73,98,32,83,85,66,58,65,88,58,73,118,32,45,32,68,65,83,32,88,79,82,58,69,98,58,71,98,32,88,79,82,58,69,118,58,71,118,32,88,79,82,58,71,98,58,69,98,32,88,79,82,58,71,118,58,69,118,32,88,79,82,58,65,76,58,73,98,32,88,79,82,58,65,88,58,73,118,32,45,32,65,65,65,32,67,77,80,58,69,98,58,71,98,32,67,77,80,58,69,118,58,71,118,32,67,77,80,58,71,98,58,69,98,32,67,77,80,58,71,118,58,69,118,32,67,77,80,58,65,76,58,73,98,32,67,77,80,58,65,88,58,73,118,32,45,32,65,65,83,32,73,78,67,58,90,118,32,73,78,67,58,90,118,32,73,78,67,58,90,118,32,73,78,67,58,90,118,32,73,78,67,58,90,118,32,73,78,67,58,90,118,32,73,78,67,58,90,118,32,73,78,67,58,90,118,32,68,69,67,58,90,118,32,68,69,67,58,90,118,32,68,69,67,58,90,118,32,68,69,67,58,90,118,32,68,69,67,58,90,118,32,68,69,67,58,90,118,32,68,69,67,58,90,118,32,68,69,67,58,90,118,32,80,85,83,72,58,90,118,32,80,85,83,72,58,90,118,32,80,85,83,72,58,90,118,32,80,85,83,72,58,90,118,32,80,85,83,72,58,90,118,32,80,85,83,72,58,90,118,32,80,85,83,72,58,90,118,32,80,85,83,72,58,90,118,32,80,79,80,58,90,118,32,80,79,80,58,90,118,32,80,79,80,58,90,118,32,80,79,80,58,90,118,32,80,79,80,58,90,118,32,80,79,80,58,90,118,32,80,79,80,58,90,118,32,80,79,80,58,90,118,32,45,32,45,32,45,32,45,32,45,32,45,32,45,32,45,32,45,32,45,32,45,32,45,32,45,32,45,32,45,32,45,32,74,79,58,74,98,32,74,78,79,58,74,98,32,74,66,58,74,98,32,74,78,66,58,74,98,32,74,90,58,74,98,32,74,78,90,58,74,98,32,74,66,69,58,74,98,32,74,65,58,74,98,32,74,83,58,74,98,32,74,78,83,58,74,98,32,74,80,58,74,98,32,74,78,80,58,74,98,32,74,76,58,74,98,32,74,71,69,58,74,98,32,74,76,69,58,74,98,32,74,71,58,74,98,32,47,65,68,68,58,69,98,58,73,98,47,79,82,58,69,98,58,73,98,47,65,68,67,58,69,98,58,73,98,47,83,66,66,58,69,98,58,73,98,47,65,78,68,58,69,98,58,73,98,47,83,85,66,58,69,98,58,73,98,47,88,79,82,58,69,98,58,73,98,47,67,77,80,58,69,98,58,73,98,32,47,65,68,68,58,69,118,58,73,118,47,79,82,58,69,118,58,73,118,47,65,68,67,58,69,118,58,73,118,47,83,66,66,58,69,118,58,73,118,47,65,78,68,58,69,118,58,73,118,47,83,85,66,58,69,118,58,73,118,47,88,79,82,58,69,118,58,73,118,47,67,77,80,58,69,118,58,73,118,32,45,32,47,65,68,68,58,69,118,58,73,115,47,45,47,65,68,67,58,69,118,58,73,115,47,83,66,66,58,69,118,58,73,115,47,45,47,83,85,66,58,69,118,58,73,115,47,45,47,67,77,80,58,69,118,58,73,115,32,84,69,83,84,58,69,98,58,71,98,32,84,69,83,84,58,69,118,58,71,118,32,88,67,72,71,58,69,98,58,71,98,32,88,67,72,71,58,69,118,58,71,118,32,77,79,86,58,69,98,58,71,98,32,77,79,86,58,69,118,58,71,118,32,77,79,86,58,71,98,58,69,98,32,77,79,86,58,71,118,58,69,118,32,47,77,79,86,58,69,118,58,83,119,47,77,79,86,58,69,118,58,83,119,47,77,79,86,58,69,118,58,83,119,47,77,79,86,58,69,118,58,83,119,47,45,47,45,47,45,47,45,32,76,69,65,58,71,118,58,77,32,47,77,79,86,58,83,119,58,69,118,47,45,47,77,79,86,58,83,119,58,69,118,47,77,79,86,58,83,119,58,69,118,47,45,47,45,47,45,47,45,32,47,80,79,80,58,69,118,47,45,47,45,47,45,47,45,47,45,47,45,47,45,32,88,67,72,71,58,65,88,58,90,118,32,88,67,72,71,58,65,88,58,90,118,32,88,67,72,71,58,65,88,58,90,118,32,88,67,72,71,58,65,88,58,90,118,32,88,67,72,71,58,65,88,58,90,118,32,88,67,72,71,58,65,88,58,90,118,32,88,67,72,71,58,65,88,58,90,118,32,88,67,72,71,58,65,88,58,90,118,32,67,66,87,32,67,87,68,32,67,65,76,76,70,58,65,112,32,87,65,73,84,32,80,85,83,72,70,32,80,79,80,70,32,83,65,72,70,32,76,65,72,70,32,77,79,86,58,65,76,58,79,98,32,77,79,86,58,65,88,58,79,118,32,77,79,86,58,79,98,58,65,76,32,77,79,86,58,79,118,58,65,88,32,77,79,86,83,66,32,77,79,86,83,87,32,67,77,80,83,66,32,67,77,80,83,87,32,84,69,83,84,58,65,76,58,73,98,32,84,69,83,84,58,65,88,58,73,118,32,83,84,79,83,66,32,83,84,79,83,87,32,76,79,68,83,66,32,76,79,68,83,87,32,83,67,65,83,66,32,83,67,65,83,87,32,77,79,86,58,90,98,58,73,98,32,77,79,86,58,90,98,58,73,98,32,77,79,86,58,90,98,58,73,98,32,77,79,86,58,90,98,58,73,98,32,77,79,86,58,90,98,58,73,98,32,77,79,86,58,90,98,58,73,98,32,77,79,86,58,90,98,58,73,98,32,77,79,86,58,90,98,58,73,98,32,77,79,86,58,90,118,58,73,118,32,77,79,86,58,90,118,58,73,118,32,77,79,86,58,90,118,58,73,118,32,77,79,86,58,90,118,58,73,118,32,77,79,86,58,90,118,58,73,118,32,77,79,86,58,90,118,58,73,118,32,77,79,86,58,90,118,58,73,118,32,77,79,86,58,90,118,58,73,118,32,45,32,45,32,82,69,84,58,73,118,32,82,69,84,32,76,69,83,58,71,118,58,77,112,32,76,68,83,58,71,118,58,77,112,32,47,77,79,86,58,69,98,58,73,98,47,45,47,45,47,45,47,45,47,45,47,45,47,45,32,47,77,79,86,58,69,118,58,73,118,47,45,47,45,47,45,47,45,47,45,47,45,47,45,32,45,32,45,32,82,69,84,70,58,73,118,32,82,69,84,70,32,73,78,84,58,84,104,114,101,101,32,73,78,84,58,73,98,32,73,78,84,79,32,73,82,69,84,32,47,82,79,76,58,69,98,58,79,110,101,47,82,79,82,58,69,98,58,79,110,101,47,82,67,76,58,69,98,58,79,110,101,47,82,67,82,58,69,98,58,79,110,101,47,83,72,76,58,69,98,58,79,110,101,47,83,72,82,58,69,98,58,79,110,101,47,45,47,83,65,82,58,69,98,58,79,110,101,32,47,82,79,76,58,69,118,58,79,110,101,47,82,79,82,58,69,118,58,79,110,101,47,82,67,76,58,69,118,58,79,110,101,47,82,67,82,58,69,118,58,79,110,101,47,83,72,76,58,69,118,58,79,110,101,47,83,72,82,58,69,118,58,79,110,101,47,45,47,83,65,82,58,69,118,58,79,110,101,32,47,82,79,76,58,69,98,58,67,76,47,82,79,82,58,69,98,58,67,76,47,82,67,76,58,69,98,58,67,76,47,82,67,82,58,69,98,58,67,76,47,83,72,76,58,69,98,58,67,76,47,83,72,82,58,69,98,58,67,76,47,45,47,83,65,82,58,69,98,58,67,76,32,47,82,79,76,58,69,118,58,67,76,47,82,79,82,58,69,118,58,67,76,47,82,67,76,58,69,118,58,67,76,47,82,67,82,58,69,118,58,67,76,47,83,72,76,58,69,118,58,67,76,47,83,72,82,58,69,118,58,67,76,47,45,47,83,65,82,58,69,118,58,67,76,32,65,65,77,58,73,98,32,65,65,68,58,73,98,32,45,32,88,76,65,84,32,69,83,67,58,69,118,32,69,83,67,58,69,118,32,69,83,67,58,69,118,32,69,83,67,58,69,118,32,69,83,67,58,69,118,32,69,83,67,58,69,118,32,69,83,67,58,69,118,32,69,83,67,58,69,118,32,76,79,79,80,78,90,58,74,98,32,76,79,79,80,90,58,74,98,32,76,79,79,80,58,74,98,32,74,67,88,90,58,74,98,32,73,78,58,65,76,58,73,98,32,73,78,58,65,88,58,73,98,32,79,85,84,58,73,98,58,65,76,32,79,85,84,58,73,98,58,65,88,32,67,65,76,76,58,74,118,32,74,77,80,58,74,118,32,74,77,80,70,58,65,112,32,74,77,80,58,74,98,32,73,78,58,65,76,58,68,88,32,73,78,58,65,88,58,68,88,32,79,85,84,58,68,88,58,65,76,32,79,85,84,58,68,88,58,65,88,32,45,32,45,32,45,32,45,32,72,76,84,32,67,77,67,32,47,84,69,83,84,58,69,98,58,73,98,47,45,47,78,79,84,58,69,98,47,78,69,71,58,69,98,47,77,85,76,58,69,98,47,73,77,85,76,58,69,98,47,68,73,86,58,69,98,47,73,68,73,86,58,69,98,32,47,84,69,83,84,58,69,118,58,73,118,47,45,47,78,79,84,58,69,118,47,78,69,71,58,69,118,47,77,85,76,58,69,118,47,73,77,85,76,58,69,118,47,68,73,86,58,69,118,47,73,68,73,86,58,69,118,32,67,76,67,32,83,84,67,32,67,76,73,32,83,84,73,32,67,76,68,32,83,84,68,32,47,73,78,67,58,69,98,47,68,69,67,58,69,98,47,45,47,45,47,45,47,45,47,45,47,45,32,47,73,78,67,58,69,118,47,68,69,67,58,69,118,47,67,65,76,76,58,69,118,47,67,65,76,76,70,58,77,112,47,74,77,80,58,69,118,47,74,77,80,70,58,77,112,47,80,85,83,72,58,69,118,47,45,32]
def nq:List UInt8:=[69,98,32,69,118,32,71,98,32,71,118,32,83,119,32,73,98,32,73,118,32,73,115,32,74,98,32,74,118,32,65,112,32,79,98,32,79,118,32,65,76,32,67,76,32,65,88,32,68,88,32,79,110,101,32,77,112,32,77,32,90,98,32,90,118,32,90,115,32,84,104,114,101,101,32]
end Go.Es
