/- What the functions answer, in plain Lean. No condition. -/
import Derived.Test.YtappijlcmhdilaaDoorPkoP
import Derived.KernelRfl
set_option linter.unusedVariables false
set_option linter.unusedSimpArgs false
set_option maxHeartbeats 4000000
set_option maxRecDepth 100000
namespace Go.Es.Pko
def agM {α β:Type} (f:α→Option (Lp α β)):Nat→α→Option β
 | 0,_=>none
 | n+1,x=>match f x with
  | some (.next y)=>agM f n y
  | some (.out b)=>some b
  | none=>none
def iK:List UInt8→List UInt8
 | []=>[]
 | c :: r=>if c.toNat=32 then r else iK r
def cD:List UInt8→List UInt8
 | []=>[]
 | c :: r=>if c.toNat=32 then [] else c :: cD r
def wordU (s:List UInt8):Nat→List UInt8
 | 0=>cD s
 | n+1=>wordU (iK s) n
def j2 (w:List UInt8):List UInt8→List UInt8→Nat→Nat
 | [],_,_=>0
 | c :: r,cur,n=>if c.toNat=32 then (if cur=w then n else j2 w r [] (n+1)) else j2 w r (cur++[c]) n
def fG (mark:Nat):List UInt8→List UInt8→Nat→List UInt8
 | [],cur,n=>if n=0 then cur else []
 | c :: r,cur,n=>if c.toNat=mark then (if n=0 then cur else fG mark r [] (n - 1)) else fG mark r (cur++[c]) n
theorem n7 (s:List UInt8):(cD s).length≤s.length:=by
 induction s with
 | nil=>simp [cD]
 | cons c r ih=>unfold cD; split <;> simp; omega
theorem wB (s:List UInt8):cD s=s.take (cD s).length:=by
 induction s with
 | nil=>simp [cD]
 | cons c r ih =>
  unfold cD
  split
  ·simp
  ·simp only [List.length_cons,List.take_succ_cons]; rw [← ih]
theorem wC (s:List UInt8):iK s=s.drop ((cD s).length+1):=by
 induction s with
 | nil=>simp [iK]
 | cons c r ih =>
  unfold iK cD
  split
  ·simp
  ·simp only [List.length_cons,List.drop_succ_cons]; exact ih
theorem BV (s:List UInt8) (n k:Int) (a:Nat) (ha:a≤s.length) (hs:s.length≤100000) :
  cr (fun x:Int=>bk s n x k) (a:Int)=some ((a+(cD (s.drop a)).length:Nat):Int):=by
 refine ta (f:=fun x:Int=>bk s n x k) (fun x=>((x.toNat+(cD (s.drop x.toNat)).length:Nat):Int)) (fun x=>∃ b:Nat,x=(b:Int)∧b≤s.length) (fun x=>(s.length - x).toNat) (fun x hx=>?_) ⟨a,rfl,ha⟩
 obtain ⟨b,rfl,hb⟩:=hx
 unfold bk
 by_cases hlt:b<s.length
 ·simp only [show (b:Int)<(s.length:Int) from by omega,decide_true,if_true,la hlt,Option.bind_some,Int.toNat_natCast]
  by_cases hc:s[b].toNat=32
  ·right
   have:cD (s.drop b)=[]:=by rw [List.drop_eq_getElem_cons hlt]; simp [cD,hc]
   simp [hc,this]
  ·left
   have hc':(((s[b].toNat:Nat):Int) != 32)=true:=by simp; omega
   have w:IntKind.wrap .i64 ((b:Int)+1)=((b+1:Nat):Int):=by rw [bg (by omega) (by omega)]; omega
   refine ⟨((b+1:Nat):Int),by simp only [hc',if_true,w],⟨b+1,rfl,by omega⟩,by omega,?_⟩
   have:cD (s.drop b)=s[b] :: cD (s.drop (b+1)):=by rw [List.drop_eq_getElem_cons hlt]; simp [cD,hc]
   rw [this,Int.toNat_natCast,List.length_cons]
   omega
 ·right
  have:b=s.length:=by omega
  subst this
  simp [cD]
theorem zY (s:List UInt8) (e:Int) (a:Nat) (ha:a≤s.length+1) (hs:s.length≤100000) :
  cr (fun x:Int=>bl s e x) (a:Int)=some ((a+(cD (s.drop a)).length:Nat):Int):=by
 refine ta (f:=fun x:Int=>bl s e x) (fun x=>((x.toNat+(cD (s.drop x.toNat)).length:Nat):Int)) (fun x=>∃ b:Nat,x=(b:Int)∧b≤s.length+1) (fun x=>(s.length - x).toNat) (fun x hx=>?_) ⟨a,rfl,ha⟩
 obtain ⟨b,rfl,hb⟩:=hx
 unfold bl
 by_cases hlt:b<s.length
 ·simp only [show (b:Int)<(s.length:Int) from by omega,decide_true,if_true,la hlt,Option.bind_some,Int.toNat_natCast]
  by_cases hc:s[b].toNat=32
  ·right
   have:cD (s.drop b)=[]:=by rw [List.drop_eq_getElem_cons hlt]; simp [cD,hc]
   simp [hc,this]
  ·left
   have hc':(((s[b].toNat:Nat):Int) != 32)=true:=by simp; omega
   have w:IntKind.wrap .i64 ((b:Int)+1)=((b+1:Nat):Int):=by rw [bg (by omega) (by omega)]; omega
   refine ⟨((b+1:Nat):Int),by simp only [hc',if_true,w],⟨b+1,rfl,by omega⟩,by omega,?_⟩
   have:cD (s.drop b)=s[b] :: cD (s.drop (b+1)):=by rw [List.drop_eq_getElem_cons hlt]; simp [cD,hc]
   rw [this,Int.toNat_natCast,List.length_cons]
   omega
 ·right
  have:s.drop b=[]:=List.drop_of_length_le (by omega)
  simp only [show ¬ (b:Int)<(s.length:Int) from by omega,decide_false,Bool.false_eq_true,if_false,Int.toNat_natCast,this,cD]
  simp
def qf:Nat→List UInt8→List UInt8
 | 0,s=>s
 | n+1,s=>qf n (iK s)
theorem sn:∀ n,qf n []=[]
 | 0=>rfl
 | n+1=>sn n
theorem oM:∀ (n:Nat) (s:List UInt8),wordU s n=cD (qf n s)
 | 0,s=>rfl
 | n+1,s=>oM n (iK s)
theorem sq (s:List UInt8) (n:Nat) (hs:s.length≤100000) (hn:n≤100000):bq s (n:Int)=some (wordU s n):=by
 unfold bq
 obtain ⟨b,h1,a,h2,h3,h4⟩:=n6 (f:=fun x:Int × Int=>bZ s (n:Int) x.1 x.2) (fun x=>∃ a k:Nat,x=((a:Int),(k:Int))∧a≤s.length+1∧k≤n∧qf (n - k) (s.drop a)=qf n s) (fun x=>(n - x.2).toNat)
  (fun b=>∃ a:Nat,b=(a:Int)∧a≤s.length+1∧s.drop a=qf n s) (fun x hx=>by
   obtain ⟨a,k,rfl,ha,hk,he⟩:=hx
   simp only
   unfold bZ
   by_cases h1:k<n
   ·by_cases h2:a<s.length
    ·left
     have hl:=n7 (s.drop a)
     rw [List.length_drop] at hl
     simp only [show (k:Int)<(n:Int) from by omega,show (a:Int)<(s.length:Int) from by omega,decide_true,if_true,BV s n k a (by omega) hs,Option.bind_some]
     refine ⟨(((a+(cD (s.drop a)).length+1:Nat):Int),((k+1:Nat):Int)),?_,⟨a+(cD (s.drop a)).length+1,k+1,rfl,by omega,by omega,?_⟩,by simp only; omega⟩
     ·rw [bg (by omega) (by omega),bg (by omega) (by omega)]; rfl
     ·rw [← he,show n - k=(n - (k+1))+1 by omega]
      simp only [qf]
      rw [wC,List.drop_drop]
      rfl
    ·right
     simp only [show (k:Int)<(n:Int) from by omega,show ¬ (a:Int)<(s.length:Int) from by omega,decide_true,decide_false,if_true,Bool.false_eq_true,if_false]
     refine ⟨_,rfl,a,rfl,ha,?_⟩
     have hd:s.drop a=[]:=List.drop_of_length_le (by omega)
     rw [hd,sn] at he
     rw [hd,← he]
   ·right
    have:k=n:=by omega
    subst this
    simp only [show ¬ (k:Int)<(k:Int) from by omega,decide_false,Bool.false_eq_true,if_false]
    refine ⟨_,rfl,a,rfl,ha,?_⟩
    rw [Nat.sub_self] at he
    exact he) (x:=(0,0)) ⟨0,0,rfl,by omega,by omega,by simp⟩
 subst h2
 rw [h1,Option.bind_some,zY s _ a h3 hs,Option.bind_some,oM,← h4]
 by_cases hlt:a<s.length
 ·have hl:=n7 (s.drop a)
  rw [List.length_drop] at hl
  simp only [show ¬ (a:Int)≥(s.length:Int) from by omega,decide_false,Bool.false_eq_true,if_false]
  rw [pe (by omega) (by omega) (by omega),Option.bind_some,Int.toNat_natCast,Int.toNat_natCast,Nat.add_sub_cancel_left,← wB]
 ·have:s.drop a=[]:=List.drop_of_length_le (by omega)
  simp only [show (a:Int)≥(s.length:Int) from by omega,decide_true,if_true,this,cD]
theorem uJ (s:List UInt8) (a b:Nat) (h1:a≤b) (h2:b<s.length):(s.drop a).take (b - a)++[s[b]]=(s.drop a).take (b+1 - a):=by
 rw [show b+1 - a=(b - a)+1 by omega,List.take_succ_eq_append_getElem (by rw [List.length_drop]; omega)]
 simp [show a+(b - a)=b by omega]
theorem n8 (s w:List UInt8) (hs:s.length≤100000):aQ s w=some ((j2 w s [] 1:Nat):Int):=by
 unfold aQ
 have h:=ta (f:=fun x:Int × Int × Int=>ca s w x.1 x.2.1 x.2.2) (fun x=>if j2 w (s.drop x.2.2.toNat) ((s.drop x.2.1.toNat).take (x.2.2.toNat - x.2.1.toNat)) x.1.toNat=0 then (.inr ():Int ⊕ Unit) else .inl ((j2 w (s.drop x.2.2.toNat) ((s.drop x.2.1.toNat).take (x.2.2.toNat - x.2.1.toNat)) x.1.toNat:Nat):Int))
  (fun x=>∃ n a b:Nat,x=((n:Int),(a:Int),(b:Int))∧1≤n∧n≤b+1∧a≤b∧b≤s.length) (fun x=>(s.length - x.2.2).toNat) (fun x hx=>by
   obtain ⟨n,a,b,rfl,hn,hn2,ha,hb⟩:=hx
   simp only [Int.toNat_natCast]
   unfold ca
   have w1:IntKind.wrap .i64 ((b:Int)+1)=((b+1:Nat):Int):=by rw [bg (by omega) (by omega)]; omega
   have w2:IntKind.wrap .i64 ((n:Int)+1)=((n+1:Nat):Int):=by rw [bg (by omega) (by omega)]; omega
   by_cases hlt:b<s.length
   ·have hd:s.drop b=s[b] :: s.drop (b+1):=List.drop_eq_getElem_cons hlt
    simp only [show (b:Int)<(s.length:Int) from by omega,decide_true,if_true,la hlt,Option.bind_some,w1,w2]
    by_cases hc:s[b].toNat=32
    ·have hc':(((s[b].toNat:Nat):Int) != 32)=false:=by simp [hc]
     simp only [hc',Bool.false_eq_true,if_false]
     rw [pe (by omega) (by omega) (by omega),Option.bind_some,Int.toNat_natCast,Int.toNat_natCast]
     by_cases hw:(s.drop a).take (b - a)=w
     ·right
      simp only [hw,beq_self_eq_true,if_true,hd,j2,hc]
      rw [if_neg (by omega)]
     ·left
      have hw':((s.drop a).take (b - a)==w)=false:=by simpa using hw
      simp only [hw',Bool.false_eq_true,if_false]
      refine ⟨_,rfl,⟨n+1,b+1,b+1,rfl,by omega,by omega,by omega,by omega⟩,by simp only; omega,?_⟩
      simp only [Int.toNat_natCast,hd,j2,hc,if_true,hw,if_false,Nat.sub_self,List.take_zero]
    ·left
     have hc':(((s[b].toNat:Nat):Int) != 32)=true:=by simp; omega
     simp only [hc',if_true]
     refine ⟨_,rfl,⟨n,a,b+1,rfl,hn,by omega,by omega,by omega⟩,by simp only; omega,?_⟩
     simp only [Int.toNat_natCast,hd,j2,hc,if_false]
     rw [uJ s a b ha hlt]
   ·right
    have:b=s.length:=by omega
    subst this
    simp [j2]) (x:=(1,0,0)) ⟨1,0,0,rfl,by omega,by omega,by omega,by omega⟩
 rw [h]
 simp only [Option.bind_some]
 show (match (if j2 w s [] 1=0 then (.inr ():Int ⊕ Unit) else .inl ((j2 w s [] 1:Nat):Int)) with | .inl e=>some e | .inr _=>some 0)=_
 split
 ·rename_i h0; split at h0
  ·cases h0
  ·cases h0; rfl
 ·rename_i h0; split at h0
  ·rename_i hz; rw [hz]; rfl
  ·cases h0
theorem lc (s:List UInt8) (mark n:Nat) (hs:s.length≤100000) (hn:n≤100000):aN s (mark:Int) (n:Int)=some (fG mark s [] n):=by
 unfold aN
 have h:=n6 (f:=fun x:Int × Int × Int=>bu s (mark:Int) x.1 x.2.1 x.2.2)
  (fun x=>(∃ n' a b:Nat,x=((n':Int),(a:Int),(b:Int))∧n'≤n∧a≤b∧b≤s.length∧fG mark (s.drop b) ((s.drop a).take (b - a)) n'=fG mark s [] n)∨((s.length:Int)<x.2.2∧fG mark s [] n=[])) (fun x=>(s.length+1 - x.2.2).toNat)
  (fun r=>(match r with | .inl e=>e | .inr _=>([]:List UInt8))=fG mark s [] n) (fun x hx=>by
   rcases hx with ⟨n',a,b,rfl,hn',ha,hb,he⟩ | ⟨hx,he⟩
   ·simp only
    unfold bu
    have w1:IntKind.wrap .i64 ((b:Int)+1)=((b+1:Nat):Int):=by rw [bg (by omega) (by omega)]; omega
    simp only [show (b:Int)≤(s.length:Int) from by omega,decide_true,if_true,w1]
    by_cases hlt:b<s.length
    ·have hd:s.drop b=s[b] :: s.drop (b+1):=List.drop_eq_getElem_cons hlt
     rw [hd] at he
     simp only [show (b:Int)<(s.length:Int) from by omega,decide_true,if_true,la hlt,Option.bind_some]
     by_cases hc:s[b].toNat=mark
     ·have hc':(((s[b].toNat:Nat):Int) != (mark:Int))=false:=by simp [hc]
      simp only [hc',Bool.false_eq_true,if_false]
      simp only [fG,hc,if_true] at he
      by_cases hz:n'=0
      ·right
       subst hz
       simp only [if_true] at he
       simp only [Int.natCast_zero,beq_self_eq_true,if_true]
       rw [pe (by omega) (by omega) (by omega),Option.bind_some,Int.toNat_natCast,Int.toNat_natCast,he]
       exact ⟨_,rfl,rfl⟩
      ·left
       rw [if_neg hz] at he
       have hz':((n':Int)==0)=false:=by simp; omega
       have w3:IntKind.wrap .i64 ((n':Int) - 1)=((n' - 1:Nat):Int):=by rw [bg (by omega) (by omega)]; omega
       simp only [hz',Bool.false_eq_true,if_false,w3]
       refine ⟨_,rfl,.inl ⟨n' - 1,b+1,b+1,rfl,by omega,by omega,by omega,?_⟩,by simp only; omega⟩
       rw [Nat.sub_self,List.take_zero]; exact he
     ·left
      have hc':(((s[b].toNat:Nat):Int) != (mark:Int))=true:=by simp; omega
      simp only [hc',if_true]
      simp only [fG,hc,if_false] at he
      refine ⟨_,rfl,.inl ⟨n',a,b+1,rfl,by omega,by omega,by omega,?_⟩,by simp only; omega⟩
      rw [← uJ s a b ha hlt]; exact he
    ·have hbl:b=s.length:=by omega
     subst hbl
     rw [List.drop_length] at he
     simp only [fG] at he
     simp only [show ¬ (s.length:Int)<(s.length:Int) from by omega,decide_false,Bool.false_eq_true,if_false]
     by_cases hz:n'=0
     ·right
      subst hz
      simp only [if_true] at he
      simp only [Int.natCast_zero,beq_self_eq_true,if_true]
      rw [pe (by omega) (by omega) (by omega),Option.bind_some,Int.toNat_natCast,Int.toNat_natCast,he]
      exact ⟨_,rfl,rfl⟩
     ·left
      rw [if_neg hz] at he
      have hz':((n':Int)==0)=false:=by simp; omega
      simp only [hz',Bool.false_eq_true,if_false]
      exact ⟨_,rfl,.inr ⟨by simp only; omega,he.symm⟩,by simp only; omega⟩
   ·right
    unfold bu
    simp only [show ¬ x.2.2≤(s.length:Int) from by omega,decide_false,Bool.false_eq_true,if_false]
    exact ⟨_,rfl,he.symm⟩) (x:=((n:Int),0,0)) (.inl ⟨n,0,0,rfl,by omega,by omega,by omega,by simp⟩)
 obtain ⟨r,h1,h2⟩:=h
 rw [h1,Option.bind_some,← h2]
 cases r <;> rfl
def TBL:List UInt8:=uI
def NAMES:List UInt8:=lQ
def nr:List UInt8:=nq
def LIT:List (List (Nat × Nat × Nat)):=[[(1,1,3)],
 [(1,2,4)],
 [(1,3,1)],
 [(1,4,2)],
 [(1,14,6)],
 [(1,16,7)],
 [(9,23,0)],
 [(10,23,0)],
 [(2,1,3)],
 [(2,2,4)],
 [(2,3,1)],
 [(2,4,2)],
 [(2,14,6)],
 [(2,16,7)],
 [(9,23,0)],
 [(0,0,0)],
 [(3,1,3)],
 [(3,2,4)],
 [(3,3,1)],
 [(3,4,2)],
 [(3,14,6)],
 [(3,16,7)],
 [(9,23,0)],
 [(10,23,0)],
 [(4,1,3)],
 [(4,2,4)],
 [(4,3,1)],
 [(4,4,2)],
 [(4,14,6)],
 [(4,16,7)],
 [(9,23,0)],
 [(10,23,0)],
 [(5,1,3)],
 [(5,2,4)],
 [(5,3,1)],
 [(5,4,2)],
 [(5,14,6)],
 [(5,16,7)],
 [(0,0,0)],
 [(11,0,0)],
 [(6,1,3)],
 [(6,2,4)],
 [(6,3,1)],
 [(6,4,2)],
 [(6,14,6)],
 [(6,16,7)],
 [(0,0,0)],
 [(12,0,0)],
 [(7,1,3)],
 [(7,2,4)],
 [(7,3,1)],
 [(7,4,2)],
 [(7,14,6)],
 [(7,16,7)],
 [(0,0,0)],
 [(13,0,0)],
 [(8,1,3)],
 [(8,2,4)],
 [(8,3,1)],
 [(8,4,2)],
 [(8,14,6)],
 [(8,16,7)],
 [(0,0,0)],
 [(14,0,0)],
 [(15,22,0)],
 [(15,22,0)],
 [(15,22,0)],
 [(15,22,0)],
 [(15,22,0)],
 [(15,22,0)],
 [(15,22,0)],
 [(15,22,0)],
 [(16,22,0)],
 [(16,22,0)],
 [(16,22,0)],
 [(16,22,0)],
 [(16,22,0)],
 [(16,22,0)],
 [(16,22,0)],
 [(16,22,0)],
 [(9,22,0)],
 [(9,22,0)],
 [(9,22,0)],
 [(9,22,0)],
 [(9,22,0)],
 [(9,22,0)],
 [(9,22,0)],
 [(9,22,0)],
 [(10,22,0)],
 [(10,22,0)],
 [(10,22,0)],
 [(10,22,0)],
 [(10,22,0)],
 [(10,22,0)],
 [(10,22,0)],
 [(10,22,0)],
 [(0,0,0)],
 [(0,0,0)],
 [(0,0,0)],
 [(0,0,0)],
 [(0,0,0)],
 [(0,0,0)],
 [(0,0,0)],
 [(0,0,0)],
 [(0,0,0)],
 [(0,0,0)],
 [(0,0,0)],
 [(0,0,0)],
 [(0,0,0)],
 [(0,0,0)],
 [(0,0,0)],
 [(0,0,0)],
 [(17,9,0)],
 [(18,9,0)],
 [(19,9,0)],
 [(20,9,0)],
 [(21,9,0)],
 [(22,9,0)],
 [(23,9,0)],
 [(24,9,0)],
 [(25,9,0)],
 [(26,9,0)],
 [(27,9,0)],
 [(28,9,0)],
 [(29,9,0)],
 [(30,9,0)],
 [(31,9,0)],
 [(32,9,0)],
 [(1,1,6),(2,1,6),(3,1,6),(4,1,6),(5,1,6),(6,1,6),(7,1,6),(8,1,6)],
 [(1,2,7),(2,2,7),(3,2,7),(4,2,7),(5,2,7),(6,2,7),(7,2,7),(8,2,7)],
 [(0,0,0)],
 [(1,2,8),(0,0,0),(3,2,8),(4,2,8),(0,0,0),(6,2,8),(0,0,0),(8,2,8)],
 [(33,1,3)],
 [(33,2,4)],
 [(34,1,3)],
 [(34,2,4)],
 [(35,1,3)],
 [(35,2,4)],
 [(35,3,1)],
 [(35,4,2)],
 [(35,2,5),(35,2,5),(35,2,5),(35,2,5),(0,0,0),(0,0,0),(0,0,0),(0,0,0)],
 [(36,4,20)],
 [(35,5,2),(0,0,0),(35,5,2),(35,5,2),(0,0,0),(0,0,0),(0,0,0),(0,0,0)],
 [(10,2,0),(0,0,0),(0,0,0),(0,0,0),(0,0,0),(0,0,0),(0,0,0),(0,0,0)],
 [(34,16,22)],
 [(34,16,22)],
 [(34,16,22)],
 [(34,16,22)],
 [(34,16,22)],
 [(34,16,22)],
 [(34,16,22)],
 [(34,16,22)],
 [(37,0,0)],
 [(38,0,0)],
 [(40,11,0)],
 [(41,0,0)],
 [(42,0,0)],
 [(43,0,0)],
 [(44,0,0)],
 [(45,0,0)],
 [(35,14,12)],
 [(35,16,13)],
 [(35,12,14)],
 [(35,13,16)],
 [(46,0,0)],
 [(47,0,0)],
 [(48,0,0)],
 [(49,0,0)],
 [(33,14,6)],
 [(33,16,7)],
 [(50,0,0)],
 [(51,0,0)],
 [(52,0,0)],
 [(53,0,0)],
 [(54,0,0)],
 [(55,0,0)],
 [(35,21,6)],
 [(35,21,6)],
 [(35,21,6)],
 [(35,21,6)],
 [(35,21,6)],
 [(35,21,6)],
 [(35,21,6)],
 [(35,21,6)],
 [(35,22,7)],
 [(35,22,7)],
 [(35,22,7)],
 [(35,22,7)],
 [(35,22,7)],
 [(35,22,7)],
 [(35,22,7)],
 [(35,22,7)],
 [(0,0,0)],
 [(0,0,0)],
 [(56,7,0)],
 [(56,0,0)],
 [(58,4,19)],
 [(59,4,19)],
 [(35,1,6),(0,0,0),(0,0,0),(0,0,0),(0,0,0),(0,0,0),(0,0,0),(0,0,0)],
 [(35,2,7),(0,0,0),(0,0,0),(0,0,0),(0,0,0),(0,0,0),(0,0,0),(0,0,0)],
 [(0,0,0)],
 [(0,0,0)],
 [(57,7,0)],
 [(57,0,0)],
 [(60,24,0)],
 [(60,6,0)],
 [(61,0,0)],
 [(62,0,0)],
 [(63,1,18),(64,1,18),(65,1,18),(66,1,18),(67,1,18),(68,1,18),(0,0,0),(69,1,18)],
 [(63,2,18),(64,2,18),(65,2,18),(66,2,18),(67,2,18),(68,2,18),(0,0,0),(69,2,18)],
 [(63,1,15),(64,1,15),(65,1,15),(66,1,15),(67,1,15),(68,1,15),(0,0,0),(69,1,15)],
 [(63,2,15),(64,2,15),(65,2,15),(66,2,15),(67,2,15),(68,2,15),(0,0,0),(69,2,15)],
 [(70,6,0)],
 [(71,6,0)],
 [(0,0,0)],
 [(72,0,0)],
 [(73,2,0)],
 [(73,2,0)],
 [(73,2,0)],
 [(73,2,0)],
 [(73,2,0)],
 [(73,2,0)],
 [(73,2,0)],
 [(73,2,0)],
 [(74,9,0)],
 [(75,9,0)],
 [(76,9,0)],
 [(77,9,0)],
 [(78,14,6)],
 [(78,16,6)],
 [(79,6,14)],
 [(79,6,16)],
 [(39,10,0)],
 [(80,10,0)],
 [(81,11,0)],
 [(80,9,0)],
 [(78,14,17)],
 [(78,16,17)],
 [(79,17,14)],
 [(79,17,16)],
 [(0,0,0)],
 [(0,0,0)],
 [(0,0,0)],
 [(0,0,0)],
 [(82,0,0)],
 [(83,0,0)],
 [(33,1,6),(0,0,0),(84,1,0),(85,1,0),(86,1,0),(87,1,0),(88,1,0),(89,1,0)],
 [(33,2,7),(0,0,0),(84,2,0),(85,2,0),(86,2,0),(87,2,0),(88,2,0),(89,2,0)],
 [(90,0,0)],
 [(91,0,0)],
 [(92,0,0)],
 [(93,0,0)],
 [(94,0,0)],
 [(95,0,0)],
 [(15,1,0),(16,1,0),(0,0,0),(0,0,0),(0,0,0),(0,0,0),(0,0,0),(0,0,0)],
 [(15,2,0),(16,2,0),(39,2,0),(40,19,0),(80,2,0),(81,19,0),(9,2,0),(0,0,0)]]
def xw:List Nat→List Nat
 | []=>[]
 | c :: r=>if c=32 then r else xw r
def xx:List Nat→List Nat
 | []=>[]
 | c :: r=>if c=32 then [] else c :: xx r
def wD (w:List Nat):List Nat→List Nat→Nat→Nat
 | [],_,_=>0
 | c :: r,cur,n=>if c=32 then (if cur=w then n else wD w r [] (n+1)) else wD w r (cur++[c]) n
def qg (mark:Nat):List Nat→List Nat→Nat→List Nat
 | [],cur,n=>if n=0 then cur else []
 | c :: r,cur,n=>if c=mark then (if n=0 then cur else qg mark r [] (n - 1)) else qg mark r (cur++[c]) n
def nat (s:List UInt8):List Nat:=s.map UInt8.toNat
theorem th {a b:List UInt8}:nat a=nat b ↔ a=b:=by
 constructor
 ·intro h
  exact List.map_inj_right (fun x y h=>UInt8.toNat_inj.1 h) |>.1 h
 ·intro h; rw [h]
theorem zZ (s:List UInt8):nat (iK s)=xw (nat s):=by
 induction s with
 | nil=>rfl
 | cons c r ih =>
  simp only [iK,nat,List.map_cons,xw]
  split
  ·rfl
  ·exact ih
theorem z0 (s:List UInt8):nat (cD s)=xx (nat s):=by
 induction s with
 | nil=>rfl
 | cons c r ih =>
  simp only [cD,nat,List.map_cons,xx]
  split
  ·rfl
  ·simp only [List.map_cons,List.cons.injEq,true_and]; exact ih
theorem ns (w:List UInt8):∀ (s cur:List UInt8) (n:Nat),j2 w s cur n=wD (nat w) (nat s) (nat cur) n
 | [],cur,n=>rfl
 | c :: r,cur,n=>by
  have e1:=ns w r [] (n+1)
  have e2:=ns w r (cur++[c]) n
  simp only [nat,List.map_append,List.map_cons,List.map_nil] at e1 e2
  simp only [j2,nat,List.map_cons,wD,e1,e2]
  have e3:(List.map UInt8.toNat cur=List.map UInt8.toNat w)=(cur=w):=propext th
  simp only [e3]
theorem jv (m:Nat):∀ (s cur:List UInt8) (n:Nat),nat (fG m s cur n)=qg m (nat s) (nat cur) n
 | [],cur,n=>by simp only [fG,nat,List.map_nil,qg]; split <;> rfl
 | c :: r,cur,n=>by
  have e1:=jv m r [] (n - 1)
  have e2:=jv m r (cur++[c]) n
  simp only [nat,List.map_append,List.map_cons,List.map_nil] at e1 e2
  simp only [fG,nat,List.map_cons,qg]
  split
  ·split
   ·rfl
   ·exact e1
  ·exact e2
theorem qh (m:Nat):∀ (s cur:List UInt8) (n:Nat),(fG m s cur n).length≤s.length+cur.length
 | [],cur,n=>by simp only [fG]; split <;> simp
 | c :: r,cur,n=>by
  have e1:=qh m r [] (n - 1)
  have e2:=qh m r (cur++[c]) n
  simp only [List.length_append,List.length_cons,List.length_nil] at e1 e2
  simp only [fG,List.length_cons]
  split
  ·split <;> omega
  ·omega
def n9:Nat→List Nat→List (List Nat)
 | 0,_=>[]
 | n+1,s=>xx s :: n9 n (xw s)
theorem ms:∀ (n i:Nat) (s:List UInt8),i<n→(n9 n (nat s))[i]?=some (nat (wordU s i))
 | 0,i,s,h=>by omega
 | n+1,0,s,h=>by simp [n9,wordU,z0]
 | n+1,i+1,s,h=>by
  simp only [n9,List.getElem?_cons_succ,← zZ,wordU]
  exact ms n i (iK s) (by omega)
def sec (k:Nat):Bool:=(1≤k && k≤5) || k==19 || k==20
def qi (e:List Nat):Nat × Nat × Nat :=
 if e=[45]∨e=[] then (0,0,0) else (wD (qg 58 e [] 0) (nat NAMES) [] 1,wD (qg 58 e [] 1) (nat nr) [] 1,wD (qg 58 e [] 2) (nat nr) [] 1)
def uK (w:List Nat):List (Nat × Nat × Nat):=if w.head?=some 47 then (List.range 8).map fun k=>qi (qg 47 w [] (k+1)) else [qi w]
theorem yl:(n9 256 (nat TBL)).map uK=LIT:=by kernel_rfl
def entN (w:List Nat):List (List Nat):=if w.head?=some 47 then (List.range 8).map fun k=>qg 47 w [] (k+1) else [w]
theorem Wi:(n9 256 (nat TBL)).all (fun w=>(entN w).all fun e=>decide (e=[45]) || decide (e=[]) || !((qi e).1==0))=true:=by kernel_rfl
def rw' (x:Nat × Nat × Nat):Row × Bool:=if x.1=0 then (⟨0,0,0,false⟩,false) else (⟨x.1,x.2.1,x.2.2,sec x.2.1 || sec x.2.2⟩,true)
def look (op k:Nat):Nat × Nat × Nat:=match LIT[op]? with
 | some l=>if l.length=1 then l.getD 0 (0,0,0) else l.getD k (0,0,0)
 | none=>(0,0,0)
theorem xy:TBL.length≤100000:=by decide
theorem uL:∀ (s:List UInt8),(iK s).length≤s.length
 | []=>by simp [iK]
 | c :: r=>by
  have:=uL r
  simp only [iK,List.length_cons]
  split <;> omega
theorem sr:∀ (n:Nat) (s:List UInt8),(wordU s n).length≤s.length
 | 0,s=>n7 s
 | n+1,s=>Nat.le_trans (sr n (iK s)) (uL s)
theorem uM (w:List UInt8):(nat w).head?=w.head?.map UInt8.toNat:=by cases w <;> rfl
theorem Wj (op:Nat) (h:op<256):LIT[op]?=some (uK (nat (wordU TBL op))):=by
 rw [← yl,List.getElem?_map,ms 256 op TBL h]; rfl
theorem Wk (op:Nat) (h:op<256):∀ e ∈ entN (nat (wordU TBL op)),e=[45]∨e=[]∨(qi e).1≠0:=by
 intro e he
 have h1:=Wi
 rw [List.all_eq_true] at h1
 have h2:=h1 (nat (wordU TBL op)) (List.mem_of_getElem? (ms 256 op TBL h))
 rw [List.all_eq_true] at h2
 have h3:=h2 e he
 simp only [Bool.or_eq_true,decide_eq_true_eq,Bool.not_eq_true',beq_eq_false_iff_ne] at h3
 rcases h3 with (h3 | h3) | h3
 ·exact .inl h3
 ·exact .inr (.inl h3)
 ·exact .inr (.inr h3)
theorem wE (op:Nat) (h:op<256) (reg:Int):∃ e,cv (op:Int) reg=some e∧e.length≤100000∧nat e ∈ entN (nat (wordU TBL op))∧look op (reg % 8).toNat=qi (nat e):=by
 have w0:IntKind.wrap .i64 (op:Int)=(op:Int):=bg (by omega) (by omega)
 have hw:=sq TBL op xy (by omega)
 have hl:=sr op TBL
 have ht:=xy
 have a7:ak .and .i64 reg 7=reg % 8:=nn reg 3 (by omega)
 have hk:reg % 8=(((reg % 8).toNat:Nat):Int):=by omega
 have hk8:(reg % 8).toNat<8:=by omega
 unfold cv
 show ∃ e,((bq TBL (IntKind.wrap .i64 (op:Int))).bind _)=some e∧_
 rw [w0,hw,Option.bind_some]
 have hla:=Wj op h
 generalize wordU TBL op=w at *
 unfold look
 rw [hla]
 cases w with
 | nil =>
  simp only [List.length_nil,Int.natCast_zero,show ¬ (0:Int)>0 from by omega,decide_false,Bool.false_eq_true,if_false]
  exact ⟨[],rfl,by simp,by simp [entN,nat],by simp [uK,nat]⟩
 | cons c r =>
  simp only [show (((c :: r).length:Nat):Int)>0 from by simp,decide_true,if_true]
  rw [show idx (c :: r) 0=some c from rfl,Option.bind_some]
  by_cases hc:c.toNat=47
  ·have hc':(((c.toNat:Nat):Int)==47)=true:=by simp [hc]
   simp only [hc',if_true,a7]
   rw [hk,bg (by omega) (by omega)]
   have hp:=lc (c :: r) 47 ((reg % 8).toNat+1) (by omega) (by omega)
   rw [show (((reg % 8).toNat:Nat):Int)+1=(((reg % 8).toNat+1:Nat):Int) from by omega]
   rw [show ((47:Nat):Int)=47 from rfl] at hp
   rw [hp,Option.bind_some]
   have hlen:=qh 47 (c :: r) [] ((reg % 8).toNat+1)
   have hn:(nat (c :: r)).head?=some 47:=by rw [uM]; simp [hc]
   refine ⟨_,rfl,by simp only [List.length_nil] at hlen; omega,?_,?_⟩
   ·rw [jv]
    unfold entN
    rw [if_pos hn]
    exact List.mem_map.2 ⟨(reg % 8).toNat,List.mem_range.2 hk8,rfl⟩
   ·rw [jv]
    simp only [uK,hn,if_true]
    have e1:((List.range 8).map fun k=>qi (qg 47 (nat (c :: r)) [] (k+1))).length=8:=by simp
    rw [e1,if_neg (by omega),List.getD_eq_getElem?_getD,List.getElem?_map,Int.toNat_natCast,List.getElem?_range hk8]
    rfl
  ·have hc':(((c.toNat:Nat):Int)==47)=false:=by simp; omega
   simp only [hc',Bool.false_eq_true,if_false]
   have hn:¬ (nat (c :: r)).head?=some 47:=by rw [uM]; simp [hc]
   refine ⟨_,rfl,by omega,?_,?_⟩
   ·unfold entN; rw [if_neg hn]; simp
   ·simp [uK,hn]
theorem oN (k:Nat):bm (k:Int)=some (sec k):=by
 by_cases hk:k<21
 ·have:∀ k:Fin 21,bm (k.val:Int)=some (sec k.val):=by decide
  exact this ⟨k,hk⟩
 ·unfold bm sec
  have h1:(k:Int)≥1:=by omega
  have h2:¬ (k:Int)≤5:=by omega
  have h3:((k:Int)==19)=false:=by simp; omega
  have h4:((k:Int)==20)=false:=by simp; omega
  have n1:¬ k≤5:=by omega
  have n2:(k==19)=false:=by simp; omega
  have n3:(k==20)=false:=by simp; omega
  simp only [h1,h2,h3,h4,n1,n2,n3,decide_true,decide_false,if_true,Bool.false_eq_true,if_false,Bool.and_false,Bool.or_false]
theorem z5 (op:Nat) (h:op<256) (reg:Int):cT (op:Int) reg=some (rw' (look op (reg % 8).toNat)):=by
 obtain ⟨e,h1,h2,h3,h4⟩:=wE op h reg
 have hok:=Wk op h _ h3
 unfold cT
 rw [h1,Option.bind_some,h4]
 have b1:(e==[45])=decide (nat e=[45]):=by
  rw [Bool.eq_iff_iff]; simp only [beq_iff_eq,decide_eq_true_eq]; exact (th (b:=[45])).symm
 have b2:(e==[])=decide (nat e=[]):=by
  rw [Bool.eq_iff_iff]; simp only [beq_iff_eq,decide_eq_true_eq]; exact (th (b:=[])).symm
 simp only [b1,b2]
 by_cases c1:nat e=[45]
 ·simp [c1,rw',qi]
 by_cases c2:nat e=[]
 ·simp [c2,rw',qi]
 simp only [c1,c2,decide_false,Bool.false_eq_true,if_false]
 have hne:(qi (nat e)).1≠0:=by
  rcases hok with h | h | h
  ·exact absurd h c1
  ·exact absurd h c2
  ·exact h
 have p0:aN e 58 0=some (fG 58 e [] 0):=lc e 58 0 h2 (by omega)
 have p1:aN e 58 1=some (fG 58 e [] 1):=lc e 58 1 h2 (by omega)
 have p2:aN e 58 2=some (fG 58 e [] 2):=lc e 58 2 h2 (by omega)
 have f0:cJ (fG 58 e [] 0)=some ((j2 (fG 58 e [] 0) NAMES [] 1:Nat):Int):=by
  unfold cJ
  show ((aQ NAMES _).bind _)=_
  rw [n8 NAMES _ (by decide)]; rfl
 have f1:=n8 nr (fG 58 e [] 1) (by decide)
 have f2:=n8 nr (fG 58 e [] 2) (by decide)
 rw [p0,Option.bind_some,f0,Option.bind_some,p1,Option.bind_some]
 show ((aQ nr (fG 58 e [] 1)).bind _)=_
 rw [f1,Option.bind_some,p2,Option.bind_some]
 show ((aQ nr (fG 58 e [] 2)).bind _)=_
 rw [f2,Option.bind_some,oN,Option.bind_some,oN]
 have q0:qi (nat e)=(j2 (fG 58 e [] 0) NAMES [] 1,j2 (fG 58 e [] 1) nr [] 1,j2 (fG 58 e [] 2) nr [] 1):=by
  unfold qi
  rw [if_neg (by rintro (h | h); exact c1 h; exact c2 h),ns,ns,ns,jv,jv,jv]
  rfl
 rw [q0] at hne ⊢
 unfold rw'
 rw [if_neg hne]
 simp only
 cases sec (j2 (fG 58 e [] 1) nr [] 1) <;> simp
theorem Wl:∀ op:Fin 256,∀ k:Fin 8,gG (op.val:Int) (k.val:Int)=some (rw' (look op.val k.val)):=by decide +kernel
theorem Wm (op reg:Int):gG op reg=gG op (reg % 8):=by
 have a1:ak .and .i64 reg 7=reg % 8:=nn reg 3 (by omega)
 have a2:ak .and .i64 (reg % 8) 7=reg % 8 % 8:=nn _ 3 (by omega)
 unfold gG
 rw [a1,a2,Int.emod_emod]
theorem xz (op:Nat) (h:op<256) (reg:Int):gG (op:Int) reg=some (rw' (look op (reg % 8).toNat)):=by
 rw [Wm]
 have:=Wl ⟨op,h⟩ ⟨(reg % 8).toNat,by omega⟩
 simp only at this
 rw [show (((reg % 8).toNat:Nat):Int)=reg % 8 from by omega] at this
 exact this
theorem z6:NAMES.length≤100000:=by decide
def Wn (w:List UInt8):Int:=if w==[77,79,86,83,66] then 1 else if w==[77,79,86,83,87] then 1 else if w==[83,84,79,83,66] then 1 else if w==[83,84,79,83,87] then 1 else if w==[76,79,68,83,66] then 1 else if w==[76,79,68,83,87] then 1 else if w==[67,77,80,83,66] then 2 else if w==[67,77,80,83,87] then 2 else if w==[83,67,65,83,66] then 2 else if w==[83,67,65,83,87] then 2 else 0
def oU (n:Int):Int:=if n==46 then 1 else if n==47 then 1 else if n==50 then 1 else if n==51 then 1 else if n==52 then 1 else if n==53 then 1 else if n==48 then 2 else if n==49 then 2 else if n==54 then 2 else if n==55 then 2 else 0
theorem Wo (n:Int):fq n=some (oU n):=by
 unfold fq bH oU
 by_cases h46:(n==46)=true
 ·simp only [beq_iff_eq] at h46; subst h46; rfl
 rw [Bool.not_eq_true] at h46
 by_cases h47:(n==47)=true
 ·simp only [beq_iff_eq] at h47; subst h47; rfl
 rw [Bool.not_eq_true] at h47
 by_cases h50:(n==50)=true
 ·simp only [beq_iff_eq] at h50; subst h50; rfl
 rw [Bool.not_eq_true] at h50
 by_cases h51:(n==51)=true
 ·simp only [beq_iff_eq] at h51; subst h51; rfl
 rw [Bool.not_eq_true] at h51
 by_cases h52:(n==52)=true
 ·simp only [beq_iff_eq] at h52; subst h52; rfl
 rw [Bool.not_eq_true] at h52
 by_cases h53:(n==53)=true
 ·simp only [beq_iff_eq] at h53; subst h53; rfl
 rw [Bool.not_eq_true] at h53
 by_cases h48:(n==48)=true
 ·simp only [beq_iff_eq] at h48; subst h48; rfl
 rw [Bool.not_eq_true] at h48
 by_cases h49:(n==49)=true
 ·simp only [beq_iff_eq] at h49; subst h49; rfl
 rw [Bool.not_eq_true] at h49
 by_cases h54:(n==54)=true
 ·simp only [beq_iff_eq] at h54; subst h54; rfl
 rw [Bool.not_eq_true] at h54
 by_cases h55:(n==55)=true
 ·simp only [beq_iff_eq] at h55; subst h55; rfl
 rw [Bool.not_eq_true] at h55
 simp only [h46,h47,h50,h51,h52,h53,h48,h49,h54,h55,Bool.false_eq_true,if_false]
theorem oa (n:Int) (w:List UInt8) (hn:br n=some w):ba n=some (Wn w):=by
 unfold ba aJ Wn
 rw [hn,Option.bind_some]
 by_cases h0:(w==[77,79,86,83,66])=true
 ·simp only [beq_iff_eq] at h0; subst h0; rfl
 rw [Bool.not_eq_true] at h0
 by_cases h1:(w==[77,79,86,83,87])=true
 ·simp only [beq_iff_eq] at h1; subst h1; rfl
 rw [Bool.not_eq_true] at h1
 by_cases h2:(w==[83,84,79,83,66])=true
 ·simp only [beq_iff_eq] at h2; subst h2; rfl
 rw [Bool.not_eq_true] at h2
 by_cases h3:(w==[83,84,79,83,87])=true
 ·simp only [beq_iff_eq] at h3; subst h3; rfl
 rw [Bool.not_eq_true] at h3
 by_cases h4:(w==[76,79,68,83,66])=true
 ·simp only [beq_iff_eq] at h4; subst h4; rfl
 rw [Bool.not_eq_true] at h4
 by_cases h5:(w==[76,79,68,83,87])=true
 ·simp only [beq_iff_eq] at h5; subst h5; rfl
 rw [Bool.not_eq_true] at h5
 by_cases h6:(w==[67,77,80,83,66])=true
 ·simp only [beq_iff_eq] at h6; subst h6; rfl
 rw [Bool.not_eq_true] at h6
 by_cases h7:(w==[67,77,80,83,87])=true
 ·simp only [beq_iff_eq] at h7; subst h7; rfl
 rw [Bool.not_eq_true] at h7
 by_cases h8:(w==[83,67,65,83,66])=true
 ·simp only [beq_iff_eq] at h8; subst h8; rfl
 rw [Bool.not_eq_true] at h8
 by_cases h9:(w==[83,67,65,83,87])=true
 ·simp only [beq_iff_eq] at h9; subst h9; rfl
 rw [Bool.not_eq_true] at h9
 simp only [h0,h1,h2,h3,h4,h5,h6,h7,h8,h9,Bool.false_eq_true,if_false]
theorem BW:(List.range 95).map (fun i=>Wn (wordU NAMES i))=(List.range 95).map (fun i=>oU ((i+1:Nat):Int)):=by decide +kernel
theorem z7 (n:Int):ba n=some (oU n):=by
 by_cases h1:n<1
 ·rw [oa n [63] (by unfold br; simp [h1])]
  have:oU n=0:=by
   unfold oU
   have n46:(n==46)=false:=by simp; omega
   have n47:(n==47)=false:=by simp; omega
   have n50:(n==50)=false:=by simp; omega
   have n51:(n==51)=false:=by simp; omega
   have n52:(n==52)=false:=by simp; omega
   have n53:(n==53)=false:=by simp; omega
   have n48:(n==48)=false:=by simp; omega
   have n49:(n==49)=false:=by simp; omega
   have n54:(n==54)=false:=by simp; omega
   have n55:(n==55)=false:=by simp; omega
   simp only [n46,n47,n50,n51,n52,n53,n48,n49,n54,n55,Bool.false_eq_true,if_false]
  rw [this]; rfl
 ·by_cases h2:n>95
  ·rw [oa n [63] (by unfold br; simp [h1,h2])]
   have:oU n=0:=by
    unfold oU
    have n46:(n==46)=false:=by simp; omega
    have n47:(n==47)=false:=by simp; omega
    have n50:(n==50)=false:=by simp; omega
    have n51:(n==51)=false:=by simp; omega
    have n52:(n==52)=false:=by simp; omega
    have n53:(n==53)=false:=by simp; omega
    have n48:(n==48)=false:=by simp; omega
    have n49:(n==49)=false:=by simp; omega
    have n54:(n==54)=false:=by simp; omega
    have n55:(n==55)=false:=by simp; omega
    simp only [n46,n47,n50,n51,n52,n53,n48,n49,n54,n55,Bool.false_eq_true,if_false]
   rw [this]; rfl
  ·obtain ⟨k,rfl⟩:∃ k:Nat,n=((k+1:Nat):Int):=⟨(n - 1).toNat,by omega⟩
   have hk:k<95:=by omega
   have hN:br ((k+1:Nat):Int)=some (wordU NAMES k):=by
    unfold br
    simp only [h1,h2,decide_false,Bool.false_eq_true,if_false]
    show ((bq NAMES (IntKind.wrap .i64 (((k+1:Nat):Int) - 1))).bind _)=_
    rw [bg (by omega) (by omega),show ((k+1:Nat):Int) - 1=(k:Int) from by omega,sq NAMES k z6 (by omega)]
    rfl
   rw [oa _ _ hN]
   have:=congrArg (fun l=>l[k]?) BW
   simp only [List.getElem?_map,List.getElem?_range hk,Option.map_some] at this
   exact this
def isP (b:Nat):Bool:=b==38 || b==46 || b==54 || b==62 || b==240 || b==242 || b==243
theorem qj:∀ b:Fin 256,dF (b.val:Int)=some (isP b.val):=by decide +kernel
def grp (op:Nat):Bool:=(match LIT[op]? with | some l=>l.length==8 | none=>false) && op != 140 && op != 142
theorem qk:∀ op:Fin 256,dB (op.val:Int)=some (grp op.val):=by decide +kernel
theorem z8 (c b:Bool):(if c=true then some false else some b)=some (!c && b):=by cases c <;> rfl
theorem uN (c b:Bool):(if c=true then some b else some false)=some (c && b):=by cases c <;> rfl
theorem ym (c b:Bool):(if c=true then b else false)=(c && b):=by cases c <;> rfl
theorem BX (c b:Bool):(if c=true then false else b)=(!c && b):=by cases c <;> rfl
theorem wF (c a b:Bool):(if c=true then some a else some b)=some (if c=true then a else b):=by cases c <;> rfl
def ck (k:Int):Int:=if k==6 then 1 else if k==8 then 1 else if k==9 then 1 else if k==7 then 2 else if k==10 then 2 else if k==12 then 2 else if k==13 then 2 else if k==11 then 4 else 0
theorem mt (k:Int):bR k=some (ck k):=by
 unfold bR bA ck
 cases h1:(k==6)
 ·cases h2:(k==8)
  ·cases h3:(k==9)
   ·cases h4:(k==7)
    ·cases h5:(k==10)
     ·cases h6:(k==12)
      ·cases h7:(k==13)
       ·cases h8:(k==11) <;> rfl
       ·rfl
      ·rfl
     ·rfl
    ·rfl
   ·rfl
  ·rfl
 ·rfl
theorem ql (k:Int):cq k=some (ck k):=mt k
theorem ld (k:Int):ck k=0∨ck k=1∨ck k=2∨ck k=4:=by
 unfold ck
 repeat' split
 all_goals simp
def gY (w:Int):Bool:=decide (w<128) || decide (w≥65408)
theorem xA (w:Int):bL w=some (gY w):=by
 unfold bL gY
 cases h:decide (w<128) <;> simp
theorem z9 (n:Int):IntKind.wrap .i8 n=(n+128) % 256 - 128:=by
 simp only [IntKind.wrap,IntKind.bits,IntKind.signed]
 simp [Int.bmod_def]
 split <;> omega
theorem su (n:Int):IntKind.wrap .i16 n=(n+32768) % 65536 - 32768:=by
 simp only [IntKind.wrap,IntKind.bits,IntKind.signed]
 simp [Int.bmod_def]
 split <;> omega
theorem nt (n:Int):IntKind.wrap .u8 n=n % 256:=by simp [IntKind.wrap,IntKind.bits,IntKind.signed]
def sgn (b:Int):Int:=if b<128 then b else b+65280
theorem Aa {b:Int} (h0:0≤b) (h1:b≤255):hT b=some (sgn b):=by
 unfold hT sgn
 rw [z9,su,sk]
 congr 1
 split <;> omega
theorem qm {w:Int} (h0:0≤w) (h1:w≤65535):fk w=some (gY w):=by
 unfold fk kw
 rw [Option.bind_some,nt,Aa (by omega) (by omega),Option.bind_some]
 congr 1
 rw [Bool.eq_iff_iff]
 unfold sgn gY
 simp only [beq_iff_eq,Bool.or_eq_true,decide_eq_true_eq]
 split <;> omega
def dp (m r:Int):Int:=if m==1 then 1 else if m==2 then 2 else if m==0 then (if r==6 then 2 else 0) else 0
theorem lf (m r:Int):cm m r=some (dp m r):=by
 unfold cm dp
 cases (m==1) <;> cases (m==2) <;> cases (m==0) <;> cases (r==6) <;> rfl
theorem uO (m r:Int):bS m r=some (dp m r):=by
 unfold bS dp
 cases (m==1) <;> cases (m==2) <;> cases (m==0) <;> cases (r==6) <;> rfl
theorem qn (m r:Int):dp m r=0∨dp m r=1∨dp m r=2:=by
 unfold dp
 repeat' split
 all_goals simp
def jf (i:Inst) (r:Row) (k:Int):Option Bool :=
 if k==6 then some (decide (i.Imm<256) && (i.Sel==0 && (if (r.Name != 70)=true then (if (r.Name != 71)=true then true else i.Imm==10) else i.Imm==10)))
 else if k==8 then some (gY i.Imm && i.Sel==0) else if k==9 then some (gY i.Imm && i.Sel==0)
 else if k==7 then some (i.Sel==0) else if k==10 then some (i.Sel==0) else if k==12 then some (i.Sel==0) else if k==13 then some (i.Sel==0)
 else if k==11 then some true else none
theorem mu (i:Inst) (r:Row) (k:Int):jf i r k=none ↔ ck k=0:=by
 unfold jf ck
 cases (k==6) <;> cases (k==8) <;> cases (k==9) <;> cases (k==7) <;> cases (k==10) <;> cases (k==12) <;> cases (k==13) <;> cases (k==11) <;> simp
def nu (i:Inst) (r:Row):Bool:=match jf i r (if ck r.A==0 then r.B else r.A) with
 | some b=>b
 | none=>i.Imm==0 && i.Sel==0
theorem Ab (i:Inst) (k:Int):bv i k true=some (gY i.Imm && i.Sel==0):=by
 unfold bv
 simp only [xA,Option.bind_some,if_true,uN]
theorem CO (i:Inst) (r:Row) (k:Int):cb i r k=some (match jf i r k with | some b=>b | none=>i.Imm==0 && i.Sel==0):=by
 unfold cb jf
 rw [Ab]
 cases h6:(k==6) with
 | true =>
  simp only [if_true]
  cases decide (i.Imm<256) <;> cases (i.Sel==0) <;> cases (r.Name != 70) <;> cases (r.Name != 71) <;> rfl
 | false =>
  simp only [Bool.false_eq_true,if_false]
  cases h8:(k==8) with
  | true=>rfl
  | false =>
   simp only [Bool.false_eq_true,if_false]
   cases h9:(k==9) with
   | true=>rw [Ab]; rfl
   | false =>
    unfold bv
    cases (k==7) <;> cases (k==10) <;> cases (k==12) <;> cases (k==13) <;> cases (k==11) <;> cases (i.Imm==0) <;> rfl
theorem CP (i:Inst) (r:Row):aP i r=some (nu i r):=by
 unfold aP nu
 rw [mt,Option.bind_some,CO,CO]
 cases (ck r.A==0) <;> rfl
theorem agN (i:Inst) (r:Row) (t:A2 Int) (n z:Int) (h0:0≤i.Imm) (h1:i.Imm≤65535) (hn:n<2) (hz:idx t.l n=some z) :
  bV i r t n=(match jf i r z with | some b=>some (.out (.inl b)) | none=>some (.next (IntKind.wrap .i64 (n+1)))):=by
 unfold bV dL jf
 simp only [hn,decide_true,if_true,hz,Option.bind_some,qm h0 h1]
 cases (z==6) with
 | true =>
  simp only [if_true]
  cases decide (i.Imm<256) <;> cases (i.Sel==0) <;> cases (r.Name != 70) <;> cases (r.Name != 71) <;> rfl
 | false =>
  cases (z==8) <;> cases (z==9) <;> cases (z==7) <;> cases (z==10) <;> cases (z==12) <;> cases (z==13) <;> cases (z==11) <;> cases gY i.Imm <;> rfl
theorem uP (i:Inst) (r:Row) (h0:0≤i.Imm) (h1:i.Imm≤65535):dC i r=some (nu i r):=by
 unfold dC
 have e0:=agN i r ⟨r.A,r.B⟩ 0 r.A h0 h1 (by omega) rfl
 have e1:=agN i r ⟨r.A,r.B⟩ 1 r.B h0 h1 (by omega) rfl
 have e2:bV i r ⟨r.A,r.B⟩ 2=some (.out (.inr ())):=by unfold bV; rfl
 unfold nu
 rw [bD,e0]
 cases hA:jf i r r.A with
 | some b =>
  have:¬ ck r.A=0:=fun h=>by rw [(mu i r r.A).2 h] at hA; cases hA
  have hb:(ck r.A==0)=false:=by simpa using this
  simp only [hb,Bool.false_eq_true,if_false,hA,Option.bind_some]
 | none =>
  have hb:(ck r.A==0)=true:=by simpa using (mu i r r.A).1 hA
  simp only [hb,if_true,Option.bind_some]
  rw [show IntKind.wrap .i64 (0+1)=1 from rfl,bD,e1]
  cases hB:jf i r r.B with
  | some b=>simp only [Option.bind_some]
  | none =>
   simp only [Option.bind_some]
   rw [show IntKind.wrap .i64 (1+1)=2 from rfl,bD,e2]
   simp only [Option.bind_some,uN]
def aG (op reg:Int):Row × Bool:=if isP op.toNat then (⟨0,0,0,false⟩,false) else rw' (look op.toNat (reg % 8).toNat)
theorem yn:∀ b:Fin 256,cP (b.val:Int)=some (isP b.val):=by decide +kernel
theorem xB (i:Inst) (h:0≤i.Op∧i.Op≤255):fI i=some (aG i.Op i.Reg):=by
 obtain ⟨n,hn⟩:∃ n:Nat,i.Op=n:=⟨i.Op.toNat,by omega⟩
 have hn':n<256:=by omega
 have hp:=qj ⟨n,hn'⟩
 unfold fI aG
 rw [hn,hp,Option.bind_some,xz n hn']
 simp only [Int.toNat_natCast]
 cases isP n <;> rfl
theorem qo (i:Inst) (h:0≤i.Op∧i.Op≤255):bn i=some (aG i.Op i.Reg):=by
 obtain ⟨n,hn⟩:∃ n:Nat,i.Op=n:=⟨i.Op.toNat,by omega⟩
 have hn':n<256:=by omega
 have hp:=yn ⟨n,hn'⟩
 unfold bn aG
 rw [hn,hp,Option.bind_some,z5 n hn']
 simp only [Int.toNat_natCast]
 cases isP n <;> rfl
def qp (i:Inst) (r:Row):Bool :=
 if r.Mod=true then
  !decide (i.Mod<0) && (!decide (i.Mod>3) && (!decide (i.Reg<0) && (!decide (i.Reg>7) && (!decide (i.RM<0) && (!decide (i.RM>7) &&
   ((if (i.Mod==3)=true then !(r.A==19) && (!(r.A==20) && (!(r.B==19) && !(r.B==20))) else true) &&
    (if (dp i.Mod i.RM==0)=true then i.Disp==0 else if (dp i.Mod i.RM==1)=true then gY i.Disp else true)))))))
 else i.Mod==0 && (i.Reg==0 && (i.RM==0 && i.Disp==0))
theorem Ad (i:Inst) (h0:0≤i.Disp) (h1:i.Disp≤65535):cW i=some (if (dp i.Mod i.RM==0)=true then i.Disp==0 else if (dp i.Mod i.RM==1)=true then gY i.Disp else true):=by
 unfold cW
 simp only [lf,Option.bind_some,qm h0 h1,wF]
theorem wG (i:Inst) (r:Row) (h0:0≤i.Disp) (h1:i.Disp≤65535) (hA:r.A≠20):ec i r=some (qp i r):=by
 unfold ec qp
 have hA':(r.A==20)=false:=by simpa using hA
 simp only [Ad i h0 h1,uN,z8,wF,ym,BX,hA',Bool.not_false,Bool.true_and]
 cases r.Mod with
 | false=>rfl
 | true =>
  simp only [Bool.not_true,Bool.false_eq_true,if_false,if_true]
  cases (i.Mod==3) <;> cases (r.A==19) <;> cases (r.B==19) <;> cases (r.B==20) <;> simp
theorem agO (i:Inst) (r:Row):ce i r=some ((if (dp i.Mod i.RM==0)=true then i.Disp==0 else if (dp i.Mod i.RM==1)=true then gY i.Disp else true) && nu i r):=by
 unfold ce
 simp only [uO,Option.bind_some,xA,CP,z8,Bool.not_not]
 rcases qn i.Mod i.RM with h | h | h <;> rw [h]
 ·cases hd:(i.Disp==0) <;> simp [bne,hd]
 ·simp
 ·simp
theorem agP (i:Inst) (r:Row):bc i r=some (qp i r && nu i r):=by
 unfold bc qp
 simp only [CP,agO,z8,uN,bne]
 cases r.Mod with
 | false =>
  simp only [Bool.not_false,if_true,Bool.not_not,Bool.false_eq_true,if_false,Bool.and_assoc]
 | true =>
  simp only [Bool.not_true,Bool.false_eq_true,if_false,if_true,wF,ym,BX]
  cases (i.Mod==3) <;> simp [Bool.and_assoc]
def Ae (i:Inst) (r:Row):Bool:=(decide (i.Seg≥0) && decide (i.Seg≤4)) && (i.Rep==0 || (i.Rep==1 && !decide (oU r.Name<2)) || (i.Rep==2 && !decide (oU r.Name<1)))
theorem ti (i:Inst) (r:Row):dm i r=some (Ae i r):=by
 unfold dm Ae
 simp only [Wo,Option.bind_some,uN,z8,wF,ym,BX]
 congr 1
 by_cases h0:i.Rep=0
 ·simp [h0]
 ·by_cases h1:i.Rep=1
  ·simp [h1,Bool.and_comm]
  ·by_cases h2:i.Rep=2
   ·simp [h2,Bool.and_comm]
   ·have b0:(i.Rep==0)=false:=by simpa using h0
    have b1:(i.Rep==1)=false:=by simpa using h1
    have b2:(i.Rep==2)=false:=by simpa using h2
    simp [b0,b1,b2]
def gZ (i:Inst):Bool:=(aG i.Op i.Reg).2 && (qp i (aG i.Op i.Reg).1 && (nu i (aG i.Op i.Reg).1 && Ae i (aG i.Op i.Reg).1))
def okI (i:Inst):Prop:=(0≤i.Op∧i.Op≤255)∧(0≤i.Disp∧i.Disp≤65535)∧(0≤i.Imm∧i.Imm≤65535)∧(0≤i.Sel∧i.Sel≤65535)
def BY (x:Nat × Nat × Nat):Bool:=x.2.1 != 20 && (let a:=ck x.2.1; let b:=ck x.2.2; (a+b==0 || a+b==1 || a+b==2 || (a+b==4 && !(sec x.2.1 || sec x.2.2))) && (!decide (oU x.1≥1) || (a+b==0 && !(sec x.2.1 || sec x.2.2))))
theorem Wp:LIT.all (fun l=>l.all BY)=true:=by decide +kernel
theorem BZ (op k:Nat):BY (look op k)=true:=by
 have h:=Wp
 rw [List.all_eq_true] at h
 unfold look
 cases hl:LIT[op]? with
 | none=>rfl
 | some l =>
  have h1:=h l (List.mem_of_getElem? hl)
  rw [List.all_eq_true] at h1
  have g:∀ j,BY (l.getD j (0,0,0))=true:=fun j=>by
   rw [List.getD_eq_getElem?_getD]
   cases hj:l[j]? with
   | none=>rfl
   | some x=>exact h1 x (List.mem_of_getElem? hj)
  simp only
  split
  ·exact g 0
  ·exact g k
theorem yo (op reg:Int) (h:(aG op reg).2=true):(aG op reg).1.A≠20∧(ck (aG op reg).1.A+ck (aG op reg).1.B=0∨ck (aG op reg).1.A+ck (aG op reg).1.B=1∨ck (aG op reg).1.A+ck (aG op reg).1.B=2 ∨
  ck (aG op reg).1.A+ck (aG op reg).1.B=4∧(aG op reg).1.Mod=false)∧(oU (aG op reg).1.Name≥1→ck (aG op reg).1.A+ck (aG op reg).1.B=0∧(aG op reg).1.Mod=false):=by
 have hl:=BZ op.toNat (reg % 8).toNat
 unfold aG at h ⊢
 cases hp:isP op.toNat with
 | true=>rw [hp] at h; simp at h
 | false =>
  rw [hp] at h
  simp only [Bool.false_eq_true,if_false] at h ⊢
  generalize look op.toNat (reg % 8).toNat=x at *
  unfold rw' at h ⊢
  split at h
  ·cases h
  ·rename_i hx
   rw [if_neg hx]
   simp only
   simp only [BY,Bool.and_eq_true,Bool.or_eq_true,bne_iff_ne,beq_iff_eq,Bool.not_eq_true',decide_eq_false_iff_not] at hl
   obtain ⟨l1,l2,l3⟩:=hl
   refine ⟨by omega,?_,fun hr=>?_⟩
   ·rcases l2 with ((h | h) | h) | h
    ·exact .inl h
    ·exact .inr (.inl h)
    ·exact .inr (.inr (.inl h))
    ·exact .inr (.inr (.inr h))
   ·rcases l3 with h | h
    ·exact absurd hr h
    ·exact h
theorem xC (i:Inst) (h:okI i):fJ i=some (gZ i):=by
 unfold fJ gZ
 rw [xB i h.1,Option.bind_some]
 cases hr:(aG i.Op i.Reg).2 with
 | false=>rfl
 | true =>
  have hf:=yo i.Op i.Reg hr
  simp only [if_true]
  rw [wG i _ h.2.1.1 h.2.1.2 hf.1,Option.bind_some,uP i _ h.2.2.1.1 h.2.2.1.2,Option.bind_some,ti,Option.bind_some]
  simp only [uN,Bool.true_and]
theorem wH (i:Inst) (h:okI i):cg i=some (gZ i):=by
 unfold cg gZ
 rw [qo i h.1,Option.bind_some]
 simp only [z7,Option.bind_some,agP,z8,wF,ym,BX]
 cases (aG i.Op i.Reg).2 with
 | false=>rfl
 | true =>
  simp only [Bool.not_true,Bool.not_false,Bool.true_and]
  unfold Ae
  by_cases hs:0≤i.Seg∧i.Seg≤4
  ·have s1:¬ i.Seg<0:=by omega
   have s2:¬ i.Seg>4:=by omega
   have s3:i.Seg≥0:=by omega
   simp only [s1,s2,s3,hs.2,decide_true,decide_false,Bool.not_false,Bool.true_and]
   by_cases h0:i.Rep=0
   ·simp [h0]
   ·by_cases h1:i.Rep=1
    ·simp [h1,Bool.and_comm,Bool.and_left_comm,Bool.and_assoc]
    ·by_cases h2:i.Rep=2
     ·simp [h2,Bool.and_comm,Bool.and_left_comm,Bool.and_assoc]
     ·have:i.Rep<0∨i.Rep>2:=by omega
      rcases this with h | h
      ·simp [h0,h1,h2,h]
      ·simp [h0,h1,h2,h]
  ·have:i.Seg<0∨i.Seg>4:=by omega
   rcases this with h | h
   ·have:¬ i.Seg≥0:=by omega
    simp [h,this]
   ·have:¬ i.Seg≤4:=by omega
    simp [h,this]
theorem Wq:okI ⟨false,0,0,144,0,0,0,0,0,0⟩∧gZ ⟨false,0,0,144,0,0,0,0,0,0⟩=true:=by
 refine ⟨⟨by simp,by simp,by simp,by simp⟩,?_⟩
 decide +kernel
def pb (b:Bool):Int:=if b then 1 else 0
def fV (i:Inst):Int:=1+(ck (aG i.Op i.Reg).1.A+ck (aG i.Op i.Reg).1.B)+pb i.Lock+pb (decide (i.Rep>0))+pb (decide (i.Seg>0))+(if (aG i.Op i.Reg).1.Mod=true then 1+dp i.Mod i.RM else 0)
theorem yp (r:Row):gl r=some (ck r.A+ck r.B):=by
 unfold gl
 have:=ld r.A; have:=ld r.B
 rw [ql,Option.bind_some,ql,Option.bind_some,bg (by omega) (by omega)]
theorem CQ (i:Inst) (r:Row) (n:Int) (h0:0≤n) (h1:n≤100):eI i r n=some (n+pb (decide (i.Seg>0))+(if r.Mod=true then 1+dp i.Mod i.RM else 0)):=by
 unfold eI
 have hd:=qn i.Mod i.RM
 rw [lf,Option.bind_some,Option.bind_some,bg (n:=n+1) (by omega) (by omega),bg (n:=1+dp i.Mod i.RM) (by omega) (by omega),bg (n:=n+1+(1+dp i.Mod i.RM)) (by omega) (by omega),bg (n:=n+(1+dp i.Mod i.RM)) (by omega) (by omega)]
 cases decide (i.Seg>0) <;> cases r.Mod <;> simp [pb]
theorem CR (i:Inst) (r:Row) (n:Int) (h0:0≤n) (h1:n≤90):db i r n=some (n+pb (decide (i.Rep>0))+pb (decide (i.Seg>0))+(if r.Mod=true then 1+dp i.Mod i.RM else 0)):=by
 unfold db
 rw [bg (n:=n+1) (by omega) (by omega),CQ i r (n+1) (by omega) (by omega),CQ i r n (by omega) (by omega)]
 cases decide (i.Rep>0) <;> simp [pb]
theorem B0 (i:Inst) (h:okI i):ed i=some (if gZ i=true then fV i else 0):=by
 unfold ed
 rw [xC i h,Option.bind_some]
 cases hm:gZ i with
 | false=>rfl
 | true =>
  have b1:=ld (aG i.Op i.Reg).1.A; have b2:=ld (aG i.Op i.Reg).1.B
  simp only [Bool.not_true,Bool.false_eq_true,if_false,if_true]
  rw [xB i h.1,Option.bind_some,yp,Option.bind_some]
  rw [bg (n:=1+(ck (aG i.Op i.Reg).1.A+ck (aG i.Op i.Reg).1.B)) (by omega) (by omega),bg (n:=1+(ck (aG i.Op i.Reg).1.A+ck (aG i.Op i.Reg).1.B)+1) (by omega) (by omega),
   CR _ _ (1+(ck (aG i.Op i.Reg).1.A+ck (aG i.Op i.Reg).1.B)+1) (by omega) (by omega),CR _ _ (1+(ck (aG i.Op i.Reg).1.A+ck (aG i.Op i.Reg).1.B)) (by omega) (by omega)]
  unfold fV
  cases i.Lock <;> simp [pb]
def B1 (w:Int):List Int:=[w % 256,w / 256]
def ai3 (i:Inst) (m:Int):List Int:=if m=1∨m=2 then (B1 i.Imm).take m.toNat else if m=4 then B1 i.Imm++B1 i.Sel else []
def ai4 (i:Inst) (r:Row):List Int:=if r.Mod=true then (64*i.Mod+8*i.Reg+i.RM) :: (B1 i.Disp).take (dp i.Mod i.RM).toNat else []
def Wr (i:Inst):List Int:=(if i.Lock then [240] else [])++((if i.Rep>0 then [241+i.Rep] else [])++(if i.Seg>0 then [30+8*i.Seg] else []))
def ajs (i:Inst):List Int:=Wr i++([i.Op]++(ai4 i (aG i.Op i.Reg).1++ai3 i (ck (aG i.Op i.Reg).1.A+ck (aG i.Op i.Reg).1.B)))
def mw (r:Option Inst):Prop:=∃ y,r=some y∧okI y∧gZ y=true
theorem B2 (x i:Inst) (h:okI i):mw (aK x i):=by
 unfold aK
 have h':okI ⟨i.Lock,i.Rep,ak .and .i64 x.Seg 7,i.Op,i.Mod,i.Reg,i.RM,i.Disp,i.Imm,i.Sel⟩:=h
 rw [wH i h,wH _ h']
 split
 ·rw [Option.bind_some]
  split
  ·exact ⟨_,rfl,Wq⟩
  ·rename_i hm; exact ⟨_,rfl,h',by simpa using hm⟩
 ·rw [Option.bind_some]
  split
  ·exact ⟨_,rfl,Wq⟩
  ·rename_i hm; exact ⟨_,rfl,h,by simpa using hm⟩
theorem mz (x i:Inst) (r:Row) (h:okI i):mw (aI x i r):=by
 unfold aI
 rw [z7,Option.bind_some]
 repeat' split
 all_goals exact B2 _ _ h
theorem Ws (x i:Inst) (r:Row) (k:Int) (t:Bool) (h:okI i) (hx:okI x):mw (aW x i r k t):=by
 unfold aW
 repeat' split
 ·exact mz _ _ _ ⟨h.1,h.2.1,hx.2.2.1,h.2.2.2⟩
 ·exact mz _ _ _ ⟨h.1,h.2.1,hx.2.2.1,hx.2.2.2⟩
 ·exact mz _ _ _ h
theorem xD {b:Int} (h0:0≤b) (h1:b≤255):cl b=some (sgn b):=by
 have:∀ n:Fin 256,cl (n.val:Int)=some (sgn (n.val:Int)):=by decide +kernel
 have:=this ⟨b.toNat,by omega⟩
 simp only at this
 rw [Int.toNat_of_nonneg h0] at this
 exact this
theorem Af {b:Int} (h0:0≤b) (h1:b≤255):0≤sgn b∧sgn b≤65535:=by unfold sgn; split <;> omega
theorem Ag {w:Int} (h0:0≤w):0≤IntKind.wrap .u8 (Int.tmod w 256)∧IntKind.wrap .u8 (Int.tmod w 256)≤255:=by rw [nt]; omega
theorem Wt (x i:Inst) (r:Row) (k:Int) (t:Bool) (h:okI i) (hx:okI x):mw (bM x i r k t):=by
 unfold bM
 obtain ⟨l0,l1⟩:=Ag hx.2.2.1.1
 rw [xD l0 l1,Option.bind_some]
 repeat' split
 ·exact mz _ _ _ ⟨h.1,h.2.1,Af l0 l1,h.2.2.2⟩
 all_goals exact Ws _ _ _ _ _ h hx
theorem Ah (x i:Inst) (r:Row) (k:Int) (h:okI i) (hx:okI x):mw (bN x i r k):=by
 unfold bN
 repeat' split
 ·exact mz _ _ _ ⟨h.1,h.2.1,by simp,h.2.2.2⟩
 ·exact mz _ _ _ ⟨h.1,h.2.1,by simp,h.2.2.2⟩
 ·refine mz _ _ _ ⟨h.1,h.2.1,?_,h.2.2.2⟩
  have:=hx.2.2.1
  simp only
  rw [Int.tmod_eq_emod_of_nonneg this.1]; omega
 all_goals exact Wt _ _ _ _ _ h hx
theorem tj (x i:Inst) (r:Row) (h:okI i) (hx:okI x):mw (aX x i r):=by
 unfold aX
 rw [mt,Option.bind_some]
 split
 ·exact Ah _ _ _ _ h hx
 ·exact Ah _ _ _ _ h hx
theorem yq (x:Inst) (hx:okI x):mw (cK x):=by
 unfold cK
 rw [qo _ (by exact hx.1),Option.bind_some]
 split
 ·exact ⟨_,rfl,Wq⟩
 ·split
  ·exact tj _ _ _ ⟨hx.1,by simp,by simp,by simp⟩ hx
  ·obtain ⟨l0,l1⟩:=Ag hx.2.1.1
   rw [uO,Option.bind_some,xD l0 l1,Option.bind_some]
   repeat' split
   ·exact tj _ _ _ ⟨hx.1,Af l0 l1,by simp,by simp⟩ hx
   ·exact tj _ _ _ ⟨hx.1,hx.2.1,by simp,by simp⟩ hx
   ·exact tj _ _ _ ⟨hx.1,by simp,by simp,by simp⟩ hx
theorem Wu {x:Inst} (h:Inst.wf x):okI x:=⟨C4.1 h.2.2.2.1,s8.1 h.2.2.2.2.2.2.2.1,s8.1 h.2.2.2.2.2.2.2.2.1,s8.1 h.2.2.2.2.2.2.2.2.2⟩
theorem qq {α τ β:Type} (R:List α) (T:List α→τ) (J:List α→Prop) {f:τ→Option (Lp τ β)} (o:β)
  (h1:∀ xs v ys,R=xs++v :: ys→J xs→(f (T xs)=some (.next (T (xs++[v])))∧J (xs++[v]))∨f (T xs)=some (.out o))
  (h2:J R→f (T R)=some (.out o)) (h0:J []):cr f (T [])=some o:=by
 have key:∀ ys xs,R=xs++ys→J xs→cr f (T xs)=some o:=by
  intro ys
  induction ys with
  | nil =>
   intro xs h hJ
   rw [List.append_nil] at h; subst h
   rw [bD,h2 hJ]; rfl
  | cons v ys ih =>
   intro xs h hJ
   rcases h1 xs v ys h hJ with ⟨h3,h4⟩ | h3
   ·rw [bD,h3]
    exact ih (xs++[v]) (by rw [h,List.append_assoc]; rfl) h4
   ·rw [bD,h3]; rfl
 exact key R [] rfl h0
theorem tl {α:Type} {R xs ys:List α} {v:α} (h:R=xs++v :: ys):idx R (xs.length:Int)=some v:=by
 subst h
 rw [la (by simp)]
 simp
theorem wI {α:Type} {R xs ys:List α} {v:α} (h:R=xs++v :: ys):xs.length<R.length:=by subst h; simp
theorem Ai {α:Type} (xs:List α) (v:α) (h:(xs.length:Int)≤1000):IntKind.wrap .i64 ((xs.length:Int)+1)=((xs++[v]).length:Int):=by
 rw [bg (by omega) (by omega)]; simp
def WW:List (List UInt8):=[[65,68,68],[79,82],[65,68,67],[83,66,66],[65,78,68],[83,85,66],[88,79,82],[67,77,80],[80,85,83,72],[80,79,80],[68,65,65],[68,65,83],[65,65,65],[65,65,83],[73,78,67],[68,69,67],[74,79],[74,78,79],[74,66],[74,78,66],[74,90],[74,78,90],[74,66,69],[74,65],[74,83],[74,78,83],[74,80],[74,78,80],[74,76],[74,71,69],[74,76,69],[74,71],[84,69,83,84],[88,67,72,71],[77,79,86],[76,69,65],[67,66,87],[67,87,68],[67,65,76,76],[67,65,76,76,70],[87,65,73,84],[80,85,83,72,70],[80,79,80,70],[83,65,72,70],[76,65,72,70],[77,79,86,83,66],[77,79,86,83,87],[67,77,80,83,66],[67,77,80,83,87],[83,84,79,83,66],[83,84,79,83,87],[76,79,68,83,66],[76,79,68,83,87],[83,67,65,83,66],[83,67,65,83,87],[82,69,84],[82,69,84,70],[76,69,83],[76,68,83],[73,78,84],[73,78,84,79],[73,82,69,84],[82,79,76],[82,79,82],[82,67,76],[82,67,82],[83,72,76],[83,72,82],[83,65,82],[65,65,77],[65,65,68],[88,76,65,84],[69,83,67],[76,79,79,80,78,90],[76,79,79,80,90],[76,79,79,80],[74,67,88,90],[73,78],[79,85,84],[74,77,80],[74,77,80,70],[72,76,84],[67,77,67],[78,79,84],[78,69,71],[77,85,76],[73,77,85,76],[68,73,86],[73,68,73,86],[67,76,67],[83,84,67],[67,76,73],[83,84,73],[67,76,68],[83,84,68]]
def DNM:List UInt8:=qe
def RNM:List UInt8:=lQ
theorem tn:dt DNM=some WW:=by
 unfold dt
 exact if_pos rfl
def spl:List UInt8→List UInt8→List (List UInt8)
 | [],_=>[]
 | c :: r,cur=>if c.toNat=32 then cur :: spl r [] else spl r (cur++[c])
def fiN (p:List UInt8→Bool):List (List UInt8)→Nat→Nat
 | [],_=>0
 | x :: r,n=>if p x then n else fiN p r (n+1)
theorem Aj (p:List UInt8→Bool) (x:List UInt8) (r:List (List UInt8)) (n:Nat):fiN p (x :: r) n=if p x then n else fiN p r (n+1):=rfl
theorem Wv:WW.length=95:=by kernel_rfl
theorem agQ (t:List UInt8):hD t=some ((fiN (·==t) WW 1:Nat):Int):=by
 unfold hD
 show ((dt DNM).bind _)=_
 rw [tn,Option.bind_some]
 have key:cr (fun x:Int=>bT t WW (WW.length:Int) x) 0=some (if fiN (·==t) WW 1=0 then .inr () else .inl ((fiN (·==t) WW 1:Nat):Int)):=by
  refine qq WW (fun xs=>(xs.length:Int)) (fun xs=>fiN (·==t) WW 1=fiN (·==t) (WW.drop xs.length) (xs.length+1)) _ (fun xs v ys e hJ=>?_) (fun hJ=>?_) rfl
  ·have hl:=wI e
   have hL:=Wv
   have hd:WW.drop xs.length=v :: ys:=by rw [e]; simp
   rw [hd,Aj] at hJ
   have step:bT t WW (WW.length:Int) (xs.length:Int)=if v==t then some (.out (.inl ((xs.length+1:Nat):Int))) else some (.next ((xs++[v]).length:Int)):=by
    unfold bT
    rw [if_pos (by simpa using hl),tl e,Option.bind_some,Ai xs v (by omega)]
    have:((xs++[v]).length:Int)=((xs.length+1:Nat):Int):=by simp
    rw [this]
   by_cases c:v==t
   ·right
    rw [if_pos c] at hJ
    show bT t WW (WW.length:Int) (xs.length:Int)=_
    rw [step,if_pos c,hJ,if_neg (by omega)]
   ·left
    rw [if_neg c] at hJ
    refine ⟨by show bT t WW (WW.length:Int) (xs.length:Int)=_; rw [step,if_neg c],?_⟩
    have:WW.drop (xs++[v]).length=ys:=by rw [e]; simp
    rw [this,hJ]; simp
  ·show bT t WW (WW.length:Int) (WW.length:Int)=_
   have hd:WW.drop WW.length=[]:=by simp
   rw [hd] at hJ
   unfold bT
   rw [if_neg (by simp),hJ]; rfl
 rw [key]
 by_cases c:fiN (·==t) WW 1=0
 ·rw [if_pos c,c]; rfl
 ·rw [if_neg c]; rfl
def ajg (n:Int):List UInt8:=if n<1∨n>95 then [63] else (WW[(n - 1).toNat]?).getD []
def LeO {α:Type} (a b:Option α):Prop:=∀ r,a=some r→b=some r
theorem LeO.rfl {α:Type} {a:Option α}:LeO a a:=fun _ h=>h
theorem LeO.bind {α β:Type} {a b:Option α} {f g:α→Option β} (h:LeO a b) (k:∀ x,LeO (f x) (g x)):LeO (a.bind f) (b.bind g):=by
 intro r hr
 obtain ⟨x,hx,hy⟩:=Option.bind_eq_some_iff.1 hr
 rw [h x hx,Option.bind_some]; exact k x r hy
theorem LeO.ite {α:Type} {c:Prop} [Decidable c] {a b a' b':Option α} (h1:LeO a b) (h2:LeO a' b'):LeO (if c then a else a') (if c then b else b'):=by
 by_cases h:c
 ·rw [if_pos h,if_pos h]; exact h1
 ·rw [if_neg h,if_neg h]; exact h2
theorem uQ {α β:Type} {f g:α→Option (Lp α β)} (h:∀ x,LeO (f x) (g x)):∀ (n:Nat) (x:α),LeO (loopN f n x) (loopN g n x)
 | 0,_=>fun _ hr=>by cases hr
 | n+1,x=>by
  intro r hr
  unfold loopN at hr ⊢
  obtain ⟨y,hy,hz⟩:=Option.bind_eq_some_iff.1 hr
  rw [h x y hy,Option.bind_some]
  cases y with
  | next y=>exact uQ h n y r hz
  | out b=>exact hz
theorem LeO.loop {α β:Type} {f g:α→Option (Lp α β)} {n:Nat} {x:α} (h:∀ x,LeO (f x) (g x)):LeO (loopN f n x) (cr g x) :=
 fun r hr=>eC.2 ⟨n,uQ h n x r hr⟩
noncomputable def kr (r_:Row) (ops_:(A2 Operand)):Option Bool :=
 (loopN (fun x:Int=>cI r_ ops_ ({ a0:=r_.A,a1:=r_.B }:(A2 Int)) x) 3000 0).bind fun e_1 =>
 match e_1 with
 | .inl e_2 =>
  some e_2
 | .inr e_3 =>
  some true
theorem qr (r_:Row) (ops_:(A2 Operand)):LeO (kr r_ ops_) (d7 r_ ops_):=by
 unfold kr d7
 repeat' (first | with_reducible exact LeO.rfl | with_reducible apply LeO.ite | with_reducible apply LeO.bind | with_reducible apply LeO.loop | exact LeO.rfl | intro _)
noncomputable def dJ (r6:Row) (ops7:(A2 Operand)) (b_8:Choice) (c9:Choice):Option Choice :=
 (loopN (fun x:(Choice × Int)=>bE ops7 b_8 x.1 ({ a0:=r6.A,a1:=r6.B }:(A2 Int)) x.2) 3000 (c9,0)).bind fun e_1 =>
 some e_1
theorem mA (r6:Row) (ops7:(A2 Operand)) (b_8:Choice) (c9:Choice):LeO (dJ r6 ops7 b_8 c9) (bU r6 ops7 b_8 c9):=by
 unfold dJ bU
 repeat' (first | with_reducible exact LeO.rfl | with_reducible apply LeO.ite | with_reducible apply LeO.bind | with_reducible apply LeO.loop | exact LeO.rfl | intro _)
noncomputable def ku (first_:Int) (reg_:Int) (r_:Row) (ops_:(A2 Operand)):Option Choice :=
 if r_.Mod then
  (dB first_).bind fun r_1 =>
  if r_1 then
   dJ ({ r_ with Mod:=true }:Row) ops_ ({ I:=({ Lock:=false,Rep:=0,Seg:=0,Op:=0,Mod:=0,Reg:=0,RM:=0,Disp:=0,Imm:=0,Sel:=0 }:Inst),Disp:=({ N:=0,From:=0,Which:=0,Type_:=0,Wants:=0,Known:=false }:api_Value),Imm:=({ N:=0,From:=0,Which:=0,Type_:=0,Wants:=0,Known:=false }:api_Value),HasD:=false,HasI:=false,Jumps:=false }:Choice) ({ I:=({ Lock:=false,Rep:=0,Seg:=0,Op:=first_,Mod:=0,Reg:=reg_,RM:=0,Disp:=0,Imm:=0,Sel:=0 }:Inst),Disp:=({ N:=0,From:=0,Which:=0,Type_:=0,Wants:=0,Known:=false }:api_Value),Imm:=({ N:=0,From:=0,Which:=0,Type_:=0,Wants:=0,Known:=false }:api_Value),HasD:=false,HasI:=false,Jumps:=false }:Choice)
  else
   dJ ({ r_ with Mod:=true }:Row) ops_ ({ I:=({ Lock:=false,Rep:=0,Seg:=0,Op:=0,Mod:=0,Reg:=0,RM:=0,Disp:=0,Imm:=0,Sel:=0 }:Inst),Disp:=({ N:=0,From:=0,Which:=0,Type_:=0,Wants:=0,Known:=false }:api_Value),Imm:=({ N:=0,From:=0,Which:=0,Type_:=0,Wants:=0,Known:=false }:api_Value),HasD:=false,HasI:=false,Jumps:=false }:Choice) ({ I:=({ Lock:=false,Rep:=0,Seg:=0,Op:=first_,Mod:=0,Reg:=0,RM:=0,Disp:=0,Imm:=0,Sel:=0 }:Inst),Disp:=({ N:=0,From:=0,Which:=0,Type_:=0,Wants:=0,Known:=false }:api_Value),Imm:=({ N:=0,From:=0,Which:=0,Type_:=0,Wants:=0,Known:=false }:api_Value),HasD:=false,HasI:=false,Jumps:=false }:Choice)
 else
  dJ ({ r_ with Mod:=false }:Row) ops_ ({ I:=({ Lock:=false,Rep:=0,Seg:=0,Op:=0,Mod:=0,Reg:=0,RM:=0,Disp:=0,Imm:=0,Sel:=0 }:Inst),Disp:=({ N:=0,From:=0,Which:=0,Type_:=0,Wants:=0,Known:=false }:api_Value),Imm:=({ N:=0,From:=0,Which:=0,Type_:=0,Wants:=0,Known:=false }:api_Value),HasD:=false,HasI:=false,Jumps:=false }:Choice) ({ I:=({ Lock:=false,Rep:=0,Seg:=0,Op:=first_,Mod:=0,Reg:=0,RM:=0,Disp:=0,Imm:=0,Sel:=0 }:Inst),Disp:=({ N:=0,From:=0,Which:=0,Type_:=0,Wants:=0,Known:=false }:api_Value),Imm:=({ N:=0,From:=0,Which:=0,Type_:=0,Wants:=0,Known:=false }:api_Value),HasD:=false,HasI:=false,Jumps:=false }:Choice)
theorem qs (first_:Int) (reg_:Int) (r_:Row) (ops_:(A2 Operand)):LeO (ku first_ reg_ r_ ops_) (d9 first_ reg_ r_ ops_):=by
 unfold ku d9
 repeat' (first | with_reducible exact LeO.rfl | with_reducible apply mA | with_reducible apply LeO.ite | with_reducible apply LeO.bind | with_reducible apply LeO.loop | exact LeO.rfl | intro _)
noncomputable def jw (i_:Inst) (r_:Row):Option Bool :=
 (loopN (fun x:Int=>bV i_ r_ ({ a0:=r_.A,a1:=r_.B }:(A2 Int)) x) 3000 0).bind fun e_1 =>
 match e_1 with
 | .inl e_2 =>
  some e_2
 | .inr e_3 =>
  if (i_.Imm==0) then
   some (i_.Sel==0)
  else
   some false
theorem oV (i_:Inst) (r_:Row):LeO (jw i_ r_) (dC i_ r_):=by
 unfold jw dC
 repeat' (first | with_reducible exact LeO.rfl | with_reducible apply LeO.ite | with_reducible apply LeO.bind | with_reducible apply LeO.loop | exact LeO.rfl | intro _)
noncomputable def lg (i_:Inst):Option Bool :=
 (fI i_).bind fun r_1 =>
 if r_1.2 then
  (ec i_ r_1.1).bind fun r_2 =>
  if r_2 then
   (jw i_ r_1.1).bind fun r_3 =>
   if r_3 then
    (dm i_ r_1.1).bind fun r_4 =>
    some r_4
   else
    some false
  else
   some false
 else
  some false
theorem nv (i_:Inst):LeO (lg i_) (fJ i_):=by
 unfold lg fJ
 repeat' (first | with_reducible exact LeO.rfl | with_reducible apply oV | with_reducible apply LeO.ite | with_reducible apply LeO.bind | with_reducible apply LeO.loop | exact LeO.rfl | intro _)
noncomputable def oc (i_:Inst):Option Int :=
 (lg i_).bind fun r_1 =>
 if (!r_1) then
  some 0
 else
  (fI i_).bind fun r_2 =>
  (gl r_2.1).bind fun r_3 =>
  if i_.Lock then
   db ({ i_ with Lock:=true }:Inst) r_2.1 (IntKind.wrap .i64 ((IntKind.wrap .i64 (1+r_3))+1))
  else
   db ({ i_ with Lock:=false }:Inst) r_2.1 (IntKind.wrap .i64 (1+r_3))
theorem tp (i_:Inst):LeO (oc i_) (ed i_):=by
 unfold oc ed
 repeat' (first | with_reducible exact LeO.rfl | with_reducible apply nv | with_reducible apply LeO.ite | with_reducible apply LeO.bind | with_reducible apply LeO.loop | exact LeO.rfl | intro _)
noncomputable def gi (out3:(List Choice)) (l0:(List Choice)) (n4:Int) (t11:(List Choice)) (t12:Int) (t13:Int):Option (Lp ((List Choice) × Int) (List Choice)) :=
 if (decide (t13<t12)) then
  (idx t11 t13).bind fun z_1 =>
  (oc z_1.I).bind fun r_1 =>
  if (r_1==n4) then
   (p9 168 out3 ([z_1]:List Choice)).bind fun z_2 =>
   some (.next (z_2,(IntKind.wrap .i64 (t13+1))))
  else
   some (.next (out3,(IntKind.wrap .i64 (t13+1))))
 else
  some (.out out3)
theorem lm (out3:(List Choice)) (l0:(List Choice)) (n4:Int) (t11:(List Choice)) (t12:Int) (t13:Int):LeO (gi out3 l0 n4 t11 t12 t13) (bo out3 l0 n4 t11 t12 t13):=by
 unfold gi bo
 repeat' (first | with_reducible exact LeO.rfl | with_reducible apply tp | with_reducible apply LeO.ite | with_reducible apply LeO.bind | with_reducible apply LeO.loop | exact LeO.rfl | intro _)
noncomputable def gF (out3:(List Choice)) (l0:(List Choice)) (n4:Int):Option (Lp ((List Choice) × Int) (List Choice)) :=
 if (decide (n4≤12)) then
  (loopN (fun x:((List Choice) × Int)=>gi x.1 l0 n4 l0 (l0.length:Int) x.2) 3000 (out3,0)).bind fun e_1 =>
  some (.next (e_1,(IntKind.wrap .i64 (n4+1))))
 else
  some (.out out3)
theorem mB (out3:(List Choice)) (l0:(List Choice)) (n4:Int):LeO (gF out3 l0 n4) (bW out3 l0 n4):=by
 unfold gF bW
 repeat' (first | with_reducible exact LeO.rfl | with_reducible apply lm | with_reducible apply LeO.ite | with_reducible apply LeO.bind | with_reducible apply LeO.loop | exact LeO.rfl | intro _)
noncomputable def jx (l_:(List Choice)):Option (List Choice) :=
 (loopN (fun x:((List Choice) × Int)=>gF x.1 l_ x.2) 3000 (([]:List Choice),1)).bind fun e_1 =>
 some e_1
theorem oW (l_:(List Choice)):LeO (jx l_) (dD l_):=by
 unfold jx dD
 repeat' (first | with_reducible exact LeO.rfl | with_reducible apply mB | with_reducible apply LeO.ite | with_reducible apply LeO.bind | with_reducible apply LeO.loop | exact LeO.rfl | intro _)
noncomputable def gp (ops3:(A2 Operand)) (out5:(List Choice)) (name0:Int) (first7:Int) (reg8:Int) (t12:Int):Option (Lp ((List Choice) × Int) (List Choice)) :=
 (gG first7 reg8).bind fun r_3 =>
 if (!r_3.2) then
  some (.next (out5,(IntKind.wrap .i64 (t12+1))))
 else
  if (r_3.1.Name != name0) then
   some (.next (out5,(IntKind.wrap .i64 (t12+1))))
  else
   (eH r_3.1.A ops3.a0 first7).bind fun r_4 =>
   if (!r_4) then
    some (.next (out5,(IntKind.wrap .i64 (t12+1))))
   else
    (eH r_3.1.B ops3.a1 first7).bind fun r_5 =>
    if (!r_5) then
     some (.next (out5,(IntKind.wrap .i64 (t12+1))))
    else
     (kr r_3.1 ops3).bind fun r_6 =>
     if (!r_6) then
      some (.next (out5,(IntKind.wrap .i64 (t12+1))))
     else
      (ku first7 reg8 r_3.1 ops3).bind fun r_7 =>
      (lg r_7.I).bind fun r_8 =>
      if r_8 then
       (p9 168 out5 ([r_7]:List Choice)).bind fun z_1 =>
       some (.next (z_1,(IntKind.wrap .i64 (t12+1))))
      else
       some (.next (out5,(IntKind.wrap .i64 (t12+1))))
theorem od (ops3:(A2 Operand)) (out5:(List Choice)) (name0:Int) (first7:Int) (reg8:Int) (t12:Int):LeO (gp ops3 out5 name0 first7 reg8 t12) (de ops3 out5 name0 first7 reg8 t12):=by
 unfold gp de
 repeat' (first | with_reducible exact LeO.rfl | with_reducible apply qr | with_reducible apply qs | with_reducible apply nv | with_reducible apply LeO.ite | with_reducible apply LeO.bind | with_reducible apply LeO.loop | exact LeO.rfl | intro _)
noncomputable def jy (ops3:(A2 Operand)) (out5:(List Choice)) (name0:Int) (t12:Int):Option (Lp ((List Choice) × Int) (List Choice)) :=
 if (decide (t12<2048)) then
  if (decide ((ak .and .i64 t12 7)>0)) then
   (dB (IntKind.wrap .u8 (bd .i64 t12 3))).bind fun r_1 =>
   if (!r_1) then
    some (.next (out5,(IntKind.wrap .i64 (t12+1))))
   else
    (dF (IntKind.wrap .u8 (bd .i64 t12 3))).bind fun r_2 =>
    if r_2 then
     some (.next (out5,(IntKind.wrap .i64 (t12+1))))
    else
     gp ops3 out5 name0 (IntKind.wrap .u8 (bd .i64 t12 3)) (ak .and .i64 t12 7) t12
  else
   (dF (IntKind.wrap .u8 (bd .i64 t12 3))).bind fun r_9 =>
   if r_9 then
    some (.next (out5,(IntKind.wrap .i64 (t12+1))))
   else
    gp ops3 out5 name0 (IntKind.wrap .u8 (bd .i64 t12 3)) (ak .and .i64 t12 7) t12
 else
  some (.out out5)
theorem oX (ops3:(A2 Operand)) (out5:(List Choice)) (name0:Int) (t12:Int):LeO (jy ops3 out5 name0 t12) (ci ops3 out5 name0 t12):=by
 unfold jy ci
 repeat' (first | with_reducible exact LeO.rfl | with_reducible apply od | with_reducible apply LeO.ite | with_reducible apply LeO.bind | with_reducible apply LeO.loop | exact LeO.rfl | intro _)
noncomputable def sv (name_:Int) (ops_:(A2 Operand)):Option (List Choice) :=
 (loopN (fun x:((List Choice) × Int)=>jy ops_ x.1 name_ x.2) 3000 (([]:List Choice),0)).bind fun e_1 =>
 (jx e_1).bind fun r_1 =>
 some r_1
theorem nw (name_:Int) (ops_:(A2 Operand)):LeO (sv name_ ops_) (dg name_ ops_):=by
 unfold sv dg
 repeat' (first | with_reducible exact LeO.rfl | with_reducible apply oW | with_reducible apply oX | with_reducible apply LeO.ite | with_reducible apply LeO.bind | with_reducible apply LeO.loop | exact LeO.rfl | intro _)
def alT:List (List UInt8 × List UInt8):=[([74,69],[74,90]),([74,78,69],[74,78,90]),([74,67],[74,66]),([74,78,65,69],[74,66]),([74,78,67],[74,78,66]),([74,65,69],[74,78,66]),([74,78,65],[74,66,69]),([74,78,66,69],[74,65]),([74,80,69],[74,80]),([74,80,79],[74,78,80]),([74,78,71,69],[74,76]),([74,78,76],[74,71,69]),([74,78,71],[74,76,69]),([74,78,76,69],[74,71]),([76,79,79,80,69],[76,79,79,80,90]),([76,79,79,80,78,69],[76,79,79,80,78,90]),([83,65,76],[83,72,76])]
def alU (s:List UInt8):List UInt8:=(((alT.find? fun p=>p.1==s).map (·.2)).getD s)
def alk:List (List UInt8):=alT.map (·.1)
theorem Ww:(alT.all fun p=>dY p.1==some p.2)=true:=by kernel_rfl
theorem B3 (s:List UInt8) (h:alk.contains s=false):dY s=some s:=by
 unfold alk alT at h
 simp only [List.map_cons,List.map_nil,List.contains_cons,List.contains_nil,Bool.or_eq_false_iff,Bool.or_false] at h
 obtain ⟨h1,h2,h3,h4,h5,h6,h7,h8,h9,h10,h11,h12,h13,h14,h15,h16,h17⟩:=h
 unfold dY dX dW
 simp only [h1,h2,h3,h4,h5,h6,h7,h8,h9,h10,h11,h12,h13,h14,h15,h16,h17,Bool.false_eq_true,if_false,ite_self]
theorem Ak (s:List UInt8) (h:alk.contains s=false):alU s=s:=by
 have:alT.find? (fun p=>p.1==s)=none:=by
  rw [List.find?_eq_none]
  intro p hp hc
  have:alk.contains s=true:=by rw [List.contains_iff_mem]; exact List.mem_map.2 ⟨p,hp,eq_of_beq hc⟩
  rw [h] at this; cases this
 unfold alU; rw [this]; rfl
theorem Al (s:List UInt8):dY s=some (alU s):=by
 cases h:alk.contains s with
 | false=>rw [B3 s h,Ak s h]
 | true =>
  rw [List.contains_iff_mem] at h
  obtain ⟨p,hp,rfl⟩:=List.mem_map.1 h
  have h1:=List.all_eq_true.1 Ww p hp
  have h2:(alT.all fun p=>alU p.1==p.2)=true:=by kernel_rfl
  rw [eq_of_beq h1,eq_of_beq (List.all_eq_true.1 h2 p hp)]
def other (k:Nat):Int:=if k=80 then 81 else if k=39 then 40 else 0
theorem CS (s:List UInt8):hH s=some (((fiN (·==alU s) WW 1:Nat):Int),other (fiN (·==alU s) WW 1)):=by
 unfold hH
 rw [Al,Option.bind_some,agQ,Option.bind_some]
 generalize fiN (·==alU s) WW 1=k
 unfold other
 by_cases h:k=80
 ·subst h; rfl
 ·rw [if_neg (by simp; omega),if_neg h]
  by_cases h':k=39
  ·subst h'; rfl
  ·rw [if_neg (by simp; omega),if_neg h']
def B4:A2 Operand:=({ a0:=({ Kind:=2,N:=0,RM:=0,V:=({ N:=0,From:=0,Which:=0,Type_:=0,Wants:=0,Known:=false }:api_Value),Type_:=0,Over:=0,Short:=false }:Operand),a1:=({ Kind:=0,N:=0,RM:=0,V:=({ N:=0,From:=0,Which:=0,Type_:=0,Wants:=0,Known:=false }:api_Value),Type_:=0,Over:=0,Short:=false }:Operand) }:(A2 Operand))
def B5:A2 Operand:=({ a0:=({ Kind:=3,N:=1,RM:=0,V:=({ N:=0,From:=0,Which:=0,Type_:=0,Wants:=0,Known:=false }:api_Value),Type_:=0,Over:=0,Short:=false }:Operand),a1:=({ Kind:=2,N:=0,RM:=0,V:=({ N:=0,From:=0,Which:=0,Type_:=0,Wants:=0,Known:=false }:api_Value),Type_:=0,Over:=0,Short:=false }:Operand) }:(A2 Operand))
def chI (op:Int):Choice:={ I:={ Lock:=false,Rep:=0,Seg:=0,Op:=op,Mod:=0,Reg:=0,RM:=0,Disp:=0,Imm:=0,Sel:=0 },Disp:={ N:=0,From:=0,Which:=0,Type_:=0,Wants:=0,Known:=false },Imm:={ N:=0,From:=0,Which:=0,Type_:=0,Wants:=0,Known:=false },HasD:=false,HasI:=false,Jumps:=false }
def chG (op mod reg:Int):Choice:={ I:={ Lock:=false,Rep:=0,Seg:=0,Op:=op,Mod:=mod,Reg:=reg,RM:=0,Disp:=0,Imm:=0,Sel:=0 },Disp:={ N:=0,From:=0,Which:=0,Type_:=0,Wants:=0,Known:=false },Imm:={ N:=0,From:=0,Which:=0,Type_:=0,Wants:=0,Known:=false },HasD:=false,HasI:=false,Jumps:=false }
theorem B6:dg 35 B5=some []:=nw _ _ _ (by kernel_rfl)
theorem B7:dg 15 B4=some [chI 64,chG 255 3 0]:=nw _ _ _ (by kernel_rfl)
theorem awk:bX=some true:=by
 unfold bX
 show ((du _ B4 false).bind fun r_1=>((du _ B5 false).bind _))=_
 have h1:du ([73,78,67]:List UInt8) B4 false=some (chI 64,0):=by
  unfold du
  rw [CS,show alU ([73,78,67]:List UInt8)=[73,78,67] by kernel_rfl,show fiN (·==([73,78,67]:List UInt8)) WW 1=15 by kernel_rfl,Option.bind_some]
  show ((dg 15 B4).bind _)=_
  rw [B7]; kernel_rfl
 have h2:du ([77,79,86]:List UInt8) B5 false=some (chI 0,6):=by
  unfold du
  rw [CS,show alU ([77,79,86]:List UInt8)=[77,79,86] by kernel_rfl,show fiN (·==([77,79,86]:List UInt8)) WW 1=35 by kernel_rfl,Option.bind_some]
  show ((dg 35 B5).bind _)=_
  rw [B6]; kernel_rfl
 rw [h1,Option.bind_some,h2]; rfl
def isG (k:Int):Bool:=k==3 || k==4 || k==5
def isM (k:Int):Bool:=k==1 || k==2 || k==19 || k==20
def isI (k:Int):Bool:=k==6 || k==7 || k==8 || k==12 || k==13
def knw (v:api_Value):Bool:=(v.From==0 && v.Wants==0) && v.Known
def qt (n s:Int):Bool:=if (s==1)=true then decide (n≥-128) && decide (n≤255) else decide (n≥-32768) && decide (n≤65535)
def sgd (n:Int):Bool:=gY (n % 65536) && qt n 2
theorem ny (n:Int):IntKind.wrap .u16 n=n % 65536:=by simp [IntKind.wrap,IntKind.bits,IntKind.signed]
theorem qu (v:api_Value):cH v=some (v.From==0 && v.Wants==0):=by
 unfold cH
 cases (v.From==0) <;> rfl
theorem Am (o:Operand):dG o=some (o.Kind==4 && knw o.V):=by
 unfold dG knw
 rw [qu,Option.bind_some]
 cases (o.Kind==4) <;> cases (o.V.From==0) <;> cases (o.V.Wants==0) <;> rfl
theorem CT (n s:Int):dZ n s=some (qt n s):=by
 unfold dZ qt
 cases (s==1) <;> cases decide (n≥-128) <;> cases decide (n≥-32768) <;> rfl
theorem xE (n:Int):d4 n=some (sgd n):=by
 unfold d4 sgd
 rw [ny,qm (by omega) (by omega),Option.bind_some,CT]
 cases gY (n % 65536) <;> rfl
def mC (o:Operand) (s:Int):Bool:=o.Kind==5 && (o.Type_==s || (o.Type_==0 || s==0))
theorem agR (o:Operand) (s:Int):cZ o s=some (mC o s):=by
 unfold cZ mC
 cases (o.Kind==5) <;> cases (o.Type_==s) <;> cases (o.Type_==0) <;> rfl
theorem B8 (o:Operand) (s:Int):d6 o s=some (mC o s && o.RM==8):=by
 unfold d6
 rw [agR,Option.bind_some]
 cases mC o s <;> rfl
theorem B9 (o:Operand):fj o=some (o.Kind==4 && ((o.V.From==0 && o.V.Wants==0) || o.V.Wants != 0)):=by
 unfold fj
 rw [qu,Option.bind_some]
 cases (o.Kind==4) <;> cases (o.V.From==0 && o.V.Wants==0) <;> rfl
theorem An (o:Operand) (f:Bool):∃ b,d5 o f=some b:=by
 unfold d5
 rw [qu,Option.bind_some]
 repeat' split
 all_goals exact ⟨_,rfl⟩
def fxB (k:Int) (o:Operand) (first:Int):Bool :=
 if (k==14)=true then o.Kind==1 && o.N==0 else if (k==15)=true then o.Kind==1 && o.N==1 else if (k==16)=true then o.Kind==2 && o.N==0
 else if (k==17)=true then o.Kind==2 && o.N==2 else if (k==18)=true then (o.Kind==4 && knw o.V) && o.V.N==1 else if (k==24)=true then (o.Kind==4 && knw o.V) && o.V.N==3
 else if (k==21)=true then o.Kind==1 && o.N==IntKind.wrap .i64 (ak .and .u8 first 7) else if (k==22)=true then o.Kind==2 && o.N==IntKind.wrap .i64 (ak .and .u8 first 7)
 else if (k==23)=true then o.Kind==3 && o.N==IntKind.wrap .i64 (ak .and .u8 (bd .u8 first 3) 3) else false
theorem Wx (k:Int) (o:Operand) (first:Int):gj k o first=some (fxB k o first):=by
 unfold gj fxB
 simp only [Am,Option.bind_some,uN,wF,ym]
def ftB (k:Int) (o:Operand) (first:Int) (l f:Bool):Bool :=
 if (k==0)=true then o.Kind==0 else if (k==1)=true then o.Kind==1 || mC o 1 else if (k==2)=true then o.Kind==2 || mC o 2
 else if (k==3)=true then o.Kind==1 else if (k==4)=true then o.Kind==2 else if (k==5)=true then o.Kind==3
 else if (k==6)=true then (o.Kind==4 && knw o.V) && qt o.V.N 1
 else if (k==7)=true then (o.Kind==4 && ((o.V.From==0 && o.V.Wants==0) || o.V.Wants != 0)) && (!(o.V.From==0 && o.V.Wants==0) || qt o.V.N 2)
 else if (k==8)=true then (o.Kind==4 && knw o.V) && sgd o.V.N
 else if (k==9)=true then l else if (k==10)=true then l && !o.Short else if (k==11)=true then f && !o.Short
 else if (k==12)=true then mC o 1 && o.RM==8 else if (k==13)=true then mC o 2 && o.RM==8 else if (k==20)=true then mC o 0
 else if (k==19)=true then o.Kind==5 && (o.Type_==4 || o.Type_==0) else fxB k o first
theorem ai5 (c b:Bool):(if c=true then true else b)=(c || b):=by cases c <;> rfl
theorem CU (k:Int) (o:Operand) (first:Int):∃ l f,eH k o first=some (ftB k o first l f):=by
 obtain ⟨l,hl⟩:=An o false
 obtain ⟨f,hf⟩:=An o true
 refine ⟨l,f,?_⟩
 unfold eH ftB
 simp only [Am,CT,B9,qu,xE,hl,hf,B8,agR,Wx,Option.bind_some,uN,wF,ym,ai5]
def Ca (o:Operand):Int:=if (knw o.V && o.V.N==0 && o.RM != 6)=true then 0 else if (knw o.V && sgd o.V.N)=true then 1 else 2
def mD (i:Inst) (k:Int) (o:Operand):Inst :=
 if isG k=true then { i with Reg:=o.N } else if isM k=true then (if (o.Kind != 5)=true then { i with Mod:=3,RM:=o.N } else
  if (o.RM==8)=true then { i with Mod:=0,RM:=6,Disp:=o.V.N % 65536 } else { i with Mod:=Ca o,RM:=o.RM,Disp:=o.V.N % 65536 }) else i
def qv (i:Inst) (k:Int) (o:Operand):Inst :=
 if (k==6)=true then { i with Imm:=o.V.N % 65536 % 256 } else if isI k=true then { i with Imm:=o.V.N % 65536 } else i
theorem wJ (c:Choice) (o:Operand) (b:Choice) (kn t:Bool):∃ c',cB c o b kn t=some c'∧c'.I={ c.I with Mod:=(if t=true then 0 else if (kn && sgd o.V.N)=true then 1 else 2) }:=by
 unfold cB
 simp only [lf,xE,Option.bind_some]
 cases t <;> cases kn <;> cases sgd o.V.N <;> exact ⟨_,rfl,rfl⟩
theorem Ap (c:Choice) (o:Operand) (b:Choice) (kn:Bool):∃ c',cU c o b kn=some c' ∧
  c'.I=(if (o.RM==8)=true then { c.I with Mod:=0,RM:=6,Disp:=o.V.N % 65536 } else { c.I with Mod:=(if (kn && o.V.N==0 && o.RM != 6)=true then 0 else if (kn && sgd o.V.N)=true then 1 else 2),RM:=o.RM,Disp:=o.V.N % 65536 }):=by
 unfold cU
 rw [ny]
 split
 ·rw [lf,Option.bind_some]; exact ⟨_,rfl,rfl⟩
 ·cases kn with
  | false =>
   obtain ⟨c',h1,h2⟩:=wJ ({ I:=({ c.I with RM:=o.RM,Disp:=o.V.N % 65536 }:Inst),Disp:=c.Disp,Imm:=c.Imm,HasD:=c.HasD,HasI:=c.HasI,Jumps:=c.Jumps }:Choice) o b false false
   exact ⟨c',h1,h2⟩
  | true =>
   simp only [if_true,Bool.true_and]
   cases h0:(o.V.N==0) with
   | true =>
    simp only [if_true,Bool.true_and]
    obtain ⟨c',h1,h2⟩:=wJ ({ I:=({ c.I with RM:=o.RM,Disp:=o.V.N % 65536 }:Inst),Disp:=c.Disp,Imm:=c.Imm,HasD:=c.HasD,HasI:=c.HasI,Jumps:=c.Jumps }:Choice) o b true (o.RM != 6)
    exact ⟨c',h1,h2⟩
   | false =>
    simp only [Bool.false_eq_true,if_false,Bool.false_and]
    obtain ⟨c',h1,h2⟩:=wJ ({ I:=({ c.I with RM:=o.RM,Disp:=o.V.N % 65536 }:Inst),Disp:=c.Disp,Imm:=c.Imm,HasD:=c.HasD,HasI:=c.HasI,Jumps:=c.Jumps }:Choice) o b true false
    exact ⟨c',h1,h2⟩
theorem ai6 (k:Int):gk k=some (isM k):=by
 unfold gk isM
 cases (k==1) <;> cases (k==2) <;> cases (k==19) <;> rfl
theorem Aq (c:Choice) (o:Operand) (b:Choice) (k:Int) (t:Bool) (ht:t=isG k):∃ c',cQ c o b k t=some c'∧c'.I=mD c.I k o:=by
 unfold cQ mD
 rw [ai6,Option.bind_some,qu,Option.bind_some,← ht]
 cases t with
 | true=>exact ⟨_,rfl,rfl⟩
 | false =>
  simp only [Bool.false_eq_true,if_false]
  cases isM k with
  | false=>exact ⟨_,rfl,rfl⟩
  | true =>
   simp only [Bool.not_true,Bool.false_eq_true,if_false,if_true]
   cases (o.Kind != 5) with
   | true=>exact ⟨_,rfl,rfl⟩
   | false =>
    simp only [Bool.false_eq_true,if_false]
    unfold Ca knw
    cases (o.V.From==0 && o.V.Wants==0) with
    | true =>
     obtain ⟨c',h1,h2⟩:=Ap ({ c with Disp:=o.V }:Choice) o b o.V.Known
     exact ⟨c',h1,h2⟩
    | false =>
     obtain ⟨c',h1,h2⟩:=Ap ({ c with Disp:=o.V }:Choice) o b false
     exact ⟨c',h1,h2⟩
theorem agS (c:Choice) (k:Int) (o:Operand):∃ c',fm c k o=some c'∧c'.I=mD c.I k o:=by
 unfold fm
 generalize ({ I:=({ Lock:=false,Rep:=0,Seg:=0,Op:=0,Mod:=0,Reg:=0,RM:=0,Disp:=0,Imm:=0,Sel:=0 }:Inst),Disp:=({ N:=0,From:=0,Which:=0,Type_:=0,Wants:=0,Known:=false }:api_Value),Imm:=({ N:=0,From:=0,Which:=0,Type_:=0,Wants:=0,Known:=false }:api_Value),HasD:=false,HasI:=false,Jumps:=false }:Choice)=b
 cases h3:(k==3) with
 | true=>exact Aq c o b k true (by simp [isG,h3])
 | false =>
  simp only [Bool.false_eq_true,if_false]
  cases h4:(k==4) with
  | true=>exact Aq c o b k true (by simp [isG,h4])
  | false=>exact Aq c o b k _ (by simp [isG,h3,h4])
theorem Ar {x:Int} (h0:0≤x) (h1:x≤65535):ak .and .u16 x 255=x % 256:=by
 have e1:(BitVec.ofInt 16 (255:Int)).toNat=2 ^ 8 - 1:=by decide
 have e2:(BitVec.ofInt 16 x).toNat=x.toNat:=by rw [BitVec.toNat_ofInt]; omega
 have e3:ak .and .u16 x 255=IntKind.wrap .u16 (((BitVec.ofInt 16 x &&& BitVec.ofInt 16 (255:Int)).toNat:Nat):Int):=rfl
 rw [e3,BitVec.toNat_and,e1,Nat.and_two_pow_sub_one_eq_mod,e2,AN (by omega) (by omega)]
 omega
theorem agT (c:Choice) (k:Int) (o:Operand):∃ c',fp c k o=some c'∧c'.I=qv c.I k o:=by
 unfold fp cV dK qv isI
 have e:ak .and .u16 (IntKind.wrap .u16 o.V.N) 255=o.V.N % 65536 % 256:=by
  rw [ny]
  exact Ar (by omega) (by omega)
 rw [e,ny]
 cases (k==6) <;> cases (k==8) <;> cases (k==7) <;> cases (k==12) <;> cases (k==13) <;> cases (k==9) <;> cases (k==10) <;> cases (k==11) <;> exact ⟨_,rfl,rfl⟩
def qw (first reg:Int) (r:Row):Int:=if (r.Mod && grp first.toNat)=true then reg else 0
def qx (first reg:Int) (r:Row) (a b:Operand):Inst :=
 qv (mD (qv (mD ⟨false,0,0,first,0,qw first reg r,0,0,0,0⟩ r.A a) r.A a) r.B b) r.B b
theorem Wy (r:Row) (ops:A2 Operand) (b c:Choice):∃ c',bU r ops b c=some c'∧c'.I=qv (mD (qv (mD c.I r.A ops.a0) r.A ops.a0) r.B ops.a1) r.B ops.a1:=by
 unfold bU
 obtain ⟨c1,h1,e1⟩:=agS c r.A ops.a0
 obtain ⟨c2,h2,e2⟩:=agT c1 r.A ops.a0
 obtain ⟨c3,h3,e3⟩:=agS c2 r.B ops.a1
 obtain ⟨c4,h4,e4⟩:=agT c3 r.B ops.a1
 have i0:∀ {α:Type} (x y:α),idx ([x,y]:List α) 0=some x:=fun _ _=>rfl
 have i1:∀ {α:Type} (x y:α),idx ([x,y]:List α) 1=some y:=fun _ _=>rfl
 have s1:bE ops b c ({ a0:=r.A,a1:=r.B }:A2 Int) 0=some (.next (c2,1)):=by
  unfold bE
  simp only [A2.l,i0,Option.bind_some,h1,h2]
  rfl
 have s2:bE ops b c2 ({ a0:=r.A,a1:=r.B }:A2 Int) 1=some (.next (c4,2)):=by
  unfold bE
  simp only [A2.l,i1,Option.bind_some,h3,h4]
  rfl
 have s3:bE ops b c4 ({ a0:=r.A,a1:=r.B }:A2 Int) 2=some (.out c4):=rfl
 refine ⟨c4,?_,by rw [e4,e3,e2,e1]⟩
 rw [bD]
 simp only [s1,Option.bind_some]
 rw [bD]
 simp only [s2,Option.bind_some]
 rw [bD]
 simp only [s3,Option.bind_some]
theorem Wz (first reg:Int) (h0:0≤first) (h1:first≤255) (r:Row) (ops:A2 Operand):∃ c,d9 first reg r ops=some c∧c.I=qx first reg r ops.a0 ops.a1:=by
 obtain ⟨n,rfl⟩:∃ n:Nat,first=n:=⟨first.toNat,by omega⟩
 have hn:n<256:=by omega
 have hg:=qk ⟨n,hn⟩
 unfold d9 qx qw
 rw [hg,Option.bind_some]
 simp only [Int.toNat_natCast]
 cases hm:r.Mod with
 | false =>
  obtain ⟨c,h,e⟩:=Wy ({ r with Mod:=false }:Row) ops _ _
  exact ⟨c,h,e⟩
 | true =>
  simp only [if_true,Bool.true_and]
  cases grp n with
  | false =>
   obtain ⟨c,h,e⟩:=Wy ({ r with Mod:=true }:Row) ops _ _
   exact ⟨c,h,e⟩
  | true =>
   obtain ⟨c,h,e⟩:=Wy ({ r with Mod:=true }:Row) ops _ _
   exact ⟨c,h,e⟩
def As (op k:Nat):Bool:=let x:=look op k; x.1==0 || isP op || (decide (x.2.1≤24) && decide (x.2.2≤24) && !(x.2.2==9 || x.2.2==10 || x.2.2==11) && (ck x.2.1==0 || ck x.2.2==0) &&
 ((sec x.2.1 || sec x.2.2)==(isM x.2.1 || isM x.2.2 || isG x.2.1 || isG x.2.2)) &&
 (if sec x.2.1 || sec x.2.2 then (isM x.2.1==!isM x.2.2) && (if grp op then !isG x.2.1 && !isG x.2.2 else (isG x.2.1==!isG x.2.2) || (decide (216≤op) && decide (op≤223))) else !grp op) && (grp op || look op 0==x))
theorem At:∀ op:Fin 256,∀ k:Fin 8,As op k=true:=by decide +kernel
structure RowOk (op reg:Int) (r:Row):Prop where
 a:0≤r.A∧r.A≤24
 b:0≤r.B∧r.B≤24
 b9:r.B≠9∧r.B≠10∧r.B≠11
 im:ck r.A=0∨ck r.B=0
 md:r.Mod=(isM r.A || isM r.B || isG r.A || isG r.B)
 mm:r.Mod=true→isM r.A=!isM r.B
 ng:r.Mod=false→grp op.toNat=false
 gg:r.Mod=true→grp op.toNat=true→isG r.A=false∧isG r.B=false
 gn:r.Mod=true→grp op.toNat=false→isG r.A=(!isG r.B)∨(216≤op∧op≤223)
 ze:grp op.toNat=false→aG op 0=aG op reg
theorem sw {op reg:Int} (h:(aG op reg).2=true):isP op.toNat=false∧(look op.toNat (reg % 8).toNat).1≠0 ∧
  aG op reg=(⟨(look op.toNat (reg % 8).toNat).1,(look op.toNat (reg % 8).toNat).2.1,(look op.toNat (reg % 8).toNat).2.2,sec (look op.toNat (reg % 8).toNat).2.1 || sec (look op.toNat (reg % 8).toNat).2.2⟩,true):=by
 unfold aG at h ⊢
 cases hp:isP op.toNat with
 | true=>rw [hp] at h; simp at h
 | false =>
  rw [hp] at h
  simp only [Bool.false_eq_true,if_false] at h ⊢
  generalize look op.toNat (reg % 8).toNat=x at *
  unfold rw' at h ⊢
  split at h
  ·cases h
  ·rename_i hx
   exact ⟨trivial,hx,by rw [if_neg hx]⟩
theorem tq {op reg:Int} (h0:0≤op) (h1:op≤255) (h:(aG op reg).2=true):RowOk op reg (aG op reg).1:=by
 obtain ⟨hp,hx,e⟩:=sw h
 obtain ⟨n,rfl⟩:∃ n:Nat,op=n:=⟨op.toNat,by omega⟩
 obtain ⟨k,hk⟩:∃ k:Nat,reg % 8=k:=⟨(reg % 8).toNat,by omega⟩
 have hf:=At ⟨n,by omega⟩ ⟨k,by omega⟩
 have e0:grp n=false→aG (n:Int) 0=aG (n:Int) reg:=by
  intro hg
  unfold As at hf
  simp only [Int.toNat_natCast,hk] at hp hx
  have hx':((look n k).1==0)=false:=by simpa using hx
  simp only [hx',hp,Bool.false_or,hg,Bool.and_eq_true,beq_iff_eq] at hf
  have hf2:=hf.2
  unfold aG
  rw [hk]
  simp only [Int.toNat_natCast,hp]
  have hz:((0:Int) % 8).toNat=0:=rfl
  rw [hz,hf2]
 simp only [Int.toNat_natCast,hk] at hp hx e
 rw [e]
 unfold As at hf
 generalize hxx:look n k=x at *
 have hx':(x.1==0)=false:=by simpa using hx
 simp only [hx',hp,Bool.false_or,Bool.and_eq_true] at hf
 obtain ⟨⟨⟨⟨⟨⟨f1,f2⟩,f3⟩,f4⟩,f5⟩,f6⟩,f7⟩:=hf
 simp only [Bool.not_eq_true',Bool.or_eq_false_iff,beq_eq_false_iff_ne,ne_eq] at f3
 simp only [decide_eq_true_eq] at f1 f2
 simp only [Bool.or_eq_true,beq_iff_eq] at f4
 simp only [beq_iff_eq] at f5
 have f6a:(sec x.2.1 || sec x.2.2)=true→isM x.2.1=!isM x.2.2:=fun h=>by rw [h] at f6; simp only [if_true,Bool.and_eq_true,beq_iff_eq] at f6; exact f6.1
 have f6b:(sec x.2.1 || sec x.2.2)=false→grp n=false:=fun h=>by rw [h] at f6; simpa using f6
 have f6c:(sec x.2.1 || sec x.2.2)=true→grp n=true→isG x.2.1=false∧isG x.2.2=false:=fun h hg=>by
  rw [h,hg] at f6; simp only [if_true,Bool.and_eq_true,beq_iff_eq,Bool.not_eq_true'] at f6; exact f6.2
 have f6d:(sec x.2.1 || sec x.2.2)=true→grp n=false→isG x.2.1=(!isG x.2.2)∨(216≤n∧n≤223):=fun h hg=>by
  rw [h,hg] at f6; simp only [if_true,Bool.false_eq_true,if_false,Bool.and_eq_true,beq_iff_eq,Bool.or_eq_true,decide_eq_true_eq] at f6; exact f6.2
 exact {
  a:=⟨by simp only; omega,by simp only; omega⟩
  b:=⟨by simp only; omega,by simp only; omega⟩
  b9:=⟨by simp only; omega,by simp only; omega,by simp only; omega⟩
  im:=f4
  md:=f5
  mm:=f6a
  ng:=fun h=>by simpa using f6b h
  gg:=fun h hg=>f6c h (by simpa using hg)
  gn:=fun h hg=>(f6d h (by simpa using hg)).imp id fun q=>⟨by omega,by omega⟩
  ze:=fun hg=>e0 (by simpa using hg) }
def s16 (d:Int):Int:=(d+32768) % 65536 - 32768
def zV:api_Value:={ N:=0,From:=0,Which:=0,Type_:=0,Wants:=0,Known:=false }
def nV (n:Int):api_Value:={ N:=n,From:=0,Which:=0,Type_:=0,Wants:=0,Known:=true }
def plO (kind n:Int):Operand:={ Kind:=kind,N:=n,RM:=0,V:=zV,Type_:=0,Over:=0,Short:=false }
def nuO (n:Int):Operand:={ Kind:=4,N:=0,RM:=8,V:=nV n,Type_:=0,Over:=0,Short:=false }
def meO (i:Inst) (s:Int):Operand:=if (i.Mod==0 && i.RM==6)=true then { Kind:=5,N:=0,RM:=8,V:=nV i.Disp,Type_:=s,Over:=0,Short:=false } else { Kind:=5,N:=0,RM:=i.RM,V:=nV (s16 i.Disp),Type_:=s,Over:=0,Short:=false }
theorem WA {α:Type} (c:Bool) (a b:α):(if c=true then some a else some b)=some (if c=true then a else b):=by cases c <;> rfl
def opT (i:Inst) (k:Int):Operand:=if (k==14)=true then plO 1 0 else if (k==15)=true then plO 1 1 else if (k==16)=true then plO 2 0 else if (k==17)=true then plO 2 2 else if (k==18)=true then nuO 1
 else if (k==19)=true then meO i 4 else if (k==20)=true then meO i 0 else if (k==21)=true then plO 1 (i.Op % 8) else if (k==22)=true then plO 2 (i.Op % 8)
 else if (k==23)=true then plO 3 (i.Op / 8 % 4) else if (k==24)=true then nuO 3 else plO 0 0
def opU (i:Inst) (k:Int):Operand:=if (k==12)=true then { Kind:=5,N:=0,RM:=8,V:=nV i.Imm,Type_:=1,Over:=0,Short:=false }
 else if (k==13)=true then { Kind:=5,N:=0,RM:=8,V:=nV i.Imm,Type_:=2,Over:=0,Short:=false } else opT i k
def op6 (i:Inst) (k:Int):Operand:=if (k==6)=true then nuO i.Imm else if (k==7)=true then nuO i.Imm else if (k==8)=true then nuO (s16 i.Imm) else opU i k
def opd (i:Inst) (k:Int):Operand :=
 if (k==1)=true then (if (i.Mod==3)=true then plO 1 i.RM else meO i 1) else if (k==2)=true then (if (i.Mod==3)=true then plO 2 i.RM else meO i 2)
 else if (k==3)=true then plO 1 i.Reg else if (k==4)=true then plO 2 i.Reg else if (k==5)=true then plO 3 i.Reg else op6 i k
theorem Au (d:Int):IntKind.wrap .i64 (IntKind.wrap .i16 d)=s16 d:=by
 rw [su,bg (by omega) (by omega)]; rfl
theorem tt (i:Inst) (h:okI i) (s:Int):aZ i s=some (meO i s):=by
 obtain ⟨_,⟨d0,d1⟩,_,_⟩:=h
 unfold aZ meO
 rw [Au,bg (n:=i.Disp) (by omega) (by omega)]
 cases h0:(i.Mod==0) with
 | true =>
  have e2:(i.Mod==2)=false:=by simp only [beq_iff_eq] at h0; rw [h0]; rfl
  rw [e2]
  cases (i.RM==6) <;> rfl
 | false=>cases (i.Mod==2) <;> rfl
theorem wK {w:Int} (h0:0≤w) (h1:w≤65535):a8 w=some (nuO w):=by
 unfold a8
 rw [bg (n:=w) (by omega) (by omega)]; rfl
theorem agU (i:Inst) (h:okI i) (b:Operand) (k:Int) (t:Bool) (ht:t=(k==14 || k==15)):bh i b k k t=some (opT i k):=by
 have o:=h.1
 have e8:IntKind.wrap .i64 (Int.tmod i.Op 8)=i.Op % 8:=by rw [Int.tmod_eq_emod_of_nonneg o.1,bg (by omega) (by omega)]
 have e4:IntKind.wrap .i64 (Int.tmod (IntKind.wrap .u8 (Int.tdiv i.Op 8)) 4)=i.Op / 8 % 4:=by
  rw [Int.tdiv_eq_ediv_of_nonneg o.1,nt,Int.tmod_eq_emod_of_nonneg (by omega),bg (by omega) (by omega)]; omega
 unfold bh opT
 rw [e8,e4,tt i h,tt i h,wK (w:=1) (by omega) (by omega),wK (w:=3) (by omega) (by omega),ht]
 cases h14:(k==14) with
 | true=>simp only [beq_iff_eq] at h14; subst h14; rfl
 | false =>
  cases h15:(k==15) with
  | true=>simp only [beq_iff_eq] at h15; subst h15; rfl
  | false =>
   simp only [Bool.or_self,Bool.false_eq_true,if_false,Option.bind_some,WA]
   rfl
theorem agV (i:Inst) (h:okI i) (b:Operand) (k:Int) (t:Bool) (ht:t=(k==12 || k==13)):bi i b k k t=some (opU i k):=by
 have m:=h.2.2.1
 unfold bi opU
 rw [bg (n:=i.Imm) (by omega) (by omega),ht]
 cases h12:(k==12) with
 | true=>simp only [beq_iff_eq] at h12; subst h12; rfl
 | false =>
  cases h13:(k==13) with
  | true=>simp only [beq_iff_eq] at h13; subst h13; rfl
  | false =>
   simp only [Bool.or_self,Bool.false_eq_true,if_false]
   cases h14:(k==14) with
   | true=>simp only [if_true]; exact agU i h b k true (by simp [h14])
   | false=>simp only [Bool.false_eq_true,if_false]; exact agU i h b k _ (by simp [h14])
theorem agW (i:Inst) (h:okI i) (b:Operand) (k:Int) (t:Bool) (ht:t=(k==6 || k==7)):bj i b k k t=some (op6 i k):=by
 have m:=h.2.2.1
 unfold bj op6
 rw [wK m.1 m.2,Au,ht]
 cases h6:(k==6) with
 | true=>rfl
 | false =>
  cases h7:(k==7) with
  | true=>rfl
  | false =>
   simp only [Bool.or_self,Bool.false_eq_true,if_false]
   cases h8:(k==8) with
   | true=>rfl
   | false =>
    simp only [Bool.false_eq_true,if_false]
    cases h12:(k==12) with
    | true=>simp only [if_true]; exact agV i h b k true (by simp [h12])
    | false=>simp only [Bool.false_eq_true,if_false]; exact agV i h b k _ (by simp [h12])
theorem Av (i:Inst) (h:okI i) (k:Int):bw i k=some (opd i k):=by
 unfold bw opd
 rw [tt i h,tt i h]
 cases h1:(k==1) with
 | true=>simp only [if_true,Option.bind_some,WA]; rfl
 | false =>
  cases h2:(k==2) with
  | true=>simp only [Bool.false_eq_true,if_false,if_true,Option.bind_some,WA]; rfl
  | false =>
   simp only [Bool.false_eq_true,if_false]
   cases (k==3) with
   | true=>rfl
   | false =>
    cases (k==4) with
    | true=>rfl
    | false =>
     cases (k==5) with
     | true=>rfl
     | false =>
      simp only [Bool.false_eq_true,if_false]
      cases h6:(k==6) with
      | true=>simp only [if_true]; exact agW i h _ k true (by simp [h6])
      | false=>simp only [Bool.false_eq_true,if_false]; exact agW i h _ k _ (by simp [h6])
theorem Aw {n:Int} (j:Nat) (hj:j≤7) {m:Int} (hm:m=((2 ^ j - 1:Nat):Int)) (h0:0≤n) (h1:n≤255):ak .and .u8 n m=n % (2 ^ j:Nat):=by
 subst hm
 have hp:2 ^ j≤2 ^ 7:=Nat.pow_le_pow_right (by omega) hj
 have hq:0<2 ^ j:=Nat.two_pow_pos j
 have e:ak .and .u8 n ((2 ^ j - 1:Nat):Int)=IntKind.wrap .u8 (((BitVec.ofInt 8 n &&& BitVec.ofInt 8 ((2 ^ j - 1:Nat):Int)).toNat:Nat):Int):=rfl
 have e1:(BitVec.ofInt 8 ((2 ^ j - 1:Nat):Int)).toNat=2 ^ j - 1:=by rw [BitVec.toNat_ofInt]; omega
 have e2:(BitVec.ofInt 8 n).toNat=n.toNat:=by rw [BitVec.toNat_ofInt]; omega
 have hm:=Nat.mod_lt n.toNat hq
 have h3:((n.toNat % 2 ^ j:Nat):Int)=n % (2 ^ j:Nat):=by rw [Int.natCast_emod,Int.toNat_of_nonneg h0]
 rw [e,BitVec.toNat_and,e1,e2,Nat.and_two_pow_sub_one_eq_mod,C6 (by omega) (by omega),h3]
theorem WB (d:Int):-32768≤s16 d∧s16 d≤32767:=by unfold s16; omega
theorem CV (d:Int):qt (s16 d) 2=true:=by
 have:=WB d
 show (decide (s16 d≥-32768) && decide (s16 d≤65535))=true
 simp; omega
theorem agX {k:Int} (h0:0≤k∧k≤24):k=0∨k=1∨k=2∨k=3∨k=4∨k=5∨k=6∨k=7∨k=8∨k=9∨k=10∨k=11∨k=12∨k=13∨k=14∨k=15∨k=16∨k=17∨k=18∨k=19∨k=20∨k=21∨k=22∨k=23∨k=24:=by omega
theorem kv (i:Inst) (s:Int):(meO i s).Kind=5:=by unfold meO; split <;> rfl
theorem io (i:Inst) (s:Int):(meO i s).Type_=s:=by unfold meO; split <;> rfl
theorem Cb (i:Inst) (s:Int):knw (meO i s).V=true:=by unfold meO; split <;> rfl
theorem xF (i:Inst) (ho:okI i) {k:Int} (hk:0≤k∧k≤24) (h9:k≠9∧k≠10∧k≠11) (h6:k=6→i.Imm<256) (h8:k=8→gY i.Imm=true) (l f:Bool):ftB k (opd i k) i.Op l f=true:=by
 obtain ⟨⟨o0,o1⟩,_,⟨m0,m1⟩,_⟩:=ho
 have a7:IntKind.wrap .i64 (ak .and .u8 i.Op 7)=i.Op % 8:=by rw [show ak .and .u8 i.Op 7=i.Op % 8 from Aw 3 (by omega) rfl o0 o1,bg (by omega) (by omega)]
 have a3:IntKind.wrap .i64 (ak .and .u8 (bd .u8 i.Op 3) 3)=i.Op / 8 % 4:=by
  rw [show bd .u8 i.Op 3=i.Op / 8 from zd (j:=3) (by decide),show ak .and .u8 (i.Op / 8) 3=i.Op / 8 % 4 from Aw 2 (by omega) rfl (by omega) (by omega),bg (by omega) (by omega)]
 rcases agX hk with h | h | h | h | h | h | h | h | h | h | h | h | h | h | h | h | h | h | h | h | h | h | h | h | h
 case inr.inr.inr.inr.inr.inr.inr.inr.inl =>
  have hf:=h8 h
  subst h
  show (true && (gY (s16 i.Imm % 65536) && qt (s16 i.Imm) 2))=true
  have e:s16 i.Imm % 65536=i.Imm:=by unfold s16; omega
  rw [e,hf,CV]; rfl
 case inr.inr.inr.inr.inr.inr.inl =>
  have hf:=h6 h
  subst h
  show (true && qt i.Imm 1)=true
  simp [qt]; omega
 case inr.inr.inr.inr.inr.inr.inr.inl =>
  subst h
  show (true && (!true || qt i.Imm 2))=true
  simp [qt]; omega
 all_goals subst h
 all_goals first | omega | skip
 all_goals first | rfl | skip
 ·show ((if (i.Mod==3)=true then plO 1 i.RM else meO i 1).Kind==1 || mC (if (i.Mod==3)=true then plO 1 i.RM else meO i 1) 1)=true
  split
  ·rfl
  ·simp [mC,kv,io]
 ·show ((if (i.Mod==3)=true then plO 2 i.RM else meO i 2).Kind==2 || mC (if (i.Mod==3)=true then plO 2 i.RM else meO i 2) 2)=true
  split
  ·rfl
  ·simp [mC,kv,io]
 ·show ((meO i 4).Kind==5 && ((meO i 4).Type_==4 || (meO i 4).Type_==0))=true
  simp [kv,io]
 ·show mC (meO i 0) 0=true
  simp [mC,kv,io]
 ·show (true && i.Op % 8==IntKind.wrap .i64 (ak .and .u8 i.Op 7))=true
  rw [a7]; simp
 ·show (true && i.Op % 8==IntKind.wrap .i64 (ak .and .u8 i.Op 7))=true
  rw [a7]; simp
 ·show (true && i.Op / 8 % 4==IntKind.wrap .i64 (ak .and .u8 (bd .u8 i.Op 3) 3))=true
  rw [a3]; simp
def mN (i:Inst):Int:=if (i.Mod==3)=true then 3 else if (i.Mod==0 && i.RM==6)=true then 0 else if (s16 i.Disp==0 && i.RM != 6)=true then 0 else if gY i.Disp=true then 1 else 2
theorem Cc (i:Inst) (ho:okI i) (s:Int) (h:(i.Mod==0 && i.RM==6)=false):Ca (meO i s)=(if (s16 i.Disp==0 && i.RM != 6)=true then 0 else if gY i.Disp=true then 1 else 2):=by
 unfold Ca
 rw [Cb]
 unfold meO
 rw [h]
 simp only [Bool.false_eq_true,if_false,Bool.true_and]
 show (if (s16 i.Disp==0 && i.RM != 6)=true then (0:Int) else if sgd (s16 i.Disp)=true then 1 else 2)=_
 have e:sgd (s16 i.Disp)=gY i.Disp:=by
  have d:=ho.2.1
  unfold sgd
  have e:s16 i.Disp % 65536=i.Disp:=by unfold s16; omega
  rw [e]
  rw [CV,Bool.and_true]
 rw [e]
theorem oh {k:Int} (h:isM k=true):k=1∨k=2∨k=19∨k=20:=by
 simp only [isM,Bool.or_eq_true,beq_iff_eq] at h; omega
theorem yr {k:Int} (h:isG k=true):k=3∨k=4∨k=5:=by
 simp only [isG,Bool.or_eq_true,beq_iff_eq] at h; omega
theorem yu {k:Int} (h:isI k=true):k=6∨k=7∨k=8∨k=12∨k=13:=by
 simp only [isI,Bool.or_eq_true,beq_iff_eq] at h; omega
theorem WC (i j:Inst) (ho:okI i) (hrm:i.RM≤7) (s k:Int) (hk:isG k=false) (hm:isM k=true) (h3:i.Mod≠3):mD j k (meO i s)={ j with Mod:=mN i,RM:=i.RM,Disp:=i.Disp }:=by
 have d:=ho.2.1
 have b3:(i.Mod==3)=false:=by simpa using h3
 unfold mD mN
 rw [hk,hm,kv,b3]
 simp only [Bool.false_eq_true,if_false,if_true,bne_self_eq_false]
 cases hc:(i.Mod==0 && i.RM==6) with
 | true =>
  have hr:i.RM=6:=by simp only [Bool.and_eq_true,beq_iff_eq] at hc; exact hc.2
  have e:meO i s={ Kind:=5,N:=0,RM:=8,V:=nV i.Disp,Type_:=s,Over:=0,Short:=false }:=by unfold meO; rw [hc]; rfl
  rw [e]
  simp only [nV,beq_self_eq_true,if_true]
  rw [hr,show i.Disp % 65536=i.Disp by omega]
 | false =>
  have e:meO i s={ Kind:=5,N:=0,RM:=i.RM,V:=nV (s16 i.Disp),Type_:=s,Over:=0,Short:=false }:=by unfold meO; rw [hc]; rfl
  rw [Cc i ho s hc,e]
  simp only [nV,Bool.false_eq_true,if_false]
  rw [show s16 i.Disp % 65536=i.Disp by unfold s16; omega]
  have b8:(i.RM==8)=false:=by
   have:i.RM≠8:=by omega
   simpa using this
  rw [b8]
  simp only [Bool.false_eq_true,if_false]
theorem stp (i j:Inst) (ho:okI i) (hrm:i.RM≤7) {k:Int} (h3:isM k=true→i.Mod=3→(k=1∨k=2)∧i.Disp=j.Disp) (h6:k=6→i.Imm<256) :
  qv (mD j k (opd i k)) k (opd i k)={ j with Reg:=if isG k=true then i.Reg else j.Reg,Mod:=if isM k=true then mN i else j.Mod,RM:=if isM k=true then i.RM else j.RM,Disp:=if isM k=true then i.Disp else j.Disp,Imm:=if isI k=true then i.Imm else j.Imm }:=by
 have m:=ho.2.2.1
 by_cases hG:isG k=true
 ·rcases yr hG with rfl | rfl | rfl <;> rfl
 by_cases hM:isM k=true
 ·have hG':isG k=false:=by simpa using hG
  by_cases hd:i.Mod=3
  ·obtain ⟨h12,hj⟩:=h3 hM hd
   have b3:(i.Mod==3)=true:=by simpa using hd
   have e:mN i=3:=by unfold mN; rw [b3]; rfl
   rw [e]
   rcases h12 with rfl | rfl
   ·have e1:opd i 1=plO 1 i.RM:=by unfold opd; rw [b3]; rfl
    rw [e1,hj]; rfl
   ·have e1:opd i 2=plO 2 i.RM:=by unfold opd; rw [b3]; rfl
    rw [e1,hj]; rfl
  ·have b3:(i.Mod==3)=false:=by simpa using hd
   have e1:∃ s,opd i k=meO i s:=by
    rcases oh hM with rfl | rfl | rfl | rfl
    ·exact ⟨1,by unfold opd; rw [b3]; rfl⟩
    ·exact ⟨2,by unfold opd; rw [b3]; rfl⟩
    ·exact ⟨4,rfl⟩
    ·exact ⟨0,rfl⟩
   obtain ⟨s,e1⟩:=e1
   rw [e1,WC i j ho hrm s k hG' hM hd]
   rcases oh hM with rfl | rfl | rfl | rfl <;> rfl
 ·have hG':isG k=false:=by simpa using hG
  have hM':isM k=false:=by simpa using hM
  have e:mD j k (opd i k)=j:=by unfold mD; rw [hG',hM']; rfl
  rw [e,hG',hM']
  simp only [Bool.false_eq_true,if_false]
  by_cases hI:isI k=true
  ·rw [hI]
   rcases yu hI with rfl | rfl | rfl | rfl | rfl
   ·have:=h6 rfl
    show ({ j with Imm:=i.Imm % 65536 % 256 }:Inst)=_
    rw [show i.Imm % 65536 % 256=i.Imm by omega]; rfl
   ·show ({ j with Imm:=i.Imm % 65536 }:Inst)=_
    rw [show i.Imm % 65536=i.Imm by omega]; rfl
   ·show ({ j with Imm:=s16 i.Imm % 65536 }:Inst)=_
    rw [show s16 i.Imm % 65536=i.Imm by unfold s16; omega]; rfl
   ·show ({ j with Imm:=i.Imm % 65536 }:Inst)=_
    rw [show i.Imm % 65536=i.Imm by omega]; rfl
   ·show ({ j with Imm:=i.Imm % 65536 }:Inst)=_
    rw [show i.Imm % 65536=i.Imm by omega]; rfl
  ·have hI':isI k=false:=by simpa using hI
   rw [hI']
   have h6':(k==6)=false:=by
    cases h:(k==6) with
    | false=>rfl
    | true=>rw [show k=6 by simpa using h] at hI'; cases hI'
   unfold qv
   rw [h6',hI']
   rfl
def qZ (m r d:Int):Bool:=if (dp m r==0)=true then d==0 else if (dp m r==1)=true then gY d else true
theorem Ax (i:Inst) (d0:0≤i.Disp∧i.Disp≤65535) (hm:0≤i.Mod∧i.Mod≤3) (hd:qZ i.Mod i.RM i.Disp=true):(mN i=i.Mod∨mN i<i.Mod)∧(0≤mN i∧mN i≤3)∧(mN i=3→i.Mod=3)∧qZ (mN i) i.RM i.Disp=true:=by
 have hs:s16 i.Disp=0→i.Disp=0:=fun h=>by unfold s16 at h; omega
 have hm':i.Mod=0∨i.Mod=1∨i.Mod=2∨i.Mod=3:=by omega
 have key:∀ v,mN i=v→((v=i.Mod∨v<i.Mod)∧(0≤v∧v≤3)∧(v=3→i.Mod=3)∧qZ v i.RM i.Disp=true)→((mN i=i.Mod∨mN i<i.Mod)∧(0≤mN i∧mN i≤3)∧(mN i=3→i.Mod=3)∧qZ (mN i) i.RM i.Disp=true):=by
  intro v e h; rw [e]; exact h
 have low:i.Mod≠3→(i.Mod==0 && i.RM==6)=false→mN i=(if (s16 i.Disp==0 && i.RM != 6)=true then 0 else if gY i.Disp=true then 1 else 2):=by
  intro n e
  unfold mN
  rw [e,show (i.Mod==3)=false by simpa using n]; rfl
 have zero:(s16 i.Disp==0 && i.RM != 6)=true→qZ 0 i.RM i.Disp=true:=by
  intro hc
  simp only [Bool.and_eq_true,beq_iff_eq,bne_iff_ne,ne_eq] at hc
  have b6:(i.RM==6)=false:=by simpa using hc.2
  have e0:dp 0 i.RM=0:=by unfold dp; rw [b6]; rfl
  unfold qZ; rw [e0,hs hc.1]; rfl
 rcases hm' with h | h | h | h
 ·by_cases h6:i.RM=6
  ·refine key 0 (by unfold mN; rw [h,h6]; rfl) ⟨.inl h.symm,⟨by decide,by decide⟩,fun e=>(by omega),?_⟩
   rw [h6]; rfl
  ·have b6:(i.RM==6)=false:=by simpa using h6
   have e0:dp 0 i.RM=0:=by unfold dp; rw [b6]; rfl
   have hz:i.Disp=0:=by rw [h] at hd; unfold qZ at hd; rw [e0] at hd; simpa using hd
   have hc:(s16 i.Disp==0 && i.RM != 6)=true:=by rw [hz]; simpa [s16] using h6
   refine key 0 (by rw [low (by omega) (by rw [b6,Bool.and_false]),if_pos hc]) ⟨.inl h.symm,⟨by decide,by decide⟩,fun e=>(by omega),zero hc⟩
 ·have hf:gY i.Disp=true:=by rw [h] at hd; exact hd
  have e:=low (by omega) (by rw [h]; rfl)
  cases hc:(s16 i.Disp==0 && i.RM != 6) with
  | true=>exact key 0 (by rw [e,if_pos hc]) ⟨.inr (by omega),⟨by decide,by decide⟩,fun e=>(by omega),zero hc⟩
  | false=>exact key 1 (by rw [e,hc,hf]; rfl) ⟨.inl h.symm,⟨by decide,by decide⟩,fun e=>(by omega),hf⟩
 ·have e:=low (by omega) (by rw [h]; rfl)
  cases hc:(s16 i.Disp==0 && i.RM != 6) with
  | true=>exact key 0 (by rw [e,if_pos hc]) ⟨.inr (by omega),⟨by decide,by decide⟩,fun e=>(by omega),zero hc⟩
  | false =>
   cases hf:gY i.Disp with
   | true=>exact key 1 (by rw [e,hc,hf]; rfl) ⟨.inr (by omega),⟨by decide,by decide⟩,fun e=>(by omega),hf⟩
   | false=>exact key 2 (by rw [e,hc,hf]; rfl) ⟨.inl h.symm,⟨by decide,by decide⟩,fun e=>(by omega),rfl⟩
 ·refine key 3 (by unfold mN; rw [h]; rfl) ⟨.inl h.symm,⟨by decide,by decide⟩,fun _=>h,?_⟩
  rw [h] at hd; exact hd
theorem uR {k:Int} (h9:k≠9∧k≠10∧k≠11):ck k=0 ↔ isI k=false:=by
 obtain ⟨a,b,c⟩:=h9
 have b9:(k==9)=false:=by simpa using a
 have b10:(k==10)=false:=by simpa using b
 have b11:(k==11)=false:=by simpa using c
 unfold ck isI
 rw [b9,b10,b11]
 cases (k==6) <;> cases (k==7) <;> cases (k==8) <;> cases (k==12) <;> cases (k==13) <;> simp
theorem Cd {i j:Inst} (r:Row) (h1:j.Imm=i.Imm) (h2:j.Sel=i.Sel):nu j r=nu i r:=by
 unfold nu jf; rw [h1,h2]
theorem sx {i:Inst} {op reg:Int} {r:Row} (hr:RowOk op reg r) (h9:r.A≠9∧r.A≠10∧r.A≠11) (h:nu i r=true) :
  i.Sel=0∧(r.A=6∨r.B=6→i.Imm<256)∧(r.A=8∨r.B=8→gY i.Imm=true)∧(isI r.A=false→isI r.B=false→i.Imm=0):=by
 have hK:∀ k,(k=r.A∨k=r.B)→ck k≠0→(if ck r.A==0 then r.B else r.A)=k:=by
  intro k hk hb
  rcases hk with rfl | rfl
  ·rw [show (ck r.A==0)=false by simpa using hb]; rfl
  ·rcases hr.im with h | h
   ·rw [h]; rfl
   ·exact absurd h hb
 have hn:(if ck r.A==0 then r.B else r.A)≠9∧(if ck r.A==0 then r.B else r.A)≠10∧(if ck r.A==0 then r.B else r.A)≠11:=by
  split
  ·exact hr.b9
  ·exact h9
 unfold nu at h
 refine ⟨?_,?_,?_,?_⟩
 ·generalize (if ck r.A==0 then r.B else r.A)=k at h hn
  have b11:(k==11)=false:=by simpa using hn.2.2
  unfold jf at h
  rw [b11] at h
  revert h
  cases (k==6) <;> cases (k==8) <;> cases (k==9) <;> cases (k==7) <;> cases (k==10) <;> cases (k==12) <;> cases (k==13) <;> simp <;> intros <;> assumption
 ·intro hk
  have e:=hK 6 (hk.imp Eq.symm Eq.symm) (by decide)
  rw [e] at h
  simp only [jf,beq_self_eq_true,if_true,Bool.and_eq_true,decide_eq_true_eq] at h
  exact h.1
 ·intro hk
  have e:=hK 8 (hk.imp Eq.symm Eq.symm) (by decide)
  rw [e] at h
  have h':(gY i.Imm && i.Sel==0)=true:=h
  rw [Bool.and_eq_true] at h'
  exact h'.1
 ·intro ha hb
  have ea:=(uR h9).2 ha
  have eb:=(uR hr.b9).2 hb
  rw [ea] at h
  have:jf i r r.B=none:=(mu i r r.B).2 eb
  simp only [beq_self_eq_true,if_true,this,Bool.and_eq_true,beq_iff_eq] at h
  exact h.1
theorem wL {i:Inst} {r:Row} (hm:r.Mod=false) (h:qp i r=true):i.Mod=0∧i.Reg=0∧i.RM=0∧i.Disp=0:=by
 unfold qp at h
 rw [hm] at h
 simpa using h
theorem oi {i:Inst} {r:Row} (hm:r.Mod=true):qp i r=true ↔ (0≤i.Mod∧i.Mod≤3)∧(0≤i.Reg∧i.Reg≤7)∧(0≤i.RM∧i.RM≤7)∧(i.Mod=3→r.A≠19∧r.A≠20∧r.B≠19∧r.B≠20)∧qZ i.Mod i.RM i.Disp=true:=by
 unfold qp qZ
 rw [hm]
 simp only [if_true,Bool.and_eq_true,Bool.not_eq_true',decide_eq_false_iff_not]
 constructor
 ·rintro ⟨h1,h2,h3,h4,h5,h6,h7,h8⟩
  refine ⟨⟨by omega,by omega⟩,⟨by omega,by omega⟩,⟨by omega,by omega⟩,fun e=>?_,h8⟩
  rw [show (i.Mod==3)=true by simpa using e] at h7
  simpa using h7
 ·rintro ⟨⟨h1,h2⟩,⟨h3,h4⟩,⟨h5,h6⟩,h7,h8⟩
  refine ⟨by omega,by omega,by omega,by omega,by omega,by omega,?_,h8⟩
  by_cases e:i.Mod=3
  ·rw [show (i.Mod==3)=true by simpa using e]; simpa using h7 e
  ·rw [show (i.Mod==3)=false by simpa using e]; rfl
theorem yv (i:Inst) (ho:okI i) (hm:gZ i=true) (hl:i.Lock=false∧i.Rep=0∧i.Seg=0) (h9:(aG i.Op i.Reg).1.A≠9∧(aG i.Op i.Reg).1.A≠10∧(aG i.Op i.Reg).1.A≠11)
  (reg:Int) (hg:grp i.Op.toNat=true→reg=i.Reg) :
  ∃ j,qx i.Op reg (aG i.Op i.Reg).1 (opd i (aG i.Op i.Reg).1.A) (opd i (aG i.Op i.Reg).1.B)=j∧okI j∧gZ j=true∧j.Op=i.Op∧j.Lock=false∧j.Rep=0∧j.Seg=0∧(j=i∨j.Mod<i.Mod∨(216≤i.Op∧i.Op≤223)):=by
 have hm0:=hm
 unfold gZ at hm
 simp only [Bool.and_eq_true] at hm
 obtain ⟨hr2,hs,hb,hp⟩:=hm
 have hr:=tq ho.1.1 ho.1.2 hr2
 generalize hrr:(aG i.Op i.Reg).1=r at *
 obtain ⟨hsel,h6,h8,h0⟩:=sx hr h9 hb
 have himm:(if isI r.B=true then i.Imm else if isI r.A=true then i.Imm else 0)=i.Imm:=by
  split
  ·rfl
  ·rename_i hB
   split
   ·rfl
   ·rename_i hA
    exact (h0 (by simpa using hA) (by simpa using hB)).symm
 unfold qx
 cases hmod:r.Mod with
 | false =>
  obtain ⟨z1,z2,z3,z4⟩:=wL hmod hs
  have hmd:=hr.md
  rw [hmod] at hmd
  have q:=hmd.symm
  simp only [Bool.or_eq_false_iff] at q
  obtain ⟨⟨⟨qa,qb⟩,ga⟩,gb⟩:=q
  rw [stp i _ ho (by omega) (fun h=>by rw [qa] at h; cases h) (fun h=>h6 (.inl h)),stp i _ ho (by omega) (fun h=>by rw [qb] at h; cases h) (fun h=>h6 (.inr h))]
  simp only [qa,qb,ga,gb,Bool.false_eq_true,if_false,himm]
  have er:qw i.Op reg r=0:=by unfold qw; rw [hmod]; rfl
  rw [er]
  have e:(⟨false,0,0,i.Op,0,0,0,0,i.Imm,0⟩:Inst)=i:=by
   show Inst.mk false 0 0 i.Op 0 0 0 0 i.Imm 0=Inst.mk i.Lock i.Rep i.Seg i.Op i.Mod i.Reg i.RM i.Disp i.Imm i.Sel
   rw [hl.1,hl.2.1,hl.2.2,z1,z2,z3,z4,hsel]
  exact ⟨_,e,ho,hm0,rfl,hl.1,hl.2.1,hl.2.2,.inl rfl⟩
 | true =>
  obtain ⟨⟨m0,m1⟩,⟨g0,g1⟩,⟨r0,r1⟩,h3,hd⟩:=(oi hmod).1 hs
  have d3:i.Mod=3→i.Disp=0:=fun e=>by rw [e] at hd; unfold qZ dp at hd; simpa using hd
  have hmm:=hr.mm hmod
  have k3:∀ k,(k=r.A∨k=r.B)→isM k=true→i.Mod=3→k=1∨k=2:=by
   intro k hk hM e
   obtain ⟨n1,n2,n3,n4⟩:=h3 e
   rcases oh hM with h | h | h | h
   ·exact .inl h
   ·exact .inr h
   ·rcases hk with h' | h' <;> omega
   ·rcases hk with h' | h' <;> omega
  rw [stp i _ ho r1 (fun h e=>⟨k3 _ (.inl rfl) h e,d3 e⟩) (fun h=>h6 (.inl h)),stp i _ ho r1 (fun h e=>⟨k3 _ (.inr rfl) h e,by
   have ha:isM r.A=false:=by rw [hmm,h]; rfl
   simp only [ha,Bool.false_eq_true,if_false]; exact d3 e⟩) (fun h=>h6 (.inr h))]
  simp only [himm]
  have eM:(if isM r.B=true then mN i else if isM r.A=true then mN i else 0)=mN i:=by rw [hmm]; cases isM r.B <;> rfl
  have eR:(if isM r.B=true then i.RM else if isM r.A=true then i.RM else 0)=i.RM:=by rw [hmm]; cases isM r.B <;> rfl
  have eD:(if isM r.B=true then i.Disp else if isM r.A=true then i.Disp else 0)=i.Disp:=by rw [hmm]; cases isM r.B <;> rfl
  rw [eM,eR,eD]
  obtain ⟨f1,f2,f3,f4⟩:=Ax i ho.2.1 ⟨m0,m1⟩ hd
  have fin:∀ R,(R=i.Reg∨(R=0∧grp i.Op.toNat=false∧216≤i.Op∧i.Op≤223))→∃ j,(⟨false,0,0,i.Op,mN i,R,i.RM,i.Disp,i.Imm,0⟩:Inst)=j∧okI j∧gZ j=true∧j.Op=i.Op∧j.Lock=false∧j.Rep=0∧j.Seg=0∧(j=i∨j.Mod<i.Mod∨(216≤i.Op∧i.Op≤223)):=by
   intro R hR
   have erow:aG i.Op R=aG i.Op i.Reg:=by
    rcases hR with rfl | ⟨rfl,hg0,_⟩
    ·rfl
    ·exact hr.ze hg0
   refine ⟨_,rfl,⟨ho.1,ho.2.1,ho.2.2.1,Int.le_refl 0,show (0:Int)≤65535 by decide⟩,?_,rfl,rfl,rfl,rfl,?_⟩
   ·unfold gZ
    show ((aG i.Op R).2 && (qp _ (aG i.Op R).1 && (nu _ (aG i.Op R).1 && Ae _ (aG i.Op R).1)))=true
    have eb:nu (⟨false,0,0,i.Op,mN i,R,i.RM,i.Disp,i.Imm,0⟩:Inst) r=true:=by
     rw [Cd (i:=i) (j:=⟨false,0,0,i.Op,mN i,R,i.RM,i.Disp,i.Imm,0⟩) r rfl hsel.symm]; exact hb
    rw [erow,hrr,hr2,eb]
    have:qp (⟨false,0,0,i.Op,mN i,R,i.RM,i.Disp,i.Imm,0⟩:Inst) r=true:=by
     rw [oi hmod]
     refine ⟨f2,?_,⟨r0,r1⟩,fun e=>h3 (f3 e),f4⟩
     rcases hR with rfl | ⟨rfl,_⟩
     ·exact ⟨g0,g1⟩
     ·exact ⟨Int.le_refl 0,show (0:Int)≤7 by decide⟩
    rw [this]
    rfl
   ·rcases hR with rfl | ⟨_,_,h⟩
    ·rcases f1 with h | h
     ·left
      show Inst.mk false 0 0 i.Op (mN i) i.Reg i.RM i.Disp i.Imm 0=Inst.mk i.Lock i.Rep i.Seg i.Op i.Mod i.Reg i.RM i.Disp i.Imm i.Sel
      rw [hl.1,hl.2.1,hl.2.2,h,hsel]
     ·exact .inr (.inl h)
    ·exact .inr (.inr h)
  refine fin _ ?_
  cases hgr:grp i.Op.toNat with
  | true =>
   obtain ⟨ga,gb⟩:=hr.gg hmod hgr
   left
   simp only [ga,gb,Bool.false_eq_true,if_false,qw,hmod,hgr,Bool.and_self,if_true]
   exact hg hgr
  | false =>
   have er:qw i.Op reg r=0:=by unfold qw; rw [hgr,Bool.and_false]; rfl
   rw [er]
   rcases hr.gn hmod hgr with h | h
   ·left; rw [h]; cases isG r.B <;> rfl
   ·cases isG r.B <;> cases isG r.A <;> simp [h]
theorem j19 (r:Row) (ops:A2 Operand) (n:Int) (hn:n=0∨n=1) (t:A2 Int) (b:Bool):∃ x,aO r ops n t n b=some x∧(x=.next (n+1)∨x=.out (.inl false))∧(b=false→x=.next (n+1)):=by
 have e:IntKind.wrap .i64 (n+1)=n+1:=bg (by omega) (by omega)
 have hz:∃ z,idx ops.l (IntKind.wrap .i64 (1 - n))=some z:=by rcases hn with rfl | rfl <;> exact ⟨_,rfl⟩
 obtain ⟨z,hz⟩:=hz
 unfold aO
 rw [e,hz,ql]
 cases b with
 | false=>exact ⟨_,rfl,.inl rfl,fun _=>rfl⟩
 | true =>
  simp only [if_true,Option.bind_some]
  cases (z.Kind != 1) <;> cases (z.Kind != 2) <;> cases (z.Kind != 3) <;> cases (ck r.B==0) <;> cases (r.B==15) <;>
   first | exact ⟨_,rfl,.inl rfl,fun h=>by cases h⟩ | exact ⟨_,rfl,.inr rfl,fun h=>by cases h⟩
theorem szl (r:Row) (ops:A2 Operand) (n:Int) (hn:n=0∨n=1) (k:Int) (o:Operand) (hk:idx (A2.l ({ a0:=r.A,a1:=r.B }:A2 Int)) n=some k) (ho:idx ops.l n=some o) :
  ∃ x,cI r ops ({ a0:=r.A,a1:=r.B }:A2 Int) n=some x∧(x=.next (n+1)∨x=.out (.inl false))∧(((k=1∨k=2∨k=19)→o.Kind=5→o.Type_≠0)→x=.next (n+1)):=by
 have hl:decide (n<2)=true:=by simp; omega
 unfold cI
 simp only [hl,if_true,hk,ho,Option.bind_some]
 have fin:∀ b:Bool,(b=true→(k=1∨k=2∨k=19)∧o.Kind=5∧o.Type_=0)→∃ x,aO r ops n ({ a0:=r.A,a1:=r.B }:A2 Int) n b=some x∧(x=.next (n+1)∨x=.out (.inl false))∧(((k=1∨k=2∨k=19)→o.Kind=5→o.Type_≠0)→x=.next (n+1)):=by
  intro b hb
  obtain ⟨x,h1,h2,h3⟩:=j19 r ops n hn ({ a0:=r.A,a1:=r.B }:A2 Int) b
  refine ⟨x,h1,h2,fun h=>h3 ?_⟩
  cases b with
  | false=>rfl
  | true=>obtain ⟨q1,q2,q3⟩:=hb rfl; exact absurd q3 (h q1 q2)
 repeat' split
 all_goals first
  | exact fin false (fun h=>by cases h)
  | (refine fin _ (fun h=>?_)
     simp only [beq_iff_eq] at *
     refine ⟨by omega,by assumption,h⟩)
theorem WD (r:Row) (ops:A2 Operand):∃ b,d7 r ops=some b∧(((r.A=1∨r.A=2∨r.A=19)→ops.a0.Kind=5→ops.a0.Type_≠0)→((r.B=1∨r.B=2∨r.B=19)→ops.a1.Kind=5→ops.a1.Type_≠0)→b=true):=by
 obtain ⟨x,h1,h2,h3⟩:=szl r ops 0 (.inl rfl) r.A ops.a0 rfl rfl
 obtain ⟨y,g1,g2,g3⟩:=szl r ops 1 (.inr rfl) r.B ops.a1 rfl rfl
 have l3:cI r ops ({ a0:=r.A,a1:=r.B }:A2 Int) 2=some (.out (.inr ())):=rfl
 unfold d7
 rcases h2 with rfl | rfl
 ·rcases g2 with rfl | rfl
  ·refine ⟨true,?_,fun _ _=>rfl⟩
   rw [bD,h1]
   simp only [Option.bind_some]
   rw [show (0:Int)+1=1 from rfl,bD,g1]
   simp only [Option.bind_some]
   rw [show (1:Int)+1=2 from rfl,bD,l3]
   rfl
  ·refine ⟨false,?_,fun _ h=>by cases g3 h⟩
   rw [bD,h1]
   simp only [Option.bind_some]
   rw [show (0:Int)+1=1 from rfl,bD,g1]
   rfl
 ·refine ⟨false,?_,fun h _=>by cases h3 h⟩
  rw [bD,h1]
  rfl
structure Same (i j:Inst):Prop where
 ok:okI j
 op:j.Op=i.Op
 lock:j.Lock=i.Lock
 rep:j.Rep=i.Rep
 seg:j.Seg=i.Seg
theorem uS {i:Inst} (h:okI i) (k:Int) (o:Operand):Same i (mD i k o)∧(isG k=false→(mD i k o).Reg=i.Reg):=by
 obtain ⟨h1,h2,h3,h4⟩:=h
 have hN:0≤o.V.N % 65536∧o.V.N % 65536≤65535:=by omega
 unfold mD
 repeat' split
 ·exact ⟨⟨⟨h1,h2,h3,h4⟩,rfl,rfl,rfl,rfl⟩,fun h=>by simp_all⟩
 ·exact ⟨⟨⟨h1,h2,h3,h4⟩,rfl,rfl,rfl,rfl⟩,fun _=>rfl⟩
 ·exact ⟨⟨⟨h1,hN,h3,h4⟩,rfl,rfl,rfl,rfl⟩,fun _=>rfl⟩
 ·exact ⟨⟨⟨h1,hN,h3,h4⟩,rfl,rfl,rfl,rfl⟩,fun _=>rfl⟩
 ·exact ⟨⟨⟨h1,h2,h3,h4⟩,rfl,rfl,rfl,rfl⟩,fun _=>rfl⟩
theorem uT {i:Inst} (h:okI i) (k:Int) (o:Operand):Same i (qv i k o)∧(qv i k o).Reg=i.Reg:=by
 obtain ⟨h1,h2,h3,h4⟩:=h
 have hN:0≤o.V.N % 65536∧o.V.N % 65536≤65535:=by omega
 have hM:0≤o.V.N % 65536 % 256∧o.V.N % 65536 % 256≤65535:=by omega
 unfold qv
 repeat' split
 ·exact ⟨⟨⟨h1,h2,hM,h4⟩,rfl,rfl,rfl,rfl⟩,rfl⟩
 ·exact ⟨⟨⟨h1,h2,hN,h4⟩,rfl,rfl,rfl,rfl⟩,rfl⟩
 ·exact ⟨⟨⟨h1,h2,h3,h4⟩,rfl,rfl,rfl,rfl⟩,rfl⟩
theorem Same.trans {i j k:Inst} (a:Same i j) (b:Same j k):Same i k:=⟨b.ok,b.op.trans a.op,b.lock.trans a.lock,b.rep.trans a.rep,b.seg.trans a.seg⟩
theorem Ay (first reg:Int) (h0:0≤first) (h1:first≤255) (r:Row) (a b:Operand):Same ⟨false,0,0,first,0,qw first reg r,0,0,0,0⟩ (qx first reg r a b)∧(isG r.A=false→isG r.B=false→(qx first reg r a b).Reg=qw first reg r):=by
 have k0:okI ⟨false,0,0,first,0,qw first reg r,0,0,0,0⟩:=⟨⟨h0,h1⟩,⟨Int.le_refl 0,show (0:Int)≤65535 by decide⟩,⟨Int.le_refl 0,show (0:Int)≤65535 by decide⟩,⟨Int.le_refl 0,show (0:Int)≤65535 by decide⟩⟩
 obtain ⟨s1,r1⟩:=uS k0 r.A a
 obtain ⟨s2,r2⟩:=uT s1.ok r.A a
 obtain ⟨s3,r3⟩:=uS s2.ok r.B b
 obtain ⟨s4,r4⟩:=uT s3.ok r.B b
 refine ⟨((s1.trans s2).trans s3).trans s4,fun ga gb=>?_⟩
 unfold qx
 rw [r4,r3 gb,r2,r1 ga]
def Good (name:Int) (c:Choice):Prop:=okI c.I∧gZ c.I=true∧c.I.Lock=false∧c.I.Rep=0∧c.I.Seg=0∧(aG c.I.Op c.I.Reg).1.Name=name
def okT (a b:Operand) (r:Row):Prop:=((r.A=1∨r.A=2∨r.A=19)→a.Kind=5→a.Type_≠0)∧((r.B=1∨r.B=2∨r.B=19)→b.Kind=5→b.Type_≠0)
theorem j27 (ops:A2 Operand) (out:List Choice) (name first reg t:Int) (h0:0≤first) (h1:first≤255) (hp:isP first.toNat=false) (hg:grp first.toNat=false→reg=0) (hl:out.length≤4096) (ht:0≤t∧t≤4096) :
  ∃ out',de ops out name first reg t=some (.next (out',t+1))∧(out'=out∨∃ c,out'=out++[c]∧Good name c) ∧
   ((aG first reg).2=true→(aG first reg).1.Name=name→(∀ l f,ftB (aG first reg).1.A ops.a0 first l f=true)→(∀ l f,ftB (aG first reg).1.B ops.a1 first l f=true)→okT ops.a0 ops.a1 (aG first reg).1 →
    gZ (qx first reg (aG first reg).1 ops.a0 ops.a1)=true→∃ c,out'=out++[c]∧Good name c∧c.I=qx first reg (aG first reg).1 ops.a0 ops.a1):=by
 have et:IntKind.wrap .i64 (t+1)=t+1:=bg (by omega) (by omega)
 have hof:gG first reg=some (aG first reg):=by
  obtain ⟨n,rfl⟩:∃ n:Nat,first=n:=⟨first.toNat,by omega⟩
  rw [xz n (by omega)]
  unfold aG
  simp only [Int.toNat_natCast] at hp ⊢
  rw [hp]; rfl
 unfold de
 rw [hof,Option.bind_some,et]
 cases h2:(aG first reg).2 with
 | false=>exact ⟨out,rfl,.inl rfl,fun h=>by cases h⟩
 | true =>
  have hr:=tq h0 h1 h2
  have hrr:(aG first reg)=((aG first reg).1,true):=by rw [← h2]
  generalize hR:(aG first reg).1=r at *
  simp only [Bool.not_true,Bool.false_eq_true,if_false]
  cases hn:(r.Name != name) with
  | true=>exact ⟨out,rfl,.inl rfl,fun _ h=>by simp [h] at hn⟩
  | false =>
   have hname:r.Name=name:=by simpa using hn
   obtain ⟨l1,f1,e1⟩:=CU r.A ops.a0 first
   obtain ⟨l2,f2,e2⟩:=CU r.B ops.a1 first
   obtain ⟨s,e3,hs⟩:=WD r ops
   obtain ⟨c,e4,hc⟩:=Wz first reg h0 h1 r ops
   obtain ⟨sm,hreg⟩:=Ay first reg h0 h1 r ops.a0 ops.a1
   rw [← hc] at sm hreg
   rw [e1,e2,e3,e4]
   simp only [Bool.false_eq_true,if_false,Option.bind_some,xC c.I sm.ok]
   cases hb1:ftB r.A ops.a0 first l1 f1 with
   | false=>exact ⟨out,rfl,.inl rfl,fun _ _ h=>by have:=h l1 f1; rw [this] at hb1; cases hb1⟩
   | true =>
    cases hb2:ftB r.B ops.a1 first l2 f2 with
    | false=>exact ⟨out,rfl,.inl rfl,fun _ _ _ h=>by have:=h l2 f2; rw [this] at hb2; cases hb2⟩
    | true =>
     cases s with
     | false=>exact ⟨out,rfl,.inl rfl,fun _ _ _ _ h=>by cases hs h.1 h.2⟩
     | true =>
      cases hm:gZ c.I with
      | false=>exact ⟨out,rfl,.inl rfl,fun _ _ _ _ _ h=>by rw [hc,h] at hm; cases hm⟩
      | true =>
       have hgood:Good name c:=by
        refine ⟨sm.ok,hm,sm.lock,sm.rep,sm.seg,?_⟩
        have hop:c.I.Op=first:=sm.op
        rw [hop]
        cases hgr:grp first.toNat with
        | true =>
         have hmod:r.Mod=true:=by
          cases hq:r.Mod with
          | true=>rfl
          | false=>have:=hr.ng hq; rw [hgr] at this; cases this
         obtain ⟨ga,gb⟩:=hr.gg hmod hgr
         have e5:c.I.Reg=reg:=by rw [hreg ga gb]; unfold qw; rw [hmod,hgr]; rfl
         rw [e5,hR]; exact hname
        | false =>
         have hz:=hg hgr
         have hm':=hm
         unfold gZ at hm'
         rw [hop] at hm'
         simp only [Bool.and_eq_true] at hm'
         have:=(tq h0 h1 hm'.1).ze hgr
         rw [← this,← hz,hR]; exact hname
       refine ⟨out++[c],?_,.inr ⟨c,rfl,hgood⟩,fun _ _ _ _ _ _=>⟨c,rfl,hgood,hc⟩⟩
       simp only [Bool.not_true,Bool.false_eq_true,if_false,if_true]
       rw [xu (by simp; omega) (by simp; omega)]; rfl
theorem sy (ops:A2 Operand) (out:List Choice) (name t:Int) (h0:0≤t) (h1:t<2048) (hl:out.length≤4096) :
  ∃ out',ci ops out name t=some (.next (out',t+1))∧(out'=out∨∃ c,out'=out++[c]∧Good name c) ∧
   (isP (t / 8).toNat=false→(grp (t / 8).toNat=false→t % 8=0)→(aG (t / 8) (t % 8)).2=true→(aG (t / 8) (t % 8)).1.Name=name→(∀ l f,ftB (aG (t / 8) (t % 8)).1.A ops.a0 (t / 8) l f=true)→(∀ l f,ftB (aG (t / 8) (t % 8)).1.B ops.a1 (t / 8) l f=true)→okT ops.a0 ops.a1 (aG (t / 8) (t % 8)).1 →
    gZ (qx (t / 8) (t % 8) (aG (t / 8) (t % 8)).1 ops.a0 ops.a1)=true→∃ c,out'=out++[c]∧Good name c∧c.I=qx (t / 8) (t % 8) (aG (t / 8) (t % 8)).1 ops.a0 ops.a1):=by
 have e7:ak .and .i64 t 7=t % 8:=nn t 3 (by omega)
 have e3:bd .i64 t 3=t / 8:=zd (j:=3) (by decide)
 have et:IntKind.wrap .i64 (t+1)=t+1:=bg (by omega) (by omega)
 have ew:IntKind.wrap .u8 (t / 8)=t / 8:=by rw [nt]; omega
 unfold ci
 rw [e7,e3,ew,et]
 obtain ⟨n,hn⟩:∃ n:Nat,t / 8=n:=⟨(t / 8).toNat,by omega⟩
 have hn':n<256:=by omega
 have hg:=qk ⟨n,hn'⟩
 have hp:=qj ⟨n,hn'⟩
 simp only at hg hp
 have hlt:decide (t<2048)=true:=by simpa using h1
 rw [hn,hg,hp,hlt]
 simp only [if_true,Option.bind_some,Int.toNat_natCast]
 cases hpp:isP n with
 | true =>
  simp only [if_true]
  cases decide (t % 8>0) <;> cases grp n <;> exact ⟨out,rfl,.inl rfl,fun h=>by cases h⟩
 | false =>
  simp only [Bool.false_eq_true,if_false]
  by_cases h8:t % 8>0
  ·have hd:decide (t % 8>0)=true:=by simpa using h8
   rw [hd]
   cases hgg:grp n with
   | false=>exact ⟨out,rfl,.inl rfl,fun _ h=>by have:=h rfl; omega⟩
   | true =>
    obtain ⟨o,q1,q2,q3⟩:=j27 ops out name (n:Int) (t % 8) t (by omega) (by omega) (by simpa using hpp) (by simp [hgg]) hl ⟨h0,by omega⟩
    exact ⟨o,q1,q2,fun _ _=>q3⟩
  ·have hd:decide (t % 8>0)=false:=by simpa using h8
   rw [hd]
   obtain ⟨o,q1,q2,q3⟩:=j27 ops out name (n:Int) (t % 8) t (by omega) (by omega) (by simpa using hpp) (fun _=>by omega) hl ⟨h0,by omega⟩
   exact ⟨o,q1,q2,fun _ _=>q3⟩
theorem uU (ops:A2 Operand) (name t0:Int) (P:Choice→Prop) (hP:∀ out out',ci ops out name t0=some (.next (out',t0+1))→out.length≤4096→∃ c,c ∈ out'∧P c) :
  ∀ (m:Nat) (t:Int) (out:List Choice),t+m=2048→0≤t→(out.length:Int)≤t→(∀ c ∈ out,Good name c)→(t0<t→∃ c ∈ out,P c) →
   ∃ o,cr (fun x:((List Choice) × Int)=>ci ops x.1 name x.2) (out,t)=some o∧o.length≤2048∧(∀ c ∈ o,Good name c)∧(t0<2048→∃ c ∈ o,P c)
 | 0,t,out,hm,h0,hl,hG,hp=>by
  obtain rfl:t=2048:=by omega
  have:ci ops out name 2048=some (.out out):=rfl
  exact ⟨out,by rw [bD,this]; rfl,by omega,hG,hp⟩
 | m+1,t,out,hm,h0,hl,hG,hp=>by
  obtain ⟨o,q1,q2,_⟩:=sy ops out name t h0 (by omega) (by omega)
  have hmem:∀ c ∈ out,c ∈ o:=by
   intro c hc
   rcases q2 with rfl | ⟨d,rfl,_⟩
   ·exact hc
   ·exact List.mem_append_left _ hc
  obtain ⟨o',r1,r2⟩:=uU ops name t0 P hP m (t+1) o (by omega) (by omega) (by
   rcases q2 with rfl | ⟨d,rfl,_⟩
   ·omega
   ·simp; omega) (by
   rcases q2 with rfl | ⟨d,rfl,hd⟩
   ·exact hG
   ·intro c hc
    rcases List.mem_append.1 hc with h | h
    ·exact hG c h
    ·rw [List.mem_singleton.1 h]; exact hd) (by
   intro hlt
   by_cases e:t0=t
   ·subst e
    obtain ⟨c,hc,hpc⟩:=hP out o q1 (by omega)
    exact ⟨c,hc,hpc⟩
   ·obtain ⟨c,hc,hpc⟩:=hp (by omega)
    exact ⟨c,hmem c hc,hpc⟩)
  refine ⟨o',?_,r2⟩
  rw [bD]
  simp only [q1,Option.bind_some]
  exact r1
def srt (l:List Choice):Nat→List Choice
 | 0=>[]
 | n+1=>srt l n++l.filter fun c=>fV c.I==((n+1:Nat):Int)
theorem tu (l:List Choice):∀ n,(srt l n).length≤n*l.length
 | 0=>by simp [srt]
 | n+1=>by
  have:=tu l n
  have h2:=List.length_filter_le (fun c:Choice=>fV c.I==((n+1:Nat):Int)) l
  simp only [srt,List.length_append,Nat.add_mul,Nat.one_mul]; omega
theorem pg (l:List Choice):∀ n c,c ∈ srt l n ↔ c ∈ l∧1≤fV c.I∧fV c.I≤n
 | 0,c=>by simp [srt]; intros; omega
 | n+1,c=>by
  simp only [srt,List.mem_append,pg l n c,List.mem_filter,beq_iff_eq]
  constructor
  ·rintro (⟨h1,h2,h3⟩ | ⟨h1,h2⟩)
   ·exact ⟨h1,h2,by omega⟩
   ·exact ⟨h1,by omega,by omega⟩
  ·rintro ⟨h1,h2,h3⟩
   by_cases e:fV c.I=((n+1:Nat):Int)
   ·exact .inr ⟨h1,e⟩
   ·exact .inl ⟨h1,h2,by omega⟩
theorem xG (l:List Choice):∀ n,(srt l n).Pairwise fun a b=>fV a.I≤fV b.I
 | 0=>List.Pairwise.nil
 | n+1=>by
  rw [srt,List.pairwise_append]
  refine ⟨xG l n,?_,?_⟩
  ·rw [List.pairwise_iff_forall_sublist]
   intro a b hab
   have ha:a ∈ l.filter fun c=>fV c.I==((n+1:Nat):Int):=hab.subset (by simp)
   have hb:b ∈ l.filter fun c=>fV c.I==((n+1:Nat):Int):=hab.subset (by simp)
   simp only [List.mem_filter,beq_iff_eq] at ha hb
   omega
  ·intro a ha b hb
   rw [pg] at ha
   simp only [List.mem_filter,beq_iff_eq] at hb
   omega
theorem qy {name:Int} {c:Choice} (h:Good name c):ed c.I=some (fV c.I):=by rw [B0 c.I h.1,h.2.1]; rfl
theorem Ce (l:List Choice) (name:Int) (hl:l.length≤2048) (hG:∀ c ∈ l,Good name c):dD l=some (srt l 12):=by
 have inner:∀ n:Nat,n<12→cr (fun x:((List Choice) × Int)=>bo x.1 l ((n+1:Nat):Int) l (l.length:Int) x.2) (srt l n,0)=some (srt l (n+1)):=by
  intro n hn
  have hsl:=tu l n
  have h12:n*l.length≤12*2048:=Nat.mul_le_mul (by omega) hl
  have:=qq l (fun xs=>(srt l n++xs.filter (fun c=>fV c.I==((n+1:Nat):Int)),(xs.length:Int))) (fun _=>True) (f:=fun x:((List Choice) × Int)=>bo x.1 l ((n+1:Nat):Int) l (l.length:Int) x.2) (srt l (n+1)) ?_ ?_ trivial
  ·simpa using this
  ·intro xs v ys hR _
   left
   refine ⟨?_,trivial⟩
   have hv:Good name v:=hG v (by rw [hR]; simp)
   have hx:=wI hR
   have hfl:=List.length_filter_le (fun c:Choice=>fV c.I==((n+1:Nat):Int)) xs
   unfold bo
   have hlt:decide ((xs.length:Int)<(l.length:Int))=true:=by simpa using hx
   simp only [hlt,if_true,tl hR,Option.bind_some,qy hv]
   rw [show IntKind.wrap .i64 ((xs.length:Int)+1)=((xs++[v]).length:Int) by rw [bg (by omega) (by omega)]; simp]
   have ef:([v].filter fun c=>fV c.I==((n+1:Nat):Int))=if (fV v.I==((n+1:Nat):Int))=true then [v] else []:=by
    rw [List.filter_cons]; rfl
   rw [List.filter_append,ef]
   cases hq:(fV v.I==((n+1:Nat):Int)) with
   | true =>
    simp only [if_true]
    rw [xu (by simp only [List.length_append,List.length_singleton]; omega) (by simp only [List.length_append,List.length_singleton]; omega),Option.bind_some,List.append_assoc]
   | false=>simp only [Bool.false_eq_true,if_false,List.append_nil]
  ·intro _
   unfold bo
   have:decide ((l.length:Int)<(l.length:Int))=false:=by simp
   simp only [this,Bool.false_eq_true,if_false]
   rfl
 have outer:∀ (m n:Nat),n+m=12→cr (fun x:((List Choice) × Int)=>bW x.1 l x.2) (srt l n,((n+1:Nat):Int))=some (srt l 12):=by
  intro m
  induction m with
  | zero =>
   intro n h
   obtain rfl:n=12:=by omega
   rw [bD]; rfl
  | succ m ih =>
   intro n h
   have hle:decide (((n+1:Nat):Int)≤12)=true:=by simp; omega
   have e:bW (srt l n) l ((n+1:Nat):Int)=some (.next (srt l (n+1),((n+1+1:Nat):Int))):=by
    unfold bW
    simp only [hle,if_true,inner n (by omega),Option.bind_some]
    rw [bg (by omega) (by omega)]; rfl
   rw [bD]
   simp only [e,Option.bind_some]
   exact ih (n+1) (by omega)
 unfold dD
 have:=outer 12 0 rfl
 rw [show ((([]:List Choice),(1:Int)))=(srt l 0,((0+1:Nat):Int)) from rfl,this]
 rfl
end Go.Es.Pko
