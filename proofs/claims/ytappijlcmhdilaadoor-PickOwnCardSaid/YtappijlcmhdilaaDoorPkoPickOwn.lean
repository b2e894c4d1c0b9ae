/- The law PickOwn holds, whatever its arguments are. No condition. -/
import Derived.Test.YtappijlcmhdilaaDoorCards
import Derived.Test.YtappijlcmhdilaaDoorTie
import Derived.SevenTiedAt
import Derived.LaidMore
import Derived.Stop.Joined
import Derived.ProofKit
import Derived.Test.YtappijlcmhdilaaDoorPkoS2
import Derived.Test.YtappijlcmhdilaaDoorPkoD
import Derived.Test.YtappijlcmhdilaaDoorPkoPickOwnH
import Derived.Test.YtappijlcmhdilaaDoorRows
import Derived.KernelRfl
import Derived.ProofKit
import Derived.WalkKit
import Derived.OpenShut
import Derived.ChangeOld
import Derived.SizedLaws
set_option linter.unusedVariables false
set_option linter.unusedSimpArgs false
set_option maxRecDepth 100000
set_option maxHeartbeats 4000000
namespace Go.Proofs.YtappijlcmhdilaaDoor.pickOwn
open Go.ChangeShapes Go.WideShapes Go.ChangeAt Go.WideMaps Go.WideElems Go.RowKit
open Go.Es Go.Es.Pko
theorem own:ownKnob Tryd.prog.godebug=none:=by kernel_rfl
theorem rows:(Tryd.f3.params.toList.all fun t=>Tryd.prog.readableRec t && decide (t<Tryd.prog.types.size) && ju Tryd.prog [24,4,3,5,22] t)=true:=by kernel_rfl
theorem answer (xs:List D) (h:DataOf Tryd.prog Tryd.f3.params.toList xs):∃ a,L 3 (xs.map T.d)=some (.d (.bool true),a):=by
 cases h with | cons q0 k0 =>
 cases k0
 obtain ⟨v0,rfl,w0⟩:=C7 _ q0.1 q0.2
 exact ⟨_,j8 v0 true (tw v0 w0)⟩
theorem gName:Tryd.prog.globalNamed "strings.asciiSpace"=some 0:=by kernel_rfl
theorem gType:(Tryd.prog.globals[0]?).map (·.type)=some 87:=by kernel_rfl
theorem ai7:Tryd.prog.underlying 87=some (.array 256 5):=by kernel_rfl
theorem ai8:Tryd.prog.underlying 5=some (.int .u8):=by kernel_rfl
theorem ai9:Tryd.prog.cellsOf 5=1:=by kernel_rfl
theorem Az (os:Os) (args:Array Value):laidMetH Tryd.prog Rows.pickOwnRow.laid ((World.doorLaid Tryd.prog 400 os).forCall (fun _ _=>0) ⟨#[],args,[]⟩).memory :=
 laidMetH_of_parts3 (fuel:=8) (laidMet_of_run' 8 (by kernel_rfl) (by kernel_rfl)) (by kernel_rfl) (by kernel_rfl)
theorem Cg {W:World} (h:laidMetH Tryd.prog Rows.pickOwnRow.laid W):mg1.le (mW W):=by
 rw [MakeChecks.laidMetH_plain _ _ _ (by kernel_rfl)] at h
 obtain ⟨ps,⟨_,_,_,_,_,_,_,_,_,_,⟨g0,t0,cs0,f0,p0,q0,hg0,ht0,hv0,hd0,_,_⟩,_⟩,_,_⟩:=h
 obtain rfl:=Option.some.inj (gName.symm.trans hg0)
 obtain rfl:=Option.some.inj (gType.symm.trans ht0)
 obtain ⟨xs,m1,rfl,hx1,hlen,hn3,hel⟩:=DataW.trod_array ai7 hd0
 have hx2:Rows.laid_strings_asciiSpace (H:=Unit)=.agg (xs.map (·.1)):=by simpa using congrArg Prod.fst hx1
 have hl:xs.map (·.1)=(([0,0,0,0,0,0,0,0,0,1,1,1,1,1,0,0,0,0,0,0,0,0,0,0,0,0,0,0,0,0,0,0,1,0,0,0,0,0,0,0,0,0,0,0,0,0,0,0,0,0,0,0,0,0,0,0,0,0,0,0,0,0,0,0,0,0,0,0,0,0,0,0,0,0,0,0,0,0,0,0,0,0,0,0,0,0,0,0,0,0,0,0,0,0,0,0,0,0,0,0,0,0,0,0,0,0,0,0,0,0,0,0,0,0,0,0,0,0,0,0,0,0,0,0,0,0,0,0,0,0,0,0,0,0,0,0,0,0,0,0,0,0,0,0,0,0,0,0,0,0,0,0,0,0,0,0,0,0,0,0,0,0,0,0,0,0,0,0,0,0,0,0,0,0,0,0,0,0,0,0,0,0,0,0,0,0,0,0,0,0,0,0,0,0,0,0,0,0,0,0,0,0,0,0,0,0,0,0,0,0,0,0,0,0,0,0,0,0,0,0,0,0,0,0,0,0,0,0,0,0,0,0,0,0,0,0,0,0,0,0,0,0,0,0,0,0,0,0,0,0,0,0,0,0,0,0]:List Int).map fun x=>DataW.lit (.int .u8 x)):=(DataW.agg.inj hx2).symm
 have key:∀ (j:Nat) (x:Int),([0,0,0,0,0,0,0,0,0,1,1,1,1,1,0,0,0,0,0,0,0,0,0,0,0,0,0,0,0,0,0,0,1,0,0,0,0,0,0,0,0,0,0,0,0,0,0,0,0,0,0,0,0,0,0,0,0,0,0,0,0,0,0,0,0,0,0,0,0,0,0,0,0,0,0,0,0,0,0,0,0,0,0,0,0,0,0,0,0,0,0,0,0,0,0,0,0,0,0,0,0,0,0,0,0,0,0,0,0,0,0,0,0,0,0,0,0,0,0,0,0,0,0,0,0,0,0,0,0,0,0,0,0,0,0,0,0,0,0,0,0,0,0,0,0,0,0,0,0,0,0,0,0,0,0,0,0,0,0,0,0,0,0,0,0,0,0,0,0,0,0,0,0,0,0,0,0,0,0,0,0,0,0,0,0,0,0,0,0,0,0,0,0,0,0,0,0,0,0,0,0,0,0,0,0,0,0,0,0,0,0,0,0,0,0,0,0,0,0,0,0,0,0,0,0,0,0,0,0,0,0,0,0,0,0,0,0,0,0,0,0,0,0,0,0,0,0,0,0,0,0,0,0,0,0,0]:List Int)[j]?=some x→W.cell? ⟨0,j,none⟩=some (.int .u8 x):=by
  intro j x hq
  have hj:j<256:=(List.getElem?_eq_some_iff.1 hq).1
  have h0:=hel j hj
  rw [List.getElem?_eq_getElem (by omega)] at h0
  obtain ⟨k,e1,e2,_⟩:=DataW.trod_int ai8 h0
  have h3:(xs.map (·.1))[j]?=some (.lit (.int .u8 k)):=by
   rw [List.getElem?_map,List.getElem?_eq_getElem (by omega)]
   simp only [Option.map_some]
   rw [e2]
  rw [ai9,Nat.mul_one] at e1
  have hc:=World.var?_cell hg0 hv0 j
  have h4:cs0.toList[j]?=some (.int .u8 k):=by
   have:=congrArg (fun l=>l[0]?) e1
   simpa [List.getElem?_take,List.getElem?_drop] using this
  rw [hl,List.getElem?_map,hq] at h3
  simp only [Option.map_some,Option.some.injEq,DataW.lit.injEq,Lit.int.injEq,true_and] at h3
  rw [hc,← Array.getElem?_toList,h4,h3]
 intro b o v h
 unfold mg1 at h
 split at h
 ·cases hq:(([0,0,0,0,0,0,0,0,0,1,1,1,1,1,0,0,0,0,0,0,0,0,0,0,0,0,0,0,0,0,0,0,1,0,0,0,0,0,0,0,0,0,0,0,0,0,0,0,0,0,0,0,0,0,0,0,0,0,0,0,0,0,0,0,0,0,0,0,0,0,0,0,0,0,0,0,0,0,0,0,0,0,0,0,0,0,0,0,0,0,0,0,0,0,0,0,0,0,0,0,0,0,0,0,0,0,0,0,0,0,0,0,0,0,0,0,0,0,0,0,0,0,0,0,0,0,0,0,0,0,0,0,0,0,0,0,0,0,0,0,0,0,0,0,0,0,0,0,0,0,0,0,0,0,0,0,0,0,0,0,0,0,0,0,0,0,0,0,0,0,0,0,0,0,0,0,0,0,0,0,0,0,0,0,0,0,0,0,0,0,0,0,0,0,0,0,0,0,0,0,0,0,0,0,0,0,0,0,0,0,0,0,0,0,0,0,0,0,0,0,0,0,0,0,0,0,0,0,0,0,0,0,0,0,0,0,0,0,0,0,0,0,0,0,0,0,0,0,0,0,0,0,0,0,0,0]:List Int)[o]?) with
  | none=>rw [hq] at h; cases h
  | some x =>
   rw [hq] at h
   have:=key o x hq
   cases h
   exact this
 ·cases h
set_option maxRecDepth 100000 in
theorem WE (os:Os) (started:os.Started) (H:Type) (enc:TypeId × Value→H) :
  ReturnsInHanded {} Tryd.checked os 3 .any (fun w args=>(Rows.pickOwnSpec.pre enc Tryd.prog Tryd.f3 [] false w args∧laidMetH Tryd.prog Rows.pickOwnRow.laid w)∧sizedMet enc Tryd.prog Tryd.f3 (OpenSpec.ofChange Rows.pickOwnSpec) false w args)
   (Rows.pickOwnSpec.post enc Tryd.prog Tryd.f3 false true false false):=by
 refine returnsInHanded_of_change_and (C:=Tryd.checked) (X:=fun w _=>laidMetH Tryd.prog Rows.pickOwnRow.laid w) (fun _ _ _ hh h=>h.of_heap hh) own started (by kernel_rfl) Tryd.func3
  (ChangeSpec.witness_shaped (enc:=enc) (C:=Tryd.checked) (os:=os) (X:=fun w _=>laidMetH Tryd.prog Rows.pickOwnRow.laid w) false (World.doorLaid Tryd.prog 400 os) #[.agg #[.bool false,.int .i64 0,.int .i64 0,.int .u8 0,.int .i64 0,.int .i64 0,.int .i64 0,.int .u16 0,.int .u16 0,.int .u16 0]] 8 rfl (World.shaped_of_RefB (by kernel_rfl) (by kernel_rfl)) (by kernel_rfl) (by kernel_rfl) (by kernel_rfl) (Az os _)) ?_
 intro W base args ds gs before hval hW _ _ hL _
 have hr:=rows
 simp only [List.all_eq_true,Bool.and_eq_true,decide_eq_true_eq] at hr
 refine wm (P:=Tryd.prog) (tb:=4) Tryd.func3 (by kernel_rfl) (by kernel_rfl) (by kernel_rfl) (fun t ht=>(hr t ht).1) (fun t ht=>(hr t ht).2) rfl (by kernel_rfl) (Wh 3) answer rfl ?_ hval hW (Cg hL)
 intro ds hds
 match ds,hds with
 | [d0],_=>rfl
theorem aja:Rows.pickOwnRow.holds Tryd.pinned (OpenSpec.ofChange Rows.pickOwnSpec) :=
 OpenClaim.holds_of_wide 3 Tryd.f3 rfl rfl rfl rfl rfl rfl rfl ⟨rfl,rfl,rfl,rfl,rfl⟩ rfl rfl rfl rfl rfl (by kernel_rfl) Tryd.func3 (by kernel_rfl)
  (of_decide_eq_true (by kernel_rfl)) (by unfold Func.isWrapper; first | (rw [if_pos (by decide +kernel)]; kernel_rfl) | (rw [if_neg (by decide +kernel)]; exact ⟨rfl,rfl⟩))
  (fun os started H enc _=>WE os started H enc)
theorem proved:Rows.PickOwnCardSaid :=
 Claim7.holds_tied_plain_at .later [] [.listed,.data] true (true, "bae11a2b511e12a64e529f55ccd808ad1302c1d37cbee54d647c8995aa8c5e47") false
  aja (fun _ h=>by cases h) (by kernel_rfl) (fun _ h=>by cases h) pickOwn_row_tie rfl ⟨rfl,rfl⟩ (by kernel_rfl) rfl
  (fun f fn hf hfn=>by
   obtain rfl:f=3:=Option.some.inj ((show Tryd.prog.funcNamed "hansom/hansomlaw34.PickOwn"=some 3 by kernel_rfl).symm.trans hf) |>.symm
   obtain rfl:fn=Tryd.f3:=(Option.some.inj (Tryd.func3.symm.trans hfn)).symm
   exact ⟨by kernel_rfl,fun j t ht=>by
    have hall:(Tryd.f3.params.toList.all fun u=>!Tryd.prog.wantsStandIn u)=true:=by kernel_rfl
    exact (show Tryd.prog.wantsStandIn t=false by simpa using List.all_eq_true.1 hall t (by simpa using Array.mem_of_getElem? ht))⟩)
  (by kernel_rfl)
#print axioms proved
end Go.Proofs.YtappijlcmhdilaaDoor.pickOwn
namespace Go.Proofs.YtappijlcmhdilaaDoor
theorem pickOwn_holds : Rows.PickOwnCardSaid := pickOwn.proved
end Go.Proofs.YtappijlcmhdilaaDoor
