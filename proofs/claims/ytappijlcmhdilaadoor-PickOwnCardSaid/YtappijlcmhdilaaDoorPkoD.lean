/- How arguments are read. No condition. -/
import Derived.Test.YtappijlcmhdilaaDoorEsD
import Derived.Test.YtappijlcmhdilaaDoorChecked
import Derived.Test.YtappijlcmhdilaaDoorPkoP
import Derived.KernelRfl
set_option linter.unusedVariables false
set_option linter.unusedSimpArgs false
set_option maxRecDepth 100000
set_option maxHeartbeats 4000000
namespace Go.Es.Pko
open Go.Proofs
theorem ag3:Dec Tryd.prog 4 (fun b=>[.bool b]) (fun _=>True):=za (by kernel_rfl)
theorem zf:Dec Tryd.prog 3 (fun n=>[.int .i64 n]) (wfI .i64):=s9 (by kernel_rfl)
theorem ag4:Dec Tryd.prog 5 (fun n=>[.int .u8 n]) (wfI .u8):=s9 (by kernel_rfl)
theorem zg:Dec Tryd.prog 22 (fun n=>[.int .u16 n]) (wfI .u16):=s9 (by kernel_rfl)
theorem WK:Dec Tryd.prog 24 Inst.cs Inst.wf:=by
 intro l h
 obtain ⟨hl,hf⟩:=yk h (by kernel_rfl)
 have hl:l.length=10:=hl.trans (by kernel_rfl)
 match l,hl with
 | [c0,c1,c2,c3,c4,c5,c6,c7,c8,c9],_ =>
  obtain ⟨v0,e0,w0⟩:=ag3 _ (hf 4 0 1 (List.mem_of_getElem? (i:=0) (by kernel_rfl)) (by kernel_rfl))
  have e0:[c0]=[(.bool v0:D)]:=e0
  obtain rfl:=(List.cons.inj e0).1
  obtain ⟨v1,e1,w1⟩:=zf _ (hf 3 1 1 (List.mem_of_getElem? (i:=1) (by kernel_rfl)) (by kernel_rfl))
  have e1:[c1]=[(.int .i64 v1:D)]:=e1
  obtain rfl:=(List.cons.inj e1).1
  obtain ⟨v2,e2,w2⟩:=zf _ (hf 3 2 1 (List.mem_of_getElem? (i:=2) (by kernel_rfl)) (by kernel_rfl))
  have e2:[c2]=[(.int .i64 v2:D)]:=e2
  obtain rfl:=(List.cons.inj e2).1
  obtain ⟨v3,e3,w3⟩:=ag4 _ (hf 5 3 1 (List.mem_of_getElem? (i:=3) (by kernel_rfl)) (by kernel_rfl))
  have e3:[c3]=[(.int .u8 v3:D)]:=e3
  obtain rfl:=(List.cons.inj e3).1
  obtain ⟨v4,e4,w4⟩:=zf _ (hf 3 4 1 (List.mem_of_getElem? (i:=4) (by kernel_rfl)) (by kernel_rfl))
  have e4:[c4]=[(.int .i64 v4:D)]:=e4
  obtain rfl:=(List.cons.inj e4).1
  obtain ⟨v5,e5,w5⟩:=zf _ (hf 3 5 1 (List.mem_of_getElem? (i:=5) (by kernel_rfl)) (by kernel_rfl))
  have e5:[c5]=[(.int .i64 v5:D)]:=e5
  obtain rfl:=(List.cons.inj e5).1
  obtain ⟨v6,e6,w6⟩:=zf _ (hf 3 6 1 (List.mem_of_getElem? (i:=6) (by kernel_rfl)) (by kernel_rfl))
  have e6:[c6]=[(.int .i64 v6:D)]:=e6
  obtain rfl:=(List.cons.inj e6).1
  obtain ⟨v7,e7,w7⟩:=zg _ (hf 22 7 1 (List.mem_of_getElem? (i:=7) (by kernel_rfl)) (by kernel_rfl))
  have e7:[c7]=[(.int .u16 v7:D)]:=e7
  obtain rfl:=(List.cons.inj e7).1
  obtain ⟨v8,e8,w8⟩:=zg _ (hf 22 8 1 (List.mem_of_getElem? (i:=8) (by kernel_rfl)) (by kernel_rfl))
  have e8:[c8]=[(.int .u16 v8:D)]:=e8
  obtain rfl:=(List.cons.inj e8).1
  obtain ⟨v9,e9,w9⟩:=zg _ (hf 22 9 1 (List.mem_of_getElem? (i:=9) (by kernel_rfl)) (by kernel_rfl))
  have e9:[c9]=[(.int .u16 v9:D)]:=e9
  obtain rfl:=(List.cons.inj e9).1
  exact ⟨⟨v0,v1,v2,v3,v4,v5,v6,v7,v8,v9⟩,rfl,w0,w1,w2,w3,w4,w5,w6,w7,w8,w9⟩
theorem C7:WJ Tryd.prog 24 Inst.d Inst.wf:=zc (by kernel_rfl) WK
end Go.Es.Pko
