/- The code of the functions that the statement IterSpreads reaches, as the interpreter reads it. No condition. -/
import Derived.Test.YtedmdailpfbboaaEsD
import Derived.Test.YtedmdailpfbboaaChecked
import Derived.KernelRfl
set_option linter.unusedVariables false
set_option linter.unusedSimpArgs false
set_option maxRecDepth 100000
set_option maxHeartbeats 4000000
namespace Go.Es.Its
open Go.Proofs
def F9o1 := [
 o3 2 (.box 3) [.t 0],
 o3 4 .mv [.b false]]
def F9o3 := [
 o3 9 (.load (some 3)) [.t 2],
 om 10 1,
 o3 11 (.bin .and) [.t 10, .i 3],
 o3 12 (.bin .add) [.t 11, .i 1],
 o3 13 (.callf 45) [.t 9, .t 12],
 o3 5 (.alloc [.d (.int .i64 0), .nils, .nils]) [],
 o0 (.store 3) [.t 5, .t 13]]
def F9o5 := [
 o3 14 (.load (some 3)) [.t 5],
 o3 15 (.callf 46) [.t 14],
 om 6 15]
def F9o7 := [
 o3 17 (.load (some 3)) [.t 5],
 o3 18 (.callf 47) [.t 17],
 om 16 18,
 oe 19 0 16,
 oe 20 1 16,
 om 7 19,
 om 8 20]
def F9o9 := [
 o3 21 (.callf 48) [],
 om 22 21,
 og 23 (.load (some 3)) [.t 5] 22 true,
 og 24 (.callf 49) [.t 23] 22 true,
 o3 25 .pick [.t 22, .t 24, .b false],
 om 26 25,
 og 27 .mv [.t 8] 26 true,
 o3 28 .pick [.t 26, .t 27, .b false],
 om 29 28,
 og 30 .mv [.t 7] 29 true,
 og 31 .bytesStr [.t 30] 29 true,
 og 32 .mv [.t 6] 29 true,
 og 33 (.bin .eql) [.t 31, .t 32] 29 true,
 o3 34 .pick [.t 29, .t 33, .b false],
 om 35 34,
 og 36 (.load (some 3)) [.t 5] 35 true,
 og 37 (.callf 50) [.t 36] 35 true,
 og 38 .mv [.t 6] 35 true,
 og 39 .lenS [.t 38] 35 true,
 og 40 (.bin .eql) [.t 37, .t 39] 35 true,
 o3 41 .pick [.t 35, .t 40, .b false],
 om 42 41,
 og 43 (.load (some 3)) [.t 5] 42 true,
  { dst := some 44, k := (.callf 51), xs := [.t 43], g := some (42, true), al := some [] },
  { dst := some 45, k := .bytesStr, xs := [.t 44], g := some (42, true), av := [[47]] },
  { dst := some 46, k := (.load (some 3)), xs := [.t 5], g := some (42, true), av := [[44]] },
  { dst := some 47, k := (.callf 52), xs := [.t 46], g := some (42, true), al := some [] },
 og 48 (.bin .eql) [.t 45, .t 47] 42 true,
 o3 49 .pick [.t 42, .t 48, .b false],
 om 4 49]
def F9c10 : Ac := .ret
def F9c8 : Ac := (so F9o9 F9c10)
def F9c6 : Ac := (so F9o7 F9c8)
def F9c4 : Ac := (so F9o5 F9c6)
def F9c2 : Ac := (so F9o3 F9c4)
def F9c0 : Ac := (so F9o1 F9c2)
/-- hansom/hansomlaw24.IterSpreads -/
def F9 : Fn := { np := 2, pb := [], rs := [.t 4], body := F9c0 }
def F18o1 := [
 o3 2 .mv [.c (.nils)]]
def F18o3 := [
 om 3 0,
 om 4 0,
 o3 5 .lenS [.t 4],
 o3 6 .mn [.t 5, .i 255],
 o3 7 (.substr false true) [.t 3, .t 6],
 om 0 7]
def F18o5 := [
 om 8 0,
 o3 9 .lenS [.t 8],
 o3 10 (.toInt .u8) [.t 9],
 o3 11 (.bslice (.int .u8 0) 1 [0]) [.t 10],
 om 12 0,
 o3 13 (.append 1 1 true) [.t 11, .t 12],
 om 2 13]
def F18c6 : Ac := (.seq (.gh [.frz 2]) .ret)
def F18c4 : Ac := (so F18o5 F18c6)
def F18c2 : Ac := (so F18o3 F18c4)
def F18c0 : Ac := (so F18o1 F18c2)
/-- hansom/index.Name -/
def F18 : Fn := { np := 1, pb := [], rs := [.t 2], body := F18c0 }
def F19o1 := [
 o3 2 .mv [.c (.d (.str []))]]
def F19o4 := [
 om 3 0,
 o3 4 .lenS [.t 3],
 o3 5 (.bin .gtr) [.t 4, .i 255]]
def F19o6 := [
 om 6 0,
 o3 7 (.substr false true) [.t 6, .i 255],
 om 0 7]
def F19c5 : Ac := (cd 5 (.ops F19o6) .skip)
def F19o9 := [
 om 8 0,
 o3 9 .lenS [.t 8],
 o3 10 (.toInt .u8) [.t 9],
 o3 11 (.bslice (.int .u8 0) 1 [0]) [.t 10],
 o3 12 .bytesStr [.t 11],
 om 13 0,
 o3 14 (.bin .add) [.t 12, .t 13],
 om 2 14]
def F19c10 : Ac := .ret
def F19c8 : Ac := (so F19o9 F19c10)
def F19c2 : Ac := (.seq (so F19o4 F19c5) F19c8)
def F19c0 : Ac := (so F19o1 F19c2)
/-- hansom/hansomref18.Name -/
def F19 : Fn := { np := 1, pb := [], rs := [.t 2], body := F19c0 }
def F20o1 := [
 o3 2 .mv [.c (.nils)]]
def F20o3 := [
 om 3 0,
 o3 4 (.callf 67) [.t 3],
 om 5 0,
 o3 6 (.callf 68) [.t 5],
 o3 7 (.bslice (.int .u8 0) 2 [0, 1]) [.t 4, .t 6],
 om 2 7]
def F20c4 : Ac := .ret
def F20c2 : Ac := (so F20o3 F20c4)
def F20c0 : Ac := (so F20o1 F20c2)
/-- hansom/index.Two -/
def F20 : Fn := { np := 1, pb := [], rs := [.t 2], body := F20c0 }
def F21o1 := [
 o3 4 .mv [.c (.d (.str []))]]
def F21o3 := [
 o3 5 .mv [.c (.d (.str []))]]
def F21o6 := [
 o3 6 .mv [.i 0]]
def F21o11 := [
 om 7 6,
 om 8 1,
 o3 9 (.bin .lss) [.t 7, .t 8]]
def F21c12 : Ac := (cd 9 .skip (.exit 0))
def F21o18 := [
 om 12 5,
 om 13 0,
 o3 14 (.bin .rem) [.t 13, .c (.d (.int .u64 256))],
 o3 15 (.toInt .u8) [.t 14],
 o3 16 (.bslice (.int .u8 0) 1 [0]) [.t 15],
 o3 17 .bytesStr [.t 16],
 o3 18 (.bin .add) [.t 12, .t 17],
 om 5 18]
def F21o19 := [
 om 19 0,
 o3 20 (.bin .quo) [.t 19, .c (.d (.int .u64 256))],
 om 0 20]
def F21c19 : Ac := (.ops F21o19)
def F21o20 := [
 om 10 6,
 o3 11 (.bin .add) [.t 10, .i 1],
 om 6 11]
def F21c20 : Ac := (.ops F21o20)
def F21c15 : Ac := (.seq (.block 1 (so F21o18 F21c19)) F21c20)
def F21l8 : Ac := (.seq (so F21o11 F21c12) F21c15)
def F21c7 : Ac := (.block 0 (.loop (.seq (.gh []) (.seq (.keep [0, 1, 5, 6] []) F21l8))))
def F21o22 := [
 om 21 5,
 om 4 21]
def F21c23 : Ac := .ret
def F21b21 : Ac := (so F21o22 F21c23)
def F21c21 : Ac := (.seq (.gh []) (.seq (.keep [5] []) F21b21))
def F21c4 : Ac := (.seq (so F21o6 F21c7) F21c21)
def F21c2 : Ac := (so F21o3 F21c4)
def F21c0 : Ac := (so F21o1 F21c2)
/-- hansom/hansomref18.Bytes -/
def F21 : Fn := { np := 2, pb := [], rs := [.t 4], body := F21c0 }
def F45o1 := [
 o3 2 (.box 3) [.t 0],
 o3 4 (.alloc [.d (.int .i64 0), .nils, .nils]) []]
def F45o3 := [
 o3 6 (.faddr 0) [.t 2],
 o3 7 (.load none) [.t 6],
 o3 8 (.bin .and) [.t 7, .i 3],
 o3 9 (.bin .add) [.t 8, .i 1],
 o3 10 (.faddr 0) [.t 4],
 o0 (.store 1) [.t 10, .t 9]]
def F45o6 := [
 om 11 1,
 o3 12 (.bin .gtr) [.t 11, .i 1],
 om 13 12,
 og 14 (.faddr 2) [.t 2] 13 true,
 og 15 (.load none) [.t 14] 13 true,
 og 16 .lenL [.t 15] 13 true,
 og 17 (.bin .gtr) [.t 16, .i 0] 13 true,
 o3 18 .pick [.t 13, .t 17, .b false]]
def F45o10 := [
 o3 5 .mv [.i 0]]
def F45o15 := [
 om 19 5,
 o3 20 (.faddr 2) [.t 2],
 o3 21 (.load none) [.t 20],
 o3 22 .lenL [.t 21],
 o3 23 (.bin .lss) [.t 19, .t 22],
 om 24 23,
 og 25 .mv [.t 5] 24 true,
 og 26 (.bin .lss) [.t 25, .i 3] 24 true,
 o3 27 .pick [.t 24, .t 26, .b false]]
def F45c16 : Ac := (cd 27 .skip (.exit 0))
def F45o21 := [
 o3 30 (.faddr 2) [.t 4],
  { dst := some 31, k := (.load none), xs := [.t 30], av := [[39], [40]] },
 o3 32 (.faddr 2) [.t 2],
 o3 33 (.load none) [.t 32],
 om 34 5,
 o3 35 (.iaddrS 3) [.t 33, .t 34],
 o3 36 (.load (some 3)) [.t 35],
 om 37 1,
 o3 38 (.bin .sub) [.t 37, .i 1],
  { dst := some 39, k := (.callf 45), xs := [.t 36, .t 38], al := some [] },
 o3 40 (.bslice (.agg [.int .i64 0, .sl [], .sl []]) 1 [0]) [.t 39],
 o3 41 (.append 3 56 false) [.t 31, .t 40],
 o3 42 (.faddr 2) [.t 4],
 o0 (.store 1) [.t 42, .t 41]]
def F45o22 := [
 om 28 5,
 o3 29 (.bin .add) [.t 28, .i 1],
 om 5 29]
def F45c22 : Ac := (.ops F45o22)
def F45c19 : Ac := (.seq (.block 1 (.ops F45o21)) F45c22)
def F45l12 : Ac := (.seq (so F45o15 F45c16) F45c19)
def F45c11 : Ac := (.block 0 (.loop (.seq (.gh []) (.seq (.keep [1, 2, 4, 5] [[2], [4], [902, 4]]) F45l12))))
def F45o24 := [
 o3 43 (.load (some 3)) [.t 4],
 o0 (.store 3) [.t 4, .t 43]]
def F45c25 : Ac := (.seq (.gh [.frzB [4] 1, .frzB [4] 2]) .ret)
def F45b23 : Ac := (so F45o24 F45c25)
def F45c23 : Ac := (.seq (.gh []) (.seq (.keep [4] [[4], [902, 4]]) F45b23))
def F45b7 : Ac := (cd 18 (.seq (so F45o10 F45c11) F45c23) .skip)
def F45c7 : Ac := (.seq (.gh []) (.seq (.keep [1, 2, 4, 18] [[2], [4], [902, 4]]) F45b7))
def F45o28 := [
 o3 44 (.faddr 0) [.t 2],
 o3 45 (.load none) [.t 44],
 o3 46 (.toInt .u8) [.t 45],
 o3 47 (.bslice (.int .u8 0) 1 [0]) [.t 46],
 o3 48 (.faddr 1) [.t 2],
  { dst := some 49, k := (.load none), xs := [.t 48], av := [[47]] },
 o3 50 (.faddr 1) [.t 2],
  { dst := some 51, k := (.load none), xs := [.t 50], av := [[47]] },
 o3 52 .lenL [.t 51],
 o3 53 .mn [.t 52, .i 5],
 o3 54 (.subsl 1 false true false) [.t 49, .t 53],
 o3 55 (.append 1 1 false) [.t 47, .t 54],
 o3 56 (.faddr 1) [.t 4],
 o0 (.store 1) [.t 56, .t 55]]
def F45o30 := [
 o3 57 (.load (some 3)) [.t 4],
 o0 (.store 3) [.t 4, .t 57]]
def F45c31 : Ac := (.seq (.gh [.frzB [4] 1, .frzB [4] 2]) .ret)
def F45c29 : Ac := (so F45o30 F45c31)
def F45c27 : Ac := (so F45o28 F45c29)
def F45c4 : Ac := (.seq (so F45o6 F45c7) F45c27)
def F45b2 : Ac := (so F45o3 F45c4)
def F45c2 : Ac := (.seq (.gh [.ownB [4] 2 [902, 4] 3]) (.seq (.keep [1, 2, 4] [[2], [4], [902, 4]]) F45b2))
def F45c0 : Ac := (so F45o1 F45c2)
/-- hansom/hansomref24.Near -/
def F45 : Fn := { np := 2, pb := [], rs := [.c 4 (some 3)], body := F45c0 }
def F46o1 := [
 o3 1 (.box 3) [.t 0],
 o3 2 .mv [.c (.d (.str []))]]
def F46o3 := [
 o3 7 (.faddr 1) [.t 1],
 o3 8 (.load none) [.t 7],
 o3 9 .bytesStr [.t 8],
 om 3 9,
 o3 4 .mv [.c (.d (.str []))]]
def F46o6 := [
 o3 5 .mv [.i 0]]
def F46o11 := [
 om 10 5,
 o3 11 (.faddr 2) [.t 1],
 o3 12 (.load none) [.t 11],
 o3 13 .lenL [.t 12],
 o3 14 (.bin .lss) [.t 10, .t 13]]
def F46c12 : Ac := (cd 14 .skip (.exit 0))
def F46o17 := [
 om 17 3,
 o3 18 (.faddr 2) [.t 1],
 o3 19 (.load none) [.t 18],
 om 20 5,
 o3 21 (.iaddrS 3) [.t 19, .t 20],
 o3 22 (.load (some 3)) [.t 21],
 o3 23 (.callf 46) [.t 22],
 o3 24 (.bin .add) [.t 17, .t 23],
 om 3 24]
def F46o18 := [
 om 15 5,
 o3 16 (.bin .add) [.t 15, .i 1],
 om 5 16]
def F46c18 : Ac := (.ops F46o18)
def F46c15 : Ac := (.seq (.block 1 (.ops F46o17)) F46c18)
def F46l8 : Ac := (.seq (so F46o11 F46c12) F46c15)
def F46c7 : Ac := (.block 0 (.loop (.seq (.gh []) (.seq (.keep [1, 3, 4, 5] [[1]]) F46l8))))
def F46o21 := [
 o3 6 .mv [.i 0]]
def F46o26 := [
 om 25 6,
 o3 26 (.faddr 0) [.t 1],
 o3 27 (.load none) [.t 26],
 o3 28 (.bin .lss) [.t 25, .t 27]]
def F46c27 : Ac := (cd 28 .skip (.exit 2))
def F46o32 := [
 om 31 4,
 om 32 3,
 o3 33 (.bin .add) [.t 31, .t 32],
 om 4 33]
def F46o33 := [
 om 29 6,
 o3 30 (.bin .add) [.t 29, .i 1],
 om 6 30]
def F46c33 : Ac := (.ops F46o33)
def F46c30 : Ac := (.seq (.block 3 (.ops F46o32)) F46c33)
def F46l23 : Ac := (.seq (so F46o26 F46c27) F46c30)
def F46c22 : Ac := (.block 2 (.loop (.seq (.gh []) (.seq (.keep [1, 3, 4, 6] [[1]]) F46l23))))
def F46o35 := [
 om 34 4,
 om 2 34]
def F46c36 : Ac := .ret
def F46b34 : Ac := (so F46o35 F46c36)
def F46c34 : Ac := (.seq (.gh []) (.seq (.keep [4] []) F46b34))
def F46b19 : Ac := (.seq (so F46o21 F46c22) F46c34)
def F46c19 : Ac := (.seq (.gh []) (.seq (.keep [1, 3, 4] [[1]]) F46b19))
def F46c4 : Ac := (.seq (so F46o6 F46c7) F46c19)
def F46c2 : Ac := (so F46o3 F46c4)
def F46c0 : Ac := (so F46o1 F46c2)
/-- hansom/hansomref24.Spread -/
def F46 : Fn := { np := 1, pb := [], rs := [.t 2], body := F46c0 }
def F47o1 := [
 o3 1 (.box 3) [.t 0],
 o3 2 .mv [.c (.nils)],
 o3 3 .mv [.b false]]
def F47o4 := [
 o3 9 (.load (some 3)) [.t 1],
 o3 10 (.callf 49) [.t 9],
 o3 11 (.un .not) [.t 10],
 om 12 11,
 og 13 (.load (some 3)) [.t 1] 12 false,
 og 14 (.callf 50) [.t 13] 12 false,
 og 15 (.bin .gtr) [.t 14, .i 65536] 12 false,
 o3 16 .pick [.t 12, .b true, .t 15]]
def F47o7 := [
 o3 2 .mv [.c (.nils)],
 o3 3 .mv [.b false]]
def F47c8 : Ac := (.seq (.gh [.frz 2]) .ret)
def F47c5 : Ac := (cd 16 (so F47o7 F47c8) .skip)
def F47o11 := [
 o3 17 (.faddr 1) [.t 1],
 o3 18 (.load none) [.t 17],
 o3 19 (.callf 70) [.t 18],
 om 4 19]
def F47o14 := [
 o3 20 (.faddr 2) [.t 1],
 o3 21 (.load none) [.t 20],
 o3 22 .lenL [.t 21],
 o3 23 .mv [.i 0]]
def F47o18 := [
 o3 24 (.bin .lss) [.t 23, .t 22]]
def F47o26 := [
 o3 25 (.iaddrS 3) [.t 21, .t 23],
 o3 26 (.load (some 3)) [.t 25],
 o3 6 (.alloc [.d (.int .i64 0), .nils, .nils]) [],
 o0 (.store 3) [.t 6, .t 26]]
def F47o28 := [
 o3 28 (.load (some 3)) [.t 6],
 o3 29 (.callf 47) [.t 28],
 om 27 29,
 oe 30 0 27,
 oe 31 1 27,
 om 7 30,
 om 8 31]
def F47o29 := [
 om 32 4,
 om 33 7,
 o3 34 (.append 1 1 false) [.t 32, .t 33],
 om 4 34]
def F47c29 : Ac := (.ops F47o29)
def F47c27 : Ac := (so F47o28 F47c29)
def F47o30 := [
 o3 35 (.bin .add) [.t 23, .i 1],
 om 23 35]
def F47c30 : Ac := (.ops F47o30)
def F47c23 : Ac := (.seq (.block 1 (so F47o26 F47c27)) F47c30)
def F47c19 : Ac := (.seq (cd 24 .skip (.exit 0)) F47c23)
def F47l16 : Ac := (so F47o18 F47c19)
def F47c15 : Ac := (.block 0 (.loop (.seq (.gh []) (.seq (.keep [1, 4, 21, 22, 23] [[1], [19]]) F47l16))))
def F47o32 := [
 om 36 4,
 o3 37 (.faddr 0) [.t 1],
 o3 38 (.load none) [.t 37],
 o3 39 (.callf 71) [.t 36, .t 38],
 om 2 39,
 o3 3 .mv [.b true]]
def F47c33 : Ac := .ret
def F47b31 : Ac := (so F47o32 F47c33)
def F47c31 : Ac := (.seq (.gh []) (.seq (.keep [1, 4] [[1], [19]]) F47b31))
def F47c12 : Ac := (.seq (so F47o14 F47c15) F47c31)
def F47c10 : Ac := (so F47o11 F47c12)
def F47c2 : Ac := (.seq (so F47o4 F47c5) F47c10)
def F47c0 : Ac := (so F47o1 F47c2)
/-- hansom/iter.Spread -/
def F47 : Fn := { np := 1, pb := [], rs := [.t 2, .t 3], body := F47c0 }
def F49o1 := [
 o3 1 (.box 3) [.t 0],
 o3 2 .mv [.b false]]
def F49o3 := [
 o3 3 (.load (some 3)) [.t 1],
 o3 4 (.callf 72) [.t 3, .i 1],
 om 2 4]
def F49c4 : Ac := .ret
def F49c2 : Ac := (so F49o3 F49c4)
def F49c0 : Ac := (so F49o1 F49c2)
/-- hansom/iter.May -/
def F49 : Fn := { np := 1, pb := [], rs := [.t 2], body := F49c0 }
def F50o1 := [
 o3 1 (.box 3) [.t 0],
 o3 2 .mv [.i 0]]
def F50o3 := [
 o3 6 (.faddr 1) [.t 1],
 o3 7 (.load none) [.t 6],
 o3 8 .lenL [.t 7],
 om 3 8]
def F50o6 := [
 o3 9 (.faddr 2) [.t 1],
 o3 10 (.load none) [.t 9],
 o3 11 .lenL [.t 10],
 o3 12 .mv [.i 0]]
def F50o10 := [
 o3 13 (.bin .lss) [.t 12, .t 11]]
def F50o18 := [
 o3 14 (.iaddrS 3) [.t 10, .t 12],
 o3 15 (.load (some 3)) [.t 14],
 o3 5 (.alloc [.d (.int .i64 0), .nils, .nils]) [],
 o0 (.store 3) [.t 5, .t 15]]
def F50o19 := [
 om 16 3,
 o3 17 (.load (some 3)) [.t 5],
 o3 18 (.callf 50) [.t 17],
 o3 19 (.bin .add) [.t 16, .t 18],
 o3 20 .mn [.t 19, .i 65537],
 om 3 20]
def F50c19 : Ac := (.ops F50o19)
def F50o20 := [
 o3 21 (.bin .add) [.t 12, .i 1],
 om 12 21]
def F50c20 : Ac := (.ops F50o20)
def F50c15 : Ac := (.seq (.block 1 (so F50o18 F50c19)) F50c20)
def F50c11 : Ac := (.seq (cd 13 .skip (.exit 0)) F50c15)
def F50l8 : Ac := (so F50o10 F50c11)
def F50c7 : Ac := (.block 0 (.loop (.seq (.gh []) (.seq (.keep [1, 3, 10, 11, 12] [[1]]) F50l8))))
def F50o22 := [
 om 22 3,
 o3 23 (.faddr 0) [.t 1],
 o3 24 (.load none) [.t 23],
 o3 25 .mx [.t 24, .i 0],
 o3 26 .mn [.t 25, .i 65537],
 o3 27 (.bin .mul) [.t 22, .t 26],
 o3 28 .mn [.t 27, .i 65537],
 om 2 28]
def F50c23 : Ac := .ret
def F50b21 : Ac := (so F50o22 F50c23)
def F50c21 : Ac := (.seq (.gh []) (.seq (.keep [1, 3] [[1]]) F50b21))
def F50c4 : Ac := (.seq (so F50o6 F50c7) F50c21)
def F50c2 : Ac := (so F50o3 F50c4)
def F50c0 : Ac := (so F50o1 F50c2)
/-- hansom/iter.Size -/
def F50 : Fn := { np := 1, pb := [], rs := [.t 2], body := F50c0 }
def F51o1 := [
 o3 1 (.box 3) [.t 0],
 o3 2 .mv [.c (.nils)]]
def F51o3 := [
 o3 6 (.faddr 0) [.t 1],
 o3 7 (.load none) [.t 6],
 o3 8 (.toInt .u16) [.t 7],
  { dst := some 9, k := (.callf 20), xs := [.t 8], al := some [] },
 o3 10 (.faddr 2) [.t 1],
  { dst := some 11, k := (.load none), xs := [.t 10], av := [[9]] },
 o3 12 .lenL [.t 11],
 o3 13 (.toInt .u16) [.t 12],
 o3 14 (.callf 20) [.t 13],
 o3 15 (.append 1 1 false) [.t 9, .t 14],
 om 3 15]
def F51o6 := [
 o3 16 (.faddr 2) [.t 1],
 o3 17 (.load none) [.t 16],
 o3 18 .lenL [.t 17],
 o3 19 (.bin .eql) [.t 18, .i 0]]
def F51o9 := [
 om 20 3,
 o3 21 (.faddr 1) [.t 1],
 o3 22 (.load none) [.t 21],
 o3 23 .bytesStr [.t 22],
 o3 24 (.callf 18) [.t 23],
 o3 25 (.append 1 1 false) [.t 20, .t 24],
 om 2 25]
def F51c10 : Ac := (.seq (.gh [.frz 2]) .ret)
def F51c7 : Ac := (cd 19 (so F51o9 F51c10) .skip)
def F51o14 := [
 o3 26 (.faddr 2) [.t 1],
 o3 27 (.load none) [.t 26],
 o3 28 .lenL [.t 27],
 o3 29 .mv [.i 0]]
def F51o18 := [
 o3 30 (.bin .lss) [.t 29, .t 28]]
def F51o26 := [
 o3 31 (.iaddrS 3) [.t 27, .t 29],
 o3 32 (.load (some 3)) [.t 31],
 o3 5 (.alloc [.d (.int .i64 0), .nils, .nils]) [],
 o0 (.store 3) [.t 5, .t 32]]
def F51o27 := [
 om 33 3,
 o3 34 (.load (some 3)) [.t 5],
 o3 35 (.callf 51) [.t 34],
 o3 36 (.append 1 1 false) [.t 33, .t 35],
 om 3 36]
def F51c27 : Ac := (.ops F51o27)
def F51o28 := [
 o3 37 (.bin .add) [.t 29, .i 1],
 om 29 37]
def F51c28 : Ac := (.ops F51o28)
def F51c23 : Ac := (.seq (.block 1 (so F51o26 F51c27)) F51c28)
def F51c19 : Ac := (.seq (cd 30 .skip (.exit 0)) F51c23)
def F51l16 : Ac := (so F51o18 F51c19)
def F51c15 : Ac := (.block 0 (.loop (.seq (.gh []) (.seq (.keep [3, 27, 28, 29] [[9]]) F51l16))))
def F51o30 := [
 om 38 3,
 om 2 38]
def F51c31 : Ac := (.seq (.gh [.frz 2]) .ret)
def F51b29 : Ac := (so F51o30 F51c31)
def F51c29 : Ac := (.seq (.gh []) (.seq (.keep [3] [[9]]) F51b29))
def F51c12 : Ac := (.seq (so F51o14 F51c15) F51c29)
def F51c4 : Ac := (.seq (so F51o6 F51c7) F51c12)
def F51c2 : Ac := (so F51o3 F51c4)
def F51c0 : Ac := (so F51o1 F51c2)
/-- hansom/iter.Put -/
def F51 : Fn := { np := 1, pb := [], rs := [.t 2], body := F51c0 }
def F52o1 := [
 o3 1 (.box 3) [.t 0],
 o3 2 .mv [.c (.d (.str []))]]
def F52o3 := [
 o3 5 (.faddr 0) [.t 1],
 o3 6 (.load none) [.t 5],
 o3 7 (.toInt .u64) [.t 6],
  { dst := some 8, k := (.callf 21), xs := [.t 7, .i 2], al := some [] },
 o3 9 (.faddr 2) [.t 1],
  { dst := some 10, k := (.load none), xs := [.t 9], av := [[8]] },
 o3 11 .lenL [.t 10],
 o3 12 (.toInt .u64) [.t 11],
 o3 13 (.callf 21) [.t 12, .i 2],
 o3 14 (.bin .add) [.t 8, .t 13],
 om 3 14]
def F52o6 := [
 o3 15 (.faddr 2) [.t 1],
 o3 16 (.load none) [.t 15],
 o3 17 .lenL [.t 16],
 o3 18 (.bin .eql) [.t 17, .i 0]]
def F52o9 := [
 om 19 3,
 o3 20 (.faddr 1) [.t 1],
 o3 21 (.load none) [.t 20],
 o3 22 .bytesStr [.t 21],
 o3 23 (.callf 19) [.t 22],
 o3 24 (.bin .add) [.t 19, .t 23],
 om 2 24]
def F52c10 : Ac := .ret
def F52c7 : Ac := (cd 18 (so F52o9 F52c10) .skip)
def F52o14 := [
 o3 4 .mv [.i 0]]
def F52o19 := [
 om 25 4,
 o3 26 (.faddr 2) [.t 1],
 o3 27 (.load none) [.t 26],
 o3 28 .lenL [.t 27],
 o3 29 (.bin .lss) [.t 25, .t 28]]
def F52c20 : Ac := (cd 29 .skip (.exit 0))
def F52o25 := [
 om 32 3,
 o3 33 (.faddr 2) [.t 1],
 o3 34 (.load none) [.t 33],
 om 35 4,
 o3 36 (.iaddrS 3) [.t 34, .t 35],
 o3 37 (.load (some 3)) [.t 36],
 o3 38 (.callf 52) [.t 37],
 o3 39 (.bin .add) [.t 32, .t 38],
 om 3 39]
def F52o26 := [
 om 30 4,
 o3 31 (.bin .add) [.t 30, .i 1],
 om 4 31]
def F52c26 : Ac := (.ops F52o26)
def F52c23 : Ac := (.seq (.block 1 (.ops F52o25)) F52c26)
def F52l16 : Ac := (.seq (so F52o19 F52c20) F52c23)
def F52c15 : Ac := (.block 0 (.loop (.seq (.gh []) (.seq (.keep [1, 3, 4] [[1]]) F52l16))))
def F52o28 := [
 om 40 3,
 om 2 40]
def F52c29 : Ac := .ret
def F52b27 : Ac := (so F52o28 F52c29)
def F52c27 : Ac := (.seq (.gh []) (.seq (.keep [3] []) F52b27))
def F52c12 : Ac := (.seq (so F52o14 F52c15) F52c27)
def F52c4 : Ac := (.seq (so F52o6 F52c7) F52c12)
def F52c2 : Ac := (so F52o3 F52c4)
def F52c0 : Ac := (so F52o1 F52c2)
/-- hansom/hansomref24.Put -/
def F52 : Fn := { np := 1, pb := [], rs := [.t 2], body := F52c0 }
def F67o1 := [
 o3 2 .mv [.y 0]]
def F67o3 := [
 om 3 0,
 o3 4 (.toInt .u8) [.t 3],
 om 2 4]
def F67c4 : Ac := .ret
def F67c2 : Ac := (so F67o3 F67c4)
def F67c0 : Ac := (so F67o1 F67c2)
/-- hansom/bits.Low -/
def F67 : Fn := { np := 1, pb := [], rs := [.t 2], body := F67c0 }
def F68o1 := [
 o3 2 .mv [.y 0]]
def F68o3 := [
 om 3 0,
 o3 4 (.bin .shr) [.t 3, .c (.d (.int .u64 8))],
 o3 5 (.toInt .u8) [.t 4],
 om 2 5]
def F68c4 : Ac := .ret
def F68c2 : Ac := (so F68o3 F68c4)
def F68c0 : Ac := (so F68o1 F68c2)
/-- hansom/bits.High -/
def F68 : Fn := { np := 1, pb := [], rs := [.t 2], body := F68c0 }
def F70o1 := [
 o3 2 .mv [.c (.nils)]]
def F70o4 := [
 om 3 0,
 o3 4 (.nilS false) [.t 3, .c (.nils)]]
def F70o7 := [
 o3 2 .mv [.c (.nils)]]
def F70c8 : Ac := (.seq (.gh [.own 2 [2] 1]) .ret)
def F70c5 : Ac := (cd 4 (so F70o7 F70c8) .skip)
def F70o11 := [
 o3 5 (.bslice (.int .u8 0) 0 []) [],
 om 6 0,
 o3 7 (.append 1 1 false) [.t 5, .t 6],
 om 2 7]
def F70c12 : Ac := .ret
def F70c10 : Ac := (so F70o11 F70c12)
def F70c2 : Ac := (.seq (so F70o4 F70c5) F70c10)
def F70c0 : Ac := (so F70o1 F70c2)
/-- slices.Clone[[]byte,byte] -/
def F70 : Fn := { np := 1, sp := true, pb := [], rs := [.t 2], body := F70c0 }
def F71o1 := [
 o3 4 .mv [.c (.nils)]]
def F71o4 := [
 om 9 1,
 o3 10 (.bin .lss) [.t 9, .i 0]]
def F71c5 : Ac := (cd 10 deadA .skip)
def F71o9 := [
 om 13 0,
 o3 14 .lenL [.t 13],
 o3 15 (.toInt .u64) [.t 14],
 om 16 1,
 o3 17 (.toInt .u64) [.t 16],
 o3 18 (.callf 74) [.t 15, .t 17],
 om 12 18,
 oe 19 0 12,
 oe 20 1 12,
 om 5 19,
 om 6 20]
def F71o12 := [
 om 21 5,
 o3 22 (.bin .gtr) [.t 21, .c (.d (.int .u64 0))],
 om 23 22,
 og 24 .mv [.t 6] 23 false,
 og 25 (.bin .gtr) [.t 24, .c (.d (.int .u64 9223372036854775807))] 23 false,
 o3 26 .pick [.t 23, .b true, .t 25]]
def F71c13 : Ac := (cd 26 deadA .skip)
def F71o17 := [
 om 28 6,
 o3 29 (.toInt .i64) [.t 28],
 o3 30 (.mkslice (.int .u8 0) 1) [.t 29, .t 29],
 om 7 30]
def F71o19 := [
 om 31 7,
 om 32 0,
 o3 33 (.copy 1 false) [.t 31, .t 32],
 om 8 33]
def F71o25 := [
 om 34 8,
 om 35 7,
 o3 36 .lenL [.t 35],
 o3 37 (.bin .lss) [.t 34, .t 36]]
def F71c26 : Ac := (cd 37 .skip (.exit 0))
def F71o30 := [
 om 38 8,
 om 39 7,
 om 40 8,
 o3 41 (.subsl 1 true false false) [.t 39, .t 40],
 om 42 7,
 om 43 8,
 o3 44 (.subsl 1 false true false) [.t 42, .t 43],
 o3 45 (.copy 1 false) [.t 41, .t 44],
 o3 46 (.bin .add) [.t 38, .t 45],
 om 8 46]
def F71c29 : Ac := (.block 1 (.ops F71o30))
def F71l22 : Ac := (.seq (so F71o25 F71c26) F71c29)
def F71o32 := [
 om 47 7,
 om 4 47]
def F71c33 : Ac := (.seq (.gh [.frz 4]) .ret)
def F71b31 : Ac := (so F71o32 F71c33)
def F71c31 : Ac := (.seq (.gh []) (.seq (.keep [7] [[30]]) F71b31))
def F71c20 : Ac := (.seq (.block 0 (.loop (.seq (.gh []) (.seq (.keep [7, 8] [[30]]) F71l22)))) F71c31)
def F71c18 : Ac := (so F71o19 F71c20)
def F71c16 : Ac := (so F71o17 F71c18)
def F71c10 : Ac := (.seq (so F71o12 F71c13) F71c16)
def F71c8 : Ac := (so F71o9 F71c10)
def F71c2 : Ac := (.seq (so F71o4 F71c5) F71c8)
def F71c0 : Ac := (so F71o1 F71c2)
/-- slices.Repeat[[]byte,byte] -/
def F71 : Fn := { np := 2, pb := [], rs := [.t 4], body := F71c0 }
def F72o1 := [
 o3 2 (.box 3) [.t 0],
 o3 4 .mv [.b false]]
def F72o4 := [
 om 7 1,
 o3 8 (.bin .gtr) [.t 7, .i 8],
 om 9 8,
 og 10 (.faddr 0) [.t 2] 9 false,
 og 11 (.load none) [.t 10] 9 false,
 og 12 (.bin .lss) [.t 11, .i 1] 9 false,
 o3 13 .pick [.t 9, .b true, .t 12],
 om 14 13,
 og 15 (.faddr 0) [.t 2] 14 false,
 og 16 (.load none) [.t 15] 14 false,
 og 17 (.bin .gtr) [.t 16, .i 65535] 14 false,
 o3 18 .pick [.t 14, .b true, .t 17],
 om 19 18,
 og 20 (.faddr 2) [.t 2] 19 false,
 og 21 (.load none) [.t 20] 19 false,
 og 22 .lenL [.t 21] 19 false,
 og 23 (.bin .gtr) [.t 22, .i 65535] 19 false,
 o3 24 .pick [.t 19, .b true, .t 23]]
def F72o7 := [
 o3 4 .mv [.b false]]
def F72c8 : Ac := .ret
def F72c5 : Ac := (cd 24 (so F72o7 F72c8) .skip)
def F72o12 := [
 o3 25 (.faddr 2) [.t 2],
 o3 26 (.load none) [.t 25],
 o3 27 .lenL [.t 26],
 o3 28 (.bin .eql) [.t 27, .i 0]]
def F72o15 := [
 o3 29 (.faddr 1) [.t 2],
 o3 30 (.load none) [.t 29],
 o3 31 .lenL [.t 30],
 o3 32 (.bin .geq) [.t 31, .i 1],
 om 33 32,
 og 34 (.faddr 1) [.t 2] 33 true,
 og 35 (.load none) [.t 34] 33 true,
 og 36 .lenL [.t 35] 33 true,
 og 37 (.bin .leq) [.t 36, .i 255] 33 true,
 o3 38 .pick [.t 33, .t 37, .b false],
 om 4 38]
def F72c16 : Ac := .ret
def F72c13 : Ac := (cd 28 (so F72o15 F72c16) .skip)
def F72o20 := [
 o3 39 (.faddr 1) [.t 2],
 o3 40 (.load none) [.t 39],
 o3 41 .lenL [.t 40],
 o3 42 (.bin .gtr) [.t 41, .i 0]]
def F72o23 := [
 o3 4 .mv [.b false]]
def F72c24 : Ac := .ret
def F72c21 : Ac := (cd 42 (so F72o23 F72c24) .skip)
def F72o28 := [
 o3 43 (.faddr 2) [.t 2],
 o3 44 (.load none) [.t 43],
 o3 45 .lenL [.t 44],
 o3 46 .mv [.i 0]]
def F72o32 := [
 o3 47 (.bin .lss) [.t 46, .t 45]]
def F72o40 := [
 o3 48 (.iaddrS 3) [.t 44, .t 46],
 o3 49 (.load (some 3)) [.t 48],
 o3 6 (.alloc [.d (.int .i64 0), .nils, .nils]) [],
 o0 (.store 3) [.t 6, .t 49]]
def F72o42 := [
 o3 50 (.load (some 3)) [.t 6],
 om 51 1,
 o3 52 (.bin .add) [.t 51, .i 1],
 o3 53 (.callf 72) [.t 50, .t 52],
 o3 54 (.un .not) [.t 53]]
def F72o45 := [
 o3 4 .mv [.b false]]
def F72c46 : Ac := .ret
def F72c43 : Ac := (cd 54 (so F72o45 F72c46) .skip)
def F72c41 : Ac := (so F72o42 F72c43)
def F72o48 := [
 o3 55 (.bin .add) [.t 46, .i 1],
 om 46 55]
def F72c48 : Ac := (.ops F72o48)
def F72c37 : Ac := (.seq (.block 1 (so F72o40 F72c41)) F72c48)
def F72c33 : Ac := (.seq (cd 47 .skip (.exit 0)) F72c37)
def F72l30 : Ac := (so F72o32 F72c33)
def F72c29 : Ac := (.block 0 (.loop (.seq (.gh []) (.seq (.keep [1, 44, 45, 46] []) F72l30))))
def F72o50 := [
 o3 4 .mv [.b true]]
def F72c51 : Ac := .ret
def F72b49 : Ac := (so F72o50 F72c51)
def F72c49 : Ac := (.seq (.gh []) (.seq (.keep [] []) F72b49))
def F72c26 : Ac := (.seq (so F72o28 F72c29) F72c49)
def F72c18 : Ac := (.seq (so F72o20 F72c21) F72c26)
def F72c10 : Ac := (.seq (so F72o12 F72c13) F72c18)
def F72c2 : Ac := (.seq (so F72o4 F72c5) F72c10)
def F72c0 : Ac := (so F72o1 F72c2)
/-- hansom/iter.may -/
def F72 : Fn := { np := 2, pb := [], rs := [.t 4], body := F72c0 }
def F74o1 := [
 o3 4 .mv [.c (.d (.int .u64 0))],
 o3 5 .mv [.c (.d (.int .u64 0))]]
def F74o5 := [
 om 11 0,
 o3 12 (.toInt .u32) [.t 11],
 om 13 1,
 o3 14 (.toInt .u32) [.t 13],
 o3 15 (.callf 75) [.t 12, .t 14],
 om 10 15,
 oe 16 0 10,
 oe 17 1 10,
 om 6 16,
 om 7 17]
def F74o7 := [
 om 18 6,
 o3 19 (.toInt .u64) [.t 18],
 om 20 7,
 o3 21 (.toInt .u64) [.t 20],
 om 4 19,
 om 5 21]
def F74c8 : Ac := .ret
def F74c6 : Ac := (so F74o7 F74c8)
def F74o11 := [
 om 23 0,
 om 24 1,
 o3 25 (.callf 76) [.t 23, .t 24],
 om 22 25,
 oe 26 0 22,
 oe 27 1 22,
 om 8 26,
 om 9 27]
def F74o13 := [
 om 28 8,
 om 29 9,
 om 4 28,
 om 5 29]
def F74c14 : Ac := .ret
def F74c12 : Ac := (so F74o13 F74c14)
def F74c10 : Ac := (so F74o11 F74c12)
def F74c2 : Ac := (.seq (.cond (.b false) (so F74o5 F74c6) .skip) F74c10)
def F74c0 : Ac := (so F74o1 F74c2)
/-- math/bits.Mul -/
def F74 : Fn := { np := 2, pb := [], rs := [.t 4, .t 5], body := F74c0 }
def F76o1 := [
 o3 4 .mv [.c (.d (.int .u64 0))],
 o3 5 .mv [.c (.d (.int .u64 0))]]
def F76o3 := [
 om 14 0,
 o3 15 (.bin .and) [.t 14, .c (.d (.int .u64 4294967295))],
 om 6 15]
def F76o5 := [
 om 16 0,
 o3 17 (.bin .shr) [.t 16, .c (.d (.int .u64 32))],
 om 7 17]
def F76o7 := [
 om 18 1,
 o3 19 (.bin .and) [.t 18, .c (.d (.int .u64 4294967295))],
 om 8 19]
def F76o9 := [
 om 20 1,
 o3 21 (.bin .shr) [.t 20, .c (.d (.int .u64 32))],
 om 9 21]
def F76o11 := [
 om 22 6,
 om 23 8,
 o3 24 (.bin .mul) [.t 22, .t 23],
 om 10 24]
def F76o13 := [
 om 25 7,
 om 26 8,
 o3 27 (.bin .mul) [.t 25, .t 26],
 om 28 10,
 o3 29 (.bin .shr) [.t 28, .c (.d (.int .u64 32))],
 o3 30 (.bin .add) [.t 27, .t 29],
 om 11 30]
def F76o15 := [
 om 31 11,
 o3 32 (.bin .and) [.t 31, .c (.d (.int .u64 4294967295))],
 om 12 32]
def F76o17 := [
 om 33 11,
 o3 34 (.bin .shr) [.t 33, .c (.d (.int .u64 32))],
 om 13 34]
def F76o19 := [
 om 35 12,
 om 36 6,
 om 37 9,
 o3 38 (.bin .mul) [.t 36, .t 37],
 o3 39 (.bin .add) [.t 35, .t 38],
 om 12 39]
def F76o21 := [
 om 40 7,
 om 41 9,
 o3 42 (.bin .mul) [.t 40, .t 41],
 om 43 13,
 o3 44 (.bin .add) [.t 42, .t 43],
 om 45 12,
 o3 46 (.bin .shr) [.t 45, .c (.d (.int .u64 32))],
 o3 47 (.bin .add) [.t 44, .t 46],
 om 4 47]
def F76o23 := [
 om 48 0,
 om 49 1,
 o3 50 (.bin .mul) [.t 48, .t 49],
 om 5 50]
def F76c24 : Ac := .ret
def F76c22 : Ac := (so F76o23 F76c24)
def F76c20 : Ac := (so F76o21 F76c22)
def F76c18 : Ac := (so F76o19 F76c20)
def F76c16 : Ac := (so F76o17 F76c18)
def F76c14 : Ac := (so F76o15 F76c16)
def F76c12 : Ac := (so F76o13 F76c14)
def F76c10 : Ac := (so F76o11 F76c12)
def F76c8 : Ac := (so F76o9 F76c10)
def F76c6 : Ac := (so F76o7 F76c8)
def F76c4 : Ac := (so F76o5 F76c6)
def F76c2 : Ac := (so F76o3 F76c4)
def F76c0 : Ac := (so F76o1 F76c2)
/-- math/bits.Mul64 -/
def F76 : Fn := { np := 2, pb := [], rs := [.t 4, .t 5], body := F76c0 }
def hints : Nat → Nat → Hint
  | _, _ => []
def spf : Nat → Bool := fun n => [70].contains n
noncomputable def tab1 : Nat → Option Fn
  | 9 => some F9
  | 18 => some F18
  | 19 => some F19
  | 20 => some F20
  | 21 => some F21
  | 45 => some F45
  | 46 => some F46
  | 47 => some F47
  | 49 => some F49
  | 50 => some F50
  | 51 => some F51
  | 52 => some F52
  | 67 => some F67
  | 68 => some F68
  | 70 => some F70
  | 71 => some F71
  | 72 => some F72
  | 74 => some F74
  | 76 => some F76
  | n => autoT Try.prog (fun _ => none) spf hints n
noncomputable def L : Cs := lim tab1 (fun _ _ => none)

theorem no_globals : GOk (fun _ _ => none) (fun _ => none) := fun n a h => by cases h
theorem ok9 : FnOk (fun _ _ => none) Try.prog 9 F9 := compF_spec no_globals Try.func9 (by kernel_rfl)
theorem ok18 : FnOk (fun _ _ => none) Try.prog 18 F18 := compF_spec no_globals Try.func18 (by kernel_rfl)
theorem ok19 : FnOk (fun _ _ => none) Try.prog 19 F19 := compF_spec no_globals Try.func19 (by kernel_rfl)
theorem ok20 : FnOk (fun _ _ => none) Try.prog 20 F20 := compF_spec no_globals Try.func20 (by kernel_rfl)
theorem ok21 : FnOk (fun _ _ => none) Try.prog 21 F21 := compF_spec no_globals Try.func21 (by kernel_rfl)
theorem ok45 : FnOk (fun _ _ => none) Try.prog 45 F45 := compF_spec no_globals Try.func45 (by kernel_rfl)
theorem ok46 : FnOk (fun _ _ => none) Try.prog 46 F46 := compF_spec no_globals Try.func46 (by kernel_rfl)
theorem ok47 : FnOk (fun _ _ => none) Try.prog 47 F47 := compF_spec no_globals Try.func47 (by kernel_rfl)
theorem ok49 : FnOk (fun _ _ => none) Try.prog 49 F49 := compF_spec no_globals Try.func49 (by kernel_rfl)
theorem ok50 : FnOk (fun _ _ => none) Try.prog 50 F50 := compF_spec no_globals Try.func50 (by kernel_rfl)
theorem ok51 : FnOk (fun _ _ => none) Try.prog 51 F51 := compF_spec no_globals Try.func51 (by kernel_rfl)
theorem ok52 : FnOk (fun _ _ => none) Try.prog 52 F52 := compF_spec no_globals Try.func52 (by kernel_rfl)
theorem ok67 : FnOk (fun _ _ => none) Try.prog 67 F67 := compF_spec no_globals Try.func67 (by kernel_rfl)
theorem ok68 : FnOk (fun _ _ => none) Try.prog 68 F68 := compF_spec no_globals Try.func68 (by kernel_rfl)
theorem ok70 : FnOk (fun _ _ => none) Try.prog 70 F70 := compF_spec no_globals Try.func70 (by kernel_rfl)
theorem ok71 : FnOk (fun _ _ => none) Try.prog 71 F71 := compF_spec no_globals Try.func71 (by kernel_rfl)
theorem ok72 : FnOk (fun _ _ => none) Try.prog 72 F72 := compF_spec no_globals Try.func72 (by kernel_rfl)
theorem ok74 : FnOk (fun _ _ => none) Try.prog 74 F74 := compF_spec no_globals Try.func74 (by kernel_rfl)
theorem ok76 : FnOk (fun _ _ => none) Try.prog 76 F76 := compF_spec no_globals Try.func76 (by kernel_rfl)
theorem tab1_ok : ∀ f fn, tab1 f = some fn → FnOk (fun _ _ => none) Try.prog f fn := by
  intro f fn h
  unfold tab1 at h
  split at h
  · cases h; exact ok9
  · cases h; exact ok18
  · cases h; exact ok19
  · cases h; exact ok20
  · cases h; exact ok21
  · cases h; exact ok45
  · cases h; exact ok46
  · cases h; exact ok47
  · cases h; exact ok49
  · cases h; exact ok50
  · cases h; exact ok51
  · cases h; exact ok52
  · cases h; exact ok67
  · cases h; exact ok68
  · cases h; exact ok70
  · cases h; exact ok71
  · cases h; exact ok72
  · cases h; exact ok74
  · cases h; exact ok76
  · exact autoT_spec no_globals h
theorem meets1 (f : Nat) : Meets (fun _ _ => none) Try.prog f (L f) := lim_meets tab1_ok (fun f _ m w args vs bs _ _ _ _ _ r a h => by cases h) f

end Go.Es.Its
