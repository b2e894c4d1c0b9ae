/- The code of the functions that the statement ScanAll reaches, as the interpreter reads it. No condition. -/
import Derived.Test.YtncfbghdnnhfiaaEsD
import Derived.Test.YtncfbghdnnhfiaaChecked
import Derived.KernelRfl
set_option linter.unusedVariables false
set_option linter.unusedSimpArgs false
set_option maxRecDepth 100000
set_option maxHeartbeats 4000000
namespace Go.Es.Sca
open Go.Proofs
def F10o1 := [
 o3 4 .mv [.b false]]
def F10o3 := [
 o3 14 (.bslice (.agg [.bool false, .int .i64 0, .int .i64 0, .int .u8 0, .int .i64 0, .int .i64 0, .int .i64 0, .int .u16 0, .int .u16 0, .int .u16 0]) 0 []) [],
 o3 15 (.bslice (.int .u8 0) 0 []) [],
 om 5 14,
 om 6 15]
def F10o6 := [
 o3 7 .mv [.i 0]]
def F10o11 := [
 om 16 7,
 om 17 0,
 o3 18 .lenL [.t 17],
 o3 19 (.bin .lss) [.t 16, .t 18],
 om 20 19,
 og 21 .mv [.t 7] 20 true,
 og 22 (.bin .lss) [.t 21, .i 20] 20 true,
 o3 23 .pick [.t 20, .t 22, .b false]]
def F10c12 : Ac := (cd 23 .skip (.exit 0))
def F10o18 := [
 om 26 5,
 om 27 0,
 om 28 7,
 o3 29 (.iaddrS 10) [.t 27, .t 28],
 o3 30 (.load (some 10)) [.t 29],
 o3 31 (.callf 24) [.t 30],
 o3 32 (.bslice (.agg [.bool false, .int .i64 0, .int .i64 0, .int .u8 0, .int .i64 0, .int .i64 0, .int .i64 0, .int .u16 0, .int .u16 0, .int .u16 0]) 1 [0]) [.t 31],
 o3 33 (.append 10 64 false) [.t 26, .t 32],
 om 5 33]
def F10o19 := [
 om 34 6,
 om 35 5,
 om 36 7,
 o3 37 (.iaddrS 10) [.t 35, .t 36],
 o3 38 (.load (some 10)) [.t 37],
 o3 39 (.callf 27) [.t 38],
 o3 40 (.append 1 1 false) [.t 34, .t 39],
 om 6 40]
def F10c19 : Ac := (.ops F10o19)
def F10o20 := [
 om 24 7,
 o3 25 (.bin .add) [.t 24, .i 1],
 om 7 25]
def F10c20 : Ac := (.ops F10o20)
def F10c15 : Ac := (.seq (.block 1 (so F10o18 F10c19)) F10c20)
def F10l8 : Ac := (.seq (so F10o11 F10c12) F10c15)
def F10c7 : Ac := (.block 0 (.loop (.seq (.gh []) (.seq (.keep [0, 1, 5, 6, 7] [[14], [15]]) F10l8))))
def F10o22 := [
 om 41 6,
 o3 42 .lenL [.t 41],
 om 8 42]
def F10o25 := [
 om 44 6]
def F10o28 := [
 o3 45 (.bslice (.int .u8 0) 2 [0, 1]) [.y 15, .y 144],
 o3 46 (.append 1 1 false) [.t 44, .t 45],
 o3 47 (.callf 36) [.t 46],
 om 43 47,
 oe 48 0 43,
 oe 49 1 43,
 om 9 48,
 om 10 49]
def F10c28 : Ac := (.ops F10o28)
def F10c26 : Ac := (.seq (.gh [.frz 6]) F10c28)
def F10o31 := [
 om 50 10,
 om 51 8,
 o3 52 (.bin .neq) [.t 50, .t 51],
 om 53 52,
 og 54 .mv [.t 9] 53 false,
 og 55 .lenL [.t 54] 53 false,
 og 56 .mv [.t 5] 53 false,
 og 57 .lenL [.t 56] 53 false,
 og 58 (.bin .neq) [.t 55, .t 57] 53 false,
 o3 59 .pick [.t 53, .b true, .t 58]]
def F10o34 := [
 o3 4 .mv [.b false]]
def F10c35 : Ac := .ret
def F10c32 : Ac := (cd 59 (so F10o34 F10c35) .skip)
def F10o39 := [
 o3 11 .mv [.i 0]]
def F10o44 := [
 om 60 11,
 om 61 5,
 o3 62 .lenL [.t 61],
 o3 63 (.bin .lss) [.t 60, .t 62]]
def F10c45 : Ac := (cd 63 .skip (.exit 2))
def F10o51 := [
 om 66 9,
 om 67 11,
 o3 68 (.iaddrS 10) [.t 66, .t 67],
 o3 69 (.load (some 10)) [.t 68],
 om 70 5,
 om 71 11,
 o3 72 (.iaddrS 10) [.t 70, .t 71],
 o3 73 (.load (some 10)) [.t 72],
 o3 74 (.eqa true [.b, .i, .i, .i, .i, .i, .i, .i, .i, .i]) [.t 69, .t 73]]
def F10o54 := [
 o3 4 .mv [.b false]]
def F10c55 : Ac := .ret
def F10c52 : Ac := (cd 74 (so F10o54 F10c55) .skip)
def F10o57 := [
 om 64 11,
 o3 65 (.bin .add) [.t 64, .i 1],
 om 11 65]
def F10c57 : Ac := (.ops F10o57)
def F10c48 : Ac := (.seq (.block 3 (so F10o51 F10c52)) F10c57)
def F10l41 : Ac := (.seq (so F10o44 F10c45) F10c48)
def F10c40 : Ac := (.block 2 (.loop (.seq (.gh []) (.seq (.keep [1, 5, 6, 8, 9, 11] [[14]]) F10l41))))
def F10o59 := [
 om 76 6,
 om 77 1,
 o3 78 (.bin .and) [.t 77, .i 65535],
 om 79 8,
 o3 80 (.bin .add) [.t 79, .i 1],
 o3 81 (.bin .rem) [.t 78, .t 80],
 o3 82 (.subsl 1 false true false) [.t 76, .t 81],
 o3 83 (.callf 36) [.t 82],
 om 75 83,
 oe 84 0 75,
 oe 85 1 75,
 om 12 84,
 om 13 85]
def F10o61 := [
 o3 86 (.callf 35) [],
 om 87 86,
 og 88 .mv [.t 12] 87 true,
 og 89 .lenL [.t 88] 87 true,
 og 90 .mv [.t 5] 87 true,
 og 91 .lenL [.t 90] 87 true,
 og 92 (.bin .leq) [.t 89, .t 91] 87 true,
 o3 93 .pick [.t 87, .t 92, .b false],
 om 94 93,
 og 95 .mv [.t 13] 94 true,
 og 96 .mv [.t 8] 94 true,
 og 97 (.bin .leq) [.t 95, .t 96] 94 true,
 o3 98 .pick [.t 94, .t 97, .b false],
 om 4 98]
def F10c62 : Ac := .ret
def F10c60 : Ac := (so F10o61 F10c62)
def F10b58 : Ac := (so F10o59 F10c60)
def F10c58 : Ac := (.seq (.gh []) (.seq (.keep [1, 5, 6, 8] [[14]]) F10b58))
def F10c37 : Ac := (.seq (so F10o39 F10c40) F10c58)
def F10c29 : Ac := (.seq (so F10o31 F10c32) F10c37)
def F10c23 : Ac := (.seq (so F10o25 F10c26) F10c29)
def F10b21 : Ac := (so F10o22 F10c23)
def F10c21 : Ac := (.seq (.gh []) (.seq (.keep [1, 5, 6] [[14], [15]]) F10b21))
def F10c4 : Ac := (.seq (so F10o6 F10c7) F10c21)
def F10c2 : Ac := (so F10o3 F10c4)
def F10c0 : Ac := (so F10o1 F10c2)
/-- hansom/hansomlaw07.ScanAll -/
def F10 : Fn := { np := 2, pb := [], rs := [.t 4], body := F10c0 }
def F11o1 := [
 o3 4 (.alloc [.d (.int .i64 0), .d (.int .i64 0), .d (.int .i64 0), .d (.bool false)]) [],
 o3 5 .mv [.b false]]
def F11o3 := [
 om 7 1,
 o3 8 (.bin .and) [.t 7, .i 7],
 om 1 8]
def F11o7 := [
 om 10 0,
 o3 11 (.bin .lss) [.t 10, .y 64],
 om 9 11]
def F11o10 := [
 om 12 0,
 o3 13 (.callf 37) [.t 12],
 oe 14 0 13,
 oe 15 1 13,
 o0 (.store 4) [.t 4, .t 14],
 om 5 15]
def F11c11 : Ac := .ret
def F11o13 := [
 om 17 0,
 o3 18 (.bin .lss) [.t 17, .y 96],
 om 16 18]
def F11o16 := [
 o3 19 (.bslice (.int .i64 0) 4 [0, 1, 2, 3]) [.i 15, .i 16, .i 9, .i 10],
 om 20 0,
 o3 21 (.bin .sub) [.t 20, .y 64],
 o3 22 (.bin .shr) [.t 21, .c (.d (.int .u64 3))],
 o3 23 (.iaddrS 1) [.t 19, .t 22],
 o3 24 (.load none) [.t 23],
 om 6 24]
def F11o18 := [
 om 25 6,
 o3 26 (.callf 38) [.t 25, .i 22, .i 0],
 oe 27 0 26,
 oe 28 1 26,
 o0 (.store 4) [.t 4, .t 27],
 om 5 28]
def F11c19 : Ac := .ret
def F11c17 : Ac := (so F11o18 F11c19)
def F11o21 := [
 om 30 0,
 o3 31 (.bin .lss) [.t 30, .y 112],
 om 29 31]
def F11o24 := [
 o3 32 (.callf 39) [],
 oe 33 0 32,
 oe 34 1 32,
 o0 (.store 4) [.t 4, .t 33],
 om 5 34]
def F11c25 : Ac := .ret
def F11o27 := [
 om 36 0,
 o3 37 (.bin .lss) [.t 36, .y 128],
 om 35 37]
def F11o30 := [
 om 38 0,
 o3 39 (.bin .sub) [.t 38, .y 112],
 o3 40 (.toInt .i64) [.t 39],
 o3 41 (.bin .add) [.i 17, .t 40],
 o3 42 (.callf 38) [.t 41, .i 9, .i 0],
 oe 43 0 42,
 oe 44 1 42,
 o0 (.store 4) [.t 4, .t 43],
 om 5 44]
def F11c31 : Ac := .ret
def F11o33 := [
 om 46 0,
 o3 47 (.bin .lss) [.t 46, .y 144],
 om 45 47]
def F11o36 := [
 om 48 0,
 om 49 1,
 o3 50 (.callf 40) [.t 48, .t 49],
 oe 51 0 50,
 oe 52 1 50,
 o0 (.store 4) [.t 4, .t 51],
 om 5 52]
def F11c37 : Ac := .ret
def F11o39 := [
 om 54 0,
 o3 55 (.bin .lss) [.t 54, .y 160],
 om 53 55]
def F11o42 := [
 om 56 0,
 o3 57 (.callf 41) [.t 56],
 oe 58 0 57,
 oe 59 1 57,
 o0 (.store 4) [.t 4, .t 58],
 om 5 59]
def F11c43 : Ac := .ret
def F11o45 := [
 om 61 0,
 o3 62 (.bin .lss) [.t 61, .y 176],
 om 60 62]
def F11o48 := [
 om 63 0,
 o3 64 (.callf 42) [.t 63],
 oe 65 0 64,
 oe 66 1 64,
 o0 (.store 4) [.t 4, .t 65],
 om 5 66]
def F11c49 : Ac := .ret
def F11o51 := [
 om 68 0,
 o3 69 (.bin .lss) [.t 68, .y 184],
 om 67 69]
def F11o54 := [
 o3 70 (.callf 38) [.i 35, .i 21, .i 6],
 oe 71 0 70,
 oe 72 1 70,
 o0 (.store 4) [.t 4, .t 71],
 om 5 72]
def F11c55 : Ac := .ret
def F11o57 := [
 om 74 0,
 o3 75 (.bin .lss) [.t 74, .y 192],
 om 73 75]
def F11o60 := [
 o3 76 (.callf 38) [.i 35, .i 22, .i 7],
 oe 77 0 76,
 oe 78 1 76,
 o0 (.store 4) [.t 4, .t 77],
 om 5 78]
def F11c61 : Ac := .ret
def F11o63 := [
 om 80 0,
 o3 81 (.bin .lss) [.t 80, .y 208],
 om 79 81]
def F11o66 := [
 om 82 0,
 om 83 1,
 o3 84 (.callf 43) [.t 82, .t 83],
 oe 85 0 84,
 oe 86 1 84,
 o0 (.store 4) [.t 4, .t 85],
 om 5 86]
def F11c67 : Ac := .ret
def F11o69 := [
 om 88 0,
 o3 89 (.bin .lss) [.t 88, .y 224],
 om 87 89]
def F11o72 := [
 om 90 0,
 om 91 1,
 o3 92 (.callf 44) [.t 90, .t 91],
 oe 93 0 92,
 oe 94 1 92,
 o0 (.store 4) [.t 4, .t 93],
 om 5 94]
def F11c73 : Ac := .ret
def F11o75 := [
 om 96 0,
 o3 97 (.bin .lss) [.t 96, .y 240],
 om 95 97]
def F11o78 := [
 om 98 0,
 o3 99 (.callf 45) [.t 98],
 oe 100 0 99,
 oe 101 1 99,
 o0 (.store 4) [.t 4, .t 100],
 om 5 101]
def F11c79 : Ac := .ret
def F11c76 : Ac := (cd 95 (so F11o78 F11c79) .skip)
def F11c70 : Ac := (cd 87 (so F11o72 F11c73) (so F11o75 F11c76))
def F11c64 : Ac := (cd 79 (so F11o66 F11c67) (so F11o69 F11c70))
def F11c58 : Ac := (cd 73 (so F11o60 F11c61) (so F11o63 F11c64))
def F11c52 : Ac := (cd 67 (so F11o54 F11c55) (so F11o57 F11c58))
def F11c46 : Ac := (cd 60 (so F11o48 F11c49) (so F11o51 F11c52))
def F11c40 : Ac := (cd 53 (so F11o42 F11c43) (so F11o45 F11c46))
def F11c34 : Ac := (cd 45 (so F11o36 F11c37) (so F11o39 F11c40))
def F11c28 : Ac := (cd 35 (so F11o30 F11c31) (so F11o33 F11c34))
def F11c22 : Ac := (cd 29 (so F11o24 F11c25) (so F11o27 F11c28))
def F11c14 : Ac := (cd 16 (so F11o16 F11c17) (so F11o21 F11c22))
def F11c8 : Ac := (cd 9 (so F11o10 F11c11) (so F11o13 F11c14))
def F11o82 := [
 om 102 0,
 om 103 1,
 o3 104 (.callf 46) [.t 102, .t 103],
 oe 105 0 104,
 oe 106 1 104,
 o0 (.store 4) [.t 4, .t 105],
 om 5 106]
def F11c83 : Ac := .ret
def F11c81 : Ac := (so F11o82 F11c83)
def F11c4 : Ac := (.seq (.block 0 (so F11o7 F11c8)) F11c81)
def F11c2 : Ac := (so F11o3 F11c4)
def F11c0 : Ac := (so F11o1 F11c2)
/-- hansom/isa.Of -/
def F11 : Fn := { np := 2, pb := [], rs := [.c 4 (some 4), .t 5], body := F11c0 }
def F15o1 := [
 o3 2 .mv [.i 0]]
def F15o4 := [
 om 3 0]
def F15o8 := [
 o3 5 (.bin .eql) [.t 3, .i 46],
 om 4 5]
def F15o12 := [
 o3 6 (.bin .eql) [.t 3, .i 47],
 om 4 6]
def F15o16 := [
 o3 7 (.bin .eql) [.t 3, .i 50],
 om 4 7]
def F15o20 := [
 o3 8 (.bin .eql) [.t 3, .i 51],
 om 4 8]
def F15o24 := [
 o3 9 (.bin .eql) [.t 3, .i 52],
 om 4 9]
def F15o27 := [
 o3 10 (.bin .eql) [.t 3, .i 53],
 om 4 10]
def F15c25 : Ac := (cd 4 .skip (.ops F15o27))
def F15c21 : Ac := (cd 4 .skip (so F15o24 F15c25))
def F15c17 : Ac := (cd 4 .skip (so F15o20 F15c21))
def F15c13 : Ac := (cd 4 .skip (so F15o16 F15c17))
def F15c9 : Ac := (cd 4 .skip (so F15o12 F15c13))
def F15o30 := [
 o3 2 .mv [.i 1]]
def F15c31 : Ac := .ret
def F15o34 := [
 o3 12 (.bin .eql) [.t 3, .i 48],
 om 11 12]
def F15o38 := [
 o3 13 (.bin .eql) [.t 3, .i 49],
 om 11 13]
def F15o42 := [
 o3 14 (.bin .eql) [.t 3, .i 54],
 om 11 14]
def F15o45 := [
 o3 15 (.bin .eql) [.t 3, .i 55],
 om 11 15]
def F15c43 : Ac := (cd 11 .skip (.ops F15o45))
def F15c39 : Ac := (cd 11 .skip (so F15o42 F15c43))
def F15c35 : Ac := (cd 11 .skip (so F15o38 F15c39))
def F15o48 := [
 o3 2 .mv [.i 2]]
def F15c49 : Ac := .ret
def F15c46 : Ac := (cd 11 (so F15o48 F15c49) .skip)
def F15b28 : Ac := (cd 4 (so F15o30 F15c31) (.seq (so F15o34 F15c35) F15c46))
def F15c28 : Ac := (.seq (.gh []) (.seq (.keep [3, 4] []) F15b28))
def F15c5 : Ac := (.block 0 (.seq (so F15o8 F15c9) F15c28))
def F15o52 := [
 o3 2 .mv [.i 0]]
def F15c53 : Ac := .ret
def F15c51 : Ac := (so F15o52 F15c53)
def F15c2 : Ac := (.seq (so F15o4 F15c5) F15c51)
def F15c0 : Ac := (so F15o1 F15c2)
/-- hansom/isa.Repeats -/
def F15 : Fn := { np := 1, pb := [], rs := [.t 2], body := F15c0 }
def F16o1 := [
 o3 2 .mv [.i 0]]
def F16o4 := [
 om 3 0,
 o3 4 (.callf 47) [.t 3]]
def F16o8 := [
 o3 6 (.bin .eql) [.t 4, .c (.d (.str [77, 79, 86, 83, 66]))],
 om 5 6]
def F16o12 := [
 o3 7 (.bin .eql) [.t 4, .c (.d (.str [77, 79, 86, 83, 87]))],
 om 5 7]
def F16o16 := [
 o3 8 (.bin .eql) [.t 4, .c (.d (.str [83, 84, 79, 83, 66]))],
 om 5 8]
def F16o20 := [
 o3 9 (.bin .eql) [.t 4, .c (.d (.str [83, 84, 79, 83, 87]))],
 om 5 9]
def F16o24 := [
 o3 10 (.bin .eql) [.t 4, .c (.d (.str [76, 79, 68, 83, 66]))],
 om 5 10]
def F16o27 := [
 o3 11 (.bin .eql) [.t 4, .c (.d (.str [76, 79, 68, 83, 87]))],
 om 5 11]
def F16c25 : Ac := (cd 5 .skip (.ops F16o27))
def F16c21 : Ac := (cd 5 .skip (so F16o24 F16c25))
def F16c17 : Ac := (cd 5 .skip (so F16o20 F16c21))
def F16c13 : Ac := (cd 5 .skip (so F16o16 F16c17))
def F16c9 : Ac := (cd 5 .skip (so F16o12 F16c13))
def F16o30 := [
 o3 2 .mv [.i 1]]
def F16c31 : Ac := .ret
def F16o34 := [
 o3 13 (.bin .eql) [.t 4, .c (.d (.str [67, 77, 80, 83, 66]))],
 om 12 13]
def F16o38 := [
 o3 14 (.bin .eql) [.t 4, .c (.d (.str [67, 77, 80, 83, 87]))],
 om 12 14]
def F16o42 := [
 o3 15 (.bin .eql) [.t 4, .c (.d (.str [83, 67, 65, 83, 66]))],
 om 12 15]
def F16o45 := [
 o3 16 (.bin .eql) [.t 4, .c (.d (.str [83, 67, 65, 83, 87]))],
 om 12 16]
def F16c43 : Ac := (cd 12 .skip (.ops F16o45))
def F16c39 : Ac := (cd 12 .skip (so F16o42 F16c43))
def F16c35 : Ac := (cd 12 .skip (so F16o38 F16c39))
def F16o48 := [
 o3 2 .mv [.i 2]]
def F16c49 : Ac := .ret
def F16c46 : Ac := (cd 12 (so F16o48 F16c49) .skip)
def F16b28 : Ac := (cd 5 (so F16o30 F16c31) (.seq (so F16o34 F16c35) F16c46))
def F16c28 : Ac := (.seq (.gh []) (.seq (.keep [4, 5] []) F16b28))
def F16c5 : Ac := (.block 0 (.seq (so F16o8 F16c9) F16c28))
def F16o52 := [
 o3 2 .mv [.i 0]]
def F16c53 : Ac := .ret
def F16c51 : Ac := (so F16o52 F16c53)
def F16c2 : Ac := (.seq (so F16o4 F16c5) F16c51)
def F16c0 : Ac := (so F16o1 F16c2)
/-- hansom/hansomref04.Repeats -/
def F16 : Fn := { np := 1, pb := [], rs := [.t 2], body := F16c0 }
def F17o1 := [
 o3 2 .mv [.i 0]]
def F17o4 := [
 om 3 0]
def F17o8 := [
 o3 5 (.bin .eql) [.t 3, .i 6],
 om 4 5]
def F17o12 := [
 o3 6 (.bin .eql) [.t 3, .i 8],
 om 4 6]
def F17o15 := [
 o3 7 (.bin .eql) [.t 3, .i 9],
 om 4 7]
def F17c13 : Ac := (cd 4 .skip (.ops F17o15))
def F17c9 : Ac := (cd 4 .skip (so F17o12 F17c13))
def F17o18 := [
 o3 2 .mv [.i 1]]
def F17c19 : Ac := .ret
def F17o22 := [
 o3 9 (.bin .eql) [.t 3, .i 7],
 om 8 9]
def F17o26 := [
 o3 10 (.bin .eql) [.t 3, .i 10],
 om 8 10]
def F17o30 := [
 o3 11 (.bin .eql) [.t 3, .i 12],
 om 8 11]
def F17o33 := [
 o3 12 (.bin .eql) [.t 3, .i 13],
 om 8 12]
def F17c31 : Ac := (cd 8 .skip (.ops F17o33))
def F17c27 : Ac := (cd 8 .skip (so F17o30 F17c31))
def F17c23 : Ac := (cd 8 .skip (so F17o26 F17c27))
def F17o36 := [
 o3 2 .mv [.i 2]]
def F17c37 : Ac := .ret
def F17o39 := [
 o3 14 (.bin .eql) [.t 3, .i 11],
 om 13 14]
def F17o42 := [
 o3 2 .mv [.i 4]]
def F17c43 : Ac := .ret
def F17c40 : Ac := (cd 13 (so F17o42 F17c43) .skip)
def F17c34 : Ac := (cd 8 (so F17o36 F17c37) (so F17o39 F17c40))
def F17b16 : Ac := (cd 4 (so F17o18 F17c19) (.seq (so F17o22 F17c23) F17c34))
def F17c16 : Ac := (.seq (.gh []) (.seq (.keep [3, 4] []) F17b16))
def F17c5 : Ac := (.block 0 (.seq (so F17o8 F17c9) F17c16))
def F17o46 := [
 o3 2 .mv [.i 0]]
def F17c47 : Ac := .ret
def F17c45 : Ac := (so F17o46 F17c47)
def F17c2 : Ac := (.seq (so F17o4 F17c5) F17c45)
def F17c0 : Ac := (so F17o1 F17c2)
/-- hansom/isa.Immediate -/
def F17 : Fn := { np := 1, pb := [], rs := [.t 2], body := F17c0 }
def F18o1 := [
 o3 2 .mv [.i 0]]
def F18o4 := [
 om 3 0]
def F18o8 := [
 o3 5 (.bin .eql) [.t 3, .i 6],
 om 4 5]
def F18o12 := [
 o3 6 (.bin .eql) [.t 3, .i 8],
 om 4 6]
def F18o15 := [
 o3 7 (.bin .eql) [.t 3, .i 9],
 om 4 7]
def F18c13 : Ac := (cd 4 .skip (.ops F18o15))
def F18c9 : Ac := (cd 4 .skip (so F18o12 F18c13))
def F18o18 := [
 o3 2 .mv [.i 1]]
def F18c19 : Ac := .ret
def F18o22 := [
 o3 9 (.bin .eql) [.t 3, .i 7],
 om 8 9]
def F18o26 := [
 o3 10 (.bin .eql) [.t 3, .i 10],
 om 8 10]
def F18o30 := [
 o3 11 (.bin .eql) [.t 3, .i 12],
 om 8 11]
def F18o33 := [
 o3 12 (.bin .eql) [.t 3, .i 13],
 om 8 12]
def F18c31 : Ac := (cd 8 .skip (.ops F18o33))
def F18c27 : Ac := (cd 8 .skip (so F18o30 F18c31))
def F18c23 : Ac := (cd 8 .skip (so F18o26 F18c27))
def F18o36 := [
 o3 2 .mv [.i 2]]
def F18c37 : Ac := .ret
def F18o39 := [
 o3 14 (.bin .eql) [.t 3, .i 11],
 om 13 14]
def F18o42 := [
 o3 2 .mv [.i 4]]
def F18c43 : Ac := .ret
def F18c40 : Ac := (cd 13 (so F18o42 F18c43) .skip)
def F18c34 : Ac := (cd 8 (so F18o36 F18c37) (so F18o39 F18c40))
def F18b16 : Ac := (cd 4 (so F18o18 F18c19) (.seq (so F18o22 F18c23) F18c34))
def F18c16 : Ac := (.seq (.gh []) (.seq (.keep [3, 4] []) F18b16))
def F18c5 : Ac := (.block 0 (.seq (so F18o8 F18c9) F18c16))
def F18o46 := [
 o3 2 .mv [.i 0]]
def F18c47 : Ac := .ret
def F18c45 : Ac := (so F18o46 F18c47)
def F18c2 : Ac := (.seq (so F18o4 F18c5) F18c45)
def F18c0 : Ac := (so F18o1 F18c2)
/-- hansom/hansomref04.Bytes -/
def F18 : Fn := { np := 1, pb := [], rs := [.t 2], body := F18c0 }
def F20o1 := [
 o3 2 .mv [.b false]]
def F20o4 := [
 om 3 0]
def F20o8 := [
 o3 5 (.bin .eql) [.t 3, .y 38],
 om 4 5]
def F20o12 := [
 o3 6 (.bin .eql) [.t 3, .y 46],
 om 4 6]
def F20o16 := [
 o3 7 (.bin .eql) [.t 3, .y 54],
 om 4 7]
def F20o20 := [
 o3 8 (.bin .eql) [.t 3, .y 62],
 om 4 8]
def F20o24 := [
 o3 9 (.bin .eql) [.t 3, .y 240],
 om 4 9]
def F20o28 := [
 o3 10 (.bin .eql) [.t 3, .y 242],
 om 4 10]
def F20o31 := [
 o3 11 (.bin .eql) [.t 3, .y 243],
 om 4 11]
def F20c29 : Ac := (cd 4 .skip (.ops F20o31))
def F20c25 : Ac := (cd 4 .skip (so F20o28 F20c29))
def F20c21 : Ac := (cd 4 .skip (so F20o24 F20c25))
def F20c17 : Ac := (cd 4 .skip (so F20o20 F20c21))
def F20c13 : Ac := (cd 4 .skip (so F20o16 F20c17))
def F20c9 : Ac := (cd 4 .skip (so F20o12 F20c13))
def F20o34 := [
 o3 2 .mv [.b true]]
def F20c35 : Ac := .ret
def F20c32 : Ac := (cd 4 (so F20o34 F20c35) .skip)
def F20c5 : Ac := (.block 0 (.seq (so F20o8 F20c9) F20c32))
def F20o38 := [
 o3 2 .mv [.b false]]
def F20c39 : Ac := .ret
def F20c37 : Ac := (so F20o38 F20c39)
def F20c2 : Ac := (.seq (so F20o4 F20c5) F20c37)
def F20c0 : Ac := (so F20o1 F20c2)
/-- hansom/isa.Prefix -/
def F20 : Fn := { np := 1, pb := [], rs := [.t 2], body := F20c0 }
def F21o1 := [
 o3 4 (.alloc [.d (.int .i64 0), .d (.int .i64 0), .d (.int .i64 0), .d (.bool false)]) [],
 o3 5 .mv [.b false]]
def F21o3 := [
 om 8 0,
 om 9 1,
 o3 10 (.callf 48) [.t 8, .t 9],
 om 6 10]
def F21o6 := [
 om 11 6,
 o3 12 (.bin .eql) [.t 11, .c (.d (.str [45]))],
 om 13 12,
 og 14 .mv [.t 6] 13 false,
 og 15 (.bin .eql) [.t 14, .c (.d (.str []))] 13 false,
 o3 16 .pick [.t 13, .b true, .t 15]]
def F21o9 := [
 o3 17 (.build [.d (.int .i64 0), .d (.int .i64 0), .d (.int .i64 0), .d (.bool false)] []) [],
 o0 (.store 4) [.t 4, .t 17],
 o3 5 .mv [.b false]]
def F21c10 : Ac := .ret
def F21c7 : Ac := (cd 16 (so F21o9 F21c10) .skip)
def F21o13 := [
 om 18 6,
 o3 19 (.callf 50) [.t 18, .y 58, .i 0],
 o3 20 (.callf 49) [.t 19],
 om 21 6,
 o3 22 (.callf 50) [.t 21, .y 58, .i 1],
 o3 23 (.callf 51) [.c (.d (.str [69, 98, 32, 69, 118, 32, 71, 98, 32, 71, 118, 32, 83, 119, 32, 73, 98, 32, 73, 118, 32, 73, 115, 32, 74, 98, 32, 74, 118, 32, 65, 112, 32, 79, 98, 32, 79, 118, 32, 65, 76, 32, 67, 76, 32, 65, 88, 32, 68, 88, 32, 79, 110, 101, 32, 77, 112, 32, 77, 32, 90, 98, 32, 90, 118, 32, 90, 115, 32, 84, 104, 114, 101, 101, 32])), .t 22],
 om 24 6,
 o3 25 (.callf 50) [.t 24, .y 58, .i 2],
 o3 26 (.callf 51) [.c (.d (.str [69, 98, 32, 69, 118, 32, 71, 98, 32, 71, 118, 32, 83, 119, 32, 73, 98, 32, 73, 118, 32, 73, 115, 32, 74, 98, 32, 74, 118, 32, 65, 112, 32, 79, 98, 32, 79, 118, 32, 65, 76, 32, 67, 76, 32, 65, 88, 32, 68, 88, 32, 79, 110, 101, 32, 77, 112, 32, 77, 32, 90, 98, 32, 90, 118, 32, 90, 115, 32, 84, 104, 114, 101, 101, 32])), .t 25],
 o3 27 (.build [.d (.int .i64 0), .d (.int .i64 0), .d (.int .i64 0), .d (.bool false)] [(0, 1), (1, 1), (2, 1)]) [.t 20, .t 23, .t 26],
 o3 7 (.alloc [.d (.int .i64 0), .d (.int .i64 0), .d (.int .i64 0), .d (.bool false)]) [],
 o0 (.store 4) [.t 7, .t 27]]
def F21o15 := [
 o3 28 (.faddr 1) [.t 7],
 o3 29 (.load none) [.t 28],
 o3 30 (.callf 52) [.t 29],
 om 31 30,
 og 32 (.faddr 2) [.t 7] 31 false,
 og 33 (.load none) [.t 32] 31 false,
 og 34 (.callf 52) [.t 33] 31 false,
 o3 35 .pick [.t 31, .b true, .t 34],
 o3 36 (.faddr 3) [.t 7],
 o0 (.store 1) [.t 36, .t 35]]
def F21o17 := [
 o3 37 (.load (some 4)) [.t 7],
 o0 (.store 4) [.t 4, .t 37],
 o3 5 .mv [.b true]]
def F21c18 : Ac := .ret
def F21c16 : Ac := (so F21o17 F21c18)
def F21c14 : Ac := (so F21o15 F21c16)
def F21c12 : Ac := (so F21o13 F21c14)
def F21c4 : Ac := (.seq (so F21o6 F21c7) F21c12)
def F21c2 : Ac := (so F21o3 F21c4)
def F21c0 : Ac := (so F21o1 F21c2)
/-- hansom/hansomref04.Row -/
def F21 : Fn := { np := 2, pb := [], rs := [.c 4 (some 4), .t 5], body := F21c0 }
def F23o1 := [
 o3 2 .mv [.b false]]
def F23o4 := [
 o3 6 .mv [.i 0]]
def F23o8 := [
 o3 7 (.bin .lss) [.t 6, .i 8]]
def F23o16 := [
 om 8 6,
 om 3 8]
def F23o18 := [
 om 10 0,
 om 11 3,
 o3 12 (.callf 11) [.t 10, .t 11],
 om 9 12,
 oe 13 0 9,
 oe 14 1 9,
 o3 4 (.alloc [.d (.int .i64 0), .d (.int .i64 0), .d (.int .i64 0), .d (.bool false)]) [],
 o0 (.store 4) [.t 4, .t 13],
 om 5 14]
def F23o20 := [
 om 15 5,
 om 16 15,
 og 17 (.faddr 3) [.t 4] 16 true,
 og 18 (.load none) [.t 17] 16 true,
 o3 19 .pick [.t 16, .t 18, .b false]]
def F23o23 := [
 o3 2 .mv [.b true]]
def F23c24 : Ac := .ret
def F23c21 : Ac := (cd 19 (so F23o23 F23c24) .skip)
def F23c19 : Ac := (so F23o20 F23c21)
def F23c17 : Ac := (so F23o18 F23c19)
def F23o26 := [
 o3 20 (.bin .add) [.t 6, .i 1],
 om 6 20]
def F23c26 : Ac := (.ops F23o26)
def F23c13 : Ac := (.seq (.block 1 (so F23o16 F23c17)) F23c26)
def F23c9 : Ac := (.seq (cd 7 .skip (.exit 0)) F23c13)
def F23l6 : Ac := (so F23o8 F23c9)
def F23c5 : Ac := (.block 0 (.loop (.seq (.gh []) (.seq (.keep [0, 6] []) F23l6))))
def F23o28 := [
 o3 2 .mv [.b false]]
def F23c29 : Ac := .ret
def F23b27 : Ac := (so F23o28 F23c29)
def F23c27 : Ac := (.seq (.gh []) (.seq (.keep [] []) F23b27))
def F23c2 : Ac := (.seq (so F23o4 F23c5) F23c27)
def F23c0 : Ac := (so F23o1 F23c2)
/-- hansom/isa.Two -/
def F23 : Fn := { np := 1, pb := [], rs := [.t 2], body := F23c0 }
def F24o1 := [
 o3 1 (.box 10) [.t 0],
 o3 2 (.alloc [.d (.bool false), .d (.int .i64 0), .d (.int .i64 0), .d (.int .u8 0), .d (.int .i64 0), .d (.int .i64 0), .d (.int .i64 0), .d (.int .u16 0), .d (.int .u16 0), .d (.int .u16 0)]) []]
def F24o3 := [
 o3 7 (.faddr 3) [.t 1],
 o3 8 (.load none) [.t 7],
 o3 9 (.faddr 0) [.t 1],
 o3 10 (.load none) [.t 9],
 o3 11 (.build [.d (.bool false), .d (.int .i64 0), .d (.int .i64 0), .d (.int .u8 0), .d (.int .i64 0), .d (.int .i64 0), .d (.int .i64 0), .d (.int .u16 0), .d (.int .u16 0), .d (.int .u16 0)] [(3, 1), (0, 1)]) [.t 8, .t 10],
 o0 (.store 10) [.t 2, .t 11]]
def F24o5 := [
 o3 12 (.faddr 5) [.t 1],
 o3 13 (.load none) [.t 12],
 o3 14 (.bin .and) [.t 13, .i 7],
 o3 15 (.faddr 5) [.t 2],
 o0 (.store 1) [.t 15, .t 14]]
def F24o7 := [
 o3 17 (.load (some 10)) [.t 2],
 o3 18 (.callf 26) [.t 17],
 om 16 18,
 oe 19 0 16,
 oe 20 1 16,
 o3 3 (.alloc [.d (.int .i64 0), .d (.int .i64 0), .d (.int .i64 0), .d (.bool false)]) [],
 o0 (.store 4) [.t 3, .t 19],
 om 4 20]
def F24o10 := [
 om 21 4,
 o3 22 (.un .not) [.t 21]]
def F24o13 := [
 o3 23 (.build [.d (.bool false), .d (.int .i64 0), .d (.int .i64 0), .d (.int .u8 0), .d (.int .i64 0), .d (.int .i64 0), .d (.int .i64 0), .d (.int .u16 0), .d (.int .u16 0), .d (.int .u16 0)] [(3, 1)]) [.y 144],
 o0 (.store 10) [.t 2, .t 23]]
def F24c14 : Ac := .ret
def F24c11 : Ac := (cd 22 (so F24o13 F24c14) .skip)
def F24o18 := [
 o3 24 (.faddr 3) [.t 3],
 o3 25 (.load none) [.t 24],
 o3 26 (.un .not) [.t 25]]
def F24o20 := [
 o3 27 (.faddr 5) [.t 2],
 o0 (.store 1) [.t 27, .i 0]]
def F24o22 := [
 o3 28 (.faddr 4) [.t 1],
 o3 29 (.load none) [.t 28],
 o3 30 (.bin .and) [.t 29, .i 3],
 o3 31 (.faddr 6) [.t 1],
  { dst := some 32, k := (.load none), xs := [.t 31], av := [[2]] },
 o3 33 (.bin .and) [.t 32, .i 7],
 o3 34 (.faddr 4) [.t 2],
  { dst := none, k := (.store 1), xs := [.t 34, .t 30], al := some [[2]] },
 o3 35 (.faddr 6) [.t 2],
 o0 (.store 1) [.t 35, .t 33]]
def F24o24 := [
 o3 36 (.faddr 4) [.t 2],
 o3 37 (.load none) [.t 36],
 o3 38 (.faddr 6) [.t 2],
 o3 39 (.load none) [.t 38],
 o3 40 (.callf 54) [.t 37, .t 39]]
def F24o27 := [
 o3 42 (.bin .eql) [.t 40, .i 1],
 om 41 42]
def F24o29 := [
 o3 43 (.faddr 7) [.t 1],
 o3 44 (.load none) [.t 43],
 o3 45 (.bin .rem) [.t 44, .w 256],
 o3 46 (.toInt .u8) [.t 45],
 o3 47 (.callf 55) [.t 46],
 o3 48 (.faddr 7) [.t 2],
 o0 (.store 1) [.t 48, .t 47]]
def F24o31 := [
 o3 50 (.bin .eql) [.t 40, .i 2],
 om 49 50]
def F24o33 := [
 o3 51 (.faddr 7) [.t 1],
 o3 52 (.load none) [.t 51],
 o3 53 (.faddr 7) [.t 2],
 o0 (.store 1) [.t 53, .t 52]]
def F24c32 : Ac := (cd 49 (.ops F24o33) .skip)
def F24c28 : Ac := (cd 41 (.ops F24o29) (so F24o31 F24c32))
def F24c25 : Ac := (.block 0 (so F24o27 F24c28))
def F24c23 : Ac := (so F24o24 F24c25)
def F24c19 : Ac := (cd 26 (.ops F24o20) (so F24o22 F24c23))
def F24o36 := [
 o3 54 (.faddr 1) [.t 3],
 o3 55 (.load none) [.t 54],
 om 5 55]
def F24o39 := [
 om 56 5,
 o3 57 (.callf 18) [.t 56],
 o3 58 (.bin .eql) [.t 57, .i 0]]
def F24o41 := [
 o3 59 (.faddr 2) [.t 3],
 o3 60 (.load none) [.t 59],
 om 5 60]
def F24c40 : Ac := (cd 58 (.ops F24o41) .skip)
def F24o45 := [
 om 61 5]
def F24o48 := [
 o3 63 (.bin .eql) [.t 61, .i 6],
 om 62 63]
def F24o51 := [
 o3 64 (.faddr 8) [.t 1],
 o3 65 (.load none) [.t 64],
 o3 66 (.bin .rem) [.t 65, .w 256],
 o3 67 (.faddr 8) [.t 2],
 o0 (.store 1) [.t 67, .t 66]]
def F24o53 := [
 o3 68 (.faddr 0) [.t 3],
 o3 69 (.load none) [.t 68],
 o3 70 (.bin .eql) [.t 69, .i 70],
 om 71 70,
 og 72 (.faddr 0) [.t 3] 71 false,
 og 73 (.load none) [.t 72] 71 false,
 og 74 (.bin .eql) [.t 73, .i 71] 71 false,
 o3 75 .pick [.t 71, .b true, .t 74]]
def F24o55 := [
 o3 76 (.faddr 8) [.t 2],
 o0 (.store 1) [.t 76, .w 10]]
def F24c54 : Ac := (cd 75 (.ops F24o55) .skip)
def F24c52 : Ac := (so F24o53 F24c54)
def F24o59 := [
 o3 78 (.bin .eql) [.t 61, .i 8],
 om 77 78]
def F24o62 := [
 o3 79 (.bin .eql) [.t 61, .i 9],
 om 77 79]
def F24c60 : Ac := (cd 77 .skip (.ops F24o62))
def F24o64 := [
 o3 80 (.faddr 8) [.t 1],
 o3 81 (.load none) [.t 80],
 o3 82 (.bin .rem) [.t 81, .w 256],
 o3 83 (.toInt .u8) [.t 82],
 o3 84 (.callf 55) [.t 83],
 o3 85 (.faddr 8) [.t 2],
 o0 (.store 1) [.t 85, .t 84]]
def F24o67 := [
 o3 87 (.bin .eql) [.t 61, .i 7],
 om 86 87]
def F24o71 := [
 o3 88 (.bin .eql) [.t 61, .i 10],
 om 86 88]
def F24o75 := [
 o3 89 (.bin .eql) [.t 61, .i 12],
 om 86 89]
def F24o78 := [
 o3 90 (.bin .eql) [.t 61, .i 13],
 om 86 90]
def F24c76 : Ac := (cd 86 .skip (.ops F24o78))
def F24c72 : Ac := (cd 86 .skip (so F24o75 F24c76))
def F24c68 : Ac := (cd 86 .skip (so F24o71 F24c72))
def F24o80 := [
 o3 91 (.faddr 8) [.t 1],
 o3 92 (.load none) [.t 91],
 o3 93 (.faddr 8) [.t 2],
 o0 (.store 1) [.t 93, .t 92]]
def F24o82 := [
 o3 95 (.bin .eql) [.t 61, .i 11],
 om 94 95]
def F24o84 := [
 o3 96 (.faddr 8) [.t 1],
 o3 97 (.load none) [.t 96],
 o3 98 (.faddr 9) [.t 1],
  { dst := some 99, k := (.load none), xs := [.t 98], av := [[2]] },
 o3 100 (.faddr 8) [.t 2],
  { dst := none, k := (.store 1), xs := [.t 100, .t 97], al := some [[2]] },
 o3 101 (.faddr 9) [.t 2],
 o0 (.store 1) [.t 101, .t 99]]
def F24c83 : Ac := (cd 94 (.ops F24o84) .skip)
def F24b79 : Ac := (cd 86 (.ops F24o80) (so F24o82 F24c83))
def F24c79 : Ac := (.seq (.gh []) (.seq (.keep [1, 2, 3, 61, 86] [[1], [2], [3]]) F24b79))
def F24b63 : Ac := (cd 77 (.ops F24o64) (.seq (so F24o67 F24c68) F24c79))
def F24c63 : Ac := (.seq (.gh []) (.seq (.keep [1, 2, 3, 61, 77] [[1], [2], [3]]) F24b63))
def F24c49 : Ac := (cd 62 (so F24o51 F24c52) (.seq (so F24o59 F24c60) F24c63))
def F24c46 : Ac := (.block 1 (so F24o48 F24c49))
def F24o88 := [
 o3 102 (.faddr 0) [.t 3],
 o3 103 (.load none) [.t 102],
 o3 104 (.callf 16) [.t 103],
 om 6 104]
def F24o90 := [
 om 105 6,
 o3 106 (.bin .gtr) [.t 105, .i 0],
 om 107 106,
 og 108 (.faddr 1) [.t 1] 107 true,
 og 109 (.load none) [.t 108] 107 true,
 og 110 (.bin .and) [.t 109, .i 3] 107 true,
 og 111 (.bin .gtr) [.t 110, .i 0] 107 true,
 o3 112 .pick [.t 107, .t 111, .b false]]
def F24o93 := [
 o3 113 (.faddr 1) [.t 2],
 o0 (.store 1) [.t 113, .i 2]]
def F24o95 := [
 om 114 6,
 o3 115 (.bin .eql) [.t 114, .i 2],
 om 116 115,
 og 117 (.faddr 1) [.t 1] 116 true,
 og 118 (.load none) [.t 117] 116 true,
 og 119 (.bin .and) [.t 118, .i 1] 116 true,
 og 120 (.bin .eql) [.t 119, .i 1] 116 true,
 o3 121 .pick [.t 116, .t 120, .b false]]
def F24o97 := [
 o3 122 (.faddr 1) [.t 2],
 o0 (.store 1) [.t 122, .i 1]]
def F24c96 : Ac := (cd 121 (.ops F24o97) .skip)
def F24c94 : Ac := (so F24o95 F24c96)
def F24c91 : Ac := (cd 112 (so F24o93 F24c94) .skip)
def F24c89 : Ac := (so F24o90 F24c91)
def F24o102 := [
 o3 123 (.faddr 2) [.t 1],
 o3 124 (.load none) [.t 123],
 o3 125 (.bin .and) [.t 124, .i 7],
 o3 126 (.bin .leq) [.t 125, .i 4]]
def F24o104 := [
 o3 127 (.faddr 2) [.t 1],
 o3 128 (.load none) [.t 127],
 o3 129 (.bin .and) [.t 128, .i 7],
 o3 130 (.faddr 2) [.t 2],
 o0 (.store 1) [.t 130, .t 129]]
def F24c103 : Ac := (cd 126 (.ops F24o104) .skip)
def F24o108 := [
 o3 131 (.load (some 10)) [.t 2],
 o3 132 (.callf 25) [.t 131],
 o3 133 (.un .not) [.t 132]]
def F24o111 := [
 o3 134 (.build [.d (.bool false), .d (.int .i64 0), .d (.int .i64 0), .d (.int .u8 0), .d (.int .i64 0), .d (.int .i64 0), .d (.int .i64 0), .d (.int .u16 0), .d (.int .u16 0), .d (.int .u16 0)] [(3, 1)]) [.y 144],
 o0 (.store 10) [.t 2, .t 134]]
def F24c112 : Ac := .ret
def F24c109 : Ac := (cd 133 (so F24o111 F24c112) .skip)
def F24o115 := [
 o3 135 (.load (some 10)) [.t 2],
 o0 (.store 10) [.t 2, .t 135]]
def F24c116 : Ac := .ret
def F24c114 : Ac := (so F24o115 F24c116)
def F24c106 : Ac := (.seq (so F24o108 F24c109) F24c114)
def F24b100 : Ac := (.seq (so F24o102 F24c103) F24c106)
def F24c100 : Ac := (.seq (.gh []) (.seq (.keep [1, 2] [[1], [2]]) F24b100))
def F24b86 : Ac := (.seq (so F24o88 F24c89) F24c100)
def F24c86 : Ac := (.seq (.gh []) (.seq (.keep [1, 2, 3] [[1], [2], [3]]) F24b86))
def F24b43 : Ac := (.seq (so F24o45 F24c46) F24c86)
def F24c43 : Ac := (.seq (.gh []) (.seq (.keep [1, 2, 3, 5] [[1], [2], [3]]) F24b43))
def F24c37 : Ac := (.seq (so F24o39 F24c40) F24c43)
def F24b35 : Ac := (so F24o36 F24c37)
def F24c35 : Ac := (.seq (.gh []) (.seq (.keep [1, 2, 3] [[1], [2], [3]]) F24b35))
def F24c16 : Ac := (.seq (so F24o18 F24c19) F24c35)
def F24c8 : Ac := (.seq (so F24o10 F24c11) F24c16)
def F24c6 : Ac := (so F24o7 F24c8)
def F24c4 : Ac := (so F24o5 F24c6)
def F24c2 : Ac := (so F24o3 F24c4)
def F24c0 : Ac := (so F24o1 F24c2)
/-- hansom/hansomref05.Near -/
def F24 : Fn := { np := 1, pb := [], rs := [.c 2 (some 10)], body := F24c0 }
def F25o1 := [
 o3 1 (.box 10) [.t 0],
 o3 2 .mv [.b false]]
def F25o3 := [
 o3 9 (.load (some 10)) [.t 1],
 o3 10 (.callf 26) [.t 9],
 om 8 10,
 oe 11 0 8,
 oe 12 1 8,
 o3 3 (.alloc [.d (.int .i64 0), .d (.int .i64 0), .d (.int .i64 0), .d (.bool false)]) [],
 o0 (.store 4) [.t 3, .t 11],
 om 4 12]
def F25o6 := [
 om 13 4,
 o3 14 (.un .not) [.t 13],
 om 15 14,
 og 16 (.faddr 2) [.t 1] 15 false,
 og 17 (.load none) [.t 16] 15 false,
 og 18 (.bin .lss) [.t 17, .i 0] 15 false,
 o3 19 .pick [.t 15, .b true, .t 18],
 om 20 19,
 og 21 (.faddr 2) [.t 1] 20 false,
 og 22 (.load none) [.t 21] 20 false,
 og 23 (.bin .gtr) [.t 22, .i 4] 20 false,
 o3 24 .pick [.t 20, .b true, .t 23]]
def F25o9 := [
 o3 2 .mv [.b false]]
def F25c10 : Ac := .ret
def F25c7 : Ac := (cd 24 (so F25o9 F25c10) .skip)
def F25o13 := [
 o3 25 (.faddr 0) [.t 3],
 o3 26 (.load none) [.t 25],
 o3 27 (.callf 16) [.t 26],
 om 5 27]
def F25o16 := [
 o3 28 (.faddr 1) [.t 1],
 o3 29 (.load none) [.t 28],
 o3 30 (.bin .lss) [.t 29, .i 0],
 om 31 30,
 og 32 (.faddr 1) [.t 1] 31 false,
 og 33 (.load none) [.t 32] 31 false,
 og 34 (.bin .gtr) [.t 33, .i 2] 31 false,
 o3 35 .pick [.t 31, .b true, .t 34],
 om 36 35,
 og 37 (.faddr 1) [.t 1] 36 false,
 og 38 (.load none) [.t 37] 36 false,
 og 39 (.bin .eql) [.t 38, .i 1] 36 false,
 og 40 .mv [.t 39] 36 false,
 og 41 .mv [.t 5] 40 true,
 og 42 (.bin .lss) [.t 41, .i 2] 40 true,
 og 43 .pick [.t 40, .t 42, .b false] 36 false,
 o3 44 .pick [.t 36, .b true, .t 43],
 om 45 44,
 og 46 (.faddr 1) [.t 1] 45 false,
 og 47 (.load none) [.t 46] 45 false,
 og 48 (.bin .eql) [.t 47, .i 2] 45 false,
 og 49 .mv [.t 48] 45 false,
 og 50 .mv [.t 5] 49 true,
 og 51 (.bin .lss) [.t 50, .i 1] 49 true,
 og 52 .pick [.t 49, .t 51, .b false] 45 false,
 o3 53 .pick [.t 45, .b true, .t 52]]
def F25o19 := [
 o3 2 .mv [.b false]]
def F25c20 : Ac := .ret
def F25c17 : Ac := (cd 53 (so F25o19 F25c20) .skip)
def F25o24 := [
 o3 54 (.faddr 3) [.t 3],
 o3 55 (.load none) [.t 54],
 o3 56 (.un .not) [.t 55]]
def F25o27 := [
 o3 57 (.faddr 4) [.t 1],
 o3 58 (.load none) [.t 57],
 o3 59 (.bin .neq) [.t 58, .i 0],
 om 60 59,
 og 61 (.faddr 5) [.t 1] 60 false,
 og 62 (.load none) [.t 61] 60 false,
 og 63 (.bin .neq) [.t 62, .i 0] 60 false,
 o3 64 .pick [.t 60, .b true, .t 63],
 om 65 64,
 og 66 (.faddr 6) [.t 1] 65 false,
 og 67 (.load none) [.t 66] 65 false,
 og 68 (.bin .neq) [.t 67, .i 0] 65 false,
 o3 69 .pick [.t 65, .b true, .t 68],
 om 70 69,
 og 71 (.faddr 7) [.t 1] 70 false,
 og 72 (.load none) [.t 71] 70 false,
 og 73 (.bin .neq) [.t 72, .w 0] 70 false,
 o3 74 .pick [.t 70, .b true, .t 73]]
def F25o30 := [
 o3 2 .mv [.b false]]
def F25c31 : Ac := .ret
def F25c28 : Ac := (cd 74 (so F25o30 F25c31) .skip)
def F25o35 := [
 o3 75 (.faddr 4) [.t 1],
 o3 76 (.load none) [.t 75],
 o3 77 (.bin .lss) [.t 76, .i 0],
 om 78 77,
 og 79 (.faddr 4) [.t 1] 78 false,
 og 80 (.load none) [.t 79] 78 false,
 og 81 (.bin .gtr) [.t 80, .i 3] 78 false,
 o3 82 .pick [.t 78, .b true, .t 81],
 om 83 82,
 og 84 (.faddr 5) [.t 1] 83 false,
 og 85 (.load none) [.t 84] 83 false,
 og 86 (.bin .lss) [.t 85, .i 0] 83 false,
 o3 87 .pick [.t 83, .b true, .t 86],
 om 88 87,
 og 89 (.faddr 5) [.t 1] 88 false,
 og 90 (.load none) [.t 89] 88 false,
 og 91 (.bin .gtr) [.t 90, .i 7] 88 false,
 o3 92 .pick [.t 88, .b true, .t 91],
 om 93 92,
 og 94 (.faddr 6) [.t 1] 93 false,
 og 95 (.load none) [.t 94] 93 false,
 og 96 (.bin .lss) [.t 95, .i 0] 93 false,
 o3 97 .pick [.t 93, .b true, .t 96],
 om 98 97,
 og 99 (.faddr 6) [.t 1] 98 false,
 og 100 (.load none) [.t 99] 98 false,
 og 101 (.bin .gtr) [.t 100, .i 7] 98 false,
 o3 102 .pick [.t 98, .b true, .t 101]]
def F25o38 := [
 o3 2 .mv [.b false]]
def F25c39 : Ac := .ret
def F25c36 : Ac := (cd 102 (so F25o38 F25c39) .skip)
def F25o43 := [
 o3 103 (.faddr 4) [.t 1],
 o3 104 (.load none) [.t 103],
 o3 105 (.bin .eql) [.t 104, .i 3],
 om 106 105,
 og 107 (.faddr 1) [.t 3] 106 true,
 og 108 (.load none) [.t 107] 106 true,
 og 109 (.bin .eql) [.t 108, .i 19] 106 true,
 og 110 .mv [.t 109] 106 true,
 og 111 (.faddr 1) [.t 3] 110 false,
 og 112 (.load none) [.t 111] 110 false,
 og 113 (.bin .eql) [.t 112, .i 20] 110 false,
 og 114 .pick [.t 110, .b true, .t 113] 106 true,
 og 115 .mv [.t 114] 106 true,
 og 116 (.faddr 2) [.t 3] 115 false,
 og 117 (.load none) [.t 116] 115 false,
 og 118 (.bin .eql) [.t 117, .i 19] 115 false,
 og 119 .pick [.t 115, .b true, .t 118] 106 true,
 og 120 .mv [.t 119] 106 true,
 og 121 (.faddr 2) [.t 3] 120 false,
 og 122 (.load none) [.t 121] 120 false,
 og 123 (.bin .eql) [.t 122, .i 20] 120 false,
 og 124 .pick [.t 120, .b true, .t 123] 106 true,
 o3 125 .pick [.t 106, .t 124, .b false]]
def F25o46 := [
 o3 2 .mv [.b false]]
def F25c47 : Ac := .ret
def F25c44 : Ac := (cd 125 (so F25o46 F25c47) .skip)
def F25o50 := [
 o3 126 (.faddr 4) [.t 1],
 o3 127 (.load none) [.t 126],
 o3 128 (.faddr 6) [.t 1],
 o3 129 (.load none) [.t 128],
 o3 130 (.callf 54) [.t 127, .t 129],
 om 6 130]
def F25o52 := [
 om 131 6,
 o3 132 (.bin .eql) [.t 131, .i 0],
 om 133 132,
 og 134 (.faddr 7) [.t 1] 133 true,
 og 135 (.load none) [.t 134] 133 true,
 og 136 (.bin .neq) [.t 135, .w 0] 133 true,
 o3 137 .pick [.t 133, .t 136, .b false],
 om 138 137,
 og 139 .mv [.t 6] 138 false,
 og 140 (.bin .eql) [.t 139, .i 1] 138 false,
 og 141 .mv [.t 140] 138 false,
 og 142 (.faddr 7) [.t 1] 141 true,
 og 143 (.load none) [.t 142] 141 true,
 og 144 (.callf 56) [.t 143] 141 true,
 og 145 (.un .not) [.t 144] 141 true,
 og 146 .pick [.t 141, .t 145, .b false] 138 false,
 o3 147 .pick [.t 138, .b true, .t 146]]
def F25o55 := [
 o3 2 .mv [.b false]]
def F25c56 : Ac := .ret
def F25c53 : Ac := (cd 147 (so F25o55 F25c56) .skip)
def F25c51 : Ac := (so F25o52 F25c53)
def F25b49 : Ac := (so F25o50 F25c51)
def F25c49 : Ac := (.seq (.gh []) (.seq (.keep [1, 3] [[1], [3]]) F25b49))
def F25c41 : Ac := (.seq (so F25o43 F25c44) F25c49)
def F25c25 : Ac := (cd 56 (so F25o27 F25c28) (.seq (so F25o35 F25c36) F25c41))
def F25o59 := [
 o3 148 (.faddr 1) [.t 3],
 o3 149 (.load none) [.t 148],
 om 7 149]
def F25o62 := [
 om 150 7,
 o3 151 (.callf 18) [.t 150],
 o3 152 (.bin .eql) [.t 151, .i 0]]
def F25o64 := [
 o3 153 (.faddr 2) [.t 3],
 o3 154 (.load none) [.t 153],
 om 7 154]
def F25c63 : Ac := (cd 152 (.ops F25o64) .skip)
def F25o68 := [
 om 155 7]
def F25o71 := [
 o3 157 (.bin .eql) [.t 155, .i 6],
 om 156 157]
def F25o74 := [
 o3 158 (.faddr 8) [.t 1],
 o3 159 (.load none) [.t 158],
 o3 160 (.bin .lss) [.t 159, .w 256],
 om 161 160,
 og 162 (.faddr 9) [.t 1] 161 true,
 og 163 (.load none) [.t 162] 161 true,
 og 164 (.bin .eql) [.t 163, .w 0] 161 true,
 o3 165 .pick [.t 161, .t 164, .b false],
 om 166 165,
 og 167 (.faddr 0) [.t 3] 166 true,
 og 168 (.load none) [.t 167] 166 true,
 og 169 (.bin .neq) [.t 168, .i 70] 166 true,
 og 170 .mv [.t 169] 166 true,
 og 171 (.faddr 0) [.t 3] 170 true,
 og 172 (.load none) [.t 171] 170 true,
 og 173 (.bin .neq) [.t 172, .i 71] 170 true,
 og 174 .pick [.t 170, .t 173, .b false] 166 true,
 og 175 .mv [.t 174] 166 true,
 og 176 (.faddr 8) [.t 1] 175 false,
 og 177 (.load none) [.t 176] 175 false,
 og 178 (.bin .eql) [.t 177, .w 10] 175 false,
 og 179 .pick [.t 175, .b true, .t 178] 166 true,
 o3 180 .pick [.t 166, .t 179, .b false],
 om 2 180]
def F25c75 : Ac := .ret
def F25o78 := [
 o3 182 (.bin .eql) [.t 155, .i 8],
 om 181 182]
def F25o81 := [
 o3 183 (.bin .eql) [.t 155, .i 9],
 om 181 183]
def F25c79 : Ac := (cd 181 .skip (.ops F25o81))
def F25o84 := [
 o3 184 (.faddr 8) [.t 1],
 o3 185 (.load none) [.t 184],
 o3 186 (.callf 56) [.t 185],
 om 187 186,
 og 188 (.faddr 9) [.t 1] 187 true,
 og 189 (.load none) [.t 188] 187 true,
 og 190 (.bin .eql) [.t 189, .w 0] 187 true,
 o3 191 .pick [.t 187, .t 190, .b false],
 om 2 191]
def F25c85 : Ac := .ret
def F25o88 := [
 o3 193 (.bin .eql) [.t 155, .i 7],
 om 192 193]
def F25o92 := [
 o3 194 (.bin .eql) [.t 155, .i 10],
 om 192 194]
def F25o96 := [
 o3 195 (.bin .eql) [.t 155, .i 12],
 om 192 195]
def F25o99 := [
 o3 196 (.bin .eql) [.t 155, .i 13],
 om 192 196]
def F25c97 : Ac := (cd 192 .skip (.ops F25o99))
def F25c93 : Ac := (cd 192 .skip (so F25o96 F25c97))
def F25c89 : Ac := (cd 192 .skip (so F25o92 F25c93))
def F25o102 := [
 o3 197 (.faddr 9) [.t 1],
 o3 198 (.load none) [.t 197],
 o3 199 (.bin .eql) [.t 198, .w 0],
 om 2 199]
def F25c103 : Ac := .ret
def F25o105 := [
 o3 201 (.bin .eql) [.t 155, .i 11],
 om 200 201]
def F25o108 := [
 o3 2 .mv [.b true]]
def F25c109 : Ac := .ret
def F25c106 : Ac := (cd 200 (so F25o108 F25c109) .skip)
def F25c100 : Ac := (cd 192 (so F25o102 F25c103) (so F25o105 F25c106))
def F25b82 : Ac := (cd 181 (so F25o84 F25c85) (.seq (so F25o88 F25c89) F25c100))
def F25c82 : Ac := (.seq (.gh []) (.seq (.keep [1, 155, 181] [[1]]) F25b82))
def F25c72 : Ac := (cd 156 (so F25o74 F25c75) (.seq (so F25o78 F25c79) F25c82))
def F25c69 : Ac := (.block 0 (so F25o71 F25c72))
def F25o112 := [
 o3 202 (.faddr 8) [.t 1],
 o3 203 (.load none) [.t 202],
 o3 204 (.bin .eql) [.t 203, .w 0],
 om 205 204,
 og 206 (.faddr 9) [.t 1] 205 true,
 og 207 (.load none) [.t 206] 205 true,
 og 208 (.bin .eql) [.t 207, .w 0] 205 true,
 o3 209 .pick [.t 205, .t 208, .b false],
 om 2 209]
def F25c113 : Ac := .ret
def F25c111 : Ac := (so F25o112 F25c113)
def F25b66 : Ac := (.seq (so F25o68 F25c69) F25c111)
def F25c66 : Ac := (.seq (.gh []) (.seq (.keep [1, 3, 7] [[1], [3]]) F25b66))
def F25c60 : Ac := (.seq (so F25o62 F25c63) F25c66)
def F25b58 : Ac := (so F25o59 F25c60)
def F25c58 : Ac := (.seq (.gh []) (.seq (.keep [1, 3] [[1], [3]]) F25b58))
def F25b22 : Ac := (.seq (so F25o24 F25c25) F25c58)
def F25c22 : Ac := (.seq (.gh []) (.seq (.keep [1, 3] [[1], [3]]) F25b22))
def F25c14 : Ac := (.seq (so F25o16 F25c17) F25c22)
def F25c12 : Ac := (so F25o13 F25c14)
def F25c4 : Ac := (.seq (so F25o6 F25c7) F25c12)
def F25c2 : Ac := (so F25o3 F25c4)
def F25c0 : Ac := (so F25o1 F25c2)
/-- hansom/hansomref05.May -/
def F25 : Fn := { np := 1, pb := [], rs := [.t 2], body := F25c0 }
def F26o1 := [
 o3 1 (.box 10) [.t 0],
 o3 2 (.alloc [.d (.int .i64 0), .d (.int .i64 0), .d (.int .i64 0), .d (.bool false)]) [],
 o3 3 .mv [.b false]]
def F26o4 := [
 o3 4 (.faddr 3) [.t 1],
 o3 5 (.load none) [.t 4],
 o3 6 (.callf 57) [.t 5]]
def F26o7 := [
 o3 7 (.build [.d (.int .i64 0), .d (.int .i64 0), .d (.int .i64 0), .d (.bool false)] []) [],
 o0 (.store 4) [.t 2, .t 7],
 o3 3 .mv [.b false]]
def F26c8 : Ac := .ret
def F26c5 : Ac := (cd 6 (so F26o7 F26c8) .skip)
def F26o11 := [
 o3 8 (.faddr 3) [.t 1],
 o3 9 (.load none) [.t 8],
 o3 10 (.faddr 5) [.t 1],
 o3 11 (.load none) [.t 10],
 o3 12 (.callf 21) [.t 9, .t 11],
 oe 13 0 12,
 oe 14 1 12,
 o0 (.store 4) [.t 2, .t 13],
 om 3 14]
def F26c12 : Ac := .ret
def F26c10 : Ac := (so F26o11 F26c12)
def F26c2 : Ac := (.seq (so F26o4 F26c5) F26c10)
def F26c0 : Ac := (so F26o1 F26c2)
/-- hansom/hansomref05.Row -/
def F26 : Fn := { np := 1, pb := [], rs := [.c 2 (some 4), .t 3], body := F26c0 }
def F27o1 := [
 o3 1 (.box 10) [.t 0],
 o3 2 .mv [.c (.nils)]]
def F27o3 := [
 o3 8 (.load (some 10)) [.t 1],
 o3 9 (.callf 26) [.t 8],
 om 7 9,
 oe 10 0 7,
 oe 11 1 7,
 o3 3 (.alloc [.d (.int .i64 0), .d (.int .i64 0), .d (.int .i64 0), .d (.bool false)]) [],
 o0 (.store 4) [.t 3, .t 10],
 om 4 11]
def F27o5 := [
 o3 12 (.bslice (.int .u8 0) 0 []) [],
 om 5 12]
def F27o8 := [
 o3 13 (.faddr 0) [.t 1],
 o3 14 (.load none) [.t 13]]
def F27o10 := [
 om 15 5,
 o3 16 (.bslice (.int .u8 0) 1 [0]) [.y 240],
 o3 17 (.append 1 1 false) [.t 15, .t 16],
 om 5 17]
def F27c9 : Ac := (cd 14 (.ops F27o10) .skip)
def F27o14 := [
 o3 18 (.faddr 1) [.t 1],
 o3 19 (.load none) [.t 18],
 o3 20 (.bin .gtr) [.t 19, .i 0]]
def F27o16 := [
 om 21 5,
 o3 22 (.faddr 1) [.t 1],
 o3 23 (.load none) [.t 22],
 o3 24 (.bin .add) [.i 241, .t 23],
 o3 25 (.toInt .u8) [.t 24],
 o3 26 (.bslice (.int .u8 0) 1 [0]) [.t 25],
 o3 27 (.append 1 1 false) [.t 21, .t 26],
 om 5 27]
def F27c15 : Ac := (cd 20 (.ops F27o16) .skip)
def F27o20 := [
 o3 28 (.faddr 2) [.t 1],
 o3 29 (.load none) [.t 28],
 o3 30 (.bin .gtr) [.t 29, .i 0]]
def F27o22 := [
 om 31 5,
 o3 32 (.faddr 2) [.t 1],
 o3 33 (.load none) [.t 32],
 o3 34 (.bin .mul) [.i 8, .t 33],
 o3 35 (.bin .add) [.i 30, .t 34],
 o3 36 (.toInt .u8) [.t 35],
 o3 37 (.bslice (.int .u8 0) 1 [0]) [.t 36],
 o3 38 (.append 1 1 false) [.t 31, .t 37],
 om 5 38]
def F27c21 : Ac := (cd 30 (.ops F27o22) .skip)
def F27o25 := [
 om 39 5,
 o3 40 (.faddr 3) [.t 1],
 o3 41 (.load none) [.t 40],
 o3 42 (.bslice (.int .u8 0) 1 [0]) [.t 41],
 o3 43 (.append 1 1 false) [.t 39, .t 42],
 om 5 43]
def F27o28 := [
 o3 44 (.faddr 3) [.t 3],
 o3 45 (.load none) [.t 44]]
def F27o31 := [
 om 46 5,
 o3 47 (.faddr 4) [.t 1],
 o3 48 (.load none) [.t 47],
 o3 49 (.bin .mul) [.i 64, .t 48],
 o3 50 (.faddr 5) [.t 1],
 o3 51 (.load none) [.t 50],
 o3 52 (.bin .mul) [.i 8, .t 51],
 o3 53 (.bin .add) [.t 49, .t 52],
 o3 54 (.faddr 6) [.t 1],
 o3 55 (.load none) [.t 54],
 o3 56 (.bin .add) [.t 53, .t 55],
 o3 57 (.toInt .u8) [.t 56],
 o3 58 (.bslice (.int .u8 0) 1 [0]) [.t 57],
 o3 59 (.append 1 1 false) [.t 46, .t 58],
 om 5 59]
def F27o32 := [
 om 60 5,
 o3 61 (.faddr 7) [.t 1],
 o3 62 (.load none) [.t 61],
  { dst := some 63, k := (.callf 58), xs := [.t 62], al := some [] },
 o3 64 (.faddr 4) [.t 1],
  { dst := some 65, k := (.load none), xs := [.t 64], av := [[63]] },
 o3 66 (.faddr 6) [.t 1],
  { dst := some 67, k := (.load none), xs := [.t 66], av := [[63]] },
 o3 68 (.callf 54) [.t 65, .t 67],
 o3 69 (.subsl 1 false true false) [.t 63, .t 68],
 o3 70 (.append 1 1 false) [.t 60, .t 69],
 om 5 70]
def F27c32 : Ac := (.ops F27o32)
def F27c29 : Ac := (cd 45 (so F27o31 F27c32) .skip)
def F27o36 := [
 o3 71 (.load (some 4)) [.t 3],
 o3 72 (.callf 28) [.t 71],
 om 6 72]
def F27o38 := [
 om 73 6]
def F27o42 := [
 o3 75 (.bin .eql) [.t 73, .i 1],
 om 74 75]
def F27o45 := [
 o3 76 (.bin .eql) [.t 73, .i 2],
 om 74 76]
def F27c43 : Ac := (cd 74 .skip (.ops F27o45))
def F27o47 := [
 om 77 5,
 o3 78 (.faddr 8) [.t 1],
 o3 79 (.load none) [.t 78],
 o3 80 (.callf 58) [.t 79],
 om 81 6,
 o3 82 (.subsl 1 false true false) [.t 80, .t 81],
 o3 83 (.append 1 1 false) [.t 77, .t 82],
 om 5 83]
def F27o49 := [
 o3 85 (.bin .eql) [.t 73, .i 4],
 om 84 85]
def F27o51 := [
 om 86 5,
 o3 87 (.faddr 8) [.t 1],
 o3 88 (.load none) [.t 87],
  { dst := some 89, k := (.callf 58), xs := [.t 88], al := some [] },
  { dst := some 90, k := (.append 1 1 false), xs := [.t 86, .t 89], al := some [[12], [17], [27], [38], [43], [59], [70], [83], [90], [94]] },
 o3 91 (.faddr 9) [.t 1],
  { dst := some 92, k := (.load none), xs := [.t 91], av := [[89], [90], [12], [17], [27], [38], [43], [59], [70], [83], [94]] },
 o3 93 (.callf 58) [.t 92],
 o3 94 (.append 1 1 false) [.t 90, .t 93],
 om 5 94]
def F27c50 : Ac := (cd 84 (.ops F27o51) .skip)
def F27b46 : Ac := (cd 74 (.ops F27o47) (so F27o49 F27c50))
def F27c46 : Ac := (.seq (.gh []) (.seq (.keep [1, 5, 6, 73, 74] [[1], [12]]) F27b46))
def F27c39 : Ac := (.block 0 (.seq (so F27o42 F27c43) F27c46))
def F27c37 : Ac := (so F27o38 F27c39)
def F27o54 := [
 om 95 5,
 om 2 95]
def F27c55 : Ac := (.seq (.gh [.frz 2]) .ret)
def F27c53 : Ac := (so F27o54 F27c55)
def F27b34 : Ac := (.seq (so F27o36 F27c37) F27c53)
def F27c34 : Ac := (.seq (.gh []) (.seq (.keep [1, 3, 5] [[1], [3], [12]]) F27b34))
def F27c26 : Ac := (.seq (so F27o28 F27c29) F27c34)
def F27b24 : Ac := (so F27o25 F27c26)
def F27c24 : Ac := (.seq (.gh []) (.seq (.keep [1, 3, 5] [[1], [3], [12]]) F27b24))
def F27b18 : Ac := (.seq (so F27o20 F27c21) F27c24)
def F27c18 : Ac := (.seq (.gh []) (.seq (.keep [1, 3, 5] [[1], [3], [12]]) F27b18))
def F27b12 : Ac := (.seq (so F27o14 F27c15) F27c18)
def F27c12 : Ac := (.seq (.gh []) (.seq (.keep [1, 3, 5] [[1], [3], [12]]) F27b12))
def F27c6 : Ac := (.seq (so F27o8 F27c9) F27c12)
def F27c4 : Ac := (so F27o5 F27c6)
def F27c2 : Ac := (so F27o3 F27c4)
def F27c0 : Ac := (so F27o1 F27c2)
/-- hansom/hansomref05.Put -/
def F27 : Fn := { np := 1, pb := [], rs := [.t 2], body := F27c0 }
def F28o1 := [
 o3 1 (.box 4) [.t 0],
 o3 2 .mv [.i 0]]
def F28o3 := [
 o3 3 (.faddr 1) [.t 1],
 o3 4 (.load none) [.t 3],
  { dst := some 5, k := (.callf 18), xs := [.t 4], al := some [] },
 o3 6 (.faddr 2) [.t 1],
  { dst := some 7, k := (.load none), xs := [.t 6], av := [[5]] },
 o3 8 (.callf 18) [.t 7],
 o3 9 (.bin .add) [.t 5, .t 8],
 om 2 9]
def F28c4 : Ac := .ret
def F28c2 : Ac := (so F28o3 F28c4)
def F28c0 : Ac := (so F28o1 F28c2)
/-- hansom/hansomref05.Imms -/
def F28 : Fn := { np := 1, pb := [], rs := [.t 2], body := F28c0 }
def F30o1 := [
 o3 1 (.box 10) [.t 0],
 o3 2 .mv [.b false]]
def F30o3 := [
 o3 6 (.load (some 10)) [.t 1],
 o3 7 (.callf 60) [.t 6],
 om 5 7,
 oe 8 0 5,
 oe 9 1 5,
 o3 3 (.alloc [.d (.int .i64 0), .d (.int .i64 0), .d (.int .i64 0), .d (.bool false)]) [],
 o0 (.store 4) [.t 3, .t 8],
 om 4 9]
def F30o5 := [
 om 10 4,
 om 11 10,
 og 12 (.load (some 10)) [.t 1] 11 true,
 og 13 (.load (some 4)) [.t 3] 11 true,
 og 14 (.callf 61) [.t 12, .t 13] 11 true,
 o3 15 .pick [.t 11, .t 14, .b false],
 om 16 15,
 og 17 (.load (some 10)) [.t 1] 16 true,
 og 18 (.load (some 4)) [.t 3] 16 true,
 og 19 (.callf 62) [.t 17, .t 18] 16 true,
 o3 20 .pick [.t 16, .t 19, .b false],
 om 21 20,
 og 22 (.load (some 10)) [.t 1] 21 true,
 og 23 (.load (some 4)) [.t 3] 21 true,
 og 24 (.callf 63) [.t 22, .t 23] 21 true,
 o3 25 .pick [.t 21, .t 24, .b false],
 om 2 25]
def F30c6 : Ac := .ret
def F30c4 : Ac := (so F30o5 F30c6)
def F30c2 : Ac := (so F30o3 F30c4)
def F30c0 : Ac := (so F30o1 F30c2)
/-- hansom/inst.May -/
def F30 : Fn := { np := 1, pb := [], rs := [.t 2], body := F30c0 }
def F35o1 := [
 o3 0 .mv [.b false]]
def F35o3 := [
 o3 5 (.bslice (.int .u8 0) 4 [0, 1, 2, 3]) [.y 184, .y 52, .y 18, .y 144],
 o3 6 (.callf 34) [.t 5],
 om 4 6,
 oe 7 0 4,
 oe 8 1 4,
 oe 9 2 4,
 o3 1 (.alloc [.d (.bool false), .d (.int .i64 0), .d (.int .i64 0), .d (.int .u8 0), .d (.int .i64 0), .d (.int .i64 0), .d (.int .i64 0), .d (.int .u16 0), .d (.int .u16 0), .d (.int .u16 0)]) [],
 o0 (.store 10) [.t 1, .t 7],
 om 2 8,
 om 3 9]
def F35o5 := [
 om 10 3,
 o3 11 (.bin .eql) [.t 10, .i 0],
 om 12 11,
 og 13 .mv [.t 2] 12 true,
 og 14 (.bin .eql) [.t 13, .i 3] 12 true,
 o3 15 .pick [.t 12, .t 14, .b false],
 om 16 15,
 og 17 (.faddr 8) [.t 1] 16 true,
 og 18 (.load none) [.t 17] 16 true,
 og 19 (.bin .eql) [.t 18, .w 4660] 16 true,
 o3 20 .pick [.t 16, .t 19, .b false],
 om 21 20,
 og 22 (.faddr 3) [.t 1] 21 true,
 og 23 (.load none) [.t 22] 21 true,
 og 24 (.bin .eql) [.t 23, .y 184] 21 true,
 o3 25 .pick [.t 21, .t 24, .b false],
 om 0 25]
def F35c6 : Ac := .ret
def F35c4 : Ac := (so F35o5 F35c6)
def F35c2 : Ac := (so F35o3 F35c4)
def F35c0 : Ac := (so F35o1 F35c2)
/-- hansom/hansomlaw07.awake -/
def F35 : Fn := { np := 0, pb := [], rs := [.t 0], body := F35c0 }
def F36o1 := [
 o3 2 .mv [.c (.nils)],
 o3 3 .mv [.i 0]]
def F36o3 := [
 o3 4 .mv [.c (.nils)]]
def F36o5 := [
 o3 5 .mv [.i 0]]
def F36o11 := [
 om 9 5,
 om 10 0,
 o3 11 .lenL [.t 10],
 o3 12 (.bin .lss) [.t 9, .t 11]]
def F36c12 : Ac := (cd 12 .skip (.exit 0))
def F36o17 := [
 om 14 0,
 om 15 5,
 o3 16 (.subsl 1 true false false) [.t 14, .t 15],
 o3 17 (.callf 34) [.t 16],
 om 13 17,
 oe 18 0 13,
 oe 19 1 13,
 oe 20 2 13,
 o3 6 (.alloc [.d (.bool false), .d (.int .i64 0), .d (.int .i64 0), .d (.int .u8 0), .d (.int .i64 0), .d (.int .i64 0), .d (.int .i64 0), .d (.int .u16 0), .d (.int .u16 0), .d (.int .u16 0)]) [],
 o0 (.store 10) [.t 6, .t 18],
 om 7 19,
 om 8 20]
def F36o20 := [
 om 21 8,
 o3 22 (.bin .neq) [.t 21, .i 0]]
def F36c21 : Ac := (cd 22 (.exit 0) .skip)
def F36o25 := [
 om 23 4,
 o3 24 (.load (some 10)) [.t 6],
 o3 25 (.bslice (.agg [.bool false, .int .i64 0, .int .i64 0, .int .u8 0, .int .i64 0, .int .i64 0, .int .i64 0, .int .u16 0, .int .u16 0, .int .u16 0]) 1 [0]) [.t 24],
 o3 26 (.append 10 64 false) [.t 23, .t 25],
 om 4 26]
def F36o26 := [
 om 27 5,
 om 28 7,
 o3 29 (.bin .add) [.t 27, .t 28],
 om 5 29]
def F36c26 : Ac := (.ops F36o26)
def F36c24 : Ac := (so F36o25 F36c26)
def F36c18 : Ac := (.seq (so F36o20 F36c21) F36c24)
def F36c15 : Ac := (.block 1 (so F36o17 F36c18))
def F36l8 : Ac := (.seq (so F36o11 F36c12) F36c15)
def F36o28 := [
 om 30 4,
 om 31 5,
 om 2 30,
 om 3 31]
def F36c29 : Ac := (.seq (.gh [.frz 2]) .ret)
def F36b27 : Ac := (so F36o28 F36c29)
def F36c27 : Ac := (.seq (.gh []) (.seq (.keep [4, 5] [[4]]) F36b27))
def F36c6 : Ac := (.seq (.block 0 (.loop (.seq (.gh []) (.seq (.keep [0, 4, 5] [[4]]) F36l8)))) F36c27)
def F36b4 : Ac := (so F36o5 F36c6)
def F36c4 : Ac := (.seq (.gh [.own 4 [4] 10]) (.seq (.keep [0, 4] [[4]]) F36b4))
def F36c2 : Ac := (so F36o3 F36c4)
def F36c0 : Ac := (so F36o1 F36c2)
/-- hansom/scan.All -/
def F36 : Fn := { np := 1, pb := [], rs := [.t 2, .t 3], body := F36c0 }
def F37o1 := [
 o3 2 (.alloc [.d (.int .i64 0), .d (.int .i64 0), .d (.int .i64 0), .d (.bool false)]) [],
 o3 3 .mv [.b false]]
def F37o3 := [
 om 5 0,
 o3 6 (.bin .shr) [.t 5, .c (.d (.int .u64 3))],
 o3 7 (.toInt .i64) [.t 6],
 o3 8 (.bin .add) [.i 1, .t 7],
 om 4 8]
def F37o6 := [
 om 9 0,
 o3 10 (.bin .and) [.t 9, .y 7]]
def F37o9 := [
 o3 12 (.bin .eql) [.t 10, .y 0],
 om 11 12]
def F37o12 := [
 om 13 4,
 o3 14 (.callf 67) [.t 13, .i 1, .i 3],
 oe 15 0 14,
 oe 16 1 14,
 o0 (.store 4) [.t 2, .t 15],
 om 3 16]
def F37c13 : Ac := .ret
def F37o15 := [
 o3 18 (.bin .eql) [.t 10, .y 1],
 om 17 18]
def F37o18 := [
 om 19 4,
 o3 20 (.callf 67) [.t 19, .i 2, .i 4],
 oe 21 0 20,
 oe 22 1 20,
 o0 (.store 4) [.t 2, .t 21],
 om 3 22]
def F37c19 : Ac := .ret
def F37o21 := [
 o3 24 (.bin .eql) [.t 10, .y 2],
 om 23 24]
def F37o24 := [
 om 25 4,
 o3 26 (.callf 67) [.t 25, .i 3, .i 1],
 oe 27 0 26,
 oe 28 1 26,
 o0 (.store 4) [.t 2, .t 27],
 om 3 28]
def F37c25 : Ac := .ret
def F37o27 := [
 o3 30 (.bin .eql) [.t 10, .y 3],
 om 29 30]
def F37o30 := [
 om 31 4,
 o3 32 (.callf 67) [.t 31, .i 4, .i 2],
 oe 33 0 32,
 oe 34 1 32,
 o0 (.store 4) [.t 2, .t 33],
 om 3 34]
def F37c31 : Ac := .ret
def F37o33 := [
 o3 36 (.bin .eql) [.t 10, .y 4],
 om 35 36]
def F37o36 := [
 om 37 4,
 o3 38 (.callf 38) [.t 37, .i 14, .i 6],
 oe 39 0 38,
 oe 40 1 38,
 o0 (.store 4) [.t 2, .t 39],
 om 3 40]
def F37c37 : Ac := .ret
def F37o39 := [
 o3 42 (.bin .eql) [.t 10, .y 5],
 om 41 42]
def F37o42 := [
 om 43 4,
 o3 44 (.callf 38) [.t 43, .i 16, .i 7],
 oe 45 0 44,
 oe 46 1 44,
 o0 (.store 4) [.t 2, .t 45],
 om 3 46]
def F37c43 : Ac := .ret
def F37c40 : Ac := (cd 41 (so F37o42 F37c43) .skip)
def F37c34 : Ac := (cd 35 (so F37o36 F37c37) (so F37o39 F37c40))
def F37c28 : Ac := (cd 29 (so F37o30 F37c31) (so F37o33 F37c34))
def F37c22 : Ac := (cd 23 (so F37o24 F37c25) (so F37o27 F37c28))
def F37c16 : Ac := (cd 17 (so F37o18 F37c19) (so F37o21 F37c22))
def F37c10 : Ac := (cd 11 (so F37o12 F37c13) (so F37o15 F37c16))
def F37c7 : Ac := (.block 0 (so F37o9 F37c10))
def F37o47 := [
 om 47 0]
def F37o51 := [
 o3 49 (.bin .eql) [.t 47, .y 6],
 om 48 49]
def F37o55 := [
 o3 50 (.bin .eql) [.t 47, .y 14],
 om 48 50]
def F37o59 := [
 o3 51 (.bin .eql) [.t 47, .y 22],
 om 48 51]
def F37o62 := [
 o3 52 (.bin .eql) [.t 47, .y 30],
 om 48 52]
def F37c60 : Ac := (cd 48 .skip (.ops F37o62))
def F37c56 : Ac := (cd 48 .skip (so F37o59 F37c60))
def F37c52 : Ac := (cd 48 .skip (so F37o55 F37c56))
def F37o65 := [
 o3 53 (.callf 38) [.i 9, .i 23, .i 0],
 oe 54 0 53,
 oe 55 1 53,
 o0 (.store 4) [.t 2, .t 54],
 om 3 55]
def F37c66 : Ac := .ret
def F37o69 := [
 o3 57 (.bin .eql) [.t 47, .y 7],
 om 56 57]
def F37o73 := [
 o3 58 (.bin .eql) [.t 47, .y 23],
 om 56 58]
def F37o76 := [
 o3 59 (.bin .eql) [.t 47, .y 31],
 om 56 59]
def F37c74 : Ac := (cd 56 .skip (.ops F37o76))
def F37c70 : Ac := (cd 56 .skip (so F37o73 F37c74))
def F37o79 := [
 o3 60 (.callf 38) [.i 10, .i 23, .i 0],
 oe 61 0 60,
 oe 62 1 60,
 o0 (.store 4) [.t 2, .t 61],
 om 3 62]
def F37c80 : Ac := .ret
def F37o82 := [
 o3 64 (.bin .eql) [.t 47, .y 39],
 om 63 64]
def F37o85 := [
 o3 65 (.callf 38) [.i 11, .i 0, .i 0],
 oe 66 0 65,
 oe 67 1 65,
 o0 (.store 4) [.t 2, .t 66],
 om 3 67]
def F37c86 : Ac := .ret
def F37o88 := [
 o3 69 (.bin .eql) [.t 47, .y 47],
 om 68 69]
def F37o91 := [
 o3 70 (.callf 38) [.i 12, .i 0, .i 0],
 oe 71 0 70,
 oe 72 1 70,
 o0 (.store 4) [.t 2, .t 71],
 om 3 72]
def F37c92 : Ac := .ret
def F37o94 := [
 o3 74 (.bin .eql) [.t 47, .y 55],
 om 73 74]
def F37o97 := [
 o3 75 (.callf 38) [.i 13, .i 0, .i 0],
 oe 76 0 75,
 oe 77 1 75,
 o0 (.store 4) [.t 2, .t 76],
 om 3 77]
def F37c98 : Ac := .ret
def F37o100 := [
 o3 79 (.bin .eql) [.t 47, .y 63],
 om 78 79]
def F37o103 := [
 o3 80 (.callf 38) [.i 14, .i 0, .i 0],
 oe 81 0 80,
 oe 82 1 80,
 o0 (.store 4) [.t 2, .t 81],
 om 3 82]
def F37c104 : Ac := .ret
def F37c101 : Ac := (cd 78 (so F37o103 F37c104) .skip)
def F37c95 : Ac := (cd 73 (so F37o97 F37c98) (so F37o100 F37c101))
def F37c89 : Ac := (cd 68 (so F37o91 F37c92) (so F37o94 F37c95))
def F37c83 : Ac := (cd 63 (so F37o85 F37c86) (so F37o88 F37c89))
def F37b77 : Ac := (cd 56 (so F37o79 F37c80) (so F37o82 F37c83))
def F37c77 : Ac := (.seq (.gh []) (.seq (.keep [2, 47, 56] [[2]]) F37b77))
def F37b63 : Ac := (cd 48 (so F37o65 F37c66) (.seq (so F37o69 F37c70) F37c77))
def F37c63 : Ac := (.seq (.gh []) (.seq (.keep [2, 47, 48] [[2]]) F37b63))
def F37c48 : Ac := (.block 1 (.seq (so F37o51 F37c52) F37c63))
def F37o107 := [
 o3 83 (.callf 39) [],
 oe 84 0 83,
 oe 85 1 83,
 o0 (.store 4) [.t 2, .t 84],
 om 3 85]
def F37c108 : Ac := .ret
def F37c106 : Ac := (so F37o107 F37c108)
def F37c45 : Ac := (.seq (so F37o47 F37c48) F37c106)
def F37c4 : Ac := (.seq (so F37o6 F37c7) F37c45)
def F37c2 : Ac := (so F37o3 F37c4)
def F37c0 : Ac := (so F37o1 F37c2)
/-- hansom/isa.sums -/
def F37 : Fn := { np := 1, pb := [], rs := [.c 2 (some 4), .t 3], body := F37c0 }
def F38o1 := [
 o3 6 (.alloc [.d (.int .i64 0), .d (.int .i64 0), .d (.int .i64 0), .d (.bool false)]) [],
 o3 7 .mv [.b false]]
def F38o3 := [
 om 8 0,
 om 9 1,
 om 10 2,
 o3 11 (.build [.d (.int .i64 0), .d (.int .i64 0), .d (.int .i64 0), .d (.bool false)] [(0, 1), (1, 1), (2, 1)]) [.t 8, .t 9, .t 10],
 o0 (.store 4) [.t 6, .t 11],
 o3 7 .mv [.b true]]
def F38c4 : Ac := .ret
def F38c2 : Ac := (so F38o3 F38c4)
def F38c0 : Ac := (so F38o1 F38c2)
/-- hansom/isa.row -/
def F38 : Fn := { np := 3, pb := [], rs := [.c 6 (some 4), .t 7], body := F38c0 }
def F39o1 := [
 o3 0 (.alloc [.d (.int .i64 0), .d (.int .i64 0), .d (.int .i64 0), .d (.bool false)]) [],
 o3 1 .mv [.b false]]
def F39o3 := [
 o3 2 (.build [.d (.int .i64 0), .d (.int .i64 0), .d (.int .i64 0), .d (.bool false)] []) [],
 o0 (.store 4) [.t 0, .t 2],
 o3 1 .mv [.b false]]
def F39c4 : Ac := .ret
def F39c2 : Ac := (so F39o3 F39c4)
def F39c0 : Ac := (so F39o1 F39c2)
/-- hansom/isa.bad -/
def F39 : Fn := { np := 0, pb := [], rs := [.c 0 (some 4), .t 1], body := F39c0 }
def F40o1 := [
 o3 4 (.alloc [.d (.int .i64 0), .d (.int .i64 0), .d (.int .i64 0), .d (.bool false)]) [],
 o3 5 .mv [.b false]]
def F40o4 := [
 om 6 0]
def F40o7 := [
 o3 8 (.bin .eql) [.t 6, .y 128],
 om 7 8]
def F40o10 := [
 om 9 1,
 o3 10 (.bin .add) [.i 1, .t 9],
 o3 11 (.callf 67) [.t 10, .i 1, .i 6],
 oe 12 0 11,
 oe 13 1 11,
 o0 (.store 4) [.t 4, .t 12],
 om 5 13]
def F40c11 : Ac := .ret
def F40o13 := [
 o3 15 (.bin .eql) [.t 6, .y 129],
 om 14 15]
def F40o16 := [
 om 16 1,
 o3 17 (.bin .add) [.i 1, .t 16],
 o3 18 (.callf 67) [.t 17, .i 2, .i 7],
 oe 19 0 18,
 oe 20 1 18,
 o0 (.store 4) [.t 4, .t 19],
 om 5 20]
def F40c17 : Ac := .ret
def F40o19 := [
 o3 22 (.bin .eql) [.t 6, .y 131],
 om 21 22]
def F40o23 := [
 om 23 1,
 o3 24 (.bin .eql) [.t 23, .i 1],
 om 25 24,
 og 26 .mv [.t 1] 25 false,
 og 27 (.bin .eql) [.t 26, .i 4] 25 false,
 o3 28 .pick [.t 25, .b true, .t 27],
 om 29 28,
 og 30 .mv [.t 1] 29 false,
 og 31 (.bin .eql) [.t 30, .i 6] 29 false,
 o3 32 .pick [.t 29, .b true, .t 31]]
def F40o26 := [
 o3 33 (.callf 39) [],
 oe 34 0 33,
 oe 35 1 33,
 o0 (.store 4) [.t 4, .t 34],
 om 5 35]
def F40c27 : Ac := .ret
def F40c24 : Ac := (cd 32 (so F40o26 F40c27) .skip)
def F40o30 := [
 om 36 1,
 o3 37 (.bin .add) [.i 1, .t 36],
 o3 38 (.callf 67) [.t 37, .i 2, .i 8],
 oe 39 0 38,
 oe 40 1 38,
 o0 (.store 4) [.t 4, .t 39],
 om 5 40]
def F40c31 : Ac := .ret
def F40c29 : Ac := (so F40o30 F40c31)
def F40o33 := [
 o3 42 (.bin .eql) [.t 6, .y 132],
 om 41 42]
def F40o36 := [
 o3 43 (.callf 67) [.i 33, .i 1, .i 3],
 oe 44 0 43,
 oe 45 1 43,
 o0 (.store 4) [.t 4, .t 44],
 om 5 45]
def F40c37 : Ac := .ret
def F40o39 := [
 o3 47 (.bin .eql) [.t 6, .y 133],
 om 46 47]
def F40o42 := [
 o3 48 (.callf 67) [.i 33, .i 2, .i 4],
 oe 49 0 48,
 oe 50 1 48,
 o0 (.store 4) [.t 4, .t 49],
 om 5 50]
def F40c43 : Ac := .ret
def F40o45 := [
 o3 52 (.bin .eql) [.t 6, .y 134],
 om 51 52]
def F40o48 := [
 o3 53 (.callf 67) [.i 34, .i 1, .i 3],
 oe 54 0 53,
 oe 55 1 53,
 o0 (.store 4) [.t 4, .t 54],
 om 5 55]
def F40c49 : Ac := .ret
def F40o51 := [
 o3 57 (.bin .eql) [.t 6, .y 135],
 om 56 57]
def F40o54 := [
 o3 58 (.callf 67) [.i 34, .i 2, .i 4],
 oe 59 0 58,
 oe 60 1 58,
 o0 (.store 4) [.t 4, .t 59],
 om 5 60]
def F40c55 : Ac := .ret
def F40o57 := [
 o3 62 (.bin .eql) [.t 6, .y 136],
 om 61 62]
def F40o60 := [
 o3 63 (.callf 67) [.i 35, .i 1, .i 3],
 oe 64 0 63,
 oe 65 1 63,
 o0 (.store 4) [.t 4, .t 64],
 om 5 65]
def F40c61 : Ac := .ret
def F40o63 := [
 o3 67 (.bin .eql) [.t 6, .y 137],
 om 66 67]
def F40o66 := [
 o3 68 (.callf 67) [.i 35, .i 2, .i 4],
 oe 69 0 68,
 oe 70 1 68,
 o0 (.store 4) [.t 4, .t 69],
 om 5 70]
def F40c67 : Ac := .ret
def F40o69 := [
 o3 72 (.bin .eql) [.t 6, .y 138],
 om 71 72]
def F40o72 := [
 o3 73 (.callf 67) [.i 35, .i 3, .i 1],
 oe 74 0 73,
 oe 75 1 73,
 o0 (.store 4) [.t 4, .t 74],
 om 5 75]
def F40c73 : Ac := .ret
def F40o75 := [
 o3 77 (.bin .eql) [.t 6, .y 139],
 om 76 77]
def F40o78 := [
 o3 78 (.callf 67) [.i 35, .i 4, .i 2],
 oe 79 0 78,
 oe 80 1 78,
 o0 (.store 4) [.t 4, .t 79],
 om 5 80]
def F40c79 : Ac := .ret
def F40o81 := [
 o3 82 (.bin .eql) [.t 6, .y 140],
 om 81 82]
def F40o84 := [
 om 83 1,
 o3 84 (.bin .lss) [.t 83, .i 4]]
def F40o87 := [
 o3 85 (.callf 67) [.i 35, .i 2, .i 5],
 oe 86 0 85,
 oe 87 1 85,
 o0 (.store 4) [.t 4, .t 86],
 om 5 87]
def F40c88 : Ac := .ret
def F40c85 : Ac := (cd 84 (so F40o87 F40c88) .skip)
def F40o91 := [
 o3 89 (.bin .eql) [.t 6, .y 141],
 om 88 89]
def F40o94 := [
 o3 90 (.callf 67) [.i 36, .i 4, .i 20],
 oe 91 0 90,
 oe 92 1 90,
 o0 (.store 4) [.t 4, .t 91],
 om 5 92]
def F40c95 : Ac := .ret
def F40o97 := [
 o3 94 (.bin .eql) [.t 6, .y 142],
 om 93 94]
def F40o100 := [
 om 95 1,
 o3 96 (.bin .lss) [.t 95, .i 4],
 om 97 96,
 og 98 .mv [.t 1] 97 true,
 og 99 (.bin .neq) [.t 98, .i 1] 97 true,
 o3 100 .pick [.t 97, .t 99, .b false]]
def F40o103 := [
 o3 101 (.callf 67) [.i 35, .i 5, .i 2],
 oe 102 0 101,
 oe 103 1 101,
 o0 (.store 4) [.t 4, .t 102],
 om 5 103]
def F40c104 : Ac := .ret
def F40c101 : Ac := (cd 100 (so F40o103 F40c104) .skip)
def F40o107 := [
 o3 105 (.bin .eql) [.t 6, .y 143],
 om 104 105]
def F40o110 := [
 om 106 1,
 o3 107 (.bin .eql) [.t 106, .i 0]]
def F40o113 := [
 o3 108 (.callf 67) [.i 10, .i 2, .i 0],
 oe 109 0 108,
 oe 110 1 108,
 o0 (.store 4) [.t 4, .t 109],
 om 5 110]
def F40c114 : Ac := .ret
def F40c111 : Ac := (cd 107 (so F40o113 F40c114) .skip)
def F40c108 : Ac := (cd 104 (so F40o110 F40c111) .skip)
def F40c98 : Ac := (cd 93 (so F40o100 F40c101) (so F40o107 F40c108))
def F40c92 : Ac := (cd 88 (so F40o94 F40c95) (so F40o97 F40c98))
def F40c82 : Ac := (cd 81 (so F40o84 F40c85) (so F40o91 F40c92))
def F40c76 : Ac := (cd 76 (so F40o78 F40c79) (so F40o81 F40c82))
def F40c70 : Ac := (cd 71 (so F40o72 F40c73) (so F40o75 F40c76))
def F40c64 : Ac := (cd 66 (so F40o66 F40c67) (so F40o69 F40c70))
def F40c58 : Ac := (cd 61 (so F40o60 F40c61) (so F40o63 F40c64))
def F40c52 : Ac := (cd 56 (so F40o54 F40c55) (so F40o57 F40c58))
def F40c46 : Ac := (cd 51 (so F40o48 F40c49) (so F40o51 F40c52))
def F40c40 : Ac := (cd 46 (so F40o42 F40c43) (so F40o45 F40c46))
def F40c34 : Ac := (cd 41 (so F40o36 F40c37) (so F40o39 F40c40))
def F40c20 : Ac := (cd 21 (.seq (so F40o23 F40c24) F40c29) (so F40o33 F40c34))
def F40c14 : Ac := (cd 14 (so F40o16 F40c17) (so F40o19 F40c20))
def F40c8 : Ac := (cd 7 (so F40o10 F40c11) (so F40o13 F40c14))
def F40c5 : Ac := (.block 0 (so F40o7 F40c8))
def F40o118 := [
 o3 111 (.callf 39) [],
 oe 112 0 111,
 oe 113 1 111,
 o0 (.store 4) [.t 4, .t 112],
 om 5 113]
def F40c119 : Ac := .ret
def F40c117 : Ac := (so F40o118 F40c119)
def F40c2 : Ac := (.seq (so F40o4 F40c5) F40c117)
def F40c0 : Ac := (so F40o1 F40c2)
/-- hansom/isa.moves -/
def F40 : Fn := { np := 2, pb := [], rs := [.c 4 (some 4), .t 5], body := F40c0 }
def F41o1 := [
 o3 2 (.alloc [.d (.int .i64 0), .d (.int .i64 0), .d (.int .i64 0), .d (.bool false)]) [],
 o3 3 .mv [.b false]]
def F41o4 := [
 om 5 0,
 o3 6 (.bin .lss) [.t 5, .y 152]]
def F41o7 := [
 o3 7 (.callf 38) [.i 34, .i 16, .i 22],
 oe 8 0 7,
 oe 9 1 7,
 o0 (.store 4) [.t 2, .t 8],
 om 3 9]
def F41c8 : Ac := .ret
def F41c5 : Ac := (cd 6 (so F41o7 F41c8) .skip)
def F41o12 := [
 om 10 0,
 o3 11 (.bin .eql) [.t 10, .y 154]]
def F41o15 := [
 o3 12 (.callf 38) [.i 40, .i 11, .i 0],
 oe 13 0 12,
 oe 14 1 12,
 o0 (.store 4) [.t 2, .t 13],
 om 3 14]
def F41c16 : Ac := .ret
def F41c13 : Ac := (cd 11 (so F41o15 F41c16) .skip)
def F41o19 := [
 o3 15 (.bslice (.int .i64 0) 8 [0, 1, 2, 3, 4, 5, 6, 7]) [.i 37, .i 38, .i 0, .i 41, .i 42, .i 43, .i 44, .i 45],
 om 16 0,
 o3 17 (.bin .sub) [.t 16, .y 152],
 o3 18 (.iaddrS 1) [.t 15, .t 17],
 o3 19 (.load none) [.t 18],
 om 4 19]
def F41o21 := [
 om 20 4,
 o3 21 (.callf 38) [.t 20, .i 0, .i 0],
 oe 22 0 21,
 oe 23 1 21,
 o0 (.store 4) [.t 2, .t 22],
 om 3 23]
def F41c22 : Ac := .ret
def F41c20 : Ac := (so F41o21 F41c22)
def F41c18 : Ac := (so F41o19 F41c20)
def F41c10 : Ac := (.seq (so F41o12 F41c13) F41c18)
def F41c2 : Ac := (.seq (so F41o4 F41c5) F41c10)
def F41c0 : Ac := (so F41o1 F41c2)
/-- hansom/isa.words -/
def F41 : Fn := { np := 1, pb := [], rs := [.c 2 (some 4), .t 3], body := F41c0 }
def F42o1 := [
 o3 2 (.alloc [.d (.int .i64 0), .d (.int .i64 0), .d (.int .i64 0), .d (.bool false)]) [],
 o3 3 .mv [.b false]]
def F42o4 := [
 om 4 0]
def F42o7 := [
 o3 6 (.bin .eql) [.t 4, .y 160],
 om 5 6]
def F42o10 := [
 o3 7 (.callf 38) [.i 35, .i 14, .i 12],
 oe 8 0 7,
 oe 9 1 7,
 o0 (.store 4) [.t 2, .t 8],
 om 3 9]
def F42c11 : Ac := .ret
def F42o13 := [
 o3 11 (.bin .eql) [.t 4, .y 161],
 om 10 11]
def F42o16 := [
 o3 12 (.callf 38) [.i 35, .i 16, .i 13],
 oe 13 0 12,
 oe 14 1 12,
 o0 (.store 4) [.t 2, .t 13],
 om 3 14]
def F42c17 : Ac := .ret
def F42o19 := [
 o3 16 (.bin .eql) [.t 4, .y 162],
 om 15 16]
def F42o22 := [
 o3 17 (.callf 38) [.i 35, .i 12, .i 14],
 oe 18 0 17,
 oe 19 1 17,
 o0 (.store 4) [.t 2, .t 18],
 om 3 19]
def F42c23 : Ac := .ret
def F42o25 := [
 o3 21 (.bin .eql) [.t 4, .y 163],
 om 20 21]
def F42o28 := [
 o3 22 (.callf 38) [.i 35, .i 13, .i 16],
 oe 23 0 22,
 oe 24 1 22,
 o0 (.store 4) [.t 2, .t 23],
 om 3 24]
def F42c29 : Ac := .ret
def F42o31 := [
 o3 26 (.bin .eql) [.t 4, .y 168],
 om 25 26]
def F42o34 := [
 o3 27 (.callf 38) [.i 33, .i 14, .i 6],
 oe 28 0 27,
 oe 29 1 27,
 o0 (.store 4) [.t 2, .t 28],
 om 3 29]
def F42c35 : Ac := .ret
def F42o37 := [
 o3 31 (.bin .eql) [.t 4, .y 169],
 om 30 31]
def F42o40 := [
 o3 32 (.callf 38) [.i 33, .i 16, .i 7],
 oe 33 0 32,
 oe 34 1 32,
 o0 (.store 4) [.t 2, .t 33],
 om 3 34]
def F42c41 : Ac := .ret
def F42c38 : Ac := (cd 30 (so F42o40 F42c41) .skip)
def F42c32 : Ac := (cd 25 (so F42o34 F42c35) (so F42o37 F42c38))
def F42c26 : Ac := (cd 20 (so F42o28 F42c29) (so F42o31 F42c32))
def F42c20 : Ac := (cd 15 (so F42o22 F42c23) (so F42o25 F42c26))
def F42c14 : Ac := (cd 10 (so F42o16 F42c17) (so F42o19 F42c20))
def F42c8 : Ac := (cd 5 (so F42o10 F42c11) (so F42o13 F42c14))
def F42c5 : Ac := (.block 0 (so F42o7 F42c8))
def F42o45 := [
 om 35 0,
 o3 36 (.bin .lss) [.t 35, .y 168]]
def F42o48 := [
 om 37 0,
 o3 38 (.bin .sub) [.t 37, .y 164],
 o3 39 (.toInt .i64) [.t 38],
 o3 40 (.bin .add) [.i 46, .t 39],
 o3 41 (.callf 38) [.t 40, .i 0, .i 0],
 oe 42 0 41,
 oe 43 1 41,
 o0 (.store 4) [.t 2, .t 42],
 om 3 43]
def F42c49 : Ac := .ret
def F42c46 : Ac := (cd 36 (so F42o48 F42c49) .skip)
def F42o52 := [
 om 44 0,
 o3 45 (.bin .sub) [.t 44, .y 170],
 o3 46 (.toInt .i64) [.t 45],
 o3 47 (.bin .add) [.i 50, .t 46],
 o3 48 (.callf 38) [.t 47, .i 0, .i 0],
 oe 49 0 48,
 oe 50 1 48,
 o0 (.store 4) [.t 2, .t 49],
 om 3 50]
def F42c53 : Ac := .ret
def F42c51 : Ac := (so F42o52 F42c53)
def F42c43 : Ac := (.seq (so F42o45 F42c46) F42c51)
def F42c2 : Ac := (.seq (so F42o4 F42c5) F42c43)
def F42c0 : Ac := (so F42o1 F42c2)
/-- hansom/isa.texts -/
def F42 : Fn := { np := 1, pb := [], rs := [.c 2 (some 4), .t 3], body := F42c0 }
def F43o1 := [
 o3 4 (.alloc [.d (.int .i64 0), .d (.int .i64 0), .d (.int .i64 0), .d (.bool false)]) [],
 o3 5 .mv [.b false]]
def F43o4 := [
 om 6 0]
def F43o7 := [
 o3 8 (.bin .eql) [.t 6, .y 194],
 om 7 8]
def F43o10 := [
 o3 9 (.callf 38) [.i 56, .i 7, .i 0],
 oe 10 0 9,
 oe 11 1 9,
 o0 (.store 4) [.t 4, .t 10],
 om 5 11]
def F43c11 : Ac := .ret
def F43o13 := [
 o3 13 (.bin .eql) [.t 6, .y 195],
 om 12 13]
def F43o16 := [
 o3 14 (.callf 38) [.i 56, .i 0, .i 0],
 oe 15 0 14,
 oe 16 1 14,
 o0 (.store 4) [.t 4, .t 15],
 om 5 16]
def F43c17 : Ac := .ret
def F43o19 := [
 o3 18 (.bin .eql) [.t 6, .y 196],
 om 17 18]
def F43o22 := [
 o3 19 (.callf 67) [.i 58, .i 4, .i 19],
 oe 20 0 19,
 oe 21 1 19,
 o0 (.store 4) [.t 4, .t 20],
 om 5 21]
def F43c23 : Ac := .ret
def F43o25 := [
 o3 23 (.bin .eql) [.t 6, .y 197],
 om 22 23]
def F43o28 := [
 o3 24 (.callf 67) [.i 59, .i 4, .i 19],
 oe 25 0 24,
 oe 26 1 24,
 o0 (.store 4) [.t 4, .t 25],
 om 5 26]
def F43c29 : Ac := .ret
def F43o31 := [
 o3 28 (.bin .eql) [.t 6, .y 198],
 om 27 28]
def F43o34 := [
 om 29 1,
 o3 30 (.bin .eql) [.t 29, .i 0]]
def F43o37 := [
 o3 31 (.callf 67) [.i 35, .i 1, .i 6],
 oe 32 0 31,
 oe 33 1 31,
 o0 (.store 4) [.t 4, .t 32],
 om 5 33]
def F43c38 : Ac := .ret
def F43c35 : Ac := (cd 30 (so F43o37 F43c38) .skip)
def F43o41 := [
 o3 35 (.bin .eql) [.t 6, .y 199],
 om 34 35]
def F43o44 := [
 om 36 1,
 o3 37 (.bin .eql) [.t 36, .i 0]]
def F43o47 := [
 o3 38 (.callf 67) [.i 35, .i 2, .i 7],
 oe 39 0 38,
 oe 40 1 38,
 o0 (.store 4) [.t 4, .t 39],
 om 5 40]
def F43c48 : Ac := .ret
def F43c45 : Ac := (cd 37 (so F43o47 F43c48) .skip)
def F43o51 := [
 o3 42 (.bin .eql) [.t 6, .y 202],
 om 41 42]
def F43o54 := [
 o3 43 (.callf 38) [.i 57, .i 7, .i 0],
 oe 44 0 43,
 oe 45 1 43,
 o0 (.store 4) [.t 4, .t 44],
 om 5 45]
def F43c55 : Ac := .ret
def F43o57 := [
 o3 47 (.bin .eql) [.t 6, .y 203],
 om 46 47]
def F43o60 := [
 o3 48 (.callf 38) [.i 57, .i 0, .i 0],
 oe 49 0 48,
 oe 50 1 48,
 o0 (.store 4) [.t 4, .t 49],
 om 5 50]
def F43c61 : Ac := .ret
def F43o63 := [
 o3 52 (.bin .eql) [.t 6, .y 204],
 om 51 52]
def F43o66 := [
 o3 53 (.callf 38) [.i 60, .i 24, .i 0],
 oe 54 0 53,
 oe 55 1 53,
 o0 (.store 4) [.t 4, .t 54],
 om 5 55]
def F43c67 : Ac := .ret
def F43o69 := [
 o3 57 (.bin .eql) [.t 6, .y 205],
 om 56 57]
def F43o72 := [
 o3 58 (.callf 38) [.i 60, .i 6, .i 0],
 oe 59 0 58,
 oe 60 1 58,
 o0 (.store 4) [.t 4, .t 59],
 om 5 60]
def F43c73 : Ac := .ret
def F43o75 := [
 o3 62 (.bin .eql) [.t 6, .y 206],
 om 61 62]
def F43o78 := [
 o3 63 (.callf 38) [.i 61, .i 0, .i 0],
 oe 64 0 63,
 oe 65 1 63,
 o0 (.store 4) [.t 4, .t 64],
 om 5 65]
def F43c79 : Ac := .ret
def F43o81 := [
 o3 67 (.bin .eql) [.t 6, .y 207],
 om 66 67]
def F43o84 := [
 o3 68 (.callf 38) [.i 62, .i 0, .i 0],
 oe 69 0 68,
 oe 70 1 68,
 o0 (.store 4) [.t 4, .t 69],
 om 5 70]
def F43c85 : Ac := .ret
def F43c82 : Ac := (cd 66 (so F43o84 F43c85) .skip)
def F43c76 : Ac := (cd 61 (so F43o78 F43c79) (so F43o81 F43c82))
def F43c70 : Ac := (cd 56 (so F43o72 F43c73) (so F43o75 F43c76))
def F43c64 : Ac := (cd 51 (so F43o66 F43c67) (so F43o69 F43c70))
def F43c58 : Ac := (cd 46 (so F43o60 F43c61) (so F43o63 F43c64))
def F43c52 : Ac := (cd 41 (so F43o54 F43c55) (so F43o57 F43c58))
def F43c42 : Ac := (cd 34 (so F43o44 F43c45) (so F43o51 F43c52))
def F43c32 : Ac := (cd 27 (so F43o34 F43c35) (so F43o41 F43c42))
def F43c26 : Ac := (cd 22 (so F43o28 F43c29) (so F43o31 F43c32))
def F43c20 : Ac := (cd 17 (so F43o22 F43c23) (so F43o25 F43c26))
def F43c14 : Ac := (cd 12 (so F43o16 F43c17) (so F43o19 F43c20))
def F43c8 : Ac := (cd 7 (so F43o10 F43c11) (so F43o13 F43c14))
def F43c5 : Ac := (.block 0 (so F43o7 F43c8))
def F43o88 := [
 o3 71 (.callf 39) [],
 oe 72 0 71,
 oe 73 1 71,
 o0 (.store 4) [.t 4, .t 72],
 om 5 73]
def F43c89 : Ac := .ret
def F43c87 : Ac := (so F43o88 F43c89)
def F43c2 : Ac := (.seq (so F43o4 F43c5) F43c87)
def F43c0 : Ac := (so F43o1 F43c2)
/-- hansom/isa.backs -/
def F43 : Fn := { np := 2, pb := [], rs := [.c 4 (some 4), .t 5], body := F43c0 }
def F44o1 := [
 o3 4 (.alloc [.d (.int .i64 0), .d (.int .i64 0), .d (.int .i64 0), .d (.bool false)]) [],
 o3 5 .mv [.b false]]
def F44o4 := [
 om 9 0,
 o3 10 (.bin .lss) [.t 9, .y 212]]
def F44o8 := [
 om 11 1,
 o3 12 (.bin .eql) [.t 11, .i 6]]
def F44o11 := [
 o3 13 (.callf 39) [],
 oe 14 0 13,
 oe 15 1 13,
 o0 (.store 4) [.t 4, .t 14],
 om 5 15]
def F44c12 : Ac := .ret
def F44c9 : Ac := (cd 12 (so F44o11 F44c12) .skip)
def F44o15 := [
 o3 16 (.bslice (.int .i64 0) 8 [0, 1, 2, 3, 4, 5, 6, 7]) [.i 63, .i 64, .i 65, .i 66, .i 67, .i 68, .i 0, .i 69],
 om 17 1,
 o3 18 (.iaddrS 1) [.t 16, .t 17],
 o3 19 (.load none) [.t 18],
 om 6 19]
def F44o17 := [
 o3 7 .mv [.i 1],
 o3 8 .mv [.i 18]]
def F44o20 := [
 om 20 0,
 o3 21 (.bin .and) [.t 20, .y 1],
 o3 22 (.bin .eql) [.t 21, .y 1]]
def F44o22 := [
 o3 7 .mv [.i 2]]
def F44c21 : Ac := (cd 22 (.ops F44o22) .skip)
def F44o26 := [
 om 23 0,
 o3 24 (.bin .and) [.t 23, .y 2],
 o3 25 (.bin .neq) [.t 24, .y 0]]
def F44o28 := [
 o3 8 .mv [.i 15]]
def F44c27 : Ac := (cd 25 (.ops F44o28) .skip)
def F44o31 := [
 om 26 6,
 om 27 7,
 om 28 8,
 o3 29 (.callf 67) [.t 26, .t 27, .t 28],
 oe 30 0 29,
 oe 31 1 29,
 o0 (.store 4) [.t 4, .t 30],
 om 5 31]
def F44c32 : Ac := .ret
def F44c30 : Ac := (so F44o31 F44c32)
def F44c24 : Ac := (.seq (so F44o26 F44c27) F44c30)
def F44c18 : Ac := (.seq (so F44o20 F44c21) F44c24)
def F44c16 : Ac := (so F44o17 F44c18)
def F44c14 : Ac := (so F44o15 F44c16)
def F44c5 : Ac := (cd 10 (.seq (so F44o8 F44c9) F44c14) .skip)
def F44o37 := [
 om 33 0,
 o3 34 (.bin .eql) [.t 33, .y 212],
 om 32 34]
def F44o40 := [
 o3 35 (.callf 38) [.i 70, .i 6, .i 0],
 oe 36 0 35,
 oe 37 1 35,
 o0 (.store 4) [.t 4, .t 36],
 om 5 37]
def F44c41 : Ac := .ret
def F44o43 := [
 om 39 0,
 o3 40 (.bin .eql) [.t 39, .y 213],
 om 38 40]
def F44o46 := [
 o3 41 (.callf 38) [.i 71, .i 6, .i 0],
 oe 42 0 41,
 oe 43 1 41,
 o0 (.store 4) [.t 4, .t 42],
 om 5 43]
def F44c47 : Ac := .ret
def F44o49 := [
 om 45 0,
 o3 46 (.bin .eql) [.t 45, .y 215],
 om 44 46]
def F44o52 := [
 o3 47 (.callf 38) [.i 72, .i 0, .i 0],
 oe 48 0 47,
 oe 49 1 47,
 o0 (.store 4) [.t 4, .t 48],
 om 5 49]
def F44c53 : Ac := .ret
def F44o55 := [
 om 51 0,
 o3 52 (.bin .geq) [.t 51, .y 216],
 om 50 52]
def F44o58 := [
 o3 53 (.callf 67) [.i 73, .i 2, .i 0],
 oe 54 0 53,
 oe 55 1 53,
 o0 (.store 4) [.t 4, .t 54],
 om 5 55]
def F44c59 : Ac := .ret
def F44c56 : Ac := (cd 50 (so F44o58 F44c59) .skip)
def F44c50 : Ac := (cd 44 (so F44o52 F44c53) (so F44o55 F44c56))
def F44c44 : Ac := (cd 38 (so F44o46 F44c47) (so F44o49 F44c50))
def F44c38 : Ac := (cd 32 (so F44o40 F44c41) (so F44o43 F44c44))
def F44o62 := [
 o3 56 (.callf 39) [],
 oe 57 0 56,
 oe 58 1 56,
 o0 (.store 4) [.t 4, .t 57],
 om 5 58]
def F44c63 : Ac := .ret
def F44c61 : Ac := (so F44o62 F44c63)
def F44c34 : Ac := (.seq (.block 0 (so F44o37 F44c38)) F44c61)
def F44c2 : Ac := (.seq (so F44o4 F44c5) F44c34)
def F44c0 : Ac := (so F44o1 F44c2)
/-- hansom/isa.turns -/
def F44 : Fn := { np := 2, pb := [], rs := [.c 4 (some 4), .t 5], body := F44c0 }
def F45o1 := [
 o3 2 (.alloc [.d (.int .i64 0), .d (.int .i64 0), .d (.int .i64 0), .d (.bool false)]) [],
 o3 3 .mv [.b false]]
def F45o4 := [
 om 4 0]
def F45o8 := [
 o3 6 (.bin .eql) [.t 4, .y 224],
 om 5 6]
def F45o12 := [
 o3 7 (.bin .eql) [.t 4, .y 225],
 om 5 7]
def F45o16 := [
 o3 8 (.bin .eql) [.t 4, .y 226],
 om 5 8]
def F45o19 := [
 o3 9 (.bin .eql) [.t 4, .y 227],
 om 5 9]
def F45c17 : Ac := (cd 5 .skip (.ops F45o19))
def F45c13 : Ac := (cd 5 .skip (so F45o16 F45c17))
def F45c9 : Ac := (cd 5 .skip (so F45o12 F45c13))
def F45o22 := [
 om 10 0,
 o3 11 (.bin .sub) [.t 10, .y 224],
 o3 12 (.toInt .i64) [.t 11],
 o3 13 (.bin .add) [.i 74, .t 12],
 o3 14 (.callf 38) [.t 13, .i 9, .i 0],
 oe 15 0 14,
 oe 16 1 14,
 o0 (.store 4) [.t 2, .t 15],
 om 3 16]
def F45c23 : Ac := .ret
def F45o25 := [
 o3 18 (.bin .eql) [.t 4, .y 228],
 om 17 18]
def F45o28 := [
 o3 19 (.callf 38) [.i 78, .i 14, .i 6],
 oe 20 0 19,
 oe 21 1 19,
 o0 (.store 4) [.t 2, .t 20],
 om 3 21]
def F45c29 : Ac := .ret
def F45o31 := [
 o3 23 (.bin .eql) [.t 4, .y 229],
 om 22 23]
def F45o34 := [
 o3 24 (.callf 38) [.i 78, .i 16, .i 6],
 oe 25 0 24,
 oe 26 1 24,
 o0 (.store 4) [.t 2, .t 25],
 om 3 26]
def F45c35 : Ac := .ret
def F45o37 := [
 o3 28 (.bin .eql) [.t 4, .y 230],
 om 27 28]
def F45o40 := [
 o3 29 (.callf 38) [.i 79, .i 6, .i 14],
 oe 30 0 29,
 oe 31 1 29,
 o0 (.store 4) [.t 2, .t 30],
 om 3 31]
def F45c41 : Ac := .ret
def F45o43 := [
 o3 33 (.bin .eql) [.t 4, .y 231],
 om 32 33]
def F45o46 := [
 o3 34 (.callf 38) [.i 79, .i 6, .i 16],
 oe 35 0 34,
 oe 36 1 34,
 o0 (.store 4) [.t 2, .t 35],
 om 3 36]
def F45c47 : Ac := .ret
def F45o49 := [
 o3 38 (.bin .eql) [.t 4, .y 232],
 om 37 38]
def F45o52 := [
 o3 39 (.callf 38) [.i 39, .i 10, .i 0],
 oe 40 0 39,
 oe 41 1 39,
 o0 (.store 4) [.t 2, .t 40],
 om 3 41]
def F45c53 : Ac := .ret
def F45o55 := [
 o3 43 (.bin .eql) [.t 4, .y 233],
 om 42 43]
def F45o58 := [
 o3 44 (.callf 38) [.i 80, .i 10, .i 0],
 oe 45 0 44,
 oe 46 1 44,
 o0 (.store 4) [.t 2, .t 45],
 om 3 46]
def F45c59 : Ac := .ret
def F45o61 := [
 o3 48 (.bin .eql) [.t 4, .y 234],
 om 47 48]
def F45o64 := [
 o3 49 (.callf 38) [.i 81, .i 11, .i 0],
 oe 50 0 49,
 oe 51 1 49,
 o0 (.store 4) [.t 2, .t 50],
 om 3 51]
def F45c65 : Ac := .ret
def F45o67 := [
 o3 53 (.bin .eql) [.t 4, .y 235],
 om 52 53]
def F45o70 := [
 o3 54 (.callf 38) [.i 80, .i 9, .i 0],
 oe 55 0 54,
 oe 56 1 54,
 o0 (.store 4) [.t 2, .t 55],
 om 3 56]
def F45c71 : Ac := .ret
def F45o73 := [
 o3 58 (.bin .eql) [.t 4, .y 236],
 om 57 58]
def F45o76 := [
 o3 59 (.callf 38) [.i 78, .i 14, .i 17],
 oe 60 0 59,
 oe 61 1 59,
 o0 (.store 4) [.t 2, .t 60],
 om 3 61]
def F45c77 : Ac := .ret
def F45o79 := [
 o3 63 (.bin .eql) [.t 4, .y 237],
 om 62 63]
def F45o82 := [
 o3 64 (.callf 38) [.i 78, .i 16, .i 17],
 oe 65 0 64,
 oe 66 1 64,
 o0 (.store 4) [.t 2, .t 65],
 om 3 66]
def F45c83 : Ac := .ret
def F45o85 := [
 o3 68 (.bin .eql) [.t 4, .y 238],
 om 67 68]
def F45o88 := [
 o3 69 (.callf 38) [.i 79, .i 17, .i 14],
 oe 70 0 69,
 oe 71 1 69,
 o0 (.store 4) [.t 2, .t 70],
 om 3 71]
def F45c89 : Ac := .ret
def F45c86 : Ac := (cd 67 (so F45o88 F45c89) .skip)
def F45c80 : Ac := (cd 62 (so F45o82 F45c83) (so F45o85 F45c86))
def F45c74 : Ac := (cd 57 (so F45o76 F45c77) (so F45o79 F45c80))
def F45c68 : Ac := (cd 52 (so F45o70 F45c71) (so F45o73 F45c74))
def F45c62 : Ac := (cd 47 (so F45o64 F45c65) (so F45o67 F45c68))
def F45c56 : Ac := (cd 42 (so F45o58 F45c59) (so F45o61 F45c62))
def F45c50 : Ac := (cd 37 (so F45o52 F45c53) (so F45o55 F45c56))
def F45c44 : Ac := (cd 32 (so F45o46 F45c47) (so F45o49 F45c50))
def F45c38 : Ac := (cd 27 (so F45o40 F45c41) (so F45o43 F45c44))
def F45c32 : Ac := (cd 22 (so F45o34 F45c35) (so F45o37 F45c38))
def F45c26 : Ac := (cd 17 (so F45o28 F45c29) (so F45o31 F45c32))
def F45b20 : Ac := (cd 5 (so F45o22 F45c23) (so F45o25 F45c26))
def F45c20 : Ac := (.seq (.gh []) (.seq (.keep [0, 2, 4, 5] [[2]]) F45b20))
def F45c5 : Ac := (.block 0 (.seq (so F45o8 F45c9) F45c20))
def F45o92 := [
 o3 72 (.callf 38) [.i 79, .i 17, .i 16],
 oe 73 0 72,
 oe 74 1 72,
 o0 (.store 4) [.t 2, .t 73],
 om 3 74]
def F45c93 : Ac := .ret
def F45c91 : Ac := (so F45o92 F45c93)
def F45c2 : Ac := (.seq (so F45o4 F45c5) F45c91)
def F45c0 : Ac := (so F45o1 F45c2)
/-- hansom/isa.goes -/
def F45 : Fn := { np := 1, pb := [], rs := [.c 2 (some 4), .t 3], body := F45c0 }
def F46o1 := [
 o3 4 (.alloc [.d (.int .i64 0), .d (.int .i64 0), .d (.int .i64 0), .d (.bool false)]) [],
 o3 5 .mv [.b false]]
def F46o5 := [
 om 10 0,
 o3 11 (.bin .eql) [.t 10, .y 244],
 om 9 11]
def F46o8 := [
 o3 12 (.callf 38) [.i 82, .i 0, .i 0],
 oe 13 0 12,
 oe 14 1 12,
 o0 (.store 4) [.t 4, .t 13],
 om 5 14]
def F46c9 : Ac := .ret
def F46o11 := [
 om 16 0,
 o3 17 (.bin .eql) [.t 16, .y 245],
 om 15 17]
def F46o14 := [
 o3 18 (.callf 38) [.i 83, .i 0, .i 0],
 oe 19 0 18,
 oe 20 1 18,
 o0 (.store 4) [.t 4, .t 19],
 om 5 20]
def F46c15 : Ac := .ret
def F46o17 := [
 om 22 0,
 o3 23 (.bin .geq) [.t 22, .y 248],
 om 24 23,
 og 25 .mv [.t 0] 24 true,
 og 26 (.bin .lss) [.t 25, .y 254] 24 true,
 o3 27 .pick [.t 24, .t 26, .b false],
 om 21 27]
def F46o20 := [
 om 28 0,
 o3 29 (.bin .sub) [.t 28, .y 248],
 o3 30 (.toInt .i64) [.t 29],
 o3 31 (.bin .add) [.i 90, .t 30],
 o3 32 (.callf 38) [.t 31, .i 0, .i 0],
 oe 33 0 32,
 oe 34 1 32,
 o0 (.store 4) [.t 4, .t 33],
 om 5 34]
def F46c21 : Ac := .ret
def F46o23 := [
 om 36 0,
 o3 37 (.bin .lss) [.t 36, .y 246],
 om 35 37]
def F46o26 := [
 o3 38 (.callf 39) [],
 oe 39 0 38,
 oe 40 1 38,
 o0 (.store 4) [.t 4, .t 39],
 om 5 40]
def F46c27 : Ac := .ret
def F46c24 : Ac := (cd 35 (so F46o26 F46c27) .skip)
def F46b18 : Ac := (cd 21 (so F46o20 F46c21) (so F46o23 F46c24))
def F46c18 : Ac := (.seq (.gh []) (.seq (.keep [0, 1, 4, 21] [[4]]) F46b18))
def F46c12 : Ac := (cd 15 (so F46o14 F46c15) (so F46o17 F46c18))
def F46c6 : Ac := (cd 9 (so F46o8 F46c9) (so F46o11 F46c12))
def F46o30 := [
 o3 6 .mv [.i 1],
 o3 7 .mv [.i 6]]
def F46o33 := [
 om 41 0,
 o3 42 (.bin .and) [.t 41, .y 1],
 o3 43 (.bin .eql) [.t 42, .y 1]]
def F46o35 := [
 o3 6 .mv [.i 2],
 o3 7 .mv [.i 7]]
def F46c34 : Ac := (cd 43 (.ops F46o35) .skip)
def F46o39 := [
 om 44 0,
 o3 45 (.bin .lss) [.t 44, .y 248]]
def F46o43 := [
 om 46 1]
def F46o46 := [
 o3 48 (.bin .eql) [.t 46, .i 0],
 om 47 48]
def F46o49 := [
 om 49 6,
 om 50 7,
 o3 51 (.callf 67) [.i 33, .t 49, .t 50],
 oe 52 0 51,
 oe 53 1 51,
 o0 (.store 4) [.t 4, .t 52],
 om 5 53]
def F46c50 : Ac := .ret
def F46o52 := [
 o3 55 (.bin .eql) [.t 46, .i 1],
 om 54 55]
def F46o55 := [
 o3 56 (.callf 39) [],
 oe 57 0 56,
 oe 58 1 56,
 o0 (.store 4) [.t 4, .t 57],
 om 5 58]
def F46c56 : Ac := .ret
def F46c53 : Ac := (cd 54 (so F46o55 F46c56) .skip)
def F46c47 : Ac := (cd 47 (so F46o49 F46c50) (so F46o52 F46c53))
def F46c44 : Ac := (.block 1 (so F46o46 F46c47))
def F46o59 := [
 om 59 1,
 o3 60 (.bin .add) [.i 84, .t 59],
 o3 61 (.bin .sub) [.t 60, .i 2],
 om 62 6,
 o3 63 (.callf 67) [.t 61, .t 62, .i 0],
 oe 64 0 63,
 oe 65 1 63,
 o0 (.store 4) [.t 4, .t 64],
 om 5 65]
def F46c60 : Ac := .ret
def F46c58 : Ac := (so F46o59 F46c60)
def F46c40 : Ac := (cd 45 (.seq (so F46o43 F46c44) F46c58) .skip)
def F46o65 := [
 om 67 1,
 o3 68 (.bin .lss) [.t 67, .i 2],
 om 66 68]
def F46o68 := [
 om 69 1,
 o3 70 (.bin .add) [.i 15, .t 69],
 om 71 6,
 o3 72 (.callf 67) [.t 70, .t 71, .i 0],
 oe 73 0 72,
 oe 74 1 72,
 o0 (.store 4) [.t 4, .t 73],
 om 5 74]
def F46c69 : Ac := .ret
def F46o71 := [
 om 76 0,
 o3 77 (.bin .eql) [.t 76, .y 254],
 om 78 77,
 og 79 .mv [.t 1] 78 false,
 og 80 (.bin .eql) [.t 79, .i 7] 78 false,
 o3 81 .pick [.t 78, .b true, .t 80],
 om 75 81]
def F46o74 := [
 o3 82 (.callf 39) [],
 oe 83 0 82,
 oe 84 1 82,
 o0 (.store 4) [.t 4, .t 83],
 om 5 84]
def F46c75 : Ac := .ret
def F46c72 : Ac := (cd 75 (so F46o74 F46c75) .skip)
def F46c66 : Ac := (cd 66 (so F46o68 F46c69) (so F46o71 F46c72))
def F46o78 := [
 o3 85 (.bslice (.int .i64 0) 5 [0, 1, 2, 3, 4]) [.i 39, .i 40, .i 80, .i 81, .i 9],
 om 86 1,
 o3 87 (.bin .sub) [.t 86, .i 2],
 o3 88 (.iaddrS 1) [.t 85, .t 87],
 o3 89 (.load none) [.t 88],
 om 8 89]
def F46o81 := [
 om 90 1,
 o3 91 (.bin .eql) [.t 90, .i 3],
 om 92 91,
 og 93 .mv [.t 1] 92 false,
 og 94 (.bin .eql) [.t 93, .i 5] 92 false,
 o3 95 .pick [.t 92, .b true, .t 94]]
def F46o83 := [
 o3 6 .mv [.i 19]]
def F46c82 : Ac := (cd 95 (.ops F46o83) .skip)
def F46o86 := [
 om 96 8,
 om 97 6,
 o3 98 (.callf 67) [.t 96, .t 97, .i 0],
 oe 99 0 98,
 oe 100 1 98,
 o0 (.store 4) [.t 4, .t 99],
 om 5 100]
def F46c87 : Ac := .ret
def F46c85 : Ac := (so F46o86 F46c87)
def F46c79 : Ac := (.seq (so F46o81 F46c82) F46c85)
def F46c77 : Ac := (so F46o78 F46c79)
def F46c62 : Ac := (.seq (.block 2 (so F46o65 F46c66)) F46c77)
def F46b37 : Ac := (.seq (so F46o39 F46c40) F46c62)
def F46c37 : Ac := (.seq (.gh []) (.seq (.keep [0, 1, 4, 6, 7] [[4]]) F46b37))
def F46c31 : Ac := (.seq (so F46o33 F46c34) F46c37)
def F46c29 : Ac := (so F46o30 F46c31)
def F46c2 : Ac := (.seq (.block 0 (so F46o5 F46c6)) F46c29)
def F46c0 : Ac := (so F46o1 F46c2)
/-- hansom/isa.rest -/
def F46 : Fn := { np := 2, pb := [], rs := [.c 4 (some 4), .t 5], body := F46c0 }
def F47o1 := [
 o3 2 .mv [.c (.d (.str []))]]
def F47o4 := [
 om 3 0,
 o3 4 (.bin .lss) [.t 3, .i 1],
 om 5 4,
 og 6 .mv [.t 0] 5 false,
 og 7 (.bin .gtr) [.t 6, .i 95] 5 false,
 o3 8 .pick [.t 5, .b true, .t 7]]
def F47o7 := [
 o3 2 .mv [.c (.d (.str [63]))]]
def F47c8 : Ac := .ret
def F47c5 : Ac := (cd 8 (so F47o7 F47c8) .skip)
def F47o11 := [
 om 9 0,
 o3 10 (.bin .sub) [.t 9, .i 1],
 o3 11 (.callf 53) [.c (.d (.str [65, 68, 68, 32, 79, 82, 32, 65, 68, 67, 32, 83, 66, 66, 32, 65, 78, 68, 32, 83, 85, 66, 32, 88, 79, 82, 32, 67, 77, 80, 32, 80, 85, 83, 72, 32, 80, 79, 80, 32, 68, 65, 65, 32, 68, 65, 83, 32, 65, 65, 65, 32, 65, 65, 83, 32, 73, 78, 67, 32, 68, 69, 67, 32, 74, 79, 32, 74, 78, 79, 32, 74, 66, 32, 74, 78, 66, 32, 74, 90, 32, 74, 78, 90, 32, 74, 66, 69, 32, 74, 65, 32, 74, 83, 32, 74, 78, 83, 32, 74, 80, 32, 74, 78, 80, 32, 74, 76, 32, 74, 71, 69, 32, 74, 76, 69, 32, 74, 71, 32, 84, 69, 83, 84, 32, 88, 67, 72, 71, 32, 77, 79, 86, 32, 76, 69, 65, 32, 67, 66, 87, 32, 67, 87, 68, 32, 67, 65, 76, 76, 32, 67, 65, 76, 76, 70, 32, 87, 65, 73, 84, 32, 80, 85, 83, 72, 70, 32, 80, 79, 80, 70, 32, 83, 65, 72, 70, 32, 76, 65, 72, 70, 32, 77, 79, 86, 83, 66, 32, 77, 79, 86, 83, 87, 32, 67, 77, 80, 83, 66, 32, 67, 77, 80, 83, 87, 32, 83, 84, 79, 83, 66, 32, 83, 84, 79, 83, 87, 32, 76, 79, 68, 83, 66, 32, 76, 79, 68, 83, 87, 32, 83, 67, 65, 83, 66, 32, 83, 67, 65, 83, 87, 32, 82, 69, 84, 32, 82, 69, 84, 70, 32, 76, 69, 83, 32, 76, 68, 83, 32, 73, 78, 84, 32, 73, 78, 84, 79, 32, 73, 82, 69, 84, 32, 82, 79, 76, 32, 82, 79, 82, 32, 82, 67, 76, 32, 82, 67, 82, 32, 83, 72, 76, 32, 83, 72, 82, 32, 83, 65, 82, 32, 65, 65, 77, 32, 65, 65, 68, 32, 88, 76, 65, 84, 32, 69, 83, 67, 32, 76, 79, 79, 80, 78, 90, 32, 76, 79, 79, 80, 90, 32, 76, 79, 79, 80, 32, 74, 67, 88, 90, 32, 73, 78, 32, 79, 85, 84, 32, 74, 77, 80, 32, 74, 77, 80, 70, 32, 72, 76, 84, 32, 67, 77, 67, 32, 78, 79, 84, 32, 78, 69, 71, 32, 77, 85, 76, 32, 73, 77, 85, 76, 32, 68, 73, 86, 32, 73, 68, 73, 86, 32, 67, 76, 67, 32, 83, 84, 67, 32, 67, 76, 73, 32, 83, 84, 73, 32, 67, 76, 68, 32, 83, 84, 68, 32])), .t 10],
 om 2 11]
def F47c12 : Ac := .ret
def F47c10 : Ac := (so F47o11 F47c12)
def F47c2 : Ac := (.seq (so F47o4 F47c5) F47c10)
def F47c0 : Ac := (so F47o1 F47c2)
/-- hansom/hansomref04.Name -/
def F47 : Fn := { np := 1, pb := [], rs := [.t 2], body := F47c0 }
def F48o1 := [
 o3 4 .mv [.c (.d (.str []))]]
def F48o3 := [
 om 6 0,
 o3 7 (.toInt .i64) [.t 6],
 o3 8 (.callf 53) [.c (.d (.str [65, 68, 68, 58, 69, 98, 58, 71, 98, 32, 65, 68, 68, 58, 69, 118, 58, 71, 118, 32, 65, 68, 68, 58, 71, 98, 58, 69, 98, 32, 65, 68, 68, 58, 71, 118, 58, 69, 118, 32, 65, 68, 68, 58, 65, 76, 58, 73, 98, 32, 65, 68, 68, 58, 65, 88, 58, 73, 118, 32, 80, 85, 83, 72, 58, 90, 115, 32, 80, 79, 80, 58, 90, 115, 32, 79, 82, 58, 69, 98, 58, 71, 98, 32, 79, 82, 58, 69, 118, 58, 71, 118, 32, 79, 82, 58, 71, 98, 58, 69, 98, 32, 79, 82, 58, 71, 118, 58, 69, 118, 32, 79, 82, 58, 65, 76, 58, 73, 98, 32, 79, 82, 58, 65, 88, 58, 73, 118, 32, 80, 85, 83, 72, 58, 90, 115, 32, 45, 32, 65, 68, 67, 58, 69, 98, 58, 71, 98, 32, 65, 68, 67, 58, 69, 118, 58, 71, 118, 32, 65, 68, 67, 58, 71, 98, 58, 69, 98, 32, 65, 68, 67, 58, 71, 118, 58, 69, 118, 32, 65, 68, 67, 58, 65, 76, 58, 73, 98, 32, 65, 68, 67, 58, 65, 88, 58, 73, 118, 32, 80, 85, 83, 72, 58, 90, 115, 32, 80, 79, 80, 58, 90, 115, 32, 83, 66, 66, 58, 69, 98, 58, 71, 98, 32, 83, 66, 66, 58, 69, 118, 58, 71, 118, 32, 83, 66, 66, 58, 71, 98, 58, 69, 98, 32, 83, 66, 66, 58, 71, 118, 58, 69, 118, 32, 83, 66, 66, 58, 65, 76, 58, 73, 98, 32, 83, 66, 66, 58, 65, 88, 58, 73, 118, 32, 80, 85, 83, 72, 58, 90, 115, 32, 80, 79, 80, 58, 90, 115, 32, 65, 78, 68, 58, 69, 98, 58, 71, 98, 32, 65, 78, 68, 58, 69, 118, 58, 71, 118, 32, 65, 78, 68, 58, 71, 98, 58, 69, 98, 32, 65, 78, 68, 58, 71, 118, 58, 69, 118, 32, 65, 78, 68, 58, 65, 76, 58, 73, 98, 32, 65, 78, 68, 58, 65, 88, 58, 73, 118, 32, 45, 32, 68, 65, 65, 32, 83, 85, 66, 58, 69, 98, 58, 71, 98, 32, 83, 85, 66, 58, 69, 118, 58, 71, 118, 32, 83, 85, 66, 58, 71, 98, 58, 69, 98, 32, 83, 85, 66, 58, 71, 118, 58, 69, 118, 32, 83, 85, 66, 58, 65, 76, 58, 73, 98, 32, 83, 85, 66, 58, 65, 88, 58, 73, 118, 32, 45, 32, 68, 65, 83, 32, 88, 79, 82, 58, 69, 98, 58, 71, 98, 32, 88, 79, 82, 58, 69, 118, 58, 71, 118, 32, 88, 79, 82, 58, 71, 98, 58, 69, 98, 32, 88, 79, 82, 58, 71, 118, 58, 69, 118, 32, 88, 79, 82, 58, 65, 76, 58, 73, 98, 32, 88, 79, 82, 58, 65, 88, 58, 73, 118, 32, 45, 32, 65, 65, 65, 32, 67, 77, 80, 58, 69, 98, 58, 71, 98, 32, 67, 77, 80, 58, 69, 118, 58, 71, 118, 32, 67, 77, 80, 58, 71, 98, 58, 69, 98, 32, 67, 77, 80, 58, 71, 118, 58, 69, 118, 32, 67, 77, 80, 58, 65, 76, 58, 73, 98, 32, 67, 77, 80, 58, 65, 88, 58, 73, 118, 32, 45, 32, 65, 65, 83, 32, 73, 78, 67, 58, 90, 118, 32, 73, 78, 67, 58, 90, 118, 32, 73, 78, 67, 58, 90, 118, 32, 73, 78, 67, 58, 90, 118, 32, 73, 78, 67, 58, 90, 118, 32, 73, 78, 67, 58, 90, 118, 32, 73, 78, 67, 58, 90, 118, 32, 73, 78, 67, 58, 90, 118, 32, 68, 69, 67, 58, 90, 118, 32, 68, 69, 67, 58, 90, 118, 32, 68, 69, 67, 58, 90, 118, 32, 68, 69, 67, 58, 90, 118, 32, 68, 69, 67, 58, 90, 118, 32, 68, 69, 67, 58, 90, 118, 32, 68, 69, 67, 58, 90, 118, 32, 68, 69, 67, 58, 90, 118, 32, 80, 85, 83, 72, 58, 90, 118, 32, 80, 85, 83, 72, 58, 90, 118, 32, 80, 85, 83, 72, 58, 90, 118, 32, 80, 85, 83, 72, 58, 90, 118, 32, 80, 85, 83, 72, 58, 90, 118, 32, 80, 85, 83, 72, 58, 90, 118, 32, 80, 85, 83, 72, 58, 90, 118, 32, 80, 85, 83, 72, 58, 90, 118, 32, 80, 79, 80, 58, 90, 118, 32, 80, 79, 80, 58, 90, 118, 32, 80, 79, 80, 58, 90, 118, 32, 80, 79, 80, 58, 90, 118, 32, 80, 79, 80, 58, 90, 118, 32, 80, 79, 80, 58, 90, 118, 32, 80, 79, 80, 58, 90, 118, 32, 80, 79, 80, 58, 90, 118, 32, 45, 32, 45, 32, 45, 32, 45, 32, 45, 32, 45, 32, 45, 32, 45, 32, 45, 32, 45, 32, 45, 32, 45, 32, 45, 32, 45, 32, 45, 32, 45, 32, 74, 79, 58, 74, 98, 32, 74, 78, 79, 58, 74, 98, 32, 74, 66, 58, 74, 98, 32, 74, 78, 66, 58, 74, 98, 32, 74, 90, 58, 74, 98, 32, 74, 78, 90, 58, 74, 98, 32, 74, 66, 69, 58, 74, 98, 32, 74, 65, 58, 74, 98, 32, 74, 83, 58, 74, 98, 32, 74, 78, 83, 58, 74, 98, 32, 74, 80, 58, 74, 98, 32, 74, 78, 80, 58, 74, 98, 32, 74, 76, 58, 74, 98, 32, 74, 71, 69, 58, 74, 98, 32, 74, 76, 69, 58, 74, 98, 32, 74, 71, 58, 74, 98, 32, 47, 65, 68, 68, 58, 69, 98, 58, 73, 98, 47, 79, 82, 58, 69, 98, 58, 73, 98, 47, 65, 68, 67, 58, 69, 98, 58, 73, 98, 47, 83, 66, 66, 58, 69, 98, 58, 73, 98, 47, 65, 78, 68, 58, 69, 98, 58, 73, 98, 47, 83, 85, 66, 58, 69, 98, 58, 73, 98, 47, 88, 79, 82, 58, 69, 98, 58, 73, 98, 47, 67, 77, 80, 58, 69, 98, 58, 73, 98, 32, 47, 65, 68, 68, 58, 69, 118, 58, 73, 118, 47, 79, 82, 58, 69, 118, 58, 73, 118, 47, 65, 68, 67, 58, 69, 118, 58, 73, 118, 47, 83, 66, 66, 58, 69, 118, 58, 73, 118, 47, 65, 78, 68, 58, 69, 118, 58, 73, 118, 47, 83, 85, 66, 58, 69, 118, 58, 73, 118, 47, 88, 79, 82, 58, 69, 118, 58, 73, 118, 47, 67, 77, 80, 58, 69, 118, 58, 73, 118, 32, 45, 32, 47, 65, 68, 68, 58, 69, 118, 58, 73, 115, 47, 45, 47, 65, 68, 67, 58, 69, 118, 58, 73, 115, 47, 83, 66, 66, 58, 69, 118, 58, 73, 115, 47, 45, 47, 83, 85, 66, 58, 69, 118, 58, 73, 115, 47, 45, 47, 67, 77, 80, 58, 69, 118, 58, 73, 115, 32, 84, 69, 83, 84, 58, 69, 98, 58, 71, 98, 32, 84, 69, 83, 84, 58, 69, 118, 58, 71, 118, 32, 88, 67, 72, 71, 58, 69, 98, 58, 71, 98, 32, 88, 67, 72, 71, 58, 69, 118, 58, 71, 118, 32, 77, 79, 86, 58, 69, 98, 58, 71, 98, 32, 77, 79, 86, 58, 69, 118, 58, 71, 118, 32, 77, 79, 86, 58, 71, 98, 58, 69, 98, 32, 77, 79, 86, 58, 71, 118, 58, 69, 118, 32, 47, 77, 79, 86, 58, 69, 118, 58, 83, 119, 47, 77, 79, 86, 58, 69, 118, 58, 83, 119, 47, 77, 79, 86, 58, 69, 118, 58, 83, 119, 47, 77, 79, 86, 58, 69, 118, 58, 83, 119, 47, 45, 47, 45, 47, 45, 47, 45, 32, 76, 69, 65, 58, 71, 118, 58, 77, 32, 47, 77, 79, 86, 58, 83, 119, 58, 69, 118, 47, 45, 47, 77, 79, 86, 58, 83, 119, 58, 69, 118, 47, 77, 79, 86, 58, 83, 119, 58, 69, 118, 47, 45, 47, 45, 47, 45, 47, 45, 32, 47, 80, 79, 80, 58, 69, 118, 47, 45, 47, 45, 47, 45, 47, 45, 47, 45, 47, 45, 47, 45, 32, 88, 67, 72, 71, 58, 65, 88, 58, 90, 118, 32, 88, 67, 72, 71, 58, 65, 88, 58, 90, 118, 32, 88, 67, 72, 71, 58, 65, 88, 58, 90, 118, 32, 88, 67, 72, 71, 58, 65, 88, 58, 90, 118, 32, 88, 67, 72, 71, 58, 65, 88, 58, 90, 118, 32, 88, 67, 72, 71, 58, 65, 88, 58, 90, 118, 32, 88, 67, 72, 71, 58, 65, 88, 58, 90, 118, 32, 88, 67, 72, 71, 58, 65, 88, 58, 90, 118, 32, 67, 66, 87, 32, 67, 87, 68, 32, 67, 65, 76, 76, 70, 58, 65, 112, 32, 87, 65, 73, 84, 32, 80, 85, 83, 72, 70, 32, 80, 79, 80, 70, 32, 83, 65, 72, 70, 32, 76, 65, 72, 70, 32, 77, 79, 86, 58, 65, 76, 58, 79, 98, 32, 77, 79, 86, 58, 65, 88, 58, 79, 118, 32, 77, 79, 86, 58, 79, 98, 58, 65, 76, 32, 77, 79, 86, 58, 79, 118, 58, 65, 88, 32, 77, 79, 86, 83, 66, 32, 77, 79, 86, 83, 87, 32, 67, 77, 80, 83, 66, 32, 67, 77, 80, 83, 87, 32, 84, 69, 83, 84, 58, 65, 76, 58, 73, 98, 32, 84, 69, 83, 84, 58, 65, 88, 58, 73, 118, 32, 83, 84, 79, 83, 66, 32, 83, 84, 79, 83, 87, 32, 76, 79, 68, 83, 66, 32, 76, 79, 68, 83, 87, 32, 83, 67, 65, 83, 66, 32, 83, 67, 65, 83, 87, 32, 77, 79, 86, 58, 90, 98, 58, 73, 98, 32, 77, 79, 86, 58, 90, 98, 58, 73, 98, 32, 77, 79, 86, 58, 90, 98, 58, 73, 98, 32, 77, 79, 86, 58, 90, 98, 58, 73, 98, 32, 77, 79, 86, 58, 90, 98, 58, 73, 98, 32, 77, 79, 86, 58, 90, 98, 58, 73, 98, 32, 77, 79, 86, 58, 90, 98, 58, 73, 98, 32, 77, 79, 86, 58, 90, 98, 58, 73, 98, 32, 77, 79, 86, 58, 90, 118, 58, 73, 118, 32, 77, 79, 86, 58, 90, 118, 58, 73, 118, 32, 77, 79, 86, 58, 90, 118, 58, 73, 118, 32, 77, 79, 86, 58, 90, 118, 58, 73, 118, 32, 77, 79, 86, 58, 90, 118, 58, 73, 118, 32, 77, 79, 86, 58, 90, 118, 58, 73, 118, 32, 77, 79, 86, 58, 90, 118, 58, 73, 118, 32, 77, 79, 86, 58, 90, 118, 58, 73, 118, 32, 45, 32, 45, 32, 82, 69, 84, 58, 73, 118, 32, 82, 69, 84, 32, 76, 69, 83, 58, 71, 118, 58, 77, 112, 32, 76, 68, 83, 58, 71, 118, 58, 77, 112, 32, 47, 77, 79, 86, 58, 69, 98, 58, 73, 98, 47, 45, 47, 45, 47, 45, 47, 45, 47, 45, 47, 45, 47, 45, 32, 47, 77, 79, 86, 58, 69, 118, 58, 73, 118, 47, 45, 47, 45, 47, 45, 47, 45, 47, 45, 47, 45, 47, 45, 32, 45, 32, 45, 32, 82, 69, 84, 70, 58, 73, 118, 32, 82, 69, 84, 70, 32, 73, 78, 84, 58, 84, 104, 114, 101, 101, 32, 73, 78, 84, 58, 73, 98, 32, 73, 78, 84, 79, 32, 73, 82, 69, 84, 32, 47, 82, 79, 76, 58, 69, 98, 58, 79, 110, 101, 47, 82, 79, 82, 58, 69, 98, 58, 79, 110, 101, 47, 82, 67, 76, 58, 69, 98, 58, 79, 110, 101, 47, 82, 67, 82, 58, 69, 98, 58, 79, 110, 101, 47, 83, 72, 76, 58, 69, 98, 58, 79, 110, 101, 47, 83, 72, 82, 58, 69, 98, 58, 79, 110, 101, 47, 45, 47, 83, 65, 82, 58, 69, 98, 58, 79, 110, 101, 32, 47, 82, 79, 76, 58, 69, 118, 58, 79, 110, 101, 47, 82, 79, 82, 58, 69, 118, 58, 79, 110, 101, 47, 82, 67, 76, 58, 69, 118, 58, 79, 110, 101, 47, 82, 67, 82, 58, 69, 118, 58, 79, 110, 101, 47, 83, 72, 76, 58, 69, 118, 58, 79, 110, 101, 47, 83, 72, 82, 58, 69, 118, 58, 79, 110, 101, 47, 45, 47, 83, 65, 82, 58, 69, 118, 58, 79, 110, 101, 32, 47, 82, 79, 76, 58, 69, 98, 58, 67, 76, 47, 82, 79, 82, 58, 69, 98, 58, 67, 76, 47, 82, 67, 76, 58, 69, 98, 58, 67, 76, 47, 82, 67, 82, 58, 69, 98, 58, 67, 76, 47, 83, 72, 76, 58, 69, 98, 58, 67, 76, 47, 83, 72, 82, 58, 69, 98, 58, 67, 76, 47, 45, 47, 83, 65, 82, 58, 69, 98, 58, 67, 76, 32, 47, 82, 79, 76, 58, 69, 118, 58, 67, 76, 47, 82, 79, 82, 58, 69, 118, 58, 67, 76, 47, 82, 67, 76, 58, 69, 118, 58, 67, 76, 47, 82, 67, 82, 58, 69, 118, 58, 67, 76, 47, 83, 72, 76, 58, 69, 118, 58, 67, 76, 47, 83, 72, 82, 58, 69, 118, 58, 67, 76, 47, 45, 47, 83, 65, 82, 58, 69, 118, 58, 67, 76, 32, 65, 65, 77, 58, 73, 98, 32, 65, 65, 68, 58, 73, 98, 32, 45, 32, 88, 76, 65, 84, 32, 69, 83, 67, 58, 69, 118, 32, 69, 83, 67, 58, 69, 118, 32, 69, 83, 67, 58, 69, 118, 32, 69, 83, 67, 58, 69, 118, 32, 69, 83, 67, 58, 69, 118, 32, 69, 83, 67, 58, 69, 118, 32, 69, 83, 67, 58, 69, 118, 32, 69, 83, 67, 58, 69, 118, 32, 76, 79, 79, 80, 78, 90, 58, 74, 98, 32, 76, 79, 79, 80, 90, 58, 74, 98, 32, 76, 79, 79, 80, 58, 74, 98, 32, 74, 67, 88, 90, 58, 74, 98, 32, 73, 78, 58, 65, 76, 58, 73, 98, 32, 73, 78, 58, 65, 88, 58, 73, 98, 32, 79, 85, 84, 58, 73, 98, 58, 65, 76, 32, 79, 85, 84, 58, 73, 98, 58, 65, 88, 32, 67, 65, 76, 76, 58, 74, 118, 32, 74, 77, 80, 58, 74, 118, 32, 74, 77, 80, 70, 58, 65, 112, 32, 74, 77, 80, 58, 74, 98, 32, 73, 78, 58, 65, 76, 58, 68, 88, 32, 73, 78, 58, 65, 88, 58, 68, 88, 32, 79, 85, 84, 58, 68, 88, 58, 65, 76, 32, 79, 85, 84, 58, 68, 88, 58, 65, 88, 32, 45, 32, 45, 32, 45, 32, 45, 32, 72, 76, 84, 32, 67, 77, 67, 32, 47, 84, 69, 83, 84, 58, 69, 98, 58, 73, 98, 47, 45, 47, 78, 79, 84, 58, 69, 98, 47, 78, 69, 71, 58, 69, 98, 47, 77, 85, 76, 58, 69, 98, 47, 73, 77, 85, 76, 58, 69, 98, 47, 68, 73, 86, 58, 69, 98, 47, 73, 68, 73, 86, 58, 69, 98, 32, 47, 84, 69, 83, 84, 58, 69, 118, 58, 73, 118, 47, 45, 47, 78, 79, 84, 58, 69, 118, 47, 78, 69, 71, 58, 69, 118, 47, 77, 85, 76, 58, 69, 118, 47, 73, 77, 85, 76, 58, 69, 118, 47, 68, 73, 86, 58, 69, 118, 47, 73, 68, 73, 86, 58, 69, 118, 32, 67, 76, 67, 32, 83, 84, 67, 32, 67, 76, 73, 32, 83, 84, 73, 32, 67, 76, 68, 32, 83, 84, 68, 32, 47, 73, 78, 67, 58, 69, 98, 47, 68, 69, 67, 58, 69, 98, 47, 45, 47, 45, 47, 45, 47, 45, 47, 45, 47, 45, 32, 47, 73, 78, 67, 58, 69, 118, 47, 68, 69, 67, 58, 69, 118, 47, 67, 65, 76, 76, 58, 69, 118, 47, 67, 65, 76, 76, 70, 58, 77, 112, 47, 74, 77, 80, 58, 69, 118, 47, 74, 77, 80, 70, 58, 77, 112, 47, 80, 85, 83, 72, 58, 69, 118, 47, 45, 32])), .t 7],
 om 5 8]
def F48o6 := [
 om 9 5,
 o3 10 .lenS [.t 9],
 o3 11 (.bin .gtr) [.t 10, .i 0],
 om 12 11,
 og 13 .mv [.t 5] 12 true,
 og 14 .indexS [.t 13, .i 0] 12 true,
 og 15 (.bin .eql) [.t 14, .y 47] 12 true,
 o3 16 .pick [.t 12, .t 15, .b false]]
def F48o9 := [
 om 17 5,
 om 18 1,
 o3 19 (.bin .and) [.t 18, .i 7],
 o3 20 (.bin .add) [.t 19, .i 1],
 o3 21 (.callf 50) [.t 17, .y 47, .t 20],
 om 4 21]
def F48c10 : Ac := .ret
def F48c7 : Ac := (cd 16 (so F48o9 F48c10) .skip)
def F48o13 := [
 om 22 5,
 om 4 22]
def F48c14 : Ac := .ret
def F48c12 : Ac := (so F48o13 F48c14)
def F48c4 : Ac := (.seq (so F48o6 F48c7) F48c12)
def F48c2 : Ac := (so F48o3 F48c4)
def F48c0 : Ac := (so F48o1 F48c2)
/-- hansom/hansomref04.Entry -/
def F48 : Fn := { np := 2, pb := [], rs := [.t 4], body := F48c0 }
def F49o1 := [
 o3 2 .mv [.i 0]]
def F49o3 := [
 om 3 0,
 o3 4 (.callf 51) [.c (.d (.str [65, 68, 68, 32, 79, 82, 32, 65, 68, 67, 32, 83, 66, 66, 32, 65, 78, 68, 32, 83, 85, 66, 32, 88, 79, 82, 32, 67, 77, 80, 32, 80, 85, 83, 72, 32, 80, 79, 80, 32, 68, 65, 65, 32, 68, 65, 83, 32, 65, 65, 65, 32, 65, 65, 83, 32, 73, 78, 67, 32, 68, 69, 67, 32, 74, 79, 32, 74, 78, 79, 32, 74, 66, 32, 74, 78, 66, 32, 74, 90, 32, 74, 78, 90, 32, 74, 66, 69, 32, 74, 65, 32, 74, 83, 32, 74, 78, 83, 32, 74, 80, 32, 74, 78, 80, 32, 74, 76, 32, 74, 71, 69, 32, 74, 76, 69, 32, 74, 71, 32, 84, 69, 83, 84, 32, 88, 67, 72, 71, 32, 77, 79, 86, 32, 76, 69, 65, 32, 67, 66, 87, 32, 67, 87, 68, 32, 67, 65, 76, 76, 32, 67, 65, 76, 76, 70, 32, 87, 65, 73, 84, 32, 80, 85, 83, 72, 70, 32, 80, 79, 80, 70, 32, 83, 65, 72, 70, 32, 76, 65, 72, 70, 32, 77, 79, 86, 83, 66, 32, 77, 79, 86, 83, 87, 32, 67, 77, 80, 83, 66, 32, 67, 77, 80, 83, 87, 32, 83, 84, 79, 83, 66, 32, 83, 84, 79, 83, 87, 32, 76, 79, 68, 83, 66, 32, 76, 79, 68, 83, 87, 32, 83, 67, 65, 83, 66, 32, 83, 67, 65, 83, 87, 32, 82, 69, 84, 32, 82, 69, 84, 70, 32, 76, 69, 83, 32, 76, 68, 83, 32, 73, 78, 84, 32, 73, 78, 84, 79, 32, 73, 82, 69, 84, 32, 82, 79, 76, 32, 82, 79, 82, 32, 82, 67, 76, 32, 82, 67, 82, 32, 83, 72, 76, 32, 83, 72, 82, 32, 83, 65, 82, 32, 65, 65, 77, 32, 65, 65, 68, 32, 88, 76, 65, 84, 32, 69, 83, 67, 32, 76, 79, 79, 80, 78, 90, 32, 76, 79, 79, 80, 90, 32, 76, 79, 79, 80, 32, 74, 67, 88, 90, 32, 73, 78, 32, 79, 85, 84, 32, 74, 77, 80, 32, 74, 77, 80, 70, 32, 72, 76, 84, 32, 67, 77, 67, 32, 78, 79, 84, 32, 78, 69, 71, 32, 77, 85, 76, 32, 73, 77, 85, 76, 32, 68, 73, 86, 32, 73, 68, 73, 86, 32, 67, 76, 67, 32, 83, 84, 67, 32, 67, 76, 73, 32, 83, 84, 73, 32, 67, 76, 68, 32, 83, 84, 68, 32])), .t 3],
 om 2 4]
def F49c4 : Ac := .ret
def F49c2 : Ac := (so F49o3 F49c4)
def F49c0 : Ac := (so F49o1 F49c2)
/-- hansom/hansomref04.Find -/
def F49 : Fn := { np := 1, pb := [], rs := [.t 2], body := F49c0 }
def F50o1 := [
 o3 6 .mv [.c (.d (.str []))]]
def F50o3 := [
 o3 7 .mv [.i 0]]
def F50o6 := [
 o3 8 .mv [.i 0]]
def F50o11 := [
 om 9 8,
 om 10 0,
 o3 11 .lenS [.t 10],
 o3 12 (.bin .leq) [.t 9, .t 11]]
def F50c12 : Ac := (cd 12 .skip (.exit 0))
def F50o19 := [
 om 15 8,
 om 16 0,
 o3 17 .lenS [.t 16],
 o3 18 (.bin .lss) [.t 15, .t 17],
 om 19 18,
 og 20 .mv [.t 0] 19 true,
 og 21 .mv [.t 8] 19 true,
 og 22 .indexS [.t 20, .t 21] 19 true,
 og 23 .mv [.t 1] 19 true,
 og 24 (.bin .neq) [.t 22, .t 23] 19 true,
 o3 25 .pick [.t 19, .t 24, .b false]]
def F50c20 : Ac := (cd 25 (.exit 1) .skip)
def F50o25 := [
 om 26 2,
 o3 27 (.bin .eql) [.t 26, .i 0]]
def F50o28 := [
 om 28 0,
 om 29 7,
 om 30 8,
 o3 31 (.substr true true) [.t 28, .t 29, .t 30],
 om 6 31]
def F50c29 : Ac := .ret
def F50c26 : Ac := (cd 27 (so F50o28 F50c29) .skip)
def F50o32 := [
 om 32 2,
 o3 33 (.bin .sub) [.t 32, .i 1],
 om 2 33]
def F50o33 := [
 om 34 8,
 o3 35 (.bin .add) [.t 34, .i 1],
 om 7 35]
def F50c33 : Ac := (.ops F50o33)
def F50c31 : Ac := (so F50o32 F50c33)
def F50c23 : Ac := (.seq (so F50o25 F50c26) F50c31)
def F50o34 := [
 om 13 8,
 o3 14 (.bin .add) [.t 13, .i 1],
 om 8 14]
def F50c34 : Ac := (.ops F50o34)
def F50c15 : Ac := (.seq (.block 1 (.seq (so F50o19 F50c20) F50c23)) F50c34)
def F50l8 : Ac := (.seq (so F50o11 F50c12) F50c15)
def F50c7 : Ac := (.block 0 (.loop (.seq (.gh []) (.seq (.keep [0, 1, 2, 7, 8] []) F50l8))))
def F50o36 := [
 o3 6 .mv [.c (.d (.str []))]]
def F50c37 : Ac := .ret
def F50b35 : Ac := (so F50o36 F50c37)
def F50c35 : Ac := (.seq (.gh []) (.seq (.keep [] []) F50b35))
def F50c4 : Ac := (.seq (so F50o6 F50c7) F50c35)
def F50c2 : Ac := (so F50o3 F50c4)
def F50c0 : Ac := (so F50o1 F50c2)
/-- hansom/hansomref04.part -/
def F50 : Fn := { np := 3, pb := [], rs := [.t 6], body := F50c0 }
def F51o1 := [
 o3 4 .mv [.i 0]]
def F51o3 := [
 o3 5 .mv [.i 1],
 o3 6 .mv [.i 0]]
def F51o6 := [
 o3 7 .mv [.i 0]]
def F51o11 := [
 om 8 7,
 om 9 0,
 o3 10 .lenS [.t 9],
 o3 11 (.bin .lss) [.t 8, .t 10]]
def F51c12 : Ac := (cd 11 .skip (.exit 0))
def F51o19 := [
 om 14 0,
 om 15 7,
 o3 16 .indexS [.t 14, .t 15],
 o3 17 (.bin .neq) [.t 16, .y 32]]
def F51c20 : Ac := (cd 17 (.exit 1) .skip)
def F51o25 := [
 om 18 0,
 om 19 6,
 om 20 7,
 o3 21 (.substr true true) [.t 18, .t 19, .t 20],
 om 22 1,
 o3 23 (.bin .eql) [.t 21, .t 22]]
def F51o28 := [
 om 24 5,
 om 4 24]
def F51c29 : Ac := .ret
def F51c26 : Ac := (cd 23 (so F51o28 F51c29) .skip)
def F51o32 := [
 om 25 5,
 o3 26 (.bin .add) [.t 25, .i 1],
 om 5 26]
def F51o33 := [
 om 27 7,
 o3 28 (.bin .add) [.t 27, .i 1],
 om 6 28]
def F51c33 : Ac := (.ops F51o33)
def F51c31 : Ac := (so F51o32 F51c33)
def F51c23 : Ac := (.seq (so F51o25 F51c26) F51c31)
def F51o34 := [
 om 12 7,
 o3 13 (.bin .add) [.t 12, .i 1],
 om 7 13]
def F51c34 : Ac := (.ops F51o34)
def F51c15 : Ac := (.seq (.block 1 (.seq (so F51o19 F51c20) F51c23)) F51c34)
def F51l8 : Ac := (.seq (so F51o11 F51c12) F51c15)
def F51c7 : Ac := (.block 0 (.loop (.seq (.gh []) (.seq (.keep [0, 1, 5, 6, 7] []) F51l8))))
def F51o36 := [
 o3 4 .mv [.i 0]]
def F51c37 : Ac := .ret
def F51b35 : Ac := (so F51o36 F51c37)
def F51c35 : Ac := (.seq (.gh []) (.seq (.keep [] []) F51b35))
def F51c4 : Ac := (.seq (so F51o6 F51c7) F51c35)
def F51c2 : Ac := (so F51o3 F51c4)
def F51c0 : Ac := (so F51o1 F51c2)
/-- hansom/hansomref04.find -/
def F51 : Fn := { np := 2, pb := [], rs := [.t 4], body := F51c0 }
def F52o1 := [
 o3 2 .mv [.b false]]
def F52o3 := [
 om 3 0,
 o3 4 (.bin .geq) [.t 3, .i 1],
 om 5 4,
 og 6 .mv [.t 0] 5 true,
 og 7 (.bin .leq) [.t 6, .i 5] 5 true,
 o3 8 .pick [.t 5, .t 7, .b false],
 om 9 8,
 og 10 .mv [.t 0] 9 false,
 og 11 (.bin .eql) [.t 10, .i 19] 9 false,
 o3 12 .pick [.t 9, .b true, .t 11],
 om 13 12,
 og 14 .mv [.t 0] 13 false,
 og 15 (.bin .eql) [.t 14, .i 20] 13 false,
 o3 16 .pick [.t 13, .b true, .t 15],
 om 2 16]
def F52c4 : Ac := .ret
def F52c2 : Ac := (so F52o3 F52c4)
def F52c0 : Ac := (so F52o1 F52c2)
/-- hansom/hansomref04.second -/
def F52 : Fn := { np := 1, pb := [], rs := [.t 2], body := F52c0 }
def F53o1 := [
 o3 4 .mv [.c (.d (.str []))]]
def F53o3 := [
 o3 5 .mv [.i 0]]
def F53o6 := [
 o3 6 .mv [.i 0]]
def F53o11 := [
 om 8 6,
 om 9 1,
 o3 10 (.bin .lss) [.t 8, .t 9],
 om 11 10,
 og 12 .mv [.t 5] 11 true,
 og 13 .mv [.t 0] 11 true,
 og 14 .lenS [.t 13] 11 true,
 og 15 (.bin .lss) [.t 12, .t 14] 11 true,
 o3 16 .pick [.t 11, .t 15, .b false]]
def F53c12 : Ac := (cd 16 .skip (.exit 0))
def F53o22 := [
 om 19 5,
 om 20 0,
 o3 21 .lenS [.t 20],
 o3 22 (.bin .lss) [.t 19, .t 21],
 om 23 22,
 og 24 .mv [.t 0] 23 true,
 og 25 .mv [.t 5] 23 true,
 og 26 .indexS [.t 24, .t 25] 23 true,
 og 27 (.bin .neq) [.t 26, .y 32] 23 true,
 o3 28 .pick [.t 23, .t 27, .b false]]
def F53c23 : Ac := (cd 28 .skip (.exit 2))
def F53o27 := [
 om 29 5,
 o3 30 (.bin .add) [.t 29, .i 1],
 om 5 30]
def F53c26 : Ac := (.block 3 (.ops F53o27))
def F53l19 : Ac := (.seq (so F53o22 F53c23) F53c26)
def F53o28 := [
 om 31 5,
 o3 32 (.bin .add) [.t 31, .i 1],
 om 5 32]
def F53b28 : Ac := (.ops F53o28)
def F53c28 : Ac := (.seq (.gh []) (.seq (.keep [0, 1, 5, 6] []) F53b28))
def F53o29 := [
 om 17 6,
 o3 18 (.bin .add) [.t 17, .i 1],
 om 6 18]
def F53c29 : Ac := (.ops F53o29)
def F53c15 : Ac := (.seq (.block 1 (.seq (.block 2 (.loop (.seq (.gh []) (.seq (.keep [0, 1, 5, 6] []) F53l19)))) F53c28)) F53c29)
def F53l8 : Ac := (.seq (so F53o11 F53c12) F53c15)
def F53c7 : Ac := (.block 0 (.loop (.seq (.gh []) (.seq (.keep [0, 1, 5, 6] []) F53l8))))
def F53o31 := [
 om 33 5,
 om 7 33]
def F53o37 := [
 om 34 7,
 om 35 0,
 o3 36 .lenS [.t 35],
 o3 37 (.bin .lss) [.t 34, .t 36],
 om 38 37,
 og 39 .mv [.t 0] 38 true,
 og 40 .mv [.t 7] 38 true,
 og 41 .indexS [.t 39, .t 40] 38 true,
 og 42 (.bin .neq) [.t 41, .y 32] 38 true,
 o3 43 .pick [.t 38, .t 42, .b false]]
def F53c38 : Ac := (cd 43 .skip (.exit 4))
def F53o42 := [
 om 44 7,
 o3 45 (.bin .add) [.t 44, .i 1],
 om 7 45]
def F53c41 : Ac := (.block 5 (.ops F53o42))
def F53l34 : Ac := (.seq (so F53o37 F53c38) F53c41)
def F53o45 := [
 om 46 5,
 om 47 0,
 o3 48 .lenS [.t 47],
 o3 49 (.bin .geq) [.t 46, .t 48]]
def F53o48 := [
 o3 4 .mv [.c (.d (.str []))]]
def F53c49 : Ac := .ret
def F53c46 : Ac := (cd 49 (so F53o48 F53c49) .skip)
def F53o52 := [
 om 50 0,
 om 51 5,
 om 52 7,
 o3 53 (.substr true true) [.t 50, .t 51, .t 52],
 om 4 53]
def F53c53 : Ac := .ret
def F53c51 : Ac := (so F53o52 F53c53)
def F53b43 : Ac := (.seq (so F53o45 F53c46) F53c51)
def F53c43 : Ac := (.seq (.gh []) (.seq (.keep [0, 5, 7] []) F53b43))
def F53c32 : Ac := (.seq (.block 4 (.loop (.seq (.gh []) (.seq (.keep [0, 5, 7] []) F53l34)))) F53c43)
def F53b30 : Ac := (so F53o31 F53c32)
def F53c30 : Ac := (.seq (.gh []) (.seq (.keep [0, 5] []) F53b30))
def F53c4 : Ac := (.seq (so F53o6 F53c7) F53c30)
def F53c2 : Ac := (so F53o3 F53c4)
def F53c0 : Ac := (so F53o1 F53c2)
/-- hansom/hansomref04.word -/
def F53 : Fn := { np := 2, pb := [], rs := [.t 4], body := F53c0 }
def F54o1 := [
 o3 4 .mv [.i 0]]
def F54o4 := [
 om 5 0,
 o3 6 (.bin .eql) [.t 5, .i 1]]
def F54o7 := [
 o3 4 .mv [.i 1]]
def F54c8 : Ac := .ret
def F54c5 : Ac := (cd 6 (so F54o7 F54c8) .skip)
def F54o12 := [
 om 7 0,
 o3 8 (.bin .eql) [.t 7, .i 2],
 om 9 8,
 og 10 .mv [.t 0] 9 false,
 og 11 (.bin .eql) [.t 10, .i 0] 9 false,
 og 12 .mv [.t 11] 9 false,
 og 13 .mv [.t 1] 12 true,
 og 14 (.bin .eql) [.t 13, .i 6] 12 true,
 og 15 .pick [.t 12, .t 14, .b false] 9 false,
 o3 16 .pick [.t 9, .b true, .t 15]]
def F54o15 := [
 o3 4 .mv [.i 2]]
def F54c16 : Ac := .ret
def F54c13 : Ac := (cd 16 (so F54o15 F54c16) .skip)
def F54o19 := [
 o3 4 .mv [.i 0]]
def F54c20 : Ac := .ret
def F54c18 : Ac := (so F54o19 F54c20)
def F54c10 : Ac := (.seq (so F54o12 F54c13) F54c18)
def F54c2 : Ac := (.seq (so F54o4 F54c5) F54c10)
def F54c0 : Ac := (so F54o1 F54c2)
/-- hansom/hansomref05.Disps -/
def F54 : Fn := { np := 2, pb := [], rs := [.t 4], body := F54c0 }
def F55o1 := [
 o3 2 .mv [.w 0]]
def F55o4 := [
 om 3 0,
 o3 4 (.bin .lss) [.t 3, .y 128]]
def F55o7 := [
 om 5 0,
 o3 6 (.toInt .u16) [.t 5],
 om 2 6]
def F55c8 : Ac := .ret
def F55c5 : Ac := (cd 4 (so F55o7 F55c8) .skip)
def F55o11 := [
 om 7 0,
 o3 8 (.toInt .u16) [.t 7],
 o3 9 (.bin .add) [.w 65280, .t 8],
 om 2 9]
def F55c12 : Ac := .ret
def F55c10 : Ac := (so F55o11 F55c12)
def F55c2 : Ac := (.seq (so F55o4 F55c5) F55c10)
def F55c0 : Ac := (so F55o1 F55c2)
/-- hansom/hansomref01.Sign -/
def F55 : Fn := { np := 1, pb := [], rs := [.t 2], body := F55c0 }
def F56o1 := [
 o3 2 .mv [.b false]]
def F56o3 := [
 om 3 0,
 o3 4 (.bin .lss) [.t 3, .w 128],
 om 5 4,
 og 6 .mv [.t 0] 5 false,
 og 7 (.bin .geq) [.t 6, .w 65408] 5 false,
 o3 8 .pick [.t 5, .b true, .t 7],
 om 2 8]
def F56c4 : Ac := .ret
def F56c2 : Ac := (so F56o3 F56c4)
def F56c0 : Ac := (so F56o1 F56c2)
/-- hansom/hansomref01.Fits -/
def F56 : Fn := { np := 1, pb := [], rs := [.t 2], body := F56c0 }
def F57o1 := [
 o3 2 .mv [.b false]]
def F57o3 := [
 om 3 0,
 o3 4 (.bin .eql) [.t 3, .y 38],
 om 5 4,
 og 6 .mv [.t 0] 5 false,
 og 7 (.bin .eql) [.t 6, .y 46] 5 false,
 o3 8 .pick [.t 5, .b true, .t 7],
 om 9 8,
 og 10 .mv [.t 0] 9 false,
 og 11 (.bin .eql) [.t 10, .y 54] 9 false,
 o3 12 .pick [.t 9, .b true, .t 11],
 om 13 12,
 og 14 .mv [.t 0] 13 false,
 og 15 (.bin .eql) [.t 14, .y 62] 13 false,
 o3 16 .pick [.t 13, .b true, .t 15],
 om 17 16,
 og 18 .mv [.t 0] 17 false,
 og 19 (.bin .eql) [.t 18, .y 240] 17 false,
 o3 20 .pick [.t 17, .b true, .t 19],
 om 21 20,
 og 22 .mv [.t 0] 21 false,
 og 23 (.bin .eql) [.t 22, .y 242] 21 false,
 o3 24 .pick [.t 21, .b true, .t 23],
 om 25 24,
 og 26 .mv [.t 0] 25 false,
 og 27 (.bin .eql) [.t 26, .y 243] 25 false,
 o3 28 .pick [.t 25, .b true, .t 27],
 om 2 28]
def F57c4 : Ac := .ret
def F57c2 : Ac := (so F57o3 F57c4)
def F57c0 : Ac := (so F57o1 F57c2)
/-- hansom/hansomref05.prefix -/
def F57 : Fn := { np := 1, pb := [], rs := [.t 2], body := F57c0 }
def F58o1 := [
 o3 2 .mv [.c (.nils)]]
def F58o3 := [
 om 3 0,
 o3 4 (.bin .rem) [.t 3, .w 256],
 o3 5 (.toInt .u8) [.t 4],
 om 6 0,
 o3 7 (.bin .quo) [.t 6, .w 256],
 o3 8 (.toInt .u8) [.t 7],
 o3 9 (.bslice (.int .u8 0) 2 [0, 1]) [.t 5, .t 8],
 om 2 9]
def F58c4 : Ac := (.seq (.gh [.frz 2]) .ret)
def F58c2 : Ac := (so F58o3 F58c4)
def F58c0 : Ac := (so F58o1 F58c2)
/-- hansom/hansomref05.two -/
def F58 : Fn := { np := 1, pb := [], rs := [.t 2], body := F58c0 }
def F59o1 := [
 o3 4 .mv [.i 0]]
def F59o5 := [
 om 6 0,
 o3 7 (.bin .eql) [.t 6, .i 1],
 om 5 7]
def F59o8 := [
 o3 4 .mv [.i 1]]
def F59c9 : Ac := .ret
def F59o12 := [
 om 9 0,
 o3 10 (.bin .eql) [.t 9, .i 2],
 om 8 10]
def F59o15 := [
 om 11 0,
 o3 12 (.bin .eql) [.t 11, .i 0],
 om 13 12,
 og 14 .mv [.t 1] 13 true,
 og 15 (.bin .eql) [.t 14, .i 6] 13 true,
 o3 16 .pick [.t 13, .t 15, .b false],
 om 8 16]
def F59c13 : Ac := (cd 8 .skip (.ops F59o15))
def F59o18 := [
 o3 4 .mv [.i 2]]
def F59c19 : Ac := .ret
def F59c16 : Ac := (cd 8 (so F59o18 F59c19) .skip)
def F59c6 : Ac := (cd 5 (so F59o8 F59c9) (.seq (so F59o12 F59c13) F59c16))
def F59o22 := [
 o3 4 .mv [.i 0]]
def F59c23 : Ac := .ret
def F59c21 : Ac := (so F59o22 F59c23)
def F59c2 : Ac := (.seq (.block 0 (so F59o5 F59c6)) F59c21)
def F59c0 : Ac := (so F59o1 F59c2)
/-- hansom/inst.Disps -/
def F59 : Fn := { np := 2, pb := [], rs := [.t 4], body := F59c0 }
def F60o1 := [
 o3 1 (.box 10) [.t 0],
 o3 2 (.alloc [.d (.int .i64 0), .d (.int .i64 0), .d (.int .i64 0), .d (.bool false)]) [],
 o3 3 .mv [.b false]]
def F60o4 := [
 o3 4 (.faddr 3) [.t 1],
 o3 5 (.load none) [.t 4],
 o3 6 (.callf 20) [.t 5]]
def F60o7 := [
 o3 7 (.build [.d (.int .i64 0), .d (.int .i64 0), .d (.int .i64 0), .d (.bool false)] []) [],
 o0 (.store 4) [.t 2, .t 7],
 o3 3 .mv [.b false]]
def F60c8 : Ac := .ret
def F60c5 : Ac := (cd 6 (so F60o7 F60c8) .skip)
def F60o11 := [
 o3 8 (.faddr 3) [.t 1],
 o3 9 (.load none) [.t 8],
 o3 10 (.faddr 5) [.t 1],
 o3 11 (.load none) [.t 10],
 o3 12 (.callf 11) [.t 9, .t 11],
 oe 13 0 12,
 oe 14 1 12,
 o0 (.store 4) [.t 2, .t 13],
 om 3 14]
def F60c12 : Ac := .ret
def F60c10 : Ac := (so F60o11 F60c12)
def F60c2 : Ac := (.seq (so F60o4 F60c5) F60c10)
def F60c0 : Ac := (so F60o1 F60c2)
/-- hansom/inst.Row -/
def F60 : Fn := { np := 1, pb := [], rs := [.c 2 (some 4), .t 3], body := F60c0 }
def F61o1 := [
 o3 2 (.box 10) [.t 0],
 o3 3 (.box 4) [.t 1],
 o3 4 .mv [.b false]]
def F61o4 := [
 o3 5 (.faddr 3) [.t 3],
 o3 6 (.load none) [.t 5],
 o3 7 (.un .not) [.t 6]]
def F61o7 := [
 o3 8 (.faddr 4) [.t 2],
 o3 9 (.load none) [.t 8],
 o3 10 (.bin .eql) [.t 9, .i 0],
 om 11 10,
 og 12 (.faddr 5) [.t 2] 11 true,
 og 13 (.load none) [.t 12] 11 true,
 og 14 (.bin .eql) [.t 13, .i 0] 11 true,
 o3 15 .pick [.t 11, .t 14, .b false],
 om 16 15,
 og 17 (.faddr 6) [.t 2] 16 true,
 og 18 (.load none) [.t 17] 16 true,
 og 19 (.bin .eql) [.t 18, .i 0] 16 true,
 o3 20 .pick [.t 16, .t 19, .b false],
 om 21 20,
 og 22 (.faddr 7) [.t 2] 21 true,
 og 23 (.load none) [.t 22] 21 true,
 og 24 (.bin .eql) [.t 23, .w 0] 21 true,
 o3 25 .pick [.t 21, .t 24, .b false],
 om 4 25]
def F61c8 : Ac := .ret
def F61c5 : Ac := (cd 7 (so F61o7 F61c8) .skip)
def F61o12 := [
 o3 26 (.faddr 4) [.t 2],
 o3 27 (.load none) [.t 26],
 o3 28 (.bin .lss) [.t 27, .i 0],
 om 29 28,
 og 30 (.faddr 4) [.t 2] 29 false,
 og 31 (.load none) [.t 30] 29 false,
 og 32 (.bin .gtr) [.t 31, .i 3] 29 false,
 o3 33 .pick [.t 29, .b true, .t 32],
 om 34 33,
 og 35 (.faddr 5) [.t 2] 34 false,
 og 36 (.load none) [.t 35] 34 false,
 og 37 (.bin .lss) [.t 36, .i 0] 34 false,
 o3 38 .pick [.t 34, .b true, .t 37],
 om 39 38,
 og 40 (.faddr 5) [.t 2] 39 false,
 og 41 (.load none) [.t 40] 39 false,
 og 42 (.bin .gtr) [.t 41, .i 7] 39 false,
 o3 43 .pick [.t 39, .b true, .t 42],
 om 44 43,
 og 45 (.faddr 6) [.t 2] 44 false,
 og 46 (.load none) [.t 45] 44 false,
 og 47 (.bin .lss) [.t 46, .i 0] 44 false,
 o3 48 .pick [.t 44, .b true, .t 47],
 om 49 48,
 og 50 (.faddr 6) [.t 2] 49 false,
 og 51 (.load none) [.t 50] 49 false,
 og 52 (.bin .gtr) [.t 51, .i 7] 49 false,
 o3 53 .pick [.t 49, .b true, .t 52]]
def F61o15 := [
 o3 4 .mv [.b false]]
def F61c16 : Ac := .ret
def F61c13 : Ac := (cd 53 (so F61o15 F61c16) .skip)
def F61o20 := [
 o3 54 (.faddr 4) [.t 2],
 o3 55 (.load none) [.t 54],
 o3 56 (.bin .eql) [.t 55, .i 3],
 om 57 56,
 og 58 (.faddr 1) [.t 3] 57 true,
 og 59 (.load none) [.t 58] 57 true,
 og 60 (.bin .eql) [.t 59, .i 19] 57 true,
 og 61 .mv [.t 60] 57 true,
 og 62 (.faddr 2) [.t 3] 61 false,
 og 63 (.load none) [.t 62] 61 false,
 og 64 (.bin .eql) [.t 63, .i 19] 61 false,
 og 65 .pick [.t 61, .b true, .t 64] 57 true,
 og 66 .mv [.t 65] 57 true,
 og 67 (.faddr 2) [.t 3] 66 false,
 og 68 (.load none) [.t 67] 66 false,
 og 69 (.bin .eql) [.t 68, .i 20] 66 false,
 og 70 .pick [.t 66, .b true, .t 69] 57 true,
 o3 71 .pick [.t 57, .t 70, .b false]]
def F61o23 := [
 o3 4 .mv [.b false]]
def F61c24 : Ac := .ret
def F61c21 : Ac := (cd 71 (so F61o23 F61c24) .skip)
def F61o28 := [
 o3 72 (.faddr 4) [.t 2],
 o3 73 (.load none) [.t 72],
 o3 74 (.faddr 6) [.t 2],
 o3 75 (.load none) [.t 74],
 o3 76 (.callf 59) [.t 73, .t 75]]
def F61o31 := [
 o3 78 (.bin .eql) [.t 76, .i 0],
 om 77 78]
def F61o34 := [
 o3 79 (.faddr 7) [.t 2],
 o3 80 (.load none) [.t 79],
 o3 81 (.bin .eql) [.t 80, .w 0],
 om 4 81]
def F61c35 : Ac := .ret
def F61o37 := [
 o3 83 (.bin .eql) [.t 76, .i 1],
 om 82 83]
def F61o40 := [
 o3 84 (.faddr 7) [.t 2],
 o3 85 (.load none) [.t 84],
 o3 86 (.callf 68) [.t 85],
 om 4 86]
def F61c41 : Ac := .ret
def F61c38 : Ac := (cd 82 (so F61o40 F61c41) .skip)
def F61c32 : Ac := (cd 77 (so F61o34 F61c35) (so F61o37 F61c38))
def F61c29 : Ac := (.block 0 (so F61o31 F61c32))
def F61o44 := [
 o3 4 .mv [.b true]]
def F61c45 : Ac := .ret
def F61c43 : Ac := (so F61o44 F61c45)
def F61b26 : Ac := (.seq (so F61o28 F61c29) F61c43)
def F61c26 : Ac := (.seq (.gh []) (.seq (.keep [2] [[2]]) F61b26))
def F61c18 : Ac := (.seq (so F61o20 F61c21) F61c26)
def F61c10 : Ac := (.seq (so F61o12 F61c13) F61c18)
def F61c2 : Ac := (.seq (so F61o4 F61c5) F61c10)
def F61c0 : Ac := (so F61o1 F61c2)
/-- hansom/inst.second -/
def F61 : Fn := { np := 2, pb := [], rs := [.t 4], body := F61c0 }
def F62o1 := [
 o3 2 (.box 10) [.t 0],
 o3 3 (.box 4) [.t 1],
 o3 4 .mv [.b false]]
def F62o4 := [
 o3 7 (.faddr 1) [.t 3],
 o3 8 (.load none) [.t 7],
 o3 9 (.faddr 2) [.t 3],
 o3 10 (.load none) [.t 9],
 o3 11 (.build [.d (.int .i64 0), .d (.int .i64 0)] [(0, 1), (1, 1)]) [.t 8, .t 10],
 o3 12 .mv [.i 0]]
def F62o8 := [
 o3 13 (.bin .lss) [.t 12, .i 2]]
def F62o16 := [
 o3 14 (.indexA 2 1 none) [.t 11, .t 12],
 om 6 14]
def F62o18 := [
 om 15 6]
def F62o21 := [
 o3 17 (.bin .eql) [.t 15, .i 6],
 om 16 17]
def F62o24 := [
 o3 18 (.faddr 8) [.t 2],
 o3 19 (.load none) [.t 18],
 o3 20 (.bin .lss) [.t 19, .w 256],
 om 21 20,
 og 22 (.faddr 9) [.t 2] 21 true,
 og 23 (.load none) [.t 22] 21 true,
 og 24 (.bin .eql) [.t 23, .w 0] 21 true,
 o3 25 .pick [.t 21, .t 24, .b false],
 om 26 25,
 og 27 (.faddr 0) [.t 3] 26 true,
 og 28 (.load none) [.t 27] 26 true,
 og 29 (.bin .neq) [.t 28, .i 70] 26 true,
 og 30 .mv [.t 29] 26 true,
 og 31 (.faddr 0) [.t 3] 30 true,
 og 32 (.load none) [.t 31] 30 true,
 og 33 (.bin .neq) [.t 32, .i 71] 30 true,
 og 34 .pick [.t 30, .t 33, .b false] 26 true,
 og 35 .mv [.t 34] 26 true,
 og 36 (.faddr 8) [.t 2] 35 false,
 og 37 (.load none) [.t 36] 35 false,
 og 38 (.bin .eql) [.t 37, .w 10] 35 false,
 og 39 .pick [.t 35, .b true, .t 38] 26 true,
 o3 40 .pick [.t 26, .t 39, .b false],
 om 4 40]
def F62c25 : Ac := .ret
def F62o28 := [
 o3 42 (.bin .eql) [.t 15, .i 8],
 om 41 42]
def F62o31 := [
 o3 43 (.bin .eql) [.t 15, .i 9],
 om 41 43]
def F62c29 : Ac := (cd 41 .skip (.ops F62o31))
def F62o34 := [
 o3 44 (.faddr 8) [.t 2],
 o3 45 (.load none) [.t 44],
 o3 46 (.callf 68) [.t 45],
 om 47 46,
 og 48 (.faddr 9) [.t 2] 47 true,
 og 49 (.load none) [.t 48] 47 true,
 og 50 (.bin .eql) [.t 49, .w 0] 47 true,
 o3 51 .pick [.t 47, .t 50, .b false],
 om 4 51]
def F62c35 : Ac := .ret
def F62o38 := [
 o3 53 (.bin .eql) [.t 15, .i 7],
 om 52 53]
def F62o42 := [
 o3 54 (.bin .eql) [.t 15, .i 10],
 om 52 54]
def F62o46 := [
 o3 55 (.bin .eql) [.t 15, .i 12],
 om 52 55]
def F62o49 := [
 o3 56 (.bin .eql) [.t 15, .i 13],
 om 52 56]
def F62c47 : Ac := (cd 52 .skip (.ops F62o49))
def F62c43 : Ac := (cd 52 .skip (so F62o46 F62c47))
def F62c39 : Ac := (cd 52 .skip (so F62o42 F62c43))
def F62o52 := [
 o3 57 (.faddr 9) [.t 2],
 o3 58 (.load none) [.t 57],
 o3 59 (.bin .eql) [.t 58, .w 0],
 om 4 59]
def F62c53 : Ac := .ret
def F62o55 := [
 o3 61 (.bin .eql) [.t 15, .i 11],
 om 60 61]
def F62o58 := [
 o3 4 .mv [.b true]]
def F62c59 : Ac := .ret
def F62c56 : Ac := (cd 60 (so F62o58 F62c59) .skip)
def F62c50 : Ac := (cd 52 (so F62o52 F62c53) (so F62o55 F62c56))
def F62b32 : Ac := (cd 41 (so F62o34 F62c35) (.seq (so F62o38 F62c39) F62c50))
def F62c32 : Ac := (.seq (.gh []) (.seq (.keep [2, 3, 11, 12, 15, 41] [[2], [3]]) F62b32))
def F62c22 : Ac := (cd 16 (so F62o24 F62c25) (.seq (so F62o28 F62c29) F62c32))
def F62c19 : Ac := (.block 2 (so F62o21 F62c22))
def F62c17 : Ac := (so F62o18 F62c19)
def F62o61 := [
 o3 62 (.bin .add) [.t 12, .i 1],
 om 12 62]
def F62c61 : Ac := (.ops F62o61)
def F62c13 : Ac := (.seq (.block 1 (so F62o16 F62c17)) F62c61)
def F62c9 : Ac := (.seq (cd 13 .skip (.exit 0)) F62c13)
def F62l6 : Ac := (so F62o8 F62c9)
def F62c5 : Ac := (.block 0 (.loop (.seq (.gh []) (.seq (.keep [2, 3, 11, 12] [[2], [3]]) F62l6))))
def F62o63 := [
 o3 63 (.faddr 8) [.t 2],
 o3 64 (.load none) [.t 63],
 o3 65 (.bin .eql) [.t 64, .w 0],
 om 66 65,
 og 67 (.faddr 9) [.t 2] 66 true,
 og 68 (.load none) [.t 67] 66 true,
 og 69 (.bin .eql) [.t 68, .w 0] 66 true,
 o3 70 .pick [.t 66, .t 69, .b false],
 om 4 70]
def F62c64 : Ac := .ret
def F62b62 : Ac := (so F62o63 F62c64)
def F62c62 : Ac := (.seq (.gh []) (.seq (.keep [2] [[2]]) F62b62))
def F62c2 : Ac := (.seq (so F62o4 F62c5) F62c62)
def F62c0 : Ac := (so F62o1 F62c2)
/-- hansom/inst.behind -/
def F62 : Fn := { np := 2, pb := [], rs := [.t 4], body := F62c0 }
def F63o1 := [
 o3 2 (.box 10) [.t 0],
 o3 3 (.box 4) [.t 1],
 o3 4 .mv [.b false]]
def F63o3 := [
 o3 6 (.faddr 0) [.t 3],
 o3 7 (.load none) [.t 6],
 o3 8 (.callf 15) [.t 7],
 om 5 8]
def F63o6 := [
 o3 9 (.faddr 1) [.t 2],
 o3 10 (.load none) [.t 9]]
def F63o9 := [
 o3 12 (.bin .eql) [.t 10, .i 0],
 om 11 12]
def F63o13 := [
 o3 14 (.bin .eql) [.t 10, .i 1],
 om 13 14]
def F63o16 := [
 om 15 5,
 o3 16 (.bin .lss) [.t 15, .i 2]]
def F63o19 := [
 o3 4 .mv [.b false]]
def F63c20 : Ac := .ret
def F63c17 : Ac := (cd 16 (so F63o19 F63c20) .skip)
def F63o23 := [
 o3 18 (.bin .eql) [.t 10, .i 2],
 om 17 18]
def F63o26 := [
 om 19 5,
 o3 20 (.bin .lss) [.t 19, .i 1]]
def F63o29 := [
 o3 4 .mv [.b false]]
def F63c30 : Ac := .ret
def F63c27 : Ac := (cd 20 (so F63o29 F63c30) .skip)
def F63o33 := [
 o3 4 .mv [.b false]]
def F63c34 : Ac := .ret
def F63c24 : Ac := (cd 17 (so F63o26 F63c27) (so F63o33 F63c34))
def F63c14 : Ac := (cd 13 (so F63o16 F63c17) (so F63o23 F63c24))
def F63c10 : Ac := (cd 11 .skip (so F63o13 F63c14))
def F63c7 : Ac := (.block 0 (so F63o9 F63c10))
def F63o36 := [
 o3 21 (.faddr 2) [.t 2],
 o3 22 (.load none) [.t 21],
 o3 23 (.bin .geq) [.t 22, .i 0],
 om 24 23,
 og 25 (.faddr 2) [.t 2] 24 true,
 og 26 (.load none) [.t 25] 24 true,
 og 27 (.bin .leq) [.t 26, .i 4] 24 true,
 o3 28 .pick [.t 24, .t 27, .b false],
 om 4 28]
def F63c37 : Ac := .ret
def F63c35 : Ac := (so F63o36 F63c37)
def F63c4 : Ac := (.seq (so F63o6 F63c7) F63c35)
def F63c2 : Ac := (so F63o3 F63c4)
def F63c0 : Ac := (so F63o1 F63c2)
/-- hansom/inst.prefixes -/
def F63 : Fn := { np := 2, pb := [], rs := [.t 4], body := F63c0 }
def F64o1 := [
 o3 1 (.box 4) [.t 0],
 o3 2 .mv [.i 0]]
def F64o3 := [
 o3 3 (.faddr 1) [.t 1],
 o3 4 (.load none) [.t 3],
  { dst := some 5, k := (.callf 17), xs := [.t 4], al := some [] },
 o3 6 (.faddr 2) [.t 1],
  { dst := some 7, k := (.load none), xs := [.t 6], av := [[5]] },
 o3 8 (.callf 17) [.t 7],
 o3 9 (.bin .add) [.t 5, .t 8],
 om 2 9]
def F64c4 : Ac := .ret
def F64c2 : Ac := (so F64o3 F64c4)
def F64c0 : Ac := (so F64o1 F64c2)
/-- hansom/inst.Imms -/
def F64 : Fn := { np := 1, pb := [], rs := [.t 2], body := F64c0 }
def F66o1 := [
 o3 2 (.alloc [.d (.bool false), .d (.int .i64 0), .d (.int .i64 0), .d (.int .u8 0), .d (.int .i64 0), .d (.int .i64 0), .d (.int .i64 0), .d (.int .u16 0), .d (.int .u16 0), .d (.int .u16 0)]) []]
def F66o3 := [
 o3 3 (.alloc [.d (.bool false), .d (.int .i64 0), .d (.int .i64 0), .d (.int .u8 0), .d (.int .i64 0), .d (.int .i64 0), .d (.int .i64 0), .d (.int .u16 0), .d (.int .u16 0), .d (.int .u16 0)]) []]
def F66o5 := [
 om 6 0,
 o3 7 (.callf 69) [.t 6, .t 3],
 o3 8 (.faddr 3) [.t 3],
 o0 (.store 1) [.t 8, .t 7]]
def F66o8 := [
 o3 9 (.faddr 3) [.t 3],
 o3 10 (.load none) [.t 9],
 o3 11 (.callf 23) [.t 10]]
def F66o10 := [
 om 12 0,
 o3 13 (.callf 70) [.t 12, .t 3]]
def F66c9 : Ac := (cd 11 (.ops F66o10) .skip)
def F66o13 := [
 o3 15 (.faddr 3) [.t 3],
 o3 16 (.load none) [.t 15],
 o3 17 (.faddr 5) [.t 3],
 o3 18 (.load none) [.t 17],
 o3 19 (.callf 11) [.t 16, .t 18],
 om 14 19,
 oe 20 0 14,
 oe 21 1 14,
 o3 4 (.alloc [.d (.int .i64 0), .d (.int .i64 0), .d (.int .i64 0), .d (.bool false)]) [],
 o0 (.store 4) [.t 4, .t 20],
 om 5 21]
def F66o16 := [
 om 22 5,
 o3 23 (.un .not) [.t 22]]
def F66c17 : Ac := (cd 23 (panA 45 (.int .i64 3)) .skip)
def F66o21 := [
 om 25 0,
 o3 26 (.load (some 4)) [.t 4],
 o3 27 (.callf 71) [.t 25, .t 3, .t 26]]
def F66o24 := [
 o3 28 (.load (some 10)) [.t 3],
 o3 29 (.callf 30) [.t 28],
 o3 30 (.un .not) [.t 29]]
def F66c25 : Ac := (cd 30 (panA 45 (.int .i64 3)) .skip)
def F66o29 := [
 o3 32 (.load (some 10)) [.t 3],
 o0 (.store 10) [.t 2, .t 32]]
def F66c30 : Ac := .ret
def F66c28 : Ac := (so F66o29 F66c30)
def F66c22 : Ac := (.seq (so F66o24 F66c25) F66c28)
def F66c20 : Ac := (so F66o21 F66c22)
def F66c14 : Ac := (.seq (so F66o16 F66c17) F66c20)
def F66b12 : Ac := (so F66o13 F66c14)
def F66c12 : Ac := (.seq (.gh []) (.seq (.keep [0, 2, 3] [[0], [2], [3]]) F66b12))
def F66c6 : Ac := (.seq (so F66o8 F66c9) F66c12)
def F66c4 : Ac := (so F66o5 F66c6)
def F66c2 : Ac := (so F66o3 F66c4)
def F66c0 : Ac := (so F66o1 F66c2)
/-- (*hansom/scan.source).take -/
def F66 : Fn := { np := 1, pb := [[0]], rs := [.c 2 (some 10)], body := F66c0 }
def F67o1 := [
 o3 6 (.alloc [.d (.int .i64 0), .d (.int .i64 0), .d (.int .i64 0), .d (.bool false)]) [],
 o3 7 .mv [.b false]]
def F67o3 := [
 om 8 0,
 om 9 1,
 om 10 2,
 o3 11 (.build [.d (.int .i64 0), .d (.int .i64 0), .d (.int .i64 0), .d (.bool false)] [(0, 1), (1, 1), (2, 1), (3, 1)]) [.t 8, .t 9, .t 10, .b true],
 o0 (.store 4) [.t 6, .t 11],
 o3 7 .mv [.b true]]
def F67c4 : Ac := .ret
def F67c2 : Ac := (so F67o3 F67c4)
def F67c0 : Ac := (so F67o1 F67c2)
/-- hansom/isa.mod -/
def F67 : Fn := { np := 3, pb := [], rs := [.c 6 (some 4), .t 7], body := F67c0 }
def F68o1 := [
 o3 2 .mv [.b false]]
def F68o3 := [
 om 3 0,
 o3 4 (.callf 73) [.t 3],
 o3 5 (.callf 72) [.t 4],
 om 6 0,
 o3 7 (.bin .eql) [.t 5, .t 6],
 om 2 7]
def F68c4 : Ac := .ret
def F68c2 : Ac := (so F68o3 F68c4)
def F68c0 : Ac := (so F68o1 F68c2)
/-- hansom/bits.Fits -/
def F68 : Fn := { np := 1, pb := [], rs := [.t 2], body := F68c0 }
def F69o1 := [
 o3 4 .mv [.y 0]]
def F69o6 := [
 om 6 0,
 o3 7 (.callf 74) [.t 6],
 om 5 7]
def F69o9 := [
 om 10 5,
 o3 11 (.callf 20) [.t 10],
 o3 12 (.un .not) [.t 11],
 om 9 12]
def F69o12 := [
 om 13 5,
 om 4 13]
def F69c13 : Ac := .ret
def F69o15 := [
 om 15 5,
 o3 16 (.bin .eql) [.t 15, .y 240],
 om 17 16,
 og 18 .mv [.t 1] 17 true,
 og 19 .nilchk [.t 18] 17 true,
 og 20 (.faddr 0) [.t 19] 17 true,
 og 21 (.load none) [.t 20] 17 true,
 og 22 (.un .not) [.t 21] 17 true,
 o3 23 .pick [.t 17, .t 22, .b false],
 om 14 23]
def F69o17 := [
 om 24 1,
 o3 25 .nilchk [.t 24],
 o3 26 (.faddr 0) [.t 25],
 o0 (.store 1) [.t 26, .b true]]
def F69o19 := [
 om 28 5,
 o3 29 (.bin .geq) [.t 28, .y 242],
 om 30 29,
 og 31 .mv [.t 1] 30 true,
 og 32 .nilchk [.t 31] 30 true,
 og 33 (.faddr 1) [.t 32] 30 true,
 og 34 (.load none) [.t 33] 30 true,
 og 35 (.bin .eql) [.t 34, .i 0] 30 true,
 o3 36 .pick [.t 30, .t 35, .b false],
 om 27 36]
def F69o21 := [
 om 37 1,
 om 38 5,
 o3 39 (.bin .sub) [.t 38, .y 241],
 o3 40 (.toInt .i64) [.t 39],
 o3 41 .nilchk [.t 37],
 o3 42 (.faddr 1) [.t 41],
 o0 (.store 1) [.t 42, .t 40]]
def F69o23 := [
 om 44 5,
 o3 45 (.bin .lss) [.t 44, .y 240],
 om 46 45,
 og 47 .mv [.t 1] 46 true,
 og 48 .nilchk [.t 47] 46 true,
 og 49 (.faddr 2) [.t 48] 46 true,
 og 50 (.load none) [.t 49] 46 true,
 og 51 (.bin .eql) [.t 50, .i 0] 46 true,
 o3 52 .pick [.t 46, .t 51, .b false],
 om 43 52]
def F69o25 := [
 om 53 1,
 om 54 5,
 o3 55 (.bin .sub) [.t 54, .y 38],
 o3 56 (.toInt .i64) [.t 55],
 o3 57 (.bin .shr) [.t 56, .c (.d (.int .u64 3))],
 o3 58 (.bin .add) [.t 57, .i 1],
 o3 59 .nilchk [.t 53],
 o3 60 (.faddr 2) [.t 59],
 o0 (.store 1) [.t 60, .t 58]]
def F69c24 : Ac := (cd 43 (.ops F69o25) (panA 45 (.int .i64 3)))
def F69b20 : Ac := (cd 27 (.ops F69o21) (so F69o23 F69c24))
def F69c20 : Ac := (.seq (.gh []) (.seq (.keep [0, 1, 5, 27] [[0], [1]]) F69b20))
def F69b16 : Ac := (cd 14 (.ops F69o17) (so F69o19 F69c20))
def F69c16 : Ac := (.seq (.gh []) (.seq (.keep [0, 1, 5, 14] [[0], [1]]) F69b16))
def F69c10 : Ac := (cd 9 (so F69o12 F69c13) (so F69o15 F69c16))
def F69c7 : Ac := (.block 2 (so F69o9 F69c10))
def F69l3 : Ac := (.block 1 (so F69o6 F69c7))
def F69c2 : Ac := (.block 0 (.loop (.seq (.gh []) (.seq (.keep [0, 1] [[0], [1]]) F69l3))))
def F69b27 : Ac := .skip
def F69c27 : Ac := (.seq (.gh []) (.seq (.keep [4] [[0], [1]]) F69b27))
def F69c0 : Ac := (.seq (so F69o1 F69c2) F69c27)
/-- (*hansom/scan.source).ahead -/
def F69 : Fn := { np := 2, pb := [[0], [1]], rs := [.t 4], body := F69c0 }
def F70o1 := [
 om 5 0,
 o3 6 (.callf 74) [.t 5],
 o3 7 (.toInt .i64) [.t 6],
 om 4 7]
def F70o3 := [
 om 8 1,
 om 9 1,
 om 10 1,
 om 11 4,
 o3 12 (.bin .shr) [.t 11, .c (.d (.int .u64 6))],
 om 13 4,
 o3 14 (.bin .shr) [.t 13, .c (.d (.int .u64 3))],
 o3 15 (.bin .and) [.t 14, .i 7],
 om 16 4,
 o3 17 (.bin .and) [.t 16, .i 7],
 o3 18 .nilchk [.t 8],
 o3 19 (.faddr 4) [.t 18],
 o0 (.store 1) [.t 19, .t 12],
 o3 20 .nilchk [.t 9],
 o3 21 (.faddr 5) [.t 20],
 o0 (.store 1) [.t 21, .t 15],
 o3 22 .nilchk [.t 10],
 o3 23 (.faddr 6) [.t 22],
 o0 (.store 1) [.t 23, .t 17]]
def F70o5 := [
 om 24 1,
 o3 25 .nilchk [.t 24],
 o3 26 (.faddr 4) [.t 25],
 o3 27 (.load none) [.t 26],
 om 28 1,
 o3 29 .nilchk [.t 28],
 o3 30 (.faddr 6) [.t 29],
 o3 31 (.load none) [.t 30],
 o3 32 (.callf 59) [.t 27, .t 31]]
def F70o8 := [
 o3 34 (.bin .eql) [.t 32, .i 1],
 om 33 34]
def F70o10 := [
 om 35 1,
 om 36 0,
 o3 37 (.callf 74) [.t 36],
 o3 38 (.callf 72) [.t 37],
 o3 39 .nilchk [.t 35],
 o3 40 (.faddr 7) [.t 39],
 o0 (.store 1) [.t 40, .t 38]]
def F70o12 := [
 o3 42 (.bin .eql) [.t 32, .i 2],
 om 41 42]
def F70o14 := [
 om 43 1,
 om 44 0,
 o3 45 (.callf 75) [.t 44],
 o3 46 .nilchk [.t 43],
 o3 47 (.faddr 7) [.t 46],
 o0 (.store 1) [.t 47, .t 45]]
def F70c13 : Ac := (cd 41 (.ops F70o14) .skip)
def F70c9 : Ac := (cd 33 (.ops F70o10) (so F70o12 F70c13))
def F70c6 : Ac := (.block 0 (so F70o8 F70c9))
def F70c4 : Ac := (so F70o5 F70c6)
def F70c2 : Ac := (so F70o3 F70c4)
def F70c0 : Ac := (so F70o1 F70c2)
/-- (*hansom/scan.source).second -/
def F70 : Fn := { np := 2, pb := [[0], [1]], rs := [], body := (.seq F70c0 (.gh [])) }
def F71o1 := [
 o3 5 (.box 4) [.t 2]]
def F71o3 := [
 o3 6 (.load (some 4)) [.t 5],
 o3 7 (.callf 64) [.t 6]]
def F71o6 := [
 o3 9 (.bin .eql) [.t 7, .i 1],
 om 8 9]
def F71o9 := [
 om 10 1,
 om 11 0,
 o3 12 (.callf 74) [.t 11],
 o3 13 (.toInt .u16) [.t 12],
 o3 14 .nilchk [.t 10],
 o3 15 (.faddr 8) [.t 14],
 o0 (.store 1) [.t 15, .t 13]]
def F71o11 := [
 o3 16 (.faddr 1) [.t 5],
 o3 17 (.load none) [.t 16],
 o3 18 (.bin .eql) [.t 17, .i 9],
 om 19 18,
 og 20 (.faddr 2) [.t 5] 19 false,
 og 21 (.load none) [.t 20] 19 false,
 og 22 (.bin .eql) [.t 21, .i 8] 19 false,
 o3 23 .pick [.t 19, .b true, .t 22]]
def F71o13 := [
 om 24 1,
 om 25 1,
 o3 26 .nilchk [.t 25],
 o3 27 (.faddr 8) [.t 26],
 o3 28 (.load none) [.t 27],
 o3 29 (.callf 73) [.t 28],
 o3 30 (.callf 72) [.t 29],
 o3 31 .nilchk [.t 24],
 o3 32 (.faddr 8) [.t 31],
 o0 (.store 1) [.t 32, .t 30]]
def F71c12 : Ac := (cd 23 (.ops F71o13) .skip)
def F71c10 : Ac := (so F71o11 F71c12)
def F71o16 := [
 o3 34 (.bin .eql) [.t 7, .i 2],
 om 33 34]
def F71o18 := [
 om 35 1,
 om 36 0,
 o3 37 (.callf 75) [.t 36],
 o3 38 .nilchk [.t 35],
 o3 39 (.faddr 8) [.t 38],
 o0 (.store 1) [.t 39, .t 37]]
def F71o20 := [
 o3 41 (.bin .eql) [.t 7, .i 4],
 om 40 41]
def F71o23 := [
 om 42 1,
 om 43 0,
 o3 44 (.callf 75) [.t 43],
 o3 45 .nilchk [.t 42],
 o3 46 (.faddr 8) [.t 45],
 o0 (.store 1) [.t 46, .t 44]]
def F71o24 := [
 om 47 1,
 om 48 0,
 o3 49 (.callf 75) [.t 48],
 o3 50 .nilchk [.t 47],
 o3 51 (.faddr 9) [.t 50],
 o0 (.store 1) [.t 51, .t 49]]
def F71c24 : Ac := (.ops F71o24)
def F71c21 : Ac := (cd 40 (so F71o23 F71c24) .skip)
def F71c17 : Ac := (cd 33 (.ops F71o18) (so F71o20 F71c21))
def F71c7 : Ac := (cd 8 (so F71o9 F71c10) (so F71o16 F71c17))
def F71c4 : Ac := (.block 0 (so F71o6 F71c7))
def F71c2 : Ac := (so F71o3 F71c4)
def F71c0 : Ac := (so F71o1 F71c2)
/-- (*hansom/scan.source).behind -/
def F71 : Fn := { np := 3, pb := [[0], [1]], rs := [], body := (.seq F71c0 (.gh [])) }
def F72o1 := [
 o3 2 .mv [.w 0]]
def F72o3 := [
 om 3 0,
 o3 4 (.toInt .i8) [.t 3],
 o3 5 (.toInt .i16) [.t 4],
 o3 6 (.toInt .u16) [.t 5],
 om 2 6]
def F72c4 : Ac := .ret
def F72c2 : Ac := (so F72o3 F72c4)
def F72c0 : Ac := (so F72o1 F72c2)
/-- hansom/bits.Sign -/
def F72 : Fn := { np := 1, pb := [], rs := [.t 2], body := F72c0 }
def F73o1 := [
 o3 2 .mv [.y 0]]
def F73o3 := [
 om 3 0,
 o3 4 (.toInt .u8) [.t 3],
 om 2 4]
def F73c4 : Ac := .ret
def F73c2 : Ac := (so F73o3 F73c4)
def F73c0 : Ac := (so F73o1 F73c2)
/-- hansom/bits.Low -/
def F73 : Fn := { np := 1, pb := [], rs := [.t 2], body := F73c0 }
def F74o1 := [
 o3 2 .mv [.y 0]]
def F74o4 := [
 om 4 0,
 o3 5 .nilchk [.t 4],
 o3 6 (.faddr 1) [.t 5],
 o3 7 (.load none) [.t 6],
 om 8 0,
 o3 9 .nilchk [.t 8],
 o3 10 (.faddr 0) [.t 9],
 o3 11 (.load none) [.t 10],
 o3 12 .lenL [.t 11],
 o3 13 (.bin .geq) [.t 7, .t 12]]
def F74c5 : Ac := (cd 13 (panA 45 (.int .i64 2)) .skip)
def F74o9 := [
 om 15 0,
 o3 16 .nilchk [.t 15],
 o3 17 (.faddr 0) [.t 16],
 o3 18 (.load none) [.t 17],
 om 19 0,
 o3 20 .nilchk [.t 19],
 o3 21 (.faddr 1) [.t 20],
 o3 22 (.load none) [.t 21],
 o3 23 (.iaddrS 1) [.t 18, .t 22],
 o3 24 (.load none) [.t 23],
 om 3 24]
def F74o11 := [
 om 25 0,
 o3 26 .nilchk [.t 25],
 o3 27 (.faddr 1) [.t 26],
 o3 28 (.load none) [.t 27],
 o3 29 (.bin .add) [.t 28, .i 1],
 o3 30 .nilchk [.t 25],
 o3 31 (.faddr 1) [.t 30],
 o0 (.store 1) [.t 31, .t 29]]
def F74o13 := [
 om 32 3,
 om 2 32]
def F74c14 : Ac := .ret
def F74c12 : Ac := (so F74o13 F74c14)
def F74c10 : Ac := (so F74o11 F74c12)
def F74c8 : Ac := (so F74o9 F74c10)
def F74c2 : Ac := (.seq (so F74o4 F74c5) F74c8)
def F74c0 : Ac := (so F74o1 F74c2)
/-- (*hansom/scan.source).next -/
def F74 : Fn := { np := 1, pb := [[0]], rs := [.t 2], body := F74c0 }
def F75o1 := [
 o3 2 .mv [.w 0]]
def F75o3 := [
 om 4 0,
 o3 5 (.callf 74) [.t 4],
 om 3 5]
def F75o5 := [
 om 6 3,
 om 7 0,
 o3 8 (.callf 74) [.t 7],
 o3 9 (.callf 76) [.t 6, .t 8],
 om 2 9]
def F75c6 : Ac := .ret
def F75c4 : Ac := (so F75o5 F75c6)
def F75c2 : Ac := (so F75o3 F75c4)
def F75c0 : Ac := (so F75o1 F75c2)
/-- (*hansom/scan.source).word -/
def F75 : Fn := { np := 1, pb := [[0]], rs := [.t 2], body := F75c0 }
def F76o1 := [
 o3 4 .mv [.w 0]]
def F76o3 := [
 om 5 0,
 o3 6 (.toInt .u16) [.t 5],
 om 7 1,
 o3 8 (.toInt .u16) [.t 7],
 o3 9 (.bin .shl) [.t 8, .c (.d (.int .u64 8))],
 o3 10 (.bin .or) [.t 6, .t 9],
 om 4 10]
def F76c4 : Ac := .ret
def F76c2 : Ac := (so F76o3 F76c4)
def F76c0 : Ac := (so F76o1 F76c2)
/-- hansom/bits.Word -/
def F76 : Fn := { np := 2, pb := [], rs := [.t 4], body := F76c0 }
def tab1 : Nat → Option Fn
  | 10 => some F10
  | 11 => some F11
  | 15 => some F15
  | 16 => some F16
  | 17 => some F17
  | 18 => some F18
  | 20 => some F20
  | 21 => some F21
  | 23 => some F23
  | 24 => some F24
  | 25 => some F25
  | 26 => some F26
  | 27 => some F27
  | 28 => some F28
  | 30 => some F30
  | 35 => some F35
  | 36 => some F36
  | 37 => some F37
  | 38 => some F38
  | 39 => some F39
  | 40 => some F40
  | 41 => some F41
  | 42 => some F42
  | 43 => some F43
  | 44 => some F44
  | 45 => some F45
  | 46 => some F46
  | 47 => some F47
  | 48 => some F48
  | 49 => some F49
  | 50 => some F50
  | 51 => some F51
  | 52 => some F52
  | 53 => some F53
  | 54 => some F54
  | 55 => some F55
  | 56 => some F56
  | 57 => some F57
  | 58 => some F58
  | 59 => some F59
  | 60 => some F60
  | 61 => some F61
  | 62 => some F62
  | 63 => some F63
  | 64 => some F64
  | 66 => some F66
  | 67 => some F67
  | 68 => some F68
  | 69 => some F69
  | 70 => some F70
  | 71 => some F71
  | 72 => some F72
  | 73 => some F73
  | 74 => some F74
  | 75 => some F75
  | 76 => some F76
  | n => none
noncomputable def L0 : Cs := lim tab1 (fun _ _ => none)

theorem no_globals : GOk (fun _ _ => none) (fun _ => none) := fun n a h => by cases h
theorem ok10 : FnOk (fun _ _ => none) Try.prog 10 F10 := compF_spec no_globals Try.func10 (by kernel_rfl)
theorem ok11 : FnOk (fun _ _ => none) Try.prog 11 F11 := compF_spec no_globals Try.func11 (by kernel_rfl)
theorem ok15 : FnOk (fun _ _ => none) Try.prog 15 F15 := compF_spec no_globals Try.func15 (by kernel_rfl)
theorem ok16 : FnOk (fun _ _ => none) Try.prog 16 F16 := compF_spec no_globals Try.func16 (by kernel_rfl)
theorem ok17 : FnOk (fun _ _ => none) Try.prog 17 F17 := compF_spec no_globals Try.func17 (by kernel_rfl)
theorem ok18 : FnOk (fun _ _ => none) Try.prog 18 F18 := compF_spec no_globals Try.func18 (by kernel_rfl)
theorem ok20 : FnOk (fun _ _ => none) Try.prog 20 F20 := compF_spec no_globals Try.func20 (by kernel_rfl)
theorem ok21 : FnOk (fun _ _ => none) Try.prog 21 F21 := compF_spec no_globals Try.func21 (by kernel_rfl)
theorem ok23 : FnOk (fun _ _ => none) Try.prog 23 F23 := compF_spec no_globals Try.func23 (by kernel_rfl)
theorem ok24 : FnOk (fun _ _ => none) Try.prog 24 F24 := compF_spec no_globals Try.func24 (by kernel_rfl)
theorem ok25 : FnOk (fun _ _ => none) Try.prog 25 F25 := compF_spec no_globals Try.func25 (by kernel_rfl)
theorem ok26 : FnOk (fun _ _ => none) Try.prog 26 F26 := compF_spec no_globals Try.func26 (by kernel_rfl)
theorem ok27 : FnOk (fun _ _ => none) Try.prog 27 F27 := compF_spec no_globals Try.func27 (by kernel_rfl)
theorem ok28 : FnOk (fun _ _ => none) Try.prog 28 F28 := compF_spec no_globals Try.func28 (by kernel_rfl)
theorem ok30 : FnOk (fun _ _ => none) Try.prog 30 F30 := compF_spec no_globals Try.func30 (by kernel_rfl)
theorem ok35 : FnOk (fun _ _ => none) Try.prog 35 F35 := compF_spec no_globals Try.func35 (by kernel_rfl)
theorem ok36 : FnOk (fun _ _ => none) Try.prog 36 F36 := compF_spec no_globals Try.func36 (by kernel_rfl)
theorem ok37 : FnOk (fun _ _ => none) Try.prog 37 F37 := compF_spec no_globals Try.func37 (by kernel_rfl)
theorem ok38 : FnOk (fun _ _ => none) Try.prog 38 F38 := compF_spec no_globals Try.func38 (by kernel_rfl)
theorem ok39 : FnOk (fun _ _ => none) Try.prog 39 F39 := compF_spec no_globals Try.func39 (by kernel_rfl)
theorem ok40 : FnOk (fun _ _ => none) Try.prog 40 F40 := compF_spec no_globals Try.func40 (by kernel_rfl)
theorem ok41 : FnOk (fun _ _ => none) Try.prog 41 F41 := compF_spec no_globals Try.func41 (by kernel_rfl)
theorem ok42 : FnOk (fun _ _ => none) Try.prog 42 F42 := compF_spec no_globals Try.func42 (by kernel_rfl)
theorem ok43 : FnOk (fun _ _ => none) Try.prog 43 F43 := compF_spec no_globals Try.func43 (by kernel_rfl)
theorem ok44 : FnOk (fun _ _ => none) Try.prog 44 F44 := compF_spec no_globals Try.func44 (by kernel_rfl)
theorem ok45 : FnOk (fun _ _ => none) Try.prog 45 F45 := compF_spec no_globals Try.func45 (by kernel_rfl)
theorem ok46 : FnOk (fun _ _ => none) Try.prog 46 F46 := compF_spec no_globals Try.func46 (by kernel_rfl)
theorem ok47 : FnOk (fun _ _ => none) Try.prog 47 F47 := compF_spec no_globals Try.func47 (by kernel_rfl)
theorem ok48 : FnOk (fun _ _ => none) Try.prog 48 F48 := compF_spec no_globals Try.func48 (by kernel_rfl)
theorem ok49 : FnOk (fun _ _ => none) Try.prog 49 F49 := compF_spec no_globals Try.func49 (by kernel_rfl)
theorem ok50 : FnOk (fun _ _ => none) Try.prog 50 F50 := compF_spec no_globals Try.func50 (by kernel_rfl)
theorem ok51 : FnOk (fun _ _ => none) Try.prog 51 F51 := compF_spec no_globals Try.func51 (by kernel_rfl)
theorem ok52 : FnOk (fun _ _ => none) Try.prog 52 F52 := compF_spec no_globals Try.func52 (by kernel_rfl)
theorem ok53 : FnOk (fun _ _ => none) Try.prog 53 F53 := compF_spec no_globals Try.func53 (by kernel_rfl)
theorem ok54 : FnOk (fun _ _ => none) Try.prog 54 F54 := compF_spec no_globals Try.func54 (by kernel_rfl)
theorem ok55 : FnOk (fun _ _ => none) Try.prog 55 F55 := compF_spec no_globals Try.func55 (by kernel_rfl)
theorem ok56 : FnOk (fun _ _ => none) Try.prog 56 F56 := compF_spec no_globals Try.func56 (by kernel_rfl)
theorem ok57 : FnOk (fun _ _ => none) Try.prog 57 F57 := compF_spec no_globals Try.func57 (by kernel_rfl)
theorem ok58 : FnOk (fun _ _ => none) Try.prog 58 F58 := compF_spec no_globals Try.func58 (by kernel_rfl)
theorem ok59 : FnOk (fun _ _ => none) Try.prog 59 F59 := compF_spec no_globals Try.func59 (by kernel_rfl)
theorem ok60 : FnOk (fun _ _ => none) Try.prog 60 F60 := compF_spec no_globals Try.func60 (by kernel_rfl)
theorem ok61 : FnOk (fun _ _ => none) Try.prog 61 F61 := compF_spec no_globals Try.func61 (by kernel_rfl)
theorem ok62 : FnOk (fun _ _ => none) Try.prog 62 F62 := compF_spec no_globals Try.func62 (by kernel_rfl)
theorem ok63 : FnOk (fun _ _ => none) Try.prog 63 F63 := compF_spec no_globals Try.func63 (by kernel_rfl)
theorem ok64 : FnOk (fun _ _ => none) Try.prog 64 F64 := compF_spec no_globals Try.func64 (by kernel_rfl)
theorem ok66 : FnOk (fun _ _ => none) Try.prog 66 F66 := compF_spec no_globals Try.func66 (by kernel_rfl)
theorem ok67 : FnOk (fun _ _ => none) Try.prog 67 F67 := compF_spec no_globals Try.func67 (by kernel_rfl)
theorem ok68 : FnOk (fun _ _ => none) Try.prog 68 F68 := compF_spec no_globals Try.func68 (by kernel_rfl)
theorem ok69 : FnOk (fun _ _ => none) Try.prog 69 F69 := compF_spec no_globals Try.func69 (by kernel_rfl)
theorem ok70 : FnOk (fun _ _ => none) Try.prog 70 F70 := compF_spec no_globals Try.func70 (by kernel_rfl)
theorem ok71 : FnOk (fun _ _ => none) Try.prog 71 F71 := compF_spec no_globals Try.func71 (by kernel_rfl)
theorem ok72 : FnOk (fun _ _ => none) Try.prog 72 F72 := compF_spec no_globals Try.func72 (by kernel_rfl)
theorem ok73 : FnOk (fun _ _ => none) Try.prog 73 F73 := compF_spec no_globals Try.func73 (by kernel_rfl)
theorem ok74 : FnOk (fun _ _ => none) Try.prog 74 F74 := compF_spec no_globals Try.func74 (by kernel_rfl)
theorem ok75 : FnOk (fun _ _ => none) Try.prog 75 F75 := compF_spec no_globals Try.func75 (by kernel_rfl)
theorem ok76 : FnOk (fun _ _ => none) Try.prog 76 F76 := compF_spec no_globals Try.func76 (by kernel_rfl)
theorem tab1_ok : ∀ f fn, tab1 f = some fn → FnOk (fun _ _ => none) Try.prog f fn := by
  intro f fn h
  unfold tab1 at h
  split at h
  · cases h; exact ok10
  · cases h; exact ok11
  · cases h; exact ok15
  · cases h; exact ok16
  · cases h; exact ok17
  · cases h; exact ok18
  · cases h; exact ok20
  · cases h; exact ok21
  · cases h; exact ok23
  · cases h; exact ok24
  · cases h; exact ok25
  · cases h; exact ok26
  · cases h; exact ok27
  · cases h; exact ok28
  · cases h; exact ok30
  · cases h; exact ok35
  · cases h; exact ok36
  · cases h; exact ok37
  · cases h; exact ok38
  · cases h; exact ok39
  · cases h; exact ok40
  · cases h; exact ok41
  · cases h; exact ok42
  · cases h; exact ok43
  · cases h; exact ok44
  · cases h; exact ok45
  · cases h; exact ok46
  · cases h; exact ok47
  · cases h; exact ok48
  · cases h; exact ok49
  · cases h; exact ok50
  · cases h; exact ok51
  · cases h; exact ok52
  · cases h; exact ok53
  · cases h; exact ok54
  · cases h; exact ok55
  · cases h; exact ok56
  · cases h; exact ok57
  · cases h; exact ok58
  · cases h; exact ok59
  · cases h; exact ok60
  · cases h; exact ok61
  · cases h; exact ok62
  · cases h; exact ok63
  · cases h; exact ok64
  · cases h; exact ok66
  · cases h; exact ok67
  · cases h; exact ok68
  · cases h; exact ok69
  · cases h; exact ok70
  · cases h; exact ok71
  · cases h; exact ok72
  · cases h; exact ok73
  · cases h; exact ok74
  · cases h; exact ok75
  · cases h; exact ok76
  · cases h
theorem meets0 (f : Nat) : Meets (fun _ _ => none) Try.prog f (L0 f) := lim_meets tab1_ok (fun f _ m w args vs bs _ _ _ _ _ r a h => by cases h) f
abbrev U1 : Nat := 45
abbrev K1 : Kd := DiesOn (fun _ _ => none) Try.prog U1
abbrev dy1 : List Nat := [66, 69, 70, 71, 74, 75]

end Go.Es.Sca
