/- The code of the functions that the statement InstNear, InstMay reaches, as the interpreter reads it. No condition. -/
import Derived.Test.YtncfbghdnnhfiaaEsD
import Derived.Test.YtncfbghdnnhfiaaChecked
import Derived.KernelRfl
set_option linter.unusedVariables false
set_option linter.unusedSimpArgs false
set_option maxRecDepth 100000
set_option maxHeartbeats 4000000
namespace Go.Es.Ins
open Go.Proofs
def F6o1 : List Ao := [
  o3 2 (.box 10) [.t 0],
  o3 4 .mv [.c (.d (.bool false))]]
def F6o3 : List Ao := [
  o3 11 (.load (some 10)) [.t 2],
  o3 12 (.callf 24) [.t 11],
  o3 5 (.alloc [.d (.bool false), .d (.int .i64 0), .d (.int .i64 0), .d (.int .u8 0), .d (.int .i64 0), .d (.int .i64 0), .d (.int .i64 0), .d (.int .u16 0), .d (.int .u16 0), .d (.int .u16 0)]) [],
  { dst := none, k := (.store 10), xs := [.t 5, .t 12] }]
def F6o6 : List Ao := [
  o3 13 .mv [.t 1],
  o3 14 (.bin .and) [.t 13, .c (.d (.int .i64 15))]]
def F6o9 : List Ao := [
  o3 16 (.bin .eql) [.t 14, .c (.d (.int .i64 0))],
  o3 15 .mv [.t 16]]
def F6o11 : List Ao := [
  o3 17 (.load (some 10)) [.t 2],
  { dst := none, k := (.store 10), xs := [.t 5, .t 17] }]
def F6o13 : List Ao := [
  o3 19 (.bin .eql) [.t 14, .c (.d (.int .i64 1))],
  o3 18 .mv [.t 19]]
def F6o15 : List Ao := [
  o3 20 (.faddr 4) [.t 2],
  o3 21 (.load none) [.t 20],
  o3 22 (.faddr 6) [.t 2],
  { dst := some 23, k := (.load none), xs := [.t 22], av := [[5]] },
  o3 24 (.faddr 4) [.t 5],
  { dst := none, k := (.store 1), xs := [.t 24, .t 21], al := some [[5]] },
  o3 25 (.faddr 6) [.t 5],
  { dst := none, k := (.store 1), xs := [.t 25, .t 23] }]
def F6o17 : List Ao := [
  o3 27 (.bin .eql) [.t 14, .c (.d (.int .i64 2))],
  o3 26 .mv [.t 27]]
def F6o19 : List Ao := [
  o3 28 (.faddr 7) [.t 2],
  o3 29 (.load none) [.t 28],
  o3 30 (.faddr 7) [.t 5],
  { dst := none, k := (.store 1), xs := [.t 30, .t 29] }]
def F6o21 : List Ao := [
  o3 32 (.bin .eql) [.t 14, .c (.d (.int .i64 3))],
  o3 31 .mv [.t 32]]
def F6o23 : List Ao := [
  o3 33 (.faddr 8) [.t 2],
  o3 34 (.load none) [.t 33],
  o3 35 (.faddr 8) [.t 5],
  { dst := none, k := (.store 1), xs := [.t 35, .t 34] }]
def F6o25 : List Ao := [
  o3 37 (.bin .eql) [.t 14, .c (.d (.int .i64 4))],
  o3 36 .mv [.t 37]]
def F6o27 : List Ao := [
  o3 38 (.faddr 1) [.t 2],
  o3 39 (.load none) [.t 38],
  o3 40 (.faddr 2) [.t 2],
  { dst := some 41, k := (.load none), xs := [.t 40], av := [[5]] },
  o3 42 (.faddr 1) [.t 5],
  { dst := none, k := (.store 1), xs := [.t 42, .t 39], al := some [[5]] },
  o3 43 (.faddr 2) [.t 5],
  { dst := none, k := (.store 1), xs := [.t 43, .t 41] }]
def F6o29 : List Ao := [
  o3 45 (.bin .eql) [.t 14, .c (.d (.int .i64 5))],
  o3 44 .mv [.t 45]]
def F6o31 : List Ao := [
  o3 46 (.faddr 9) [.t 2],
  o3 47 (.load none) [.t 46],
  o3 48 (.faddr 9) [.t 5],
  { dst := none, k := (.store 1), xs := [.t 48, .t 47] }]
def F6o33 : List Ao := [
  o3 50 (.bin .eql) [.t 14, .c (.d (.int .i64 6))],
  o3 49 .mv [.t 50]]
def F6o35 : List Ao := [
  o3 51 (.faddr 5) [.t 2],
  o3 52 (.load none) [.t 51],
  o3 53 (.faddr 5) [.t 5],
  { dst := none, k := (.store 1), xs := [.t 53, .t 52] }]
def F6c34 : Ac := (.cond (.t 49) (.ops F6o35) .skip)
def F6c30 : Ac := (.cond (.t 44) (.ops F6o31) (.seq (.ops F6o33) F6c34))
def F6c26 : Ac := (.cond (.t 36) (.ops F6o27) (.seq (.ops F6o29) F6c30))
def F6c22 : Ac := (.cond (.t 31) (.ops F6o23) (.seq (.ops F6o25) F6c26))
def F6c18 : Ac := (.cond (.t 26) (.ops F6o19) (.seq (.ops F6o21) F6c22))
def F6c14 : Ac := (.cond (.t 18) (.ops F6o15) (.seq (.ops F6o17) F6c18))
def F6c10 : Ac := (.cond (.t 15) (.ops F6o11) (.seq (.ops F6o13) F6c14))
def F6c7 : Ac := (.block 0 (.seq (.ops F6o9) F6c10))
def F6o38 : List Ao := [
  o3 54 (.load (some 10)) [.t 5],
  o3 55 (.callf 25) [.t 54],
  o3 6 .mv [.t 55]]
def F6o40 : List Ao := [
  o3 7 .mv [.c (.d (.int .i64 0))],
  o3 8 .mv [.c (.d (.int .i64 0))]]
def F6o43 : List Ao := [
  o3 56 .mv [.t 6]]
def F6o46 : List Ao := [
  o3 58 (.load (some 10)) [.t 5],
  o3 59 (.callf 26) [.t 58],
  o3 57 .mv [.t 59],
  o3 60 (.extract 0) [.t 57],
  o3 61 (.extract 1) [.t 57],
  o3 9 (.alloc [.d (.int .i64 0), .d (.int .i64 0), .d (.int .i64 0), .d (.bool false)]) [],
  { dst := none, k := (.store 4), xs := [.t 9, .t 60] },
  o3 10 .mv [.t 61]]
def F6o48 : List Ao := [
  o3 62 (.load (some 10)) [.t 5],
  o3 63 (.callf 27) [.t 62],
  o3 64 .lenL [.t 63],
  o3 7 .mv [.t 64]]
def F6o49 : List Ao := [
  o3 65 .mv [.t 7],
  o3 66 (.load (some 4)) [.t 9],
  o3 67 (.callf 28) [.t 66],
  o3 68 (.bin .sub) [.t 65, .t 67],
  o3 8 .mv [.t 68]]
def F6c49 : Ac := (.ops F6o49)
def F6c47 : Ac := (.seq (.ops F6o48) F6c49)
def F6c44 : Ac := (.cond (.t 56) (.seq (.ops F6o46) F6c47) .skip)
def F6o52 : List Ao := [
  o3 69 (.callf 29) [],
  o3 70 .mv [.t 69],
  { dst := some 71, k := (.load (some 10)), xs := [.t 5], g := some (70, true) },
  { dst := some 72, k := (.callf 30), xs := [.t 71], g := some (70, true) },
  { dst := some 73, k := .mv, xs := [.t 6], g := some (70, true) },
  { dst := some 74, k := (.eqb false), xs := [.t 72, .t 73], g := some (70, true) },
  o3 75 .pick [.t 70, .t 74, .c (.d (.bool false))],
  o3 76 .mv [.t 75],
  { dst := some 77, k := (.load (some 10)), xs := [.t 5], g := some (76, true) },
  { dst := some 78, k := (.callf 31), xs := [.t 77], g := some (76, true) },
  { dst := some 79, k := .mv, xs := [.t 7], g := some (76, true) },
  { dst := some 80, k := (.bin .eql), xs := [.t 78, .t 79], g := some (76, true) },
  o3 81 .pick [.t 76, .t 80, .c (.d (.bool false))],
  o3 82 .mv [.t 81],
  { dst := some 83, k := (.load (some 10)), xs := [.t 5], g := some (82, true) },
  { dst := some 84, k := (.callf 32), xs := [.t 83], g := some (82, true) },
  { dst := some 85, k := .mv, xs := [.t 8], g := some (82, true) },
  { dst := some 86, k := (.bin .eql), xs := [.t 84, .t 85], g := some (82, true) },
  o3 87 .pick [.t 82, .t 86, .c (.d (.bool false))],
  o3 4 .mv [.t 87]]
def F6c53 : Ac := .ret
def F6b51 : Ac := (.seq (.ops F6o52) F6c53)
def F6c51 : Ac := (.seq (.gh []) (.seq (.keep [5, 6, 7, 8] [[5]]) F6b51))
def F6c41 : Ac := (.seq (.seq (.ops F6o43) F6c44) F6c51)
def F6c39 : Ac := (.seq (.ops F6o40) F6c41)
def F6b37 : Ac := (.seq (.ops F6o38) F6c39)
def F6c37 : Ac := (.seq (.gh []) (.seq (.keep [5] [[5]]) F6b37))
def F6c4 : Ac := (.seq (.seq (.ops F6o6) F6c7) F6c37)
def F6c2 : Ac := (.seq (.ops F6o3) F6c4)
def F6c0 : Ac := (.seq (.ops F6o1) F6c2)
/-- hansom/hansomlaw05.InstMay -/
def F6 : Fn := { np := 2, pb := [], rs := [.t 4], body := F6c0 }
def F7o1 : List Ao := [
  o3 1 (.box 10) [.t 0],
  o3 2 .mv [.c (.d (.bool false))]]
def F7o3 : List Ao := [
  o3 5 (.load (some 10)) [.t 1],
  o3 6 (.callf 24) [.t 5],
  o3 3 (.alloc [.d (.bool false), .d (.int .i64 0), .d (.int .i64 0), .d (.int .u8 0), .d (.int .i64 0), .d (.int .i64 0), .d (.int .i64 0), .d (.int .u16 0), .d (.int .u16 0), .d (.int .u16 0)]) [],
  { dst := none, k := (.store 10), xs := [.t 3, .t 6] }]
def F7o5 : List Ao := [
  o3 7 (.load (some 10)) [.t 3],
  o3 8 (.callf 31) [.t 7],
  o3 4 .mv [.t 8]]
def F7o7 : List Ao := [
  o3 9 (.callf 29) [],
  o3 10 .mv [.t 9],
  { dst := some 11, k := (.load (some 10)), xs := [.t 3], g := some (10, true) },
  { dst := some 12, k := (.callf 30), xs := [.t 11], g := some (10, true) },
  o3 13 .pick [.t 10, .t 12, .c (.d (.bool false))],
  o3 14 .mv [.t 13],
  { dst := some 15, k := .mv, xs := [.t 4], g := some (14, true) },
  { dst := some 16, k := (.bin .geq), xs := [.t 15, .c (.d (.int .i64 1))], g := some (14, true) },
  o3 17 .pick [.t 14, .t 16, .c (.d (.bool false))],
  o3 18 .mv [.t 17],
  { dst := some 19, k := .mv, xs := [.t 4], g := some (18, true) },
  { dst := some 20, k := (.bin .leq), xs := [.t 19, .c (.d (.int .i64 9))], g := some (18, true) },
  o3 21 .pick [.t 18, .t 20, .c (.d (.bool false))],
  o3 22 .mv [.t 21],
  { dst := some 23, k := (.load (some 10)), xs := [.t 3], g := some (22, true) },
  { dst := some 24, k := (.callf 32), xs := [.t 23], g := some (22, true) },
  { dst := some 25, k := .mv, xs := [.t 4], g := some (22, true) },
  { dst := some 26, k := (.bin .leq), xs := [.t 24, .t 25], g := some (22, true) },
  o3 27 .pick [.t 22, .t 26, .c (.d (.bool false))],
  o3 28 .mv [.t 27],
  { dst := some 29, k := (.load (some 10)), xs := [.t 3], g := some (28, true) },
  { dst := some 30, k := (.callf 33), xs := [.t 29], g := some (28, true), al := some [] },
  { dst := some 31, k := (.load (some 10)), xs := [.t 3], g := some (28, true), av := [[30]] },
  { dst := some 32, k := (.callf 32), xs := [.t 31], g := some (28, true) },
  { dst := some 33, k := (.bin .add), xs := [.t 32, .c (.d (.int .i64 1))], g := some (28, true) },
  { dst := some 34, k := (.bin .lss), xs := [.t 30, .t 33], g := some (28, true) },
  o3 35 .pick [.t 28, .t 34, .c (.d (.bool false))],
  o3 2 .mv [.t 35]]
def F7c8 : Ac := .ret
def F7c6 : Ac := (.seq (.ops F7o7) F7c8)
def F7c4 : Ac := (.seq (.ops F7o5) F7c6)
def F7c2 : Ac := (.seq (.ops F7o3) F7c4)
def F7c0 : Ac := (.seq (.ops F7o1) F7c2)
/-- hansom/hansomlaw05.InstNear -/
def F7 : Fn := { np := 1, pb := [], rs := [.t 2], body := F7c0 }
def F11o1 : List Ao := [
  o3 4 (.alloc [.d (.int .i64 0), .d (.int .i64 0), .d (.int .i64 0), .d (.bool false)]) [],
  o3 5 .mv [.c (.d (.bool false))]]
def F11o3 : List Ao := [
  o3 7 .mv [.t 1],
  o3 8 (.bin .and) [.t 7, .c (.d (.int .i64 7))],
  o3 1 .mv [.t 8]]
def F11o7 : List Ao := [
  o3 10 .mv [.t 0],
  o3 11 (.bin .lss) [.t 10, .c (.d (.int .u8 64))],
  o3 9 .mv [.t 11]]
def F11o10 : List Ao := [
  o3 12 .mv [.t 0],
  o3 13 (.callf 37) [.t 12],
  o3 14 (.extract 0) [.t 13],
  o3 15 (.extract 1) [.t 13],
  { dst := none, k := (.store 4), xs := [.t 4, .t 14] },
  o3 5 .mv [.t 15]]
def F11c11 : Ac := .ret
def F11o13 : List Ao := [
  o3 17 .mv [.t 0],
  o3 18 (.bin .lss) [.t 17, .c (.d (.int .u8 96))],
  o3 16 .mv [.t 18]]
def F11o16 : List Ao := [
  o3 19 (.bslice (.int .i64 0) 4 [0, 1, 2, 3]) [.c (.d (.int .i64 15)), .c (.d (.int .i64 16)), .c (.d (.int .i64 9)), .c (.d (.int .i64 10))],
  o3 20 .mv [.t 0],
  o3 21 (.bin .sub) [.t 20, .c (.d (.int .u8 64))],
  o3 22 (.bin .shr) [.t 21, .c (.d (.int .u64 3))],
  o3 23 (.iaddrS 1) [.t 19, .t 22],
  o3 24 (.load none) [.t 23],
  o3 6 .mv [.t 24]]
def F11o18 : List Ao := [
  o3 25 .mv [.t 6],
  o3 26 (.callf 38) [.t 25, .c (.d (.int .i64 22)), .c (.d (.int .i64 0))],
  o3 27 (.extract 0) [.t 26],
  o3 28 (.extract 1) [.t 26],
  { dst := none, k := (.store 4), xs := [.t 4, .t 27] },
  o3 5 .mv [.t 28]]
def F11c19 : Ac := .ret
def F11c17 : Ac := (.seq (.ops F11o18) F11c19)
def F11o21 : List Ao := [
  o3 30 .mv [.t 0],
  o3 31 (.bin .lss) [.t 30, .c (.d (.int .u8 112))],
  o3 29 .mv [.t 31]]
def F11o24 : List Ao := [
  o3 32 (.callf 39) [],
  o3 33 (.extract 0) [.t 32],
  o3 34 (.extract 1) [.t 32],
  { dst := none, k := (.store 4), xs := [.t 4, .t 33] },
  o3 5 .mv [.t 34]]
def F11c25 : Ac := .ret
def F11o27 : List Ao := [
  o3 36 .mv [.t 0],
  o3 37 (.bin .lss) [.t 36, .c (.d (.int .u8 128))],
  o3 35 .mv [.t 37]]
def F11o30 : List Ao := [
  o3 38 .mv [.t 0],
  o3 39 (.bin .sub) [.t 38, .c (.d (.int .u8 112))],
  o3 40 (.toInt .i64) [.t 39],
  o3 41 (.bin .add) [.c (.d (.int .i64 17)), .t 40],
  o3 42 (.callf 38) [.t 41, .c (.d (.int .i64 9)), .c (.d (.int .i64 0))],
  o3 43 (.extract 0) [.t 42],
  o3 44 (.extract 1) [.t 42],
  { dst := none, k := (.store 4), xs := [.t 4, .t 43] },
  o3 5 .mv [.t 44]]
def F11c31 : Ac := .ret
def F11o33 : List Ao := [
  o3 46 .mv [.t 0],
  o3 47 (.bin .lss) [.t 46, .c (.d (.int .u8 144))],
  o3 45 .mv [.t 47]]
def F11o36 : List Ao := [
  o3 48 .mv [.t 0],
  o3 49 .mv [.t 1],
  o3 50 (.callf 40) [.t 48, .t 49],
  o3 51 (.extract 0) [.t 50],
  o3 52 (.extract 1) [.t 50],
  { dst := none, k := (.store 4), xs := [.t 4, .t 51] },
  o3 5 .mv [.t 52]]
def F11c37 : Ac := .ret
def F11o39 : List Ao := [
  o3 54 .mv [.t 0],
  o3 55 (.bin .lss) [.t 54, .c (.d (.int .u8 160))],
  o3 53 .mv [.t 55]]
def F11o42 : List Ao := [
  o3 56 .mv [.t 0],
  o3 57 (.callf 41) [.t 56],
  o3 58 (.extract 0) [.t 57],
  o3 59 (.extract 1) [.t 57],
  { dst := none, k := (.store 4), xs := [.t 4, .t 58] },
  o3 5 .mv [.t 59]]
def F11c43 : Ac := .ret
def F11o45 : List Ao := [
  o3 61 .mv [.t 0],
  o3 62 (.bin .lss) [.t 61, .c (.d (.int .u8 176))],
  o3 60 .mv [.t 62]]
def F11o48 : List Ao := [
  o3 63 .mv [.t 0],
  o3 64 (.callf 42) [.t 63],
  o3 65 (.extract 0) [.t 64],
  o3 66 (.extract 1) [.t 64],
  { dst := none, k := (.store 4), xs := [.t 4, .t 65] },
  o3 5 .mv [.t 66]]
def F11c49 : Ac := .ret
def F11o51 : List Ao := [
  o3 68 .mv [.t 0],
  o3 69 (.bin .lss) [.t 68, .c (.d (.int .u8 184))],
  o3 67 .mv [.t 69]]
def F11o54 : List Ao := [
  o3 70 (.callf 38) [.c (.d (.int .i64 35)), .c (.d (.int .i64 21)), .c (.d (.int .i64 6))],
  o3 71 (.extract 0) [.t 70],
  o3 72 (.extract 1) [.t 70],
  { dst := none, k := (.store 4), xs := [.t 4, .t 71] },
  o3 5 .mv [.t 72]]
def F11c55 : Ac := .ret
def F11o57 : List Ao := [
  o3 74 .mv [.t 0],
  o3 75 (.bin .lss) [.t 74, .c (.d (.int .u8 192))],
  o3 73 .mv [.t 75]]
def F11o60 : List Ao := [
  o3 76 (.callf 38) [.c (.d (.int .i64 35)), .c (.d (.int .i64 22)), .c (.d (.int .i64 7))],
  o3 77 (.extract 0) [.t 76],
  o3 78 (.extract 1) [.t 76],
  { dst := none, k := (.store 4), xs := [.t 4, .t 77] },
  o3 5 .mv [.t 78]]
def F11c61 : Ac := .ret
def F11o63 : List Ao := [
  o3 80 .mv [.t 0],
  o3 81 (.bin .lss) [.t 80, .c (.d (.int .u8 208))],
  o3 79 .mv [.t 81]]
def F11o66 : List Ao := [
  o3 82 .mv [.t 0],
  o3 83 .mv [.t 1],
  o3 84 (.callf 43) [.t 82, .t 83],
  o3 85 (.extract 0) [.t 84],
  o3 86 (.extract 1) [.t 84],
  { dst := none, k := (.store 4), xs := [.t 4, .t 85] },
  o3 5 .mv [.t 86]]
def F11c67 : Ac := .ret
def F11o69 : List Ao := [
  o3 88 .mv [.t 0],
  o3 89 (.bin .lss) [.t 88, .c (.d (.int .u8 224))],
  o3 87 .mv [.t 89]]
def F11o72 : List Ao := [
  o3 90 .mv [.t 0],
  o3 91 .mv [.t 1],
  o3 92 (.callf 44) [.t 90, .t 91],
  o3 93 (.extract 0) [.t 92],
  o3 94 (.extract 1) [.t 92],
  { dst := none, k := (.store 4), xs := [.t 4, .t 93] },
  o3 5 .mv [.t 94]]
def F11c73 : Ac := .ret
def F11o75 : List Ao := [
  o3 96 .mv [.t 0],
  o3 97 (.bin .lss) [.t 96, .c (.d (.int .u8 240))],
  o3 95 .mv [.t 97]]
def F11o78 : List Ao := [
  o3 98 .mv [.t 0],
  o3 99 (.callf 45) [.t 98],
  o3 100 (.extract 0) [.t 99],
  o3 101 (.extract 1) [.t 99],
  { dst := none, k := (.store 4), xs := [.t 4, .t 100] },
  o3 5 .mv [.t 101]]
def F11c79 : Ac := .ret
def F11c76 : Ac := (.cond (.t 95) (.seq (.ops F11o78) F11c79) .skip)
def F11c70 : Ac := (.cond (.t 87) (.seq (.ops F11o72) F11c73) (.seq (.ops F11o75) F11c76))
def F11c64 : Ac := (.cond (.t 79) (.seq (.ops F11o66) F11c67) (.seq (.ops F11o69) F11c70))
def F11c58 : Ac := (.cond (.t 73) (.seq (.ops F11o60) F11c61) (.seq (.ops F11o63) F11c64))
def F11c52 : Ac := (.cond (.t 67) (.seq (.ops F11o54) F11c55) (.seq (.ops F11o57) F11c58))
def F11c46 : Ac := (.cond (.t 60) (.seq (.ops F11o48) F11c49) (.seq (.ops F11o51) F11c52))
def F11c40 : Ac := (.cond (.t 53) (.seq (.ops F11o42) F11c43) (.seq (.ops F11o45) F11c46))
def F11c34 : Ac := (.cond (.t 45) (.seq (.ops F11o36) F11c37) (.seq (.ops F11o39) F11c40))
def F11c28 : Ac := (.cond (.t 35) (.seq (.ops F11o30) F11c31) (.seq (.ops F11o33) F11c34))
def F11c22 : Ac := (.cond (.t 29) (.seq (.ops F11o24) F11c25) (.seq (.ops F11o27) F11c28))
def F11c14 : Ac := (.cond (.t 16) (.seq (.ops F11o16) F11c17) (.seq (.ops F11o21) F11c22))
def F11c8 : Ac := (.cond (.t 9) (.seq (.ops F11o10) F11c11) (.seq (.ops F11o13) F11c14))
def F11o82 : List Ao := [
  o3 102 .mv [.t 0],
  o3 103 .mv [.t 1],
  o3 104 (.callf 46) [.t 102, .t 103],
  o3 105 (.extract 0) [.t 104],
  o3 106 (.extract 1) [.t 104],
  { dst := none, k := (.store 4), xs := [.t 4, .t 105] },
  o3 5 .mv [.t 106]]
def F11c83 : Ac := .ret
def F11c81 : Ac := (.seq (.ops F11o82) F11c83)
def F11c4 : Ac := (.seq (.block 0 (.seq (.ops F11o7) F11c8)) F11c81)
def F11c2 : Ac := (.seq (.ops F11o3) F11c4)
def F11c0 : Ac := (.seq (.ops F11o1) F11c2)
/-- hansom/isa.Of -/
def F11 : Fn := { np := 2, pb := [], rs := [.c 4 (some 4), .t 5], body := F11c0 }
def F15o1 : List Ao := [
  o3 2 .mv [.c (.d (.int .i64 0))]]
def F15o4 : List Ao := [
  o3 3 .mv [.t 0]]
def F15o8 : List Ao := [
  o3 5 (.bin .eql) [.t 3, .c (.d (.int .i64 46))],
  o3 4 .mv [.t 5]]
def F15o12 : List Ao := [
  o3 6 (.bin .eql) [.t 3, .c (.d (.int .i64 47))],
  o3 4 .mv [.t 6]]
def F15o16 : List Ao := [
  o3 7 (.bin .eql) [.t 3, .c (.d (.int .i64 50))],
  o3 4 .mv [.t 7]]
def F15o20 : List Ao := [
  o3 8 (.bin .eql) [.t 3, .c (.d (.int .i64 51))],
  o3 4 .mv [.t 8]]
def F15o24 : List Ao := [
  o3 9 (.bin .eql) [.t 3, .c (.d (.int .i64 52))],
  o3 4 .mv [.t 9]]
def F15o27 : List Ao := [
  o3 10 (.bin .eql) [.t 3, .c (.d (.int .i64 53))],
  o3 4 .mv [.t 10]]
def F15c25 : Ac := (.cond (.t 4) .skip (.ops F15o27))
def F15c21 : Ac := (.cond (.t 4) .skip (.seq (.ops F15o24) F15c25))
def F15c17 : Ac := (.cond (.t 4) .skip (.seq (.ops F15o20) F15c21))
def F15c13 : Ac := (.cond (.t 4) .skip (.seq (.ops F15o16) F15c17))
def F15c9 : Ac := (.cond (.t 4) .skip (.seq (.ops F15o12) F15c13))
def F15o30 : List Ao := [
  o3 2 .mv [.c (.d (.int .i64 1))]]
def F15c31 : Ac := .ret
def F15o34 : List Ao := [
  o3 12 (.bin .eql) [.t 3, .c (.d (.int .i64 48))],
  o3 11 .mv [.t 12]]
def F15o38 : List Ao := [
  o3 13 (.bin .eql) [.t 3, .c (.d (.int .i64 49))],
  o3 11 .mv [.t 13]]
def F15o42 : List Ao := [
  o3 14 (.bin .eql) [.t 3, .c (.d (.int .i64 54))],
  o3 11 .mv [.t 14]]
def F15o45 : List Ao := [
  o3 15 (.bin .eql) [.t 3, .c (.d (.int .i64 55))],
  o3 11 .mv [.t 15]]
def F15c43 : Ac := (.cond (.t 11) .skip (.ops F15o45))
def F15c39 : Ac := (.cond (.t 11) .skip (.seq (.ops F15o42) F15c43))
def F15c35 : Ac := (.cond (.t 11) .skip (.seq (.ops F15o38) F15c39))
def F15o48 : List Ao := [
  o3 2 .mv [.c (.d (.int .i64 2))]]
def F15c49 : Ac := .ret
def F15c46 : Ac := (.cond (.t 11) (.seq (.ops F15o48) F15c49) .skip)
def F15b28 : Ac := (.cond (.t 4) (.seq (.ops F15o30) F15c31) (.seq (.seq (.ops F15o34) F15c35) F15c46))
def F15c28 : Ac := (.seq (.gh []) (.seq (.keep [3, 4] []) F15b28))
def F15c5 : Ac := (.block 0 (.seq (.seq (.ops F15o8) F15c9) F15c28))
def F15o52 : List Ao := [
  o3 2 .mv [.c (.d (.int .i64 0))]]
def F15c53 : Ac := .ret
def F15c51 : Ac := (.seq (.ops F15o52) F15c53)
def F15c2 : Ac := (.seq (.seq (.ops F15o4) F15c5) F15c51)
def F15c0 : Ac := (.seq (.ops F15o1) F15c2)
/-- hansom/isa.Repeats -/
def F15 : Fn := { np := 1, pb := [], rs := [.t 2], body := F15c0 }
def F16o1 : List Ao := [
  o3 2 .mv [.c (.d (.int .i64 0))]]
def F16o4 : List Ao := [
  o3 3 .mv [.t 0],
  o3 4 (.callf 47) [.t 3]]
def F16o8 : List Ao := [
  o3 6 (.bin .eql) [.t 4, .c (.d (.str [77, 79, 86, 83, 66]))],
  o3 5 .mv [.t 6]]
def F16o12 : List Ao := [
  o3 7 (.bin .eql) [.t 4, .c (.d (.str [77, 79, 86, 83, 87]))],
  o3 5 .mv [.t 7]]
def F16o16 : List Ao := [
  o3 8 (.bin .eql) [.t 4, .c (.d (.str [83, 84, 79, 83, 66]))],
  o3 5 .mv [.t 8]]
def F16o20 : List Ao := [
  o3 9 (.bin .eql) [.t 4, .c (.d (.str [83, 84, 79, 83, 87]))],
  o3 5 .mv [.t 9]]
def F16o24 : List Ao := [
  o3 10 (.bin .eql) [.t 4, .c (.d (.str [76, 79, 68, 83, 66]))],
  o3 5 .mv [.t 10]]
def F16o27 : List Ao := [
  o3 11 (.bin .eql) [.t 4, .c (.d (.str [76, 79, 68, 83, 87]))],
  o3 5 .mv [.t 11]]
def F16c25 : Ac := (.cond (.t 5) .skip (.ops F16o27))
def F16c21 : Ac := (.cond (.t 5) .skip (.seq (.ops F16o24) F16c25))
def F16c17 : Ac := (.cond (.t 5) .skip (.seq (.ops F16o20) F16c21))
def F16c13 : Ac := (.cond (.t 5) .skip (.seq (.ops F16o16) F16c17))
def F16c9 : Ac := (.cond (.t 5) .skip (.seq (.ops F16o12) F16c13))
def F16o30 : List Ao := [
  o3 2 .mv [.c (.d (.int .i64 1))]]
def F16c31 : Ac := .ret
def F16o34 : List Ao := [
  o3 13 (.bin .eql) [.t 4, .c (.d (.str [67, 77, 80, 83, 66]))],
  o3 12 .mv [.t 13]]
def F16o38 : List Ao := [
  o3 14 (.bin .eql) [.t 4, .c (.d (.str [67, 77, 80, 83, 87]))],
  o3 12 .mv [.t 14]]
def F16o42 : List Ao := [
  o3 15 (.bin .eql) [.t 4, .c (.d (.str [83, 67, 65, 83, 66]))],
  o3 12 .mv [.t 15]]
def F16o45 : List Ao := [
  o3 16 (.bin .eql) [.t 4, .c (.d (.str [83, 67, 65, 83, 87]))],
  o3 12 .mv [.t 16]]
def F16c43 : Ac := (.cond (.t 12) .skip (.ops F16o45))
def F16c39 : Ac := (.cond (.t 12) .skip (.seq (.ops F16o42) F16c43))
def F16c35 : Ac := (.cond (.t 12) .skip (.seq (.ops F16o38) F16c39))
def F16o48 : List Ao := [
  o3 2 .mv [.c (.d (.int .i64 2))]]
def F16c49 : Ac := .ret
def F16c46 : Ac := (.cond (.t 12) (.seq (.ops F16o48) F16c49) .skip)
def F16b28 : Ac := (.cond (.t 5) (.seq (.ops F16o30) F16c31) (.seq (.seq (.ops F16o34) F16c35) F16c46))
def F16c28 : Ac := (.seq (.gh []) (.seq (.keep [4, 5] []) F16b28))
def F16c5 : Ac := (.block 0 (.seq (.seq (.ops F16o8) F16c9) F16c28))
def F16o52 : List Ao := [
  o3 2 .mv [.c (.d (.int .i64 0))]]
def F16c53 : Ac := .ret
def F16c51 : Ac := (.seq (.ops F16o52) F16c53)
def F16c2 : Ac := (.seq (.seq (.ops F16o4) F16c5) F16c51)
def F16c0 : Ac := (.seq (.ops F16o1) F16c2)
/-- hansom/hansomref04.Repeats -/
def F16 : Fn := { np := 1, pb := [], rs := [.t 2], body := F16c0 }
def F17o1 : List Ao := [
  o3 2 .mv [.c (.d (.int .i64 0))]]
def F17o4 : List Ao := [
  o3 3 .mv [.t 0]]
def F17o8 : List Ao := [
  o3 5 (.bin .eql) [.t 3, .c (.d (.int .i64 6))],
  o3 4 .mv [.t 5]]
def F17o12 : List Ao := [
  o3 6 (.bin .eql) [.t 3, .c (.d (.int .i64 8))],
  o3 4 .mv [.t 6]]
def F17o15 : List Ao := [
  o3 7 (.bin .eql) [.t 3, .c (.d (.int .i64 9))],
  o3 4 .mv [.t 7]]
def F17c13 : Ac := (.cond (.t 4) .skip (.ops F17o15))
def F17c9 : Ac := (.cond (.t 4) .skip (.seq (.ops F17o12) F17c13))
def F17o18 : List Ao := [
  o3 2 .mv [.c (.d (.int .i64 1))]]
def F17c19 : Ac := .ret
def F17o22 : List Ao := [
  o3 9 (.bin .eql) [.t 3, .c (.d (.int .i64 7))],
  o3 8 .mv [.t 9]]
def F17o26 : List Ao := [
  o3 10 (.bin .eql) [.t 3, .c (.d (.int .i64 10))],
  o3 8 .mv [.t 10]]
def F17o30 : List Ao := [
  o3 11 (.bin .eql) [.t 3, .c (.d (.int .i64 12))],
  o3 8 .mv [.t 11]]
def F17o33 : List Ao := [
  o3 12 (.bin .eql) [.t 3, .c (.d (.int .i64 13))],
  o3 8 .mv [.t 12]]
def F17c31 : Ac := (.cond (.t 8) .skip (.ops F17o33))
def F17c27 : Ac := (.cond (.t 8) .skip (.seq (.ops F17o30) F17c31))
def F17c23 : Ac := (.cond (.t 8) .skip (.seq (.ops F17o26) F17c27))
def F17o36 : List Ao := [
  o3 2 .mv [.c (.d (.int .i64 2))]]
def F17c37 : Ac := .ret
def F17o39 : List Ao := [
  o3 14 (.bin .eql) [.t 3, .c (.d (.int .i64 11))],
  o3 13 .mv [.t 14]]
def F17o42 : List Ao := [
  o3 2 .mv [.c (.d (.int .i64 4))]]
def F17c43 : Ac := .ret
def F17c40 : Ac := (.cond (.t 13) (.seq (.ops F17o42) F17c43) .skip)
def F17c34 : Ac := (.cond (.t 8) (.seq (.ops F17o36) F17c37) (.seq (.ops F17o39) F17c40))
def F17b16 : Ac := (.cond (.t 4) (.seq (.ops F17o18) F17c19) (.seq (.seq (.ops F17o22) F17c23) F17c34))
def F17c16 : Ac := (.seq (.gh []) (.seq (.keep [3, 4] []) F17b16))
def F17c5 : Ac := (.block 0 (.seq (.seq (.ops F17o8) F17c9) F17c16))
def F17o46 : List Ao := [
  o3 2 .mv [.c (.d (.int .i64 0))]]
def F17c47 : Ac := .ret
def F17c45 : Ac := (.seq (.ops F17o46) F17c47)
def F17c2 : Ac := (.seq (.seq (.ops F17o4) F17c5) F17c45)
def F17c0 : Ac := (.seq (.ops F17o1) F17c2)
/-- hansom/isa.Immediate -/
def F17 : Fn := { np := 1, pb := [], rs := [.t 2], body := F17c0 }
def F18o1 : List Ao := [
  o3 2 .mv [.c (.d (.int .i64 0))]]
def F18o4 : List Ao := [
  o3 3 .mv [.t 0]]
def F18o8 : List Ao := [
  o3 5 (.bin .eql) [.t 3, .c (.d (.int .i64 6))],
  o3 4 .mv [.t 5]]
def F18o12 : List Ao := [
  o3 6 (.bin .eql) [.t 3, .c (.d (.int .i64 8))],
  o3 4 .mv [.t 6]]
def F18o15 : List Ao := [
  o3 7 (.bin .eql) [.t 3, .c (.d (.int .i64 9))],
  o3 4 .mv [.t 7]]
def F18c13 : Ac := (.cond (.t 4) .skip (.ops F18o15))
def F18c9 : Ac := (.cond (.t 4) .skip (.seq (.ops F18o12) F18c13))
def F18o18 : List Ao := [
  o3 2 .mv [.c (.d (.int .i64 1))]]
def F18c19 : Ac := .ret
def F18o22 : List Ao := [
  o3 9 (.bin .eql) [.t 3, .c (.d (.int .i64 7))],
  o3 8 .mv [.t 9]]
def F18o26 : List Ao := [
  o3 10 (.bin .eql) [.t 3, .c (.d (.int .i64 10))],
  o3 8 .mv [.t 10]]
def F18o30 : List Ao := [
  o3 11 (.bin .eql) [.t 3, .c (.d (.int .i64 12))],
  o3 8 .mv [.t 11]]
def F18o33 : List Ao := [
  o3 12 (.bin .eql) [.t 3, .c (.d (.int .i64 13))],
  o3 8 .mv [.t 12]]
def F18c31 : Ac := (.cond (.t 8) .skip (.ops F18o33))
def F18c27 : Ac := (.cond (.t 8) .skip (.seq (.ops F18o30) F18c31))
def F18c23 : Ac := (.cond (.t 8) .skip (.seq (.ops F18o26) F18c27))
def F18o36 : List Ao := [
  o3 2 .mv [.c (.d (.int .i64 2))]]
def F18c37 : Ac := .ret
def F18o39 : List Ao := [
  o3 14 (.bin .eql) [.t 3, .c (.d (.int .i64 11))],
  o3 13 .mv [.t 14]]
def F18o42 : List Ao := [
  o3 2 .mv [.c (.d (.int .i64 4))]]
def F18c43 : Ac := .ret
def F18c40 : Ac := (.cond (.t 13) (.seq (.ops F18o42) F18c43) .skip)
def F18c34 : Ac := (.cond (.t 8) (.seq (.ops F18o36) F18c37) (.seq (.ops F18o39) F18c40))
def F18b16 : Ac := (.cond (.t 4) (.seq (.ops F18o18) F18c19) (.seq (.seq (.ops F18o22) F18c23) F18c34))
def F18c16 : Ac := (.seq (.gh []) (.seq (.keep [3, 4] []) F18b16))
def F18c5 : Ac := (.block 0 (.seq (.seq (.ops F18o8) F18c9) F18c16))
def F18o46 : List Ao := [
  o3 2 .mv [.c (.d (.int .i64 0))]]
def F18c47 : Ac := .ret
def F18c45 : Ac := (.seq (.ops F18o46) F18c47)
def F18c2 : Ac := (.seq (.seq (.ops F18o4) F18c5) F18c45)
def F18c0 : Ac := (.seq (.ops F18o1) F18c2)
/-- hansom/hansomref04.Bytes -/
def F18 : Fn := { np := 1, pb := [], rs := [.t 2], body := F18c0 }
def F20o1 : List Ao := [
  o3 2 .mv [.c (.d (.bool false))]]
def F20o4 : List Ao := [
  o3 3 .mv [.t 0]]
def F20o8 : List Ao := [
  o3 5 (.bin .eql) [.t 3, .c (.d (.int .u8 38))],
  o3 4 .mv [.t 5]]
def F20o12 : List Ao := [
  o3 6 (.bin .eql) [.t 3, .c (.d (.int .u8 46))],
  o3 4 .mv [.t 6]]
def F20o16 : List Ao := [
  o3 7 (.bin .eql) [.t 3, .c (.d (.int .u8 54))],
  o3 4 .mv [.t 7]]
def F20o20 : List Ao := [
  o3 8 (.bin .eql) [.t 3, .c (.d (.int .u8 62))],
  o3 4 .mv [.t 8]]
def F20o24 : List Ao := [
  o3 9 (.bin .eql) [.t 3, .c (.d (.int .u8 240))],
  o3 4 .mv [.t 9]]
def F20o28 : List Ao := [
  o3 10 (.bin .eql) [.t 3, .c (.d (.int .u8 242))],
  o3 4 .mv [.t 10]]
def F20o31 : List Ao := [
  o3 11 (.bin .eql) [.t 3, .c (.d (.int .u8 243))],
  o3 4 .mv [.t 11]]
def F20c29 : Ac := (.cond (.t 4) .skip (.ops F20o31))
def F20c25 : Ac := (.cond (.t 4) .skip (.seq (.ops F20o28) F20c29))
def F20c21 : Ac := (.cond (.t 4) .skip (.seq (.ops F20o24) F20c25))
def F20c17 : Ac := (.cond (.t 4) .skip (.seq (.ops F20o20) F20c21))
def F20c13 : Ac := (.cond (.t 4) .skip (.seq (.ops F20o16) F20c17))
def F20c9 : Ac := (.cond (.t 4) .skip (.seq (.ops F20o12) F20c13))
def F20o34 : List Ao := [
  o3 2 .mv [.c (.d (.bool true))]]
def F20c35 : Ac := .ret
def F20c32 : Ac := (.cond (.t 4) (.seq (.ops F20o34) F20c35) .skip)
def F20c5 : Ac := (.block 0 (.seq (.seq (.ops F20o8) F20c9) F20c32))
def F20o38 : List Ao := [
  o3 2 .mv [.c (.d (.bool false))]]
def F20c39 : Ac := .ret
def F20c37 : Ac := (.seq (.ops F20o38) F20c39)
def F20c2 : Ac := (.seq (.seq (.ops F20o4) F20c5) F20c37)
def F20c0 : Ac := (.seq (.ops F20o1) F20c2)
/-- hansom/isa.Prefix -/
def F20 : Fn := { np := 1, pb := [], rs := [.t 2], body := F20c0 }
def F21o1 : List Ao := [
  o3 4 (.alloc [.d (.int .i64 0), .d (.int .i64 0), .d (.int .i64 0), .d (.bool false)]) [],
  o3 5 .mv [.c (.d (.bool false))]]
def F21o3 : List Ao := [
  o3 8 .mv [.t 0],
  o3 9 .mv [.t 1],
  o3 10 (.callf 48) [.t 8, .t 9],
  o3 6 .mv [.t 10]]
def F21o6 : List Ao := [
  o3 11 .mv [.t 6],
  o3 12 (.bin .eql) [.t 11, .c (.d (.str [45]))],
  o3 13 .mv [.t 12],
  { dst := some 14, k := .mv, xs := [.t 6], g := some (13, false) },
  { dst := some 15, k := (.bin .eql), xs := [.t 14, .c (.d (.str []))], g := some (13, false) },
  o3 16 .pick [.t 13, .c (.d (.bool true)), .t 15]]
def F21o9 : List Ao := [
  o3 17 (.build [.d (.int .i64 0), .d (.int .i64 0), .d (.int .i64 0), .d (.bool false)] []) [],
  { dst := none, k := (.store 4), xs := [.t 4, .t 17] },
  o3 5 .mv [.c (.d (.bool false))]]
def F21c10 : Ac := .ret
def F21c7 : Ac := (.cond (.t 16) (.seq (.ops F21o9) F21c10) .skip)
def F21o13 : List Ao := [
  o3 18 .mv [.t 6],
  o3 19 (.callf 50) [.t 18, .c (.d (.int .u8 58)), .c (.d (.int .i64 0))],
  o3 20 (.callf 49) [.t 19],
  o3 21 .mv [.t 6],
  o3 22 (.callf 50) [.t 21, .c (.d (.int .u8 58)), .c (.d (.int .i64 1))],
  o3 23 (.callf 51) [.c (.d (.str [69, 98, 32, 69, 118, 32, 71, 98, 32, 71, 118, 32, 83, 119, 32, 73, 98, 32, 73, 118, 32, 73, 115, 32, 74, 98, 32, 74, 118, 32, 65, 112, 32, 79, 98, 32, 79, 118, 32, 65, 76, 32, 67, 76, 32, 65, 88, 32, 68, 88, 32, 79, 110, 101, 32, 77, 112, 32, 77, 32, 90, 98, 32, 90, 118, 32, 90, 115, 32, 84, 104, 114, 101, 101, 32])), .t 22],
  o3 24 .mv [.t 6],
  o3 25 (.callf 50) [.t 24, .c (.d (.int .u8 58)), .c (.d (.int .i64 2))],
  o3 26 (.callf 51) [.c (.d (.str [69, 98, 32, 69, 118, 32, 71, 98, 32, 71, 118, 32, 83, 119, 32, 73, 98, 32, 73, 118, 32, 73, 115, 32, 74, 98, 32, 74, 118, 32, 65, 112, 32, 79, 98, 32, 79, 118, 32, 65, 76, 32, 67, 76, 32, 65, 88, 32, 68, 88, 32, 79, 110, 101, 32, 77, 112, 32, 77, 32, 90, 98, 32, 90, 118, 32, 90, 115, 32, 84, 104, 114, 101, 101, 32])), .t 25],
  o3 27 (.build [.d (.int .i64 0), .d (.int .i64 0), .d (.int .i64 0), .d (.bool false)] [(0, 1), (1, 1), (2, 1)]) [.t 20, .t 23, .t 26],
  o3 7 (.alloc [.d (.int .i64 0), .d (.int .i64 0), .d (.int .i64 0), .d (.bool false)]) [],
  { dst := none, k := (.store 4), xs := [.t 7, .t 27] }]
def F21o15 : List Ao := [
  o3 28 (.faddr 1) [.t 7],
  o3 29 (.load none) [.t 28],
  o3 30 (.callf 52) [.t 29],
  o3 31 .mv [.t 30],
  { dst := some 32, k := (.faddr 2), xs := [.t 7], g := some (31, false) },
  { dst := some 33, k := (.load none), xs := [.t 32], g := some (31, false) },
  { dst := some 34, k := (.callf 52), xs := [.t 33], g := some (31, false) },
  o3 35 .pick [.t 31, .c (.d (.bool true)), .t 34],
  o3 36 (.faddr 3) [.t 7],
  { dst := none, k := (.store 1), xs := [.t 36, .t 35] }]
def F21o17 : List Ao := [
  o3 37 (.load (some 4)) [.t 7],
  { dst := none, k := (.store 4), xs := [.t 4, .t 37] },
  o3 5 .mv [.c (.d (.bool true))]]
def F21c18 : Ac := .ret
def F21c16 : Ac := (.seq (.ops F21o17) F21c18)
def F21c14 : Ac := (.seq (.ops F21o15) F21c16)
def F21c12 : Ac := (.seq (.ops F21o13) F21c14)
def F21c4 : Ac := (.seq (.seq (.ops F21o6) F21c7) F21c12)
def F21c2 : Ac := (.seq (.ops F21o3) F21c4)
def F21c0 : Ac := (.seq (.ops F21o1) F21c2)
/-- hansom/hansomref04.Row -/
def F21 : Fn := { np := 2, pb := [], rs := [.c 4 (some 4), .t 5], body := F21c0 }
def F24o1 : List Ao := [
  o3 1 (.box 10) [.t 0],
  o3 2 (.alloc [.d (.bool false), .d (.int .i64 0), .d (.int .i64 0), .d (.int .u8 0), .d (.int .i64 0), .d (.int .i64 0), .d (.int .i64 0), .d (.int .u16 0), .d (.int .u16 0), .d (.int .u16 0)]) []]
def F24o3 : List Ao := [
  o3 7 (.faddr 3) [.t 1],
  o3 8 (.load none) [.t 7],
  o3 9 (.faddr 0) [.t 1],
  o3 10 (.load none) [.t 9],
  o3 11 (.build [.d (.bool false), .d (.int .i64 0), .d (.int .i64 0), .d (.int .u8 0), .d (.int .i64 0), .d (.int .i64 0), .d (.int .i64 0), .d (.int .u16 0), .d (.int .u16 0), .d (.int .u16 0)] [(3, 1), (0, 1)]) [.t 8, .t 10],
  { dst := none, k := (.store 10), xs := [.t 2, .t 11] }]
def F24o5 : List Ao := [
  o3 12 (.faddr 5) [.t 1],
  o3 13 (.load none) [.t 12],
  o3 14 (.bin .and) [.t 13, .c (.d (.int .i64 7))],
  o3 15 (.faddr 5) [.t 2],
  { dst := none, k := (.store 1), xs := [.t 15, .t 14] }]
def F24o7 : List Ao := [
  o3 17 (.load (some 10)) [.t 2],
  o3 18 (.callf 26) [.t 17],
  o3 16 .mv [.t 18],
  o3 19 (.extract 0) [.t 16],
  o3 20 (.extract 1) [.t 16],
  o3 3 (.alloc [.d (.int .i64 0), .d (.int .i64 0), .d (.int .i64 0), .d (.bool false)]) [],
  { dst := none, k := (.store 4), xs := [.t 3, .t 19] },
  o3 4 .mv [.t 20]]
def F24o10 : List Ao := [
  o3 21 .mv [.t 4],
  o3 22 (.un .not) [.t 21]]
def F24o13 : List Ao := [
  o3 23 (.build [.d (.bool false), .d (.int .i64 0), .d (.int .i64 0), .d (.int .u8 0), .d (.int .i64 0), .d (.int .i64 0), .d (.int .i64 0), .d (.int .u16 0), .d (.int .u16 0), .d (.int .u16 0)] [(3, 1)]) [.c (.d (.int .u8 144))],
  { dst := none, k := (.store 10), xs := [.t 2, .t 23] }]
def F24c14 : Ac := .ret
def F24c11 : Ac := (.cond (.t 22) (.seq (.ops F24o13) F24c14) .skip)
def F24o18 : List Ao := [
  o3 24 (.faddr 3) [.t 3],
  o3 25 (.load none) [.t 24],
  o3 26 (.un .not) [.t 25]]
def F24o20 : List Ao := [
  o3 27 (.faddr 5) [.t 2],
  { dst := none, k := (.store 1), xs := [.t 27, .c (.d (.int .i64 0))] }]
def F24o22 : List Ao := [
  o3 28 (.faddr 4) [.t 1],
  o3 29 (.load none) [.t 28],
  o3 30 (.bin .and) [.t 29, .c (.d (.int .i64 3))],
  o3 31 (.faddr 6) [.t 1],
  { dst := some 32, k := (.load none), xs := [.t 31], av := [[2]] },
  o3 33 (.bin .and) [.t 32, .c (.d (.int .i64 7))],
  o3 34 (.faddr 4) [.t 2],
  { dst := none, k := (.store 1), xs := [.t 34, .t 30], al := some [[2]] },
  o3 35 (.faddr 6) [.t 2],
  { dst := none, k := (.store 1), xs := [.t 35, .t 33] }]
def F24o24 : List Ao := [
  o3 36 (.faddr 4) [.t 2],
  o3 37 (.load none) [.t 36],
  o3 38 (.faddr 6) [.t 2],
  o3 39 (.load none) [.t 38],
  o3 40 (.callf 54) [.t 37, .t 39]]
def F24o27 : List Ao := [
  o3 42 (.bin .eql) [.t 40, .c (.d (.int .i64 1))],
  o3 41 .mv [.t 42]]
def F24o29 : List Ao := [
  o3 43 (.faddr 7) [.t 1],
  o3 44 (.load none) [.t 43],
  o3 45 (.bin .rem) [.t 44, .c (.d (.int .u16 256))],
  o3 46 (.toInt .u8) [.t 45],
  o3 47 (.callf 55) [.t 46],
  o3 48 (.faddr 7) [.t 2],
  { dst := none, k := (.store 1), xs := [.t 48, .t 47] }]
def F24o31 : List Ao := [
  o3 50 (.bin .eql) [.t 40, .c (.d (.int .i64 2))],
  o3 49 .mv [.t 50]]
def F24o33 : List Ao := [
  o3 51 (.faddr 7) [.t 1],
  o3 52 (.load none) [.t 51],
  o3 53 (.faddr 7) [.t 2],
  { dst := none, k := (.store 1), xs := [.t 53, .t 52] }]
def F24c32 : Ac := (.cond (.t 49) (.ops F24o33) .skip)
def F24c28 : Ac := (.cond (.t 41) (.ops F24o29) (.seq (.ops F24o31) F24c32))
def F24c25 : Ac := (.block 0 (.seq (.ops F24o27) F24c28))
def F24c23 : Ac := (.seq (.ops F24o24) F24c25)
def F24c19 : Ac := (.cond (.t 26) (.ops F24o20) (.seq (.ops F24o22) F24c23))
def F24o36 : List Ao := [
  o3 54 (.faddr 1) [.t 3],
  o3 55 (.load none) [.t 54],
  o3 5 .mv [.t 55]]
def F24o39 : List Ao := [
  o3 56 .mv [.t 5],
  o3 57 (.callf 18) [.t 56],
  o3 58 (.bin .eql) [.t 57, .c (.d (.int .i64 0))]]
def F24o41 : List Ao := [
  o3 59 (.faddr 2) [.t 3],
  o3 60 (.load none) [.t 59],
  o3 5 .mv [.t 60]]
def F24c40 : Ac := (.cond (.t 58) (.ops F24o41) .skip)
def F24o45 : List Ao := [
  o3 61 .mv [.t 5]]
def F24o48 : List Ao := [
  o3 63 (.bin .eql) [.t 61, .c (.d (.int .i64 6))],
  o3 62 .mv [.t 63]]
def F24o51 : List Ao := [
  o3 64 (.faddr 8) [.t 1],
  o3 65 (.load none) [.t 64],
  o3 66 (.bin .rem) [.t 65, .c (.d (.int .u16 256))],
  o3 67 (.faddr 8) [.t 2],
  { dst := none, k := (.store 1), xs := [.t 67, .t 66] }]
def F24o53 : List Ao := [
  o3 68 (.faddr 0) [.t 3],
  o3 69 (.load none) [.t 68],
  o3 70 (.bin .eql) [.t 69, .c (.d (.int .i64 70))],
  o3 71 .mv [.t 70],
  { dst := some 72, k := (.faddr 0), xs := [.t 3], g := some (71, false) },
  { dst := some 73, k := (.load none), xs := [.t 72], g := some (71, false) },
  { dst := some 74, k := (.bin .eql), xs := [.t 73, .c (.d (.int .i64 71))], g := some (71, false) },
  o3 75 .pick [.t 71, .c (.d (.bool true)), .t 74]]
def F24o55 : List Ao := [
  o3 76 (.faddr 8) [.t 2],
  { dst := none, k := (.store 1), xs := [.t 76, .c (.d (.int .u16 10))] }]
def F24c54 : Ac := (.cond (.t 75) (.ops F24o55) .skip)
def F24c52 : Ac := (.seq (.ops F24o53) F24c54)
def F24o59 : List Ao := [
  o3 78 (.bin .eql) [.t 61, .c (.d (.int .i64 8))],
  o3 77 .mv [.t 78]]
def F24o62 : List Ao := [
  o3 79 (.bin .eql) [.t 61, .c (.d (.int .i64 9))],
  o3 77 .mv [.t 79]]
def F24c60 : Ac := (.cond (.t 77) .skip (.ops F24o62))
def F24o64 : List Ao := [
  o3 80 (.faddr 8) [.t 1],
  o3 81 (.load none) [.t 80],
  o3 82 (.bin .rem) [.t 81, .c (.d (.int .u16 256))],
  o3 83 (.toInt .u8) [.t 82],
  o3 84 (.callf 55) [.t 83],
  o3 85 (.faddr 8) [.t 2],
  { dst := none, k := (.store 1), xs := [.t 85, .t 84] }]
def F24o67 : List Ao := [
  o3 87 (.bin .eql) [.t 61, .c (.d (.int .i64 7))],
  o3 86 .mv [.t 87]]
def F24o71 : List Ao := [
  o3 88 (.bin .eql) [.t 61, .c (.d (.int .i64 10))],
  o3 86 .mv [.t 88]]
def F24o75 : List Ao := [
  o3 89 (.bin .eql) [.t 61, .c (.d (.int .i64 12))],
  o3 86 .mv [.t 89]]
def F24o78 : List Ao := [
  o3 90 (.bin .eql) [.t 61, .c (.d (.int .i64 13))],
  o3 86 .mv [.t 90]]
def F24c76 : Ac := (.cond (.t 86) .skip (.ops F24o78))
def F24c72 : Ac := (.cond (.t 86) .skip (.seq (.ops F24o75) F24c76))
def F24c68 : Ac := (.cond (.t 86) .skip (.seq (.ops F24o71) F24c72))
def F24o80 : List Ao := [
  o3 91 (.faddr 8) [.t 1],
  o3 92 (.load none) [.t 91],
  o3 93 (.faddr 8) [.t 2],
  { dst := none, k := (.store 1), xs := [.t 93, .t 92] }]
def F24o82 : List Ao := [
  o3 95 (.bin .eql) [.t 61, .c (.d (.int .i64 11))],
  o3 94 .mv [.t 95]]
def F24o84 : List Ao := [
  o3 96 (.faddr 8) [.t 1],
  o3 97 (.load none) [.t 96],
  o3 98 (.faddr 9) [.t 1],
  { dst := some 99, k := (.load none), xs := [.t 98], av := [[2]] },
  o3 100 (.faddr 8) [.t 2],
  { dst := none, k := (.store 1), xs := [.t 100, .t 97], al := some [[2]] },
  o3 101 (.faddr 9) [.t 2],
  { dst := none, k := (.store 1), xs := [.t 101, .t 99] }]
def F24c83 : Ac := (.cond (.t 94) (.ops F24o84) .skip)
def F24b79 : Ac := (.cond (.t 86) (.ops F24o80) (.seq (.ops F24o82) F24c83))
def F24c79 : Ac := (.seq (.gh []) (.seq (.keep [1, 2, 3, 61, 86] [[1], [2], [3]]) F24b79))
def F24b63 : Ac := (.cond (.t 77) (.ops F24o64) (.seq (.seq (.ops F24o67) F24c68) F24c79))
def F24c63 : Ac := (.seq (.gh []) (.seq (.keep [1, 2, 3, 61, 77] [[1], [2], [3]]) F24b63))
def F24c49 : Ac := (.cond (.t 62) (.seq (.ops F24o51) F24c52) (.seq (.seq (.ops F24o59) F24c60) F24c63))
def F24c46 : Ac := (.block 1 (.seq (.ops F24o48) F24c49))
def F24o88 : List Ao := [
  o3 102 (.faddr 0) [.t 3],
  o3 103 (.load none) [.t 102],
  o3 104 (.callf 16) [.t 103],
  o3 6 .mv [.t 104]]
def F24o90 : List Ao := [
  o3 105 .mv [.t 6],
  o3 106 (.bin .gtr) [.t 105, .c (.d (.int .i64 0))],
  o3 107 .mv [.t 106],
  { dst := some 108, k := (.faddr 1), xs := [.t 1], g := some (107, true) },
  { dst := some 109, k := (.load none), xs := [.t 108], g := some (107, true) },
  { dst := some 110, k := (.bin .and), xs := [.t 109, .c (.d (.int .i64 3))], g := some (107, true) },
  { dst := some 111, k := (.bin .gtr), xs := [.t 110, .c (.d (.int .i64 0))], g := some (107, true) },
  o3 112 .pick [.t 107, .t 111, .c (.d (.bool false))]]
def F24o93 : List Ao := [
  o3 113 (.faddr 1) [.t 2],
  { dst := none, k := (.store 1), xs := [.t 113, .c (.d (.int .i64 2))] }]
def F24o95 : List Ao := [
  o3 114 .mv [.t 6],
  o3 115 (.bin .eql) [.t 114, .c (.d (.int .i64 2))],
  o3 116 .mv [.t 115],
  { dst := some 117, k := (.faddr 1), xs := [.t 1], g := some (116, true) },
  { dst := some 118, k := (.load none), xs := [.t 117], g := some (116, true) },
  { dst := some 119, k := (.bin .and), xs := [.t 118, .c (.d (.int .i64 1))], g := some (116, true) },
  { dst := some 120, k := (.bin .eql), xs := [.t 119, .c (.d (.int .i64 1))], g := some (116, true) },
  o3 121 .pick [.t 116, .t 120, .c (.d (.bool false))]]
def F24o97 : List Ao := [
  o3 122 (.faddr 1) [.t 2],
  { dst := none, k := (.store 1), xs := [.t 122, .c (.d (.int .i64 1))] }]
def F24c96 : Ac := (.cond (.t 121) (.ops F24o97) .skip)
def F24c94 : Ac := (.seq (.ops F24o95) F24c96)
def F24c91 : Ac := (.cond (.t 112) (.seq (.ops F24o93) F24c94) .skip)
def F24c89 : Ac := (.seq (.ops F24o90) F24c91)
def F24o102 : List Ao := [
  o3 123 (.faddr 2) [.t 1],
  o3 124 (.load none) [.t 123],
  o3 125 (.bin .and) [.t 124, .c (.d (.int .i64 7))],
  o3 126 (.bin .leq) [.t 125, .c (.d (.int .i64 4))]]
def F24o104 : List Ao := [
  o3 127 (.faddr 2) [.t 1],
  o3 128 (.load none) [.t 127],
  o3 129 (.bin .and) [.t 128, .c (.d (.int .i64 7))],
  o3 130 (.faddr 2) [.t 2],
  { dst := none, k := (.store 1), xs := [.t 130, .t 129] }]
def F24c103 : Ac := (.cond (.t 126) (.ops F24o104) .skip)
def F24o108 : List Ao := [
  o3 131 (.load (some 10)) [.t 2],
  o3 132 (.callf 25) [.t 131],
  o3 133 (.un .not) [.t 132]]
def F24o111 : List Ao := [
  o3 134 (.build [.d (.bool false), .d (.int .i64 0), .d (.int .i64 0), .d (.int .u8 0), .d (.int .i64 0), .d (.int .i64 0), .d (.int .i64 0), .d (.int .u16 0), .d (.int .u16 0), .d (.int .u16 0)] [(3, 1)]) [.c (.d (.int .u8 144))],
  { dst := none, k := (.store 10), xs := [.t 2, .t 134] }]
def F24c112 : Ac := .ret
def F24c109 : Ac := (.cond (.t 133) (.seq (.ops F24o111) F24c112) .skip)
def F24o115 : List Ao := [
  o3 135 (.load (some 10)) [.t 2],
  { dst := none, k := (.store 10), xs := [.t 2, .t 135] }]
def F24c116 : Ac := .ret
def F24c114 : Ac := (.seq (.ops F24o115) F24c116)
def F24c106 : Ac := (.seq (.seq (.ops F24o108) F24c109) F24c114)
def F24b100 : Ac := (.seq (.seq (.ops F24o102) F24c103) F24c106)
def F24c100 : Ac := (.seq (.gh []) (.seq (.keep [1, 2] [[1], [2]]) F24b100))
def F24b86 : Ac := (.seq (.seq (.ops F24o88) F24c89) F24c100)
def F24c86 : Ac := (.seq (.gh []) (.seq (.keep [1, 2, 3] [[1], [2], [3]]) F24b86))
def F24b43 : Ac := (.seq (.seq (.ops F24o45) F24c46) F24c86)
def F24c43 : Ac := (.seq (.gh []) (.seq (.keep [1, 2, 3, 5] [[1], [2], [3]]) F24b43))
def F24c37 : Ac := (.seq (.seq (.ops F24o39) F24c40) F24c43)
def F24b35 : Ac := (.seq (.ops F24o36) F24c37)
def F24c35 : Ac := (.seq (.gh []) (.seq (.keep [1, 2, 3] [[1], [2], [3]]) F24b35))
def F24c16 : Ac := (.seq (.seq (.ops F24o18) F24c19) F24c35)
def F24c8 : Ac := (.seq (.seq (.ops F24o10) F24c11) F24c16)
def F24c6 : Ac := (.seq (.ops F24o7) F24c8)
def F24c4 : Ac := (.seq (.ops F24o5) F24c6)
def F24c2 : Ac := (.seq (.ops F24o3) F24c4)
def F24c0 : Ac := (.seq (.ops F24o1) F24c2)
/-- hansom/hansomref05.Near -/
def F24 : Fn := { np := 1, pb := [], rs := [.c 2 (some 10)], body := F24c0 }
def F25o1 : List Ao := [
  o3 1 (.box 10) [.t 0],
  o3 2 .mv [.c (.d (.bool false))]]
def F25o3 : List Ao := [
  o3 9 (.load (some 10)) [.t 1],
  o3 10 (.callf 26) [.t 9],
  o3 8 .mv [.t 10],
  o3 11 (.extract 0) [.t 8],
  o3 12 (.extract 1) [.t 8],
  o3 3 (.alloc [.d (.int .i64 0), .d (.int .i64 0), .d (.int .i64 0), .d (.bool false)]) [],
  { dst := none, k := (.store 4), xs := [.t 3, .t 11] },
  o3 4 .mv [.t 12]]
def F25o6 : List Ao := [
  o3 13 .mv [.t 4],
  o3 14 (.un .not) [.t 13],
  o3 15 .mv [.t 14],
  { dst := some 16, k := (.faddr 2), xs := [.t 1], g := some (15, false) },
  { dst := some 17, k := (.load none), xs := [.t 16], g := some (15, false) },
  { dst := some 18, k := (.bin .lss), xs := [.t 17, .c (.d (.int .i64 0))], g := some (15, false) },
  o3 19 .pick [.t 15, .c (.d (.bool true)), .t 18],
  o3 20 .mv [.t 19],
  { dst := some 21, k := (.faddr 2), xs := [.t 1], g := some (20, false) },
  { dst := some 22, k := (.load none), xs := [.t 21], g := some (20, false) },
  { dst := some 23, k := (.bin .gtr), xs := [.t 22, .c (.d (.int .i64 4))], g := some (20, false) },
  o3 24 .pick [.t 20, .c (.d (.bool true)), .t 23]]
def F25o9 : List Ao := [
  o3 2 .mv [.c (.d (.bool false))]]
def F25c10 : Ac := .ret
def F25c7 : Ac := (.cond (.t 24) (.seq (.ops F25o9) F25c10) .skip)
def F25o13 : List Ao := [
  o3 25 (.faddr 0) [.t 3],
  o3 26 (.load none) [.t 25],
  o3 27 (.callf 16) [.t 26],
  o3 5 .mv [.t 27]]
def F25o16 : List Ao := [
  o3 28 (.faddr 1) [.t 1],
  o3 29 (.load none) [.t 28],
  o3 30 (.bin .lss) [.t 29, .c (.d (.int .i64 0))],
  o3 31 .mv [.t 30],
  { dst := some 32, k := (.faddr 1), xs := [.t 1], g := some (31, false) },
  { dst := some 33, k := (.load none), xs := [.t 32], g := some (31, false) },
  { dst := some 34, k := (.bin .gtr), xs := [.t 33, .c (.d (.int .i64 2))], g := some (31, false) },
  o3 35 .pick [.t 31, .c (.d (.bool true)), .t 34],
  o3 36 .mv [.t 35],
  { dst := some 37, k := (.faddr 1), xs := [.t 1], g := some (36, false) },
  { dst := some 38, k := (.load none), xs := [.t 37], g := some (36, false) },
  { dst := some 39, k := (.bin .eql), xs := [.t 38, .c (.d (.int .i64 1))], g := some (36, false) },
  { dst := some 40, k := .mv, xs := [.t 39], g := some (36, false) },
  { dst := some 41, k := .mv, xs := [.t 5], g := some (40, true) },
  { dst := some 42, k := (.bin .lss), xs := [.t 41, .c (.d (.int .i64 2))], g := some (40, true) },
  { dst := some 43, k := .pick, xs := [.t 40, .t 42, .c (.d (.bool false))], g := some (36, false) },
  o3 44 .pick [.t 36, .c (.d (.bool true)), .t 43],
  o3 45 .mv [.t 44],
  { dst := some 46, k := (.faddr 1), xs := [.t 1], g := some (45, false) },
  { dst := some 47, k := (.load none), xs := [.t 46], g := some (45, false) },
  { dst := some 48, k := (.bin .eql), xs := [.t 47, .c (.d (.int .i64 2))], g := some (45, false) },
  { dst := some 49, k := .mv, xs := [.t 48], g := some (45, false) },
  { dst := some 50, k := .mv, xs := [.t 5], g := some (49, true) },
  { dst := some 51, k := (.bin .lss), xs := [.t 50, .c (.d (.int .i64 1))], g := some (49, true) },
  { dst := some 52, k := .pick, xs := [.t 49, .t 51, .c (.d (.bool false))], g := some (45, false) },
  o3 53 .pick [.t 45, .c (.d (.bool true)), .t 52]]
def F25o19 : List Ao := [
  o3 2 .mv [.c (.d (.bool false))]]
def F25c20 : Ac := .ret
def F25c17 : Ac := (.cond (.t 53) (.seq (.ops F25o19) F25c20) .skip)
def F25o24 : List Ao := [
  o3 54 (.faddr 3) [.t 3],
  o3 55 (.load none) [.t 54],
  o3 56 (.un .not) [.t 55]]
def F25o27 : List Ao := [
  o3 57 (.faddr 4) [.t 1],
  o3 58 (.load none) [.t 57],
  o3 59 (.bin .neq) [.t 58, .c (.d (.int .i64 0))],
  o3 60 .mv [.t 59],
  { dst := some 61, k := (.faddr 5), xs := [.t 1], g := some (60, false) },
  { dst := some 62, k := (.load none), xs := [.t 61], g := some (60, false) },
  { dst := some 63, k := (.bin .neq), xs := [.t 62, .c (.d (.int .i64 0))], g := some (60, false) },
  o3 64 .pick [.t 60, .c (.d (.bool true)), .t 63],
  o3 65 .mv [.t 64],
  { dst := some 66, k := (.faddr 6), xs := [.t 1], g := some (65, false) },
  { dst := some 67, k := (.load none), xs := [.t 66], g := some (65, false) },
  { dst := some 68, k := (.bin .neq), xs := [.t 67, .c (.d (.int .i64 0))], g := some (65, false) },
  o3 69 .pick [.t 65, .c (.d (.bool true)), .t 68],
  o3 70 .mv [.t 69],
  { dst := some 71, k := (.faddr 7), xs := [.t 1], g := some (70, false) },
  { dst := some 72, k := (.load none), xs := [.t 71], g := some (70, false) },
  { dst := some 73, k := (.bin .neq), xs := [.t 72, .c (.d (.int .u16 0))], g := some (70, false) },
  o3 74 .pick [.t 70, .c (.d (.bool true)), .t 73]]
def F25o30 : List Ao := [
  o3 2 .mv [.c (.d (.bool false))]]
def F25c31 : Ac := .ret
def F25c28 : Ac := (.cond (.t 74) (.seq (.ops F25o30) F25c31) .skip)
def F25o35 : List Ao := [
  o3 75 (.faddr 4) [.t 1],
  o3 76 (.load none) [.t 75],
  o3 77 (.bin .lss) [.t 76, .c (.d (.int .i64 0))],
  o3 78 .mv [.t 77],
  { dst := some 79, k := (.faddr 4), xs := [.t 1], g := some (78, false) },
  { dst := some 80, k := (.load none), xs := [.t 79], g := some (78, false) },
  { dst := some 81, k := (.bin .gtr), xs := [.t 80, .c (.d (.int .i64 3))], g := some (78, false) },
  o3 82 .pick [.t 78, .c (.d (.bool true)), .t 81],
  o3 83 .mv [.t 82],
  { dst := some 84, k := (.faddr 5), xs := [.t 1], g := some (83, false) },
  { dst := some 85, k := (.load none), xs := [.t 84], g := some (83, false) },
  { dst := some 86, k := (.bin .lss), xs := [.t 85, .c (.d (.int .i64 0))], g := some (83, false) },
  o3 87 .pick [.t 83, .c (.d (.bool true)), .t 86],
  o3 88 .mv [.t 87],
  { dst := some 89, k := (.faddr 5), xs := [.t 1], g := some (88, false) },
  { dst := some 90, k := (.load none), xs := [.t 89], g := some (88, false) },
  { dst := some 91, k := (.bin .gtr), xs := [.t 90, .c (.d (.int .i64 7))], g := some (88, false) },
  o3 92 .pick [.t 88, .c (.d (.bool true)), .t 91],
  o3 93 .mv [.t 92],
  { dst := some 94, k := (.faddr 6), xs := [.t 1], g := some (93, false) },
  { dst := some 95, k := (.load none), xs := [.t 94], g := some (93, false) },
  { dst := some 96, k := (.bin .lss), xs := [.t 95, .c (.d (.int .i64 0))], g := some (93, false) },
  o3 97 .pick [.t 93, .c (.d (.bool true)), .t 96],
  o3 98 .mv [.t 97],
  { dst := some 99, k := (.faddr 6), xs := [.t 1], g := some (98, false) },
  { dst := some 100, k := (.load none), xs := [.t 99], g := some (98, false) },
  { dst := some 101, k := (.bin .gtr), xs := [.t 100, .c (.d (.int .i64 7))], g := some (98, false) },
  o3 102 .pick [.t 98, .c (.d (.bool true)), .t 101]]
def F25o38 : List Ao := [
  o3 2 .mv [.c (.d (.bool false))]]
def F25c39 : Ac := .ret
def F25c36 : Ac := (.cond (.t 102) (.seq (.ops F25o38) F25c39) .skip)
def F25o43 : List Ao := [
  o3 103 (.faddr 4) [.t 1],
  o3 104 (.load none) [.t 103],
  o3 105 (.bin .eql) [.t 104, .c (.d (.int .i64 3))],
  o3 106 .mv [.t 105],
  { dst := some 107, k := (.faddr 1), xs := [.t 3], g := some (106, true) },
  { dst := some 108, k := (.load none), xs := [.t 107], g := some (106, true) },
  { dst := some 109, k := (.bin .eql), xs := [.t 108, .c (.d (.int .i64 19))], g := some (106, true) },
  { dst := some 110, k := .mv, xs := [.t 109], g := some (106, true) },
  { dst := some 111, k := (.faddr 1), xs := [.t 3], g := some (110, false) },
  { dst := some 112, k := (.load none), xs := [.t 111], g := some (110, false) },
  { dst := some 113, k := (.bin .eql), xs := [.t 112, .c (.d (.int .i64 20))], g := some (110, false) },
  { dst := some 114, k := .pick, xs := [.t 110, .c (.d (.bool true)), .t 113], g := some (106, true) },
  { dst := some 115, k := .mv, xs := [.t 114], g := some (106, true) },
  { dst := some 116, k := (.faddr 2), xs := [.t 3], g := some (115, false) },
  { dst := some 117, k := (.load none), xs := [.t 116], g := some (115, false) },
  { dst := some 118, k := (.bin .eql), xs := [.t 117, .c (.d (.int .i64 19))], g := some (115, false) },
  { dst := some 119, k := .pick, xs := [.t 115, .c (.d (.bool true)), .t 118], g := some (106, true) },
  { dst := some 120, k := .mv, xs := [.t 119], g := some (106, true) },
  { dst := some 121, k := (.faddr 2), xs := [.t 3], g := some (120, false) },
  { dst := some 122, k := (.load none), xs := [.t 121], g := some (120, false) },
  { dst := some 123, k := (.bin .eql), xs := [.t 122, .c (.d (.int .i64 20))], g := some (120, false) },
  { dst := some 124, k := .pick, xs := [.t 120, .c (.d (.bool true)), .t 123], g := some (106, true) },
  o3 125 .pick [.t 106, .t 124, .c (.d (.bool false))]]
def F25o46 : List Ao := [
  o3 2 .mv [.c (.d (.bool false))]]
def F25c47 : Ac := .ret
def F25c44 : Ac := (.cond (.t 125) (.seq (.ops F25o46) F25c47) .skip)
def F25o50 : List Ao := [
  o3 126 (.faddr 4) [.t 1],
  o3 127 (.load none) [.t 126],
  o3 128 (.faddr 6) [.t 1],
  o3 129 (.load none) [.t 128],
  o3 130 (.callf 54) [.t 127, .t 129],
  o3 6 .mv [.t 130]]
def F25o52 : List Ao := [
  o3 131 .mv [.t 6],
  o3 132 (.bin .eql) [.t 131, .c (.d (.int .i64 0))],
  o3 133 .mv [.t 132],
  { dst := some 134, k := (.faddr 7), xs := [.t 1], g := some (133, true) },
  { dst := some 135, k := (.load none), xs := [.t 134], g := some (133, true) },
  { dst := some 136, k := (.bin .neq), xs := [.t 135, .c (.d (.int .u16 0))], g := some (133, true) },
  o3 137 .pick [.t 133, .t 136, .c (.d (.bool false))],
  o3 138 .mv [.t 137],
  { dst := some 139, k := .mv, xs := [.t 6], g := some (138, false) },
  { dst := some 140, k := (.bin .eql), xs := [.t 139, .c (.d (.int .i64 1))], g := some (138, false) },
  { dst := some 141, k := .mv, xs := [.t 140], g := some (138, false) },
  { dst := some 142, k := (.faddr 7), xs := [.t 1], g := some (141, true) },
  { dst := some 143, k := (.load none), xs := [.t 142], g := some (141, true) },
  { dst := some 144, k := (.callf 56), xs := [.t 143], g := some (141, true) },
  { dst := some 145, k := (.un .not), xs := [.t 144], g := some (141, true) },
  { dst := some 146, k := .pick, xs := [.t 141, .t 145, .c (.d (.bool false))], g := some (138, false) },
  o3 147 .pick [.t 138, .c (.d (.bool true)), .t 146]]
def F25o55 : List Ao := [
  o3 2 .mv [.c (.d (.bool false))]]
def F25c56 : Ac := .ret
def F25c53 : Ac := (.cond (.t 147) (.seq (.ops F25o55) F25c56) .skip)
def F25c51 : Ac := (.seq (.ops F25o52) F25c53)
def F25b49 : Ac := (.seq (.ops F25o50) F25c51)
def F25c49 : Ac := (.seq (.gh []) (.seq (.keep [1, 3] [[1], [3]]) F25b49))
def F25c41 : Ac := (.seq (.seq (.ops F25o43) F25c44) F25c49)
def F25c25 : Ac := (.cond (.t 56) (.seq (.ops F25o27) F25c28) (.seq (.seq (.ops F25o35) F25c36) F25c41))
def F25o59 : List Ao := [
  o3 148 (.faddr 1) [.t 3],
  o3 149 (.load none) [.t 148],
  o3 7 .mv [.t 149]]
def F25o62 : List Ao := [
  o3 150 .mv [.t 7],
  o3 151 (.callf 18) [.t 150],
  o3 152 (.bin .eql) [.t 151, .c (.d (.int .i64 0))]]
def F25o64 : List Ao := [
  o3 153 (.faddr 2) [.t 3],
  o3 154 (.load none) [.t 153],
  o3 7 .mv [.t 154]]
def F25c63 : Ac := (.cond (.t 152) (.ops F25o64) .skip)
def F25o68 : List Ao := [
  o3 155 .mv [.t 7]]
def F25o71 : List Ao := [
  o3 157 (.bin .eql) [.t 155, .c (.d (.int .i64 6))],
  o3 156 .mv [.t 157]]
def F25o74 : List Ao := [
  o3 158 (.faddr 8) [.t 1],
  o3 159 (.load none) [.t 158],
  o3 160 (.bin .lss) [.t 159, .c (.d (.int .u16 256))],
  o3 161 .mv [.t 160],
  { dst := some 162, k := (.faddr 9), xs := [.t 1], g := some (161, true) },
  { dst := some 163, k := (.load none), xs := [.t 162], g := some (161, true) },
  { dst := some 164, k := (.bin .eql), xs := [.t 163, .c (.d (.int .u16 0))], g := some (161, true) },
  o3 165 .pick [.t 161, .t 164, .c (.d (.bool false))],
  o3 166 .mv [.t 165],
  { dst := some 167, k := (.faddr 0), xs := [.t 3], g := some (166, true) },
  { dst := some 168, k := (.load none), xs := [.t 167], g := some (166, true) },
  { dst := some 169, k := (.bin .neq), xs := [.t 168, .c (.d (.int .i64 70))], g := some (166, true) },
  { dst := some 170, k := .mv, xs := [.t 169], g := some (166, true) },
  { dst := some 171, k := (.faddr 0), xs := [.t 3], g := some (170, true) },
  { dst := some 172, k := (.load none), xs := [.t 171], g := some (170, true) },
  { dst := some 173, k := (.bin .neq), xs := [.t 172, .c (.d (.int .i64 71))], g := some (170, true) },
  { dst := some 174, k := .pick, xs := [.t 170, .t 173, .c (.d (.bool false))], g := some (166, true) },
  { dst := some 175, k := .mv, xs := [.t 174], g := some (166, true) },
  { dst := some 176, k := (.faddr 8), xs := [.t 1], g := some (175, false) },
  { dst := some 177, k := (.load none), xs := [.t 176], g := some (175, false) },
  { dst := some 178, k := (.bin .eql), xs := [.t 177, .c (.d (.int .u16 10))], g := some (175, false) },
  { dst := some 179, k := .pick, xs := [.t 175, .c (.d (.bool true)), .t 178], g := some (166, true) },
  o3 180 .pick [.t 166, .t 179, .c (.d (.bool false))],
  o3 2 .mv [.t 180]]
def F25c75 : Ac := .ret
def F25o78 : List Ao := [
  o3 182 (.bin .eql) [.t 155, .c (.d (.int .i64 8))],
  o3 181 .mv [.t 182]]
def F25o81 : List Ao := [
  o3 183 (.bin .eql) [.t 155, .c (.d (.int .i64 9))],
  o3 181 .mv [.t 183]]
def F25c79 : Ac := (.cond (.t 181) .skip (.ops F25o81))
def F25o84 : List Ao := [
  o3 184 (.faddr 8) [.t 1],
  o3 185 (.load none) [.t 184],
  o3 186 (.callf 56) [.t 185],
  o3 187 .mv [.t 186],
  { dst := some 188, k := (.faddr 9), xs := [.t 1], g := some (187, true) },
  { dst := some 189, k := (.load none), xs := [.t 188], g := some (187, true) },
  { dst := some 190, k := (.bin .eql), xs := [.t 189, .c (.d (.int .u16 0))], g := some (187, true) },
  o3 191 .pick [.t 187, .t 190, .c (.d (.bool false))],
  o3 2 .mv [.t 191]]
def F25c85 : Ac := .ret
def F25o88 : List Ao := [
  o3 193 (.bin .eql) [.t 155, .c (.d (.int .i64 7))],
  o3 192 .mv [.t 193]]
def F25o92 : List Ao := [
  o3 194 (.bin .eql) [.t 155, .c (.d (.int .i64 10))],
  o3 192 .mv [.t 194]]
def F25o96 : List Ao := [
  o3 195 (.bin .eql) [.t 155, .c (.d (.int .i64 12))],
  o3 192 .mv [.t 195]]
def F25o99 : List Ao := [
  o3 196 (.bin .eql) [.t 155, .c (.d (.int .i64 13))],
  o3 192 .mv [.t 196]]
def F25c97 : Ac := (.cond (.t 192) .skip (.ops F25o99))
def F25c93 : Ac := (.cond (.t 192) .skip (.seq (.ops F25o96) F25c97))
def F25c89 : Ac := (.cond (.t 192) .skip (.seq (.ops F25o92) F25c93))
def F25o102 : List Ao := [
  o3 197 (.faddr 9) [.t 1],
  o3 198 (.load none) [.t 197],
  o3 199 (.bin .eql) [.t 198, .c (.d (.int .u16 0))],
  o3 2 .mv [.t 199]]
def F25c103 : Ac := .ret
def F25o105 : List Ao := [
  o3 201 (.bin .eql) [.t 155, .c (.d (.int .i64 11))],
  o3 200 .mv [.t 201]]
def F25o108 : List Ao := [
  o3 2 .mv [.c (.d (.bool true))]]
def F25c109 : Ac := .ret
def F25c106 : Ac := (.cond (.t 200) (.seq (.ops F25o108) F25c109) .skip)
def F25c100 : Ac := (.cond (.t 192) (.seq (.ops F25o102) F25c103) (.seq (.ops F25o105) F25c106))
def F25b82 : Ac := (.cond (.t 181) (.seq (.ops F25o84) F25c85) (.seq (.seq (.ops F25o88) F25c89) F25c100))
def F25c82 : Ac := (.seq (.gh []) (.seq (.keep [1, 155, 181] [[1]]) F25b82))
def F25c72 : Ac := (.cond (.t 156) (.seq (.ops F25o74) F25c75) (.seq (.seq (.ops F25o78) F25c79) F25c82))
def F25c69 : Ac := (.block 0 (.seq (.ops F25o71) F25c72))
def F25o112 : List Ao := [
  o3 202 (.faddr 8) [.t 1],
  o3 203 (.load none) [.t 202],
  o3 204 (.bin .eql) [.t 203, .c (.d (.int .u16 0))],
  o3 205 .mv [.t 204],
  { dst := some 206, k := (.faddr 9), xs := [.t 1], g := some (205, true) },
  { dst := some 207, k := (.load none), xs := [.t 206], g := some (205, true) },
  { dst := some 208, k := (.bin .eql), xs := [.t 207, .c (.d (.int .u16 0))], g := some (205, true) },
  o3 209 .pick [.t 205, .t 208, .c (.d (.bool false))],
  o3 2 .mv [.t 209]]
def F25c113 : Ac := .ret
def F25c111 : Ac := (.seq (.ops F25o112) F25c113)
def F25b66 : Ac := (.seq (.seq (.ops F25o68) F25c69) F25c111)
def F25c66 : Ac := (.seq (.gh []) (.seq (.keep [1, 3, 7] [[1], [3]]) F25b66))
def F25c60 : Ac := (.seq (.seq (.ops F25o62) F25c63) F25c66)
def F25b58 : Ac := (.seq (.ops F25o59) F25c60)
def F25c58 : Ac := (.seq (.gh []) (.seq (.keep [1, 3] [[1], [3]]) F25b58))
def F25b22 : Ac := (.seq (.seq (.ops F25o24) F25c25) F25c58)
def F25c22 : Ac := (.seq (.gh []) (.seq (.keep [1, 3] [[1], [3]]) F25b22))
def F25c14 : Ac := (.seq (.seq (.ops F25o16) F25c17) F25c22)
def F25c12 : Ac := (.seq (.ops F25o13) F25c14)
def F25c4 : Ac := (.seq (.seq (.ops F25o6) F25c7) F25c12)
def F25c2 : Ac := (.seq (.ops F25o3) F25c4)
def F25c0 : Ac := (.seq (.ops F25o1) F25c2)
/-- hansom/hansomref05.May -/
def F25 : Fn := { np := 1, pb := [], rs := [.t 2], body := F25c0 }
def F26o1 : List Ao := [
  o3 1 (.box 10) [.t 0],
  o3 2 (.alloc [.d (.int .i64 0), .d (.int .i64 0), .d (.int .i64 0), .d (.bool false)]) [],
  o3 3 .mv [.c (.d (.bool false))]]
def F26o4 : List Ao := [
  o3 4 (.faddr 3) [.t 1],
  o3 5 (.load none) [.t 4],
  o3 6 (.callf 57) [.t 5]]
def F26o7 : List Ao := [
  o3 7 (.build [.d (.int .i64 0), .d (.int .i64 0), .d (.int .i64 0), .d (.bool false)] []) [],
  { dst := none, k := (.store 4), xs := [.t 2, .t 7] },
  o3 3 .mv [.c (.d (.bool false))]]
def F26c8 : Ac := .ret
def F26c5 : Ac := (.cond (.t 6) (.seq (.ops F26o7) F26c8) .skip)
def F26o11 : List Ao := [
  o3 8 (.faddr 3) [.t 1],
  o3 9 (.load none) [.t 8],
  o3 10 (.faddr 5) [.t 1],
  o3 11 (.load none) [.t 10],
  o3 12 (.callf 21) [.t 9, .t 11],
  o3 13 (.extract 0) [.t 12],
  o3 14 (.extract 1) [.t 12],
  { dst := none, k := (.store 4), xs := [.t 2, .t 13] },
  o3 3 .mv [.t 14]]
def F26c12 : Ac := .ret
def F26c10 : Ac := (.seq (.ops F26o11) F26c12)
def F26c2 : Ac := (.seq (.seq (.ops F26o4) F26c5) F26c10)
def F26c0 : Ac := (.seq (.ops F26o1) F26c2)
/-- hansom/hansomref05.Row -/
def F26 : Fn := { np := 1, pb := [], rs := [.c 2 (some 4), .t 3], body := F26c0 }
def F27o1 : List Ao := [
  o3 1 (.box 10) [.t 0],
  o3 2 .mv [.c (.nils)]]
def F27o3 : List Ao := [
  o3 8 (.load (some 10)) [.t 1],
  o3 9 (.callf 26) [.t 8],
  o3 7 .mv [.t 9],
  o3 10 (.extract 0) [.t 7],
  o3 11 (.extract 1) [.t 7],
  o3 3 (.alloc [.d (.int .i64 0), .d (.int .i64 0), .d (.int .i64 0), .d (.bool false)]) [],
  { dst := none, k := (.store 4), xs := [.t 3, .t 10] },
  o3 4 .mv [.t 11]]
def F27o5 : List Ao := [
  o3 12 (.bslice (.int .u8 0) 0 []) [],
  o3 5 .mv [.t 12]]
def F27o8 : List Ao := [
  o3 13 (.faddr 0) [.t 1],
  o3 14 (.load none) [.t 13]]
def F27o10 : List Ao := [
  o3 15 .mv [.t 5],
  o3 16 (.bslice (.int .u8 0) 1 [0]) [.c (.d (.int .u8 240))],
  o3 17 (.append 1 1 false) [.t 15, .t 16],
  o3 5 .mv [.t 17]]
def F27c9 : Ac := (.cond (.t 14) (.ops F27o10) .skip)
def F27o14 : List Ao := [
  o3 18 (.faddr 1) [.t 1],
  o3 19 (.load none) [.t 18],
  o3 20 (.bin .gtr) [.t 19, .c (.d (.int .i64 0))]]
def F27o16 : List Ao := [
  o3 21 .mv [.t 5],
  o3 22 (.faddr 1) [.t 1],
  o3 23 (.load none) [.t 22],
  o3 24 (.bin .add) [.c (.d (.int .i64 241)), .t 23],
  o3 25 (.toInt .u8) [.t 24],
  o3 26 (.bslice (.int .u8 0) 1 [0]) [.t 25],
  o3 27 (.append 1 1 false) [.t 21, .t 26],
  o3 5 .mv [.t 27]]
def F27c15 : Ac := (.cond (.t 20) (.ops F27o16) .skip)
def F27o20 : List Ao := [
  o3 28 (.faddr 2) [.t 1],
  o3 29 (.load none) [.t 28],
  o3 30 (.bin .gtr) [.t 29, .c (.d (.int .i64 0))]]
def F27o22 : List Ao := [
  o3 31 .mv [.t 5],
  o3 32 (.faddr 2) [.t 1],
  o3 33 (.load none) [.t 32],
  o3 34 (.bin .mul) [.c (.d (.int .i64 8)), .t 33],
  o3 35 (.bin .add) [.c (.d (.int .i64 30)), .t 34],
  o3 36 (.toInt .u8) [.t 35],
  o3 37 (.bslice (.int .u8 0) 1 [0]) [.t 36],
  o3 38 (.append 1 1 false) [.t 31, .t 37],
  o3 5 .mv [.t 38]]
def F27c21 : Ac := (.cond (.t 30) (.ops F27o22) .skip)
def F27o25 : List Ao := [
  o3 39 .mv [.t 5],
  o3 40 (.faddr 3) [.t 1],
  o3 41 (.load none) [.t 40],
  o3 42 (.bslice (.int .u8 0) 1 [0]) [.t 41],
  o3 43 (.append 1 1 false) [.t 39, .t 42],
  o3 5 .mv [.t 43]]
def F27o28 : List Ao := [
  o3 44 (.faddr 3) [.t 3],
  o3 45 (.load none) [.t 44]]
def F27o31 : List Ao := [
  o3 46 .mv [.t 5],
  o3 47 (.faddr 4) [.t 1],
  o3 48 (.load none) [.t 47],
  o3 49 (.bin .mul) [.c (.d (.int .i64 64)), .t 48],
  o3 50 (.faddr 5) [.t 1],
  o3 51 (.load none) [.t 50],
  o3 52 (.bin .mul) [.c (.d (.int .i64 8)), .t 51],
  o3 53 (.bin .add) [.t 49, .t 52],
  o3 54 (.faddr 6) [.t 1],
  o3 55 (.load none) [.t 54],
  o3 56 (.bin .add) [.t 53, .t 55],
  o3 57 (.toInt .u8) [.t 56],
  o3 58 (.bslice (.int .u8 0) 1 [0]) [.t 57],
  o3 59 (.append 1 1 false) [.t 46, .t 58],
  o3 5 .mv [.t 59]]
def F27o32 : List Ao := [
  o3 60 .mv [.t 5],
  o3 61 (.faddr 7) [.t 1],
  o3 62 (.load none) [.t 61],
  { dst := some 63, k := (.callf 58), xs := [.t 62], al := some [] },
  o3 64 (.faddr 4) [.t 1],
  { dst := some 65, k := (.load none), xs := [.t 64], av := [[63]] },
  o3 66 (.faddr 6) [.t 1],
  { dst := some 67, k := (.load none), xs := [.t 66], av := [[63]] },
  o3 68 (.callf 54) [.t 65, .t 67],
  o3 69 (.subsl 1 false true false) [.t 63, .t 68],
  o3 70 (.append 1 1 false) [.t 60, .t 69],
  o3 5 .mv [.t 70]]
def F27c32 : Ac := (.ops F27o32)
def F27c29 : Ac := (.cond (.t 45) (.seq (.ops F27o31) F27c32) .skip)
def F27o36 : List Ao := [
  o3 71 (.load (some 4)) [.t 3],
  o3 72 (.callf 28) [.t 71],
  o3 6 .mv [.t 72]]
def F27o38 : List Ao := [
  o3 73 .mv [.t 6]]
def F27o42 : List Ao := [
  o3 75 (.bin .eql) [.t 73, .c (.d (.int .i64 1))],
  o3 74 .mv [.t 75]]
def F27o45 : List Ao := [
  o3 76 (.bin .eql) [.t 73, .c (.d (.int .i64 2))],
  o3 74 .mv [.t 76]]
def F27c43 : Ac := (.cond (.t 74) .skip (.ops F27o45))
def F27o47 : List Ao := [
  o3 77 .mv [.t 5],
  o3 78 (.faddr 8) [.t 1],
  o3 79 (.load none) [.t 78],
  o3 80 (.callf 58) [.t 79],
  o3 81 .mv [.t 6],
  o3 82 (.subsl 1 false true false) [.t 80, .t 81],
  o3 83 (.append 1 1 false) [.t 77, .t 82],
  o3 5 .mv [.t 83]]
def F27o49 : List Ao := [
  o3 85 (.bin .eql) [.t 73, .c (.d (.int .i64 4))],
  o3 84 .mv [.t 85]]
def F27o51 : List Ao := [
  o3 86 .mv [.t 5],
  o3 87 (.faddr 8) [.t 1],
  o3 88 (.load none) [.t 87],
  { dst := some 89, k := (.callf 58), xs := [.t 88], al := some [] },
  { dst := some 90, k := (.append 1 1 false), xs := [.t 86, .t 89], al := some [[12], [17], [27], [38], [43], [59], [70], [83], [90], [94]] },
  o3 91 (.faddr 9) [.t 1],
  { dst := some 92, k := (.load none), xs := [.t 91], av := [[89], [90], [12], [17], [27], [38], [43], [59], [70], [83], [94]] },
  o3 93 (.callf 58) [.t 92],
  o3 94 (.append 1 1 false) [.t 90, .t 93],
  o3 5 .mv [.t 94]]
def F27c50 : Ac := (.cond (.t 84) (.ops F27o51) .skip)
def F27b46 : Ac := (.cond (.t 74) (.ops F27o47) (.seq (.ops F27o49) F27c50))
def F27c46 : Ac := (.seq (.gh []) (.seq (.keep [1, 5, 6, 73, 74] [[1], [12]]) F27b46))
def F27c39 : Ac := (.block 0 (.seq (.seq (.ops F27o42) F27c43) F27c46))
def F27c37 : Ac := (.seq (.ops F27o38) F27c39)
def F27o54 : List Ao := [
  o3 95 .mv [.t 5],
  o3 2 .mv [.t 95]]
def F27c55 : Ac := (.seq (.gh [.frz 2]) .ret)
def F27c53 : Ac := (.seq (.ops F27o54) F27c55)
def F27b34 : Ac := (.seq (.seq (.ops F27o36) F27c37) F27c53)
def F27c34 : Ac := (.seq (.gh []) (.seq (.keep [1, 3, 5] [[1], [3], [12]]) F27b34))
def F27c26 : Ac := (.seq (.seq (.ops F27o28) F27c29) F27c34)
def F27b24 : Ac := (.seq (.ops F27o25) F27c26)
def F27c24 : Ac := (.seq (.gh []) (.seq (.keep [1, 3, 5] [[1], [3], [12]]) F27b24))
def F27b18 : Ac := (.seq (.seq (.ops F27o20) F27c21) F27c24)
def F27c18 : Ac := (.seq (.gh []) (.seq (.keep [1, 3, 5] [[1], [3], [12]]) F27b18))
def F27b12 : Ac := (.seq (.seq (.ops F27o14) F27c15) F27c18)
def F27c12 : Ac := (.seq (.gh []) (.seq (.keep [1, 3, 5] [[1], [3], [12]]) F27b12))
def F27c6 : Ac := (.seq (.seq (.ops F27o8) F27c9) F27c12)
def F27c4 : Ac := (.seq (.ops F27o5) F27c6)
def F27c2 : Ac := (.seq (.ops F27o3) F27c4)
def F27c0 : Ac := (.seq (.ops F27o1) F27c2)
/-- hansom/hansomref05.Put -/
def F27 : Fn := { np := 1, pb := [], rs := [.t 2], body := F27c0 }
def F28o1 : List Ao := [
  o3 1 (.box 4) [.t 0],
  o3 2 .mv [.c (.d (.int .i64 0))]]
def F28o3 : List Ao := [
  o3 3 (.faddr 1) [.t 1],
  o3 4 (.load none) [.t 3],
  { dst := some 5, k := (.callf 18), xs := [.t 4], al := some [] },
  o3 6 (.faddr 2) [.t 1],
  { dst := some 7, k := (.load none), xs := [.t 6], av := [[5]] },
  o3 8 (.callf 18) [.t 7],
  o3 9 (.bin .add) [.t 5, .t 8],
  o3 2 .mv [.t 9]]
def F28c4 : Ac := .ret
def F28c2 : Ac := (.seq (.ops F28o3) F28c4)
def F28c0 : Ac := (.seq (.ops F28o1) F28c2)
/-- hansom/hansomref05.Imms -/
def F28 : Fn := { np := 1, pb := [], rs := [.t 2], body := F28c0 }
def F29o1 : List Ao := [
  o3 0 .mv [.c (.d (.bool false))]]
def F29o3 : List Ao := [
  o3 2 (.build [.d (.bool false), .d (.int .i64 0), .d (.int .i64 0), .d (.int .u8 0), .d (.int .i64 0), .d (.int .i64 0), .d (.int .i64 0), .d (.int .u16 0), .d (.int .u16 0), .d (.int .u16 0)] [(3, 1), (8, 1)]) [.c (.d (.int .u8 184)), .c (.d (.int .u16 4660))],
  o3 1 (.alloc [.d (.bool false), .d (.int .i64 0), .d (.int .i64 0), .d (.int .u8 0), .d (.int .i64 0), .d (.int .i64 0), .d (.int .i64 0), .d (.int .u16 0), .d (.int .u16 0), .d (.int .u16 0)]) [],
  { dst := none, k := (.store 10), xs := [.t 1, .t 2] }]
def F29o5 : List Ao := [
  o3 3 (.load (some 10)) [.t 1],
  o3 4 (.callf 30) [.t 3],
  o3 5 .mv [.t 4],
  { dst := some 6, k := (.load (some 10)), xs := [.t 1], g := some (5, true) },
  { dst := some 7, k := (.callf 31), xs := [.t 6], g := some (5, true) },
  { dst := some 8, k := (.bin .eql), xs := [.t 7, .c (.d (.int .i64 3))], g := some (5, true) },
  o3 9 .pick [.t 5, .t 8, .c (.d (.bool false))],
  o3 10 .mv [.t 9],
  { dst := some 11, k := (.load (some 10)), xs := [.t 1], g := some (10, true) },
  { dst := some 12, k := (.callf 32), xs := [.t 11], g := some (10, true) },
  { dst := some 13, k := (.bin .eql), xs := [.t 12, .c (.d (.int .i64 1))], g := some (10, true) },
  o3 14 .pick [.t 10, .t 13, .c (.d (.bool false))],
  o3 15 .mv [.t 14],
  { dst := some 16, k := (.build [.d (.bool false), .d (.int .i64 0), .d (.int .i64 0), .d (.int .u8 0), .d (.int .i64 0), .d (.int .i64 0), .d (.int .i64 0), .d (.int .u16 0), .d (.int .u16 0), .d (.int .u16 0)] [(3, 1)]), xs := [.c (.d (.int .u8 38))], g := some (15, true) },
  { dst := some 17, k := (.callf 30), xs := [.t 16], g := some (15, true) },
  { dst := some 18, k := (.un .not), xs := [.t 17], g := some (15, true) },
  o3 19 .pick [.t 15, .t 18, .c (.d (.bool false))],
  o3 20 .mv [.t 19],
  { dst := some 21, k := (.callf 59), xs := [.c (.d (.int .i64 0)), .c (.d (.int .i64 6))], g := some (20, true) },
  { dst := some 22, k := (.bin .eql), xs := [.t 21, .c (.d (.int .i64 2))], g := some (20, true) },
  o3 23 .pick [.t 20, .t 22, .c (.d (.bool false))],
  o3 0 .mv [.t 23]]
def F29c6 : Ac := .ret
def F29c4 : Ac := (.seq (.ops F29o5) F29c6)
def F29c2 : Ac := (.seq (.ops F29o3) F29c4)
def F29c0 : Ac := (.seq (.ops F29o1) F29c2)
/-- hansom/hansomlaw05.awake -/
def F29 : Fn := { np := 0, pb := [], rs := [.t 0], body := F29c0 }
def F30o1 : List Ao := [
  o3 1 (.box 10) [.t 0],
  o3 2 .mv [.c (.d (.bool false))]]
def F30o3 : List Ao := [
  o3 6 (.load (some 10)) [.t 1],
  o3 7 (.callf 60) [.t 6],
  o3 5 .mv [.t 7],
  o3 8 (.extract 0) [.t 5],
  o3 9 (.extract 1) [.t 5],
  o3 3 (.alloc [.d (.int .i64 0), .d (.int .i64 0), .d (.int .i64 0), .d (.bool false)]) [],
  { dst := none, k := (.store 4), xs := [.t 3, .t 8] },
  o3 4 .mv [.t 9]]
def F30o5 : List Ao := [
  o3 10 .mv [.t 4],
  o3 11 .mv [.t 10],
  { dst := some 12, k := (.load (some 10)), xs := [.t 1], g := some (11, true) },
  { dst := some 13, k := (.load (some 4)), xs := [.t 3], g := some (11, true) },
  { dst := some 14, k := (.callf 61), xs := [.t 12, .t 13], g := some (11, true) },
  o3 15 .pick [.t 11, .t 14, .c (.d (.bool false))],
  o3 16 .mv [.t 15],
  { dst := some 17, k := (.load (some 10)), xs := [.t 1], g := some (16, true) },
  { dst := some 18, k := (.load (some 4)), xs := [.t 3], g := some (16, true) },
  { dst := some 19, k := (.callf 62), xs := [.t 17, .t 18], g := some (16, true) },
  o3 20 .pick [.t 16, .t 19, .c (.d (.bool false))],
  o3 21 .mv [.t 20],
  { dst := some 22, k := (.load (some 10)), xs := [.t 1], g := some (21, true) },
  { dst := some 23, k := (.load (some 4)), xs := [.t 3], g := some (21, true) },
  { dst := some 24, k := (.callf 63), xs := [.t 22, .t 23], g := some (21, true) },
  o3 25 .pick [.t 21, .t 24, .c (.d (.bool false))],
  o3 2 .mv [.t 25]]
def F30c6 : Ac := .ret
def F30c4 : Ac := (.seq (.ops F30o5) F30c6)
def F30c2 : Ac := (.seq (.ops F30o3) F30c4)
def F30c0 : Ac := (.seq (.ops F30o1) F30c2)
/-- hansom/inst.May -/
def F30 : Fn := { np := 1, pb := [], rs := [.t 2], body := F30c0 }
def F31o1 : List Ao := [
  o3 1 (.box 10) [.t 0],
  o3 2 .mv [.c (.d (.int .i64 0))]]
def F31o4 : List Ao := [
  o3 6 (.load (some 10)) [.t 1],
  o3 7 (.callf 30) [.t 6],
  o3 8 (.un .not) [.t 7]]
def F31o7 : List Ao := [
  o3 2 .mv [.c (.d (.int .i64 0))]]
def F31c8 : Ac := .ret
def F31c5 : Ac := (.cond (.t 8) (.seq (.ops F31o7) F31c8) .skip)
def F31o11 : List Ao := [
  o3 10 (.load (some 10)) [.t 1],
  o3 11 (.callf 60) [.t 10],
  o3 9 .mv [.t 11],
  o3 12 (.extract 0) [.t 9],
  o3 13 (.extract 1) [.t 9],
  o3 3 (.alloc [.d (.int .i64 0), .d (.int .i64 0), .d (.int .i64 0), .d (.bool false)]) [],
  { dst := none, k := (.store 4), xs := [.t 3, .t 12] },
  o3 4 .mv [.t 13]]
def F31o13 : List Ao := [
  o3 14 (.load (some 4)) [.t 3],
  o3 15 (.callf 64) [.t 14],
  o3 16 (.bin .add) [.c (.d (.int .i64 1)), .t 15],
  o3 5 .mv [.t 16]]
def F31o16 : List Ao := [
  o3 17 (.faddr 0) [.t 1],
  o3 18 (.load none) [.t 17]]
def F31o18 : List Ao := [
  o3 19 .mv [.t 5],
  o3 20 (.bin .add) [.t 19, .c (.d (.int .i64 1))],
  o3 5 .mv [.t 20]]
def F31c17 : Ac := (.cond (.t 18) (.ops F31o18) .skip)
def F31o22 : List Ao := [
  o3 21 (.faddr 1) [.t 1],
  o3 22 (.load none) [.t 21],
  o3 23 (.bin .gtr) [.t 22, .c (.d (.int .i64 0))]]
def F31o24 : List Ao := [
  o3 24 .mv [.t 5],
  o3 25 (.bin .add) [.t 24, .c (.d (.int .i64 1))],
  o3 5 .mv [.t 25]]
def F31c23 : Ac := (.cond (.t 23) (.ops F31o24) .skip)
def F31o28 : List Ao := [
  o3 26 (.faddr 2) [.t 1],
  o3 27 (.load none) [.t 26],
  o3 28 (.bin .gtr) [.t 27, .c (.d (.int .i64 0))]]
def F31o30 : List Ao := [
  o3 29 .mv [.t 5],
  o3 30 (.bin .add) [.t 29, .c (.d (.int .i64 1))],
  o3 5 .mv [.t 30]]
def F31c29 : Ac := (.cond (.t 28) (.ops F31o30) .skip)
def F31o34 : List Ao := [
  o3 31 (.faddr 3) [.t 3],
  o3 32 (.load none) [.t 31]]
def F31o36 : List Ao := [
  o3 33 .mv [.t 5],
  o3 34 (.faddr 4) [.t 1],
  o3 35 (.load none) [.t 34],
  o3 36 (.faddr 6) [.t 1],
  o3 37 (.load none) [.t 36],
  o3 38 (.callf 59) [.t 35, .t 37],
  o3 39 (.bin .add) [.c (.d (.int .i64 1)), .t 38],
  o3 40 (.bin .add) [.t 33, .t 39],
  o3 5 .mv [.t 40]]
def F31c35 : Ac := (.cond (.t 32) (.ops F31o36) .skip)
def F31o39 : List Ao := [
  o3 41 .mv [.t 5],
  o3 2 .mv [.t 41]]
def F31c40 : Ac := .ret
def F31c38 : Ac := (.seq (.ops F31o39) F31c40)
def F31c32 : Ac := (.seq (.seq (.ops F31o34) F31c35) F31c38)
def F31b26 : Ac := (.seq (.seq (.ops F31o28) F31c29) F31c32)
def F31c26 : Ac := (.seq (.gh []) (.seq (.keep [1, 3, 5] [[1], [3]]) F31b26))
def F31b20 : Ac := (.seq (.seq (.ops F31o22) F31c23) F31c26)
def F31c20 : Ac := (.seq (.gh []) (.seq (.keep [1, 3, 5] [[1], [3]]) F31b20))
def F31c14 : Ac := (.seq (.seq (.ops F31o16) F31c17) F31c20)
def F31c12 : Ac := (.seq (.ops F31o13) F31c14)
def F31c10 : Ac := (.seq (.ops F31o11) F31c12)
def F31c2 : Ac := (.seq (.seq (.ops F31o4) F31c5) F31c10)
def F31c0 : Ac := (.seq (.ops F31o1) F31c2)
/-- hansom/inst.Len -/
def F31 : Fn := { np := 1, pb := [], rs := [.t 2], body := F31c0 }
def F32o1 : List Ao := [
  o3 1 (.box 10) [.t 0],
  o3 2 .mv [.c (.d (.int .i64 0))]]
def F32o3 : List Ao := [
  o3 6 (.load (some 10)) [.t 1],
  o3 7 (.callf 60) [.t 6],
  o3 5 .mv [.t 7],
  o3 8 (.extract 0) [.t 5],
  o3 9 (.extract 1) [.t 5],
  o3 3 (.alloc [.d (.int .i64 0), .d (.int .i64 0), .d (.int .i64 0), .d (.bool false)]) [],
  { dst := none, k := (.store 4), xs := [.t 3, .t 8] },
  o3 4 .mv [.t 9]]
def F32o6 : List Ao := [
  o3 10 .mv [.t 4],
  o3 11 (.un .not) [.t 10],
  o3 12 .mv [.t 11],
  { dst := some 13, k := (.load (some 10)), xs := [.t 1], g := some (12, false) },
  { dst := some 14, k := (.callf 30), xs := [.t 13], g := some (12, false) },
  { dst := some 15, k := (.un .not), xs := [.t 14], g := some (12, false) },
  o3 16 .pick [.t 12, .c (.d (.bool true)), .t 15]]
def F32o9 : List Ao := [
  o3 2 .mv [.c (.d (.int .i64 0))]]
def F32c10 : Ac := .ret
def F32c7 : Ac := (.cond (.t 16) (.seq (.ops F32o9) F32c10) .skip)
def F32o13 : List Ao := [
  o3 17 (.load (some 10)) [.t 1],
  { dst := some 18, k := (.callf 31), xs := [.t 17], al := some [] },
  { dst := some 19, k := (.load (some 4)), xs := [.t 3], av := [[18]] },
  o3 20 (.callf 64) [.t 19],
  o3 21 (.bin .sub) [.t 18, .t 20],
  o3 2 .mv [.t 21]]
def F32c14 : Ac := .ret
def F32c12 : Ac := (.seq (.ops F32o13) F32c14)
def F32c4 : Ac := (.seq (.seq (.ops F32o6) F32c7) F32c12)
def F32c2 : Ac := (.seq (.ops F32o3) F32c4)
def F32c0 : Ac := (.seq (.ops F32o1) F32c2)
/-- hansom/inst.Tail -/
def F32 : Fn := { np := 1, pb := [], rs := [.t 2], body := F32c0 }
def F33o1 : List Ao := [
  o3 1 (.box 10) [.t 0],
  o3 2 .mv [.c (.d (.int .i64 0))]]
def F33o3 : List Ao := [
  o3 3 .mv [.c (.d (.int .i64 0))]]
def F33o6 : List Ao := [
  o3 4 (.faddr 0) [.t 1],
  o3 5 (.load none) [.t 4]]
def F33o8 : List Ao := [
  o3 6 .mv [.t 3],
  o3 7 (.bin .add) [.t 6, .c (.d (.int .i64 1))],
  o3 3 .mv [.t 7]]
def F33c7 : Ac := (.cond (.t 5) (.ops F33o8) .skip)
def F33o12 : List Ao := [
  o3 8 (.faddr 1) [.t 1],
  o3 9 (.load none) [.t 8],
  o3 10 (.bin .gtr) [.t 9, .c (.d (.int .i64 0))]]
def F33o14 : List Ao := [
  o3 11 .mv [.t 3],
  o3 12 (.bin .add) [.t 11, .c (.d (.int .i64 1))],
  o3 3 .mv [.t 12]]
def F33c13 : Ac := (.cond (.t 10) (.ops F33o14) .skip)
def F33o18 : List Ao := [
  o3 13 (.faddr 2) [.t 1],
  o3 14 (.load none) [.t 13],
  o3 15 (.bin .gtr) [.t 14, .c (.d (.int .i64 0))]]
def F33o20 : List Ao := [
  o3 16 .mv [.t 3],
  o3 17 (.bin .add) [.t 16, .c (.d (.int .i64 1))],
  o3 3 .mv [.t 17]]
def F33c19 : Ac := (.cond (.t 15) (.ops F33o20) .skip)
def F33o23 : List Ao := [
  o3 18 .mv [.t 3],
  o3 2 .mv [.t 18]]
def F33c24 : Ac := .ret
def F33c22 : Ac := (.seq (.ops F33o23) F33c24)
def F33c16 : Ac := (.seq (.seq (.ops F33o18) F33c19) F33c22)
def F33b10 : Ac := (.seq (.seq (.ops F33o12) F33c13) F33c16)
def F33c10 : Ac := (.seq (.gh []) (.seq (.keep [1, 3] [[1]]) F33b10))
def F33c4 : Ac := (.seq (.seq (.ops F33o6) F33c7) F33c10)
def F33c2 : Ac := (.seq (.ops F33o3) F33c4)
def F33c0 : Ac := (.seq (.ops F33o1) F33c2)
/-- hansom/inst.Ahead -/
def F33 : Fn := { np := 1, pb := [], rs := [.t 2], body := F33c0 }
def F37o1 : List Ao := [
  o3 2 (.alloc [.d (.int .i64 0), .d (.int .i64 0), .d (.int .i64 0), .d (.bool false)]) [],
  o3 3 .mv [.c (.d (.bool false))]]
def F37o3 : List Ao := [
  o3 5 .mv [.t 0],
  o3 6 (.bin .shr) [.t 5, .c (.d (.int .u64 3))],
  o3 7 (.toInt .i64) [.t 6],
  o3 8 (.bin .add) [.c (.d (.int .i64 1)), .t 7],
  o3 4 .mv [.t 8]]
def F37o6 : List Ao := [
  o3 9 .mv [.t 0],
  o3 10 (.bin .and) [.t 9, .c (.d (.int .u8 7))]]
def F37o9 : List Ao := [
  o3 12 (.bin .eql) [.t 10, .c (.d (.int .u8 0))],
  o3 11 .mv [.t 12]]
def F37o12 : List Ao := [
  o3 13 .mv [.t 4],
  o3 14 (.callf 67) [.t 13, .c (.d (.int .i64 1)), .c (.d (.int .i64 3))],
  o3 15 (.extract 0) [.t 14],
  o3 16 (.extract 1) [.t 14],
  { dst := none, k := (.store 4), xs := [.t 2, .t 15] },
  o3 3 .mv [.t 16]]
def F37c13 : Ac := .ret
def F37o15 : List Ao := [
  o3 18 (.bin .eql) [.t 10, .c (.d (.int .u8 1))],
  o3 17 .mv [.t 18]]
def F37o18 : List Ao := [
  o3 19 .mv [.t 4],
  o3 20 (.callf 67) [.t 19, .c (.d (.int .i64 2)), .c (.d (.int .i64 4))],
  o3 21 (.extract 0) [.t 20],
  o3 22 (.extract 1) [.t 20],
  { dst := none, k := (.store 4), xs := [.t 2, .t 21] },
  o3 3 .mv [.t 22]]
def F37c19 : Ac := .ret
def F37o21 : List Ao := [
  o3 24 (.bin .eql) [.t 10, .c (.d (.int .u8 2))],
  o3 23 .mv [.t 24]]
def F37o24 : List Ao := [
  o3 25 .mv [.t 4],
  o3 26 (.callf 67) [.t 25, .c (.d (.int .i64 3)), .c (.d (.int .i64 1))],
  o3 27 (.extract 0) [.t 26],
  o3 28 (.extract 1) [.t 26],
  { dst := none, k := (.store 4), xs := [.t 2, .t 27] },
  o3 3 .mv [.t 28]]
def F37c25 : Ac := .ret
def F37o27 : List Ao := [
  o3 30 (.bin .eql) [.t 10, .c (.d (.int .u8 3))],
  o3 29 .mv [.t 30]]
def F37o30 : List Ao := [
  o3 31 .mv [.t 4],
  o3 32 (.callf 67) [.t 31, .c (.d (.int .i64 4)), .c (.d (.int .i64 2))],
  o3 33 (.extract 0) [.t 32],
  o3 34 (.extract 1) [.t 32],
  { dst := none, k := (.store 4), xs := [.t 2, .t 33] },
  o3 3 .mv [.t 34]]
def F37c31 : Ac := .ret
def F37o33 : List Ao := [
  o3 36 (.bin .eql) [.t 10, .c (.d (.int .u8 4))],
  o3 35 .mv [.t 36]]
def F37o36 : List Ao := [
  o3 37 .mv [.t 4],
  o3 38 (.callf 38) [.t 37, .c (.d (.int .i64 14)), .c (.d (.int .i64 6))],
  o3 39 (.extract 0) [.t 38],
  o3 40 (.extract 1) [.t 38],
  { dst := none, k := (.store 4), xs := [.t 2, .t 39] },
  o3 3 .mv [.t 40]]
def F37c37 : Ac := .ret
def F37o39 : List Ao := [
  o3 42 (.bin .eql) [.t 10, .c (.d (.int .u8 5))],
  o3 41 .mv [.t 42]]
def F37o42 : List Ao := [
  o3 43 .mv [.t 4],
  o3 44 (.callf 38) [.t 43, .c (.d (.int .i64 16)), .c (.d (.int .i64 7))],
  o3 45 (.extract 0) [.t 44],
  o3 46 (.extract 1) [.t 44],
  { dst := none, k := (.store 4), xs := [.t 2, .t 45] },
  o3 3 .mv [.t 46]]
def F37c43 : Ac := .ret
def F37c40 : Ac := (.cond (.t 41) (.seq (.ops F37o42) F37c43) .skip)
def F37c34 : Ac := (.cond (.t 35) (.seq (.ops F37o36) F37c37) (.seq (.ops F37o39) F37c40))
def F37c28 : Ac := (.cond (.t 29) (.seq (.ops F37o30) F37c31) (.seq (.ops F37o33) F37c34))
def F37c22 : Ac := (.cond (.t 23) (.seq (.ops F37o24) F37c25) (.seq (.ops F37o27) F37c28))
def F37c16 : Ac := (.cond (.t 17) (.seq (.ops F37o18) F37c19) (.seq (.ops F37o21) F37c22))
def F37c10 : Ac := (.cond (.t 11) (.seq (.ops F37o12) F37c13) (.seq (.ops F37o15) F37c16))
def F37c7 : Ac := (.block 0 (.seq (.ops F37o9) F37c10))
def F37o47 : List Ao := [
  o3 47 .mv [.t 0]]
def F37o51 : List Ao := [
  o3 49 (.bin .eql) [.t 47, .c (.d (.int .u8 6))],
  o3 48 .mv [.t 49]]
def F37o55 : List Ao := [
  o3 50 (.bin .eql) [.t 47, .c (.d (.int .u8 14))],
  o3 48 .mv [.t 50]]
def F37o59 : List Ao := [
  o3 51 (.bin .eql) [.t 47, .c (.d (.int .u8 22))],
  o3 48 .mv [.t 51]]
def F37o62 : List Ao := [
  o3 52 (.bin .eql) [.t 47, .c (.d (.int .u8 30))],
  o3 48 .mv [.t 52]]
def F37c60 : Ac := (.cond (.t 48) .skip (.ops F37o62))
def F37c56 : Ac := (.cond (.t 48) .skip (.seq (.ops F37o59) F37c60))
def F37c52 : Ac := (.cond (.t 48) .skip (.seq (.ops F37o55) F37c56))
def F37o65 : List Ao := [
  o3 53 (.callf 38) [.c (.d (.int .i64 9)), .c (.d (.int .i64 23)), .c (.d (.int .i64 0))],
  o3 54 (.extract 0) [.t 53],
  o3 55 (.extract 1) [.t 53],
  { dst := none, k := (.store 4), xs := [.t 2, .t 54] },
  o3 3 .mv [.t 55]]
def F37c66 : Ac := .ret
def F37o69 : List Ao := [
  o3 57 (.bin .eql) [.t 47, .c (.d (.int .u8 7))],
  o3 56 .mv [.t 57]]
def F37o73 : List Ao := [
  o3 58 (.bin .eql) [.t 47, .c (.d (.int .u8 23))],
  o3 56 .mv [.t 58]]
def F37o76 : List Ao := [
  o3 59 (.bin .eql) [.t 47, .c (.d (.int .u8 31))],
  o3 56 .mv [.t 59]]
def F37c74 : Ac := (.cond (.t 56) .skip (.ops F37o76))
def F37c70 : Ac := (.cond (.t 56) .skip (.seq (.ops F37o73) F37c74))
def F37o79 : List Ao := [
  o3 60 (.callf 38) [.c (.d (.int .i64 10)), .c (.d (.int .i64 23)), .c (.d (.int .i64 0))],
  o3 61 (.extract 0) [.t 60],
  o3 62 (.extract 1) [.t 60],
  { dst := none, k := (.store 4), xs := [.t 2, .t 61] },
  o3 3 .mv [.t 62]]
def F37c80 : Ac := .ret
def F37o82 : List Ao := [
  o3 64 (.bin .eql) [.t 47, .c (.d (.int .u8 39))],
  o3 63 .mv [.t 64]]
def F37o85 : List Ao := [
  o3 65 (.callf 38) [.c (.d (.int .i64 11)), .c (.d (.int .i64 0)), .c (.d (.int .i64 0))],
  o3 66 (.extract 0) [.t 65],
  o3 67 (.extract 1) [.t 65],
  { dst := none, k := (.store 4), xs := [.t 2, .t 66] },
  o3 3 .mv [.t 67]]
def F37c86 : Ac := .ret
def F37o88 : List Ao := [
  o3 69 (.bin .eql) [.t 47, .c (.d (.int .u8 47))],
  o3 68 .mv [.t 69]]
def F37o91 : List Ao := [
  o3 70 (.callf 38) [.c (.d (.int .i64 12)), .c (.d (.int .i64 0)), .c (.d (.int .i64 0))],
  o3 71 (.extract 0) [.t 70],
  o3 72 (.extract 1) [.t 70],
  { dst := none, k := (.store 4), xs := [.t 2, .t 71] },
  o3 3 .mv [.t 72]]
def F37c92 : Ac := .ret
def F37o94 : List Ao := [
  o3 74 (.bin .eql) [.t 47, .c (.d (.int .u8 55))],
  o3 73 .mv [.t 74]]
def F37o97 : List Ao := [
  o3 75 (.callf 38) [.c (.d (.int .i64 13)), .c (.d (.int .i64 0)), .c (.d (.int .i64 0))],
  o3 76 (.extract 0) [.t 75],
  o3 77 (.extract 1) [.t 75],
  { dst := none, k := (.store 4), xs := [.t 2, .t 76] },
  o3 3 .mv [.t 77]]
def F37c98 : Ac := .ret
def F37o100 : List Ao := [
  o3 79 (.bin .eql) [.t 47, .c (.d (.int .u8 63))],
  o3 78 .mv [.t 79]]
def F37o103 : List Ao := [
  o3 80 (.callf 38) [.c (.d (.int .i64 14)), .c (.d (.int .i64 0)), .c (.d (.int .i64 0))],
  o3 81 (.extract 0) [.t 80],
  o3 82 (.extract 1) [.t 80],
  { dst := none, k := (.store 4), xs := [.t 2, .t 81] },
  o3 3 .mv [.t 82]]
def F37c104 : Ac := .ret
def F37c101 : Ac := (.cond (.t 78) (.seq (.ops F37o103) F37c104) .skip)
def F37c95 : Ac := (.cond (.t 73) (.seq (.ops F37o97) F37c98) (.seq (.ops F37o100) F37c101))
def F37c89 : Ac := (.cond (.t 68) (.seq (.ops F37o91) F37c92) (.seq (.ops F37o94) F37c95))
def F37c83 : Ac := (.cond (.t 63) (.seq (.ops F37o85) F37c86) (.seq (.ops F37o88) F37c89))
def F37b77 : Ac := (.cond (.t 56) (.seq (.ops F37o79) F37c80) (.seq (.ops F37o82) F37c83))
def F37c77 : Ac := (.seq (.gh []) (.seq (.keep [2, 47, 56] [[2]]) F37b77))
def F37b63 : Ac := (.cond (.t 48) (.seq (.ops F37o65) F37c66) (.seq (.seq (.ops F37o69) F37c70) F37c77))
def F37c63 : Ac := (.seq (.gh []) (.seq (.keep [2, 47, 48] [[2]]) F37b63))
def F37c48 : Ac := (.block 1 (.seq (.seq (.ops F37o51) F37c52) F37c63))
def F37o107 : List Ao := [
  o3 83 (.callf 39) [],
  o3 84 (.extract 0) [.t 83],
  o3 85 (.extract 1) [.t 83],
  { dst := none, k := (.store 4), xs := [.t 2, .t 84] },
  o3 3 .mv [.t 85]]
def F37c108 : Ac := .ret
def F37c106 : Ac := (.seq (.ops F37o107) F37c108)
def F37c45 : Ac := (.seq (.seq (.ops F37o47) F37c48) F37c106)
def F37c4 : Ac := (.seq (.seq (.ops F37o6) F37c7) F37c45)
def F37c2 : Ac := (.seq (.ops F37o3) F37c4)
def F37c0 : Ac := (.seq (.ops F37o1) F37c2)
/-- hansom/isa.sums -/
def F37 : Fn := { np := 1, pb := [], rs := [.c 2 (some 4), .t 3], body := F37c0 }
def F38o1 : List Ao := [
  o3 6 (.alloc [.d (.int .i64 0), .d (.int .i64 0), .d (.int .i64 0), .d (.bool false)]) [],
  o3 7 .mv [.c (.d (.bool false))]]
def F38o3 : List Ao := [
  o3 8 .mv [.t 0],
  o3 9 .mv [.t 1],
  o3 10 .mv [.t 2],
  o3 11 (.build [.d (.int .i64 0), .d (.int .i64 0), .d (.int .i64 0), .d (.bool false)] [(0, 1), (1, 1), (2, 1)]) [.t 8, .t 9, .t 10],
  { dst := none, k := (.store 4), xs := [.t 6, .t 11] },
  o3 7 .mv [.c (.d (.bool true))]]
def F38c4 : Ac := .ret
def F38c2 : Ac := (.seq (.ops F38o3) F38c4)
def F38c0 : Ac := (.seq (.ops F38o1) F38c2)
/-- hansom/isa.row -/
def F38 : Fn := { np := 3, pb := [], rs := [.c 6 (some 4), .t 7], body := F38c0 }
def F39o1 : List Ao := [
  o3 0 (.alloc [.d (.int .i64 0), .d (.int .i64 0), .d (.int .i64 0), .d (.bool false)]) [],
  o3 1 .mv [.c (.d (.bool false))]]
def F39o3 : List Ao := [
  o3 2 (.build [.d (.int .i64 0), .d (.int .i64 0), .d (.int .i64 0), .d (.bool false)] []) [],
  { dst := none, k := (.store 4), xs := [.t 0, .t 2] },
  o3 1 .mv [.c (.d (.bool false))]]
def F39c4 : Ac := .ret
def F39c2 : Ac := (.seq (.ops F39o3) F39c4)
def F39c0 : Ac := (.seq (.ops F39o1) F39c2)
/-- hansom/isa.bad -/
def F39 : Fn := { np := 0, pb := [], rs := [.c 0 (some 4), .t 1], body := F39c0 }
def F40o1 : List Ao := [
  o3 4 (.alloc [.d (.int .i64 0), .d (.int .i64 0), .d (.int .i64 0), .d (.bool false)]) [],
  o3 5 .mv [.c (.d (.bool false))]]
def F40o4 : List Ao := [
  o3 6 .mv [.t 0]]
def F40o7 : List Ao := [
  o3 8 (.bin .eql) [.t 6, .c (.d (.int .u8 128))],
  o3 7 .mv [.t 8]]
def F40o10 : List Ao := [
  o3 9 .mv [.t 1],
  o3 10 (.bin .add) [.c (.d (.int .i64 1)), .t 9],
  o3 11 (.callf 67) [.t 10, .c (.d (.int .i64 1)), .c (.d (.int .i64 6))],
  o3 12 (.extract 0) [.t 11],
  o3 13 (.extract 1) [.t 11],
  { dst := none, k := (.store 4), xs := [.t 4, .t 12] },
  o3 5 .mv [.t 13]]
def F40c11 : Ac := .ret
def F40o13 : List Ao := [
  o3 15 (.bin .eql) [.t 6, .c (.d (.int .u8 129))],
  o3 14 .mv [.t 15]]
def F40o16 : List Ao := [
  o3 16 .mv [.t 1],
  o3 17 (.bin .add) [.c (.d (.int .i64 1)), .t 16],
  o3 18 (.callf 67) [.t 17, .c (.d (.int .i64 2)), .c (.d (.int .i64 7))],
  o3 19 (.extract 0) [.t 18],
  o3 20 (.extract 1) [.t 18],
  { dst := none, k := (.store 4), xs := [.t 4, .t 19] },
  o3 5 .mv [.t 20]]
def F40c17 : Ac := .ret
def F40o19 : List Ao := [
  o3 22 (.bin .eql) [.t 6, .c (.d (.int .u8 131))],
  o3 21 .mv [.t 22]]
def F40o23 : List Ao := [
  o3 23 .mv [.t 1],
  o3 24 (.bin .eql) [.t 23, .c (.d (.int .i64 1))],
  o3 25 .mv [.t 24],
  { dst := some 26, k := .mv, xs := [.t 1], g := some (25, false) },
  { dst := some 27, k := (.bin .eql), xs := [.t 26, .c (.d (.int .i64 4))], g := some (25, false) },
  o3 28 .pick [.t 25, .c (.d (.bool true)), .t 27],
  o3 29 .mv [.t 28],
  { dst := some 30, k := .mv, xs := [.t 1], g := some (29, false) },
  { dst := some 31, k := (.bin .eql), xs := [.t 30, .c (.d (.int .i64 6))], g := some (29, false) },
  o3 32 .pick [.t 29, .c (.d (.bool true)), .t 31]]
def F40o26 : List Ao := [
  o3 33 (.callf 39) [],
  o3 34 (.extract 0) [.t 33],
  o3 35 (.extract 1) [.t 33],
  { dst := none, k := (.store 4), xs := [.t 4, .t 34] },
  o3 5 .mv [.t 35]]
def F40c27 : Ac := .ret
def F40c24 : Ac := (.cond (.t 32) (.seq (.ops F40o26) F40c27) .skip)
def F40o30 : List Ao := [
  o3 36 .mv [.t 1],
  o3 37 (.bin .add) [.c (.d (.int .i64 1)), .t 36],
  o3 38 (.callf 67) [.t 37, .c (.d (.int .i64 2)), .c (.d (.int .i64 8))],
  o3 39 (.extract 0) [.t 38],
  o3 40 (.extract 1) [.t 38],
  { dst := none, k := (.store 4), xs := [.t 4, .t 39] },
  o3 5 .mv [.t 40]]
def F40c31 : Ac := .ret
def F40c29 : Ac := (.seq (.ops F40o30) F40c31)
def F40o33 : List Ao := [
  o3 42 (.bin .eql) [.t 6, .c (.d (.int .u8 132))],
  o3 41 .mv [.t 42]]
def F40o36 : List Ao := [
  o3 43 (.callf 67) [.c (.d (.int .i64 33)), .c (.d (.int .i64 1)), .c (.d (.int .i64 3))],
  o3 44 (.extract 0) [.t 43],
  o3 45 (.extract 1) [.t 43],
  { dst := none, k := (.store 4), xs := [.t 4, .t 44] },
  o3 5 .mv [.t 45]]
def F40c37 : Ac := .ret
def F40o39 : List Ao := [
  o3 47 (.bin .eql) [.t 6, .c (.d (.int .u8 133))],
  o3 46 .mv [.t 47]]
def F40o42 : List Ao := [
  o3 48 (.callf 67) [.c (.d (.int .i64 33)), .c (.d (.int .i64 2)), .c (.d (.int .i64 4))],
  o3 49 (.extract 0) [.t 48],
  o3 50 (.extract 1) [.t 48],
  { dst := none, k := (.store 4), xs := [.t 4, .t 49] },
  o3 5 .mv [.t 50]]
def F40c43 : Ac := .ret
def F40o45 : List Ao := [
  o3 52 (.bin .eql) [.t 6, .c (.d (.int .u8 134))],
  o3 51 .mv [.t 52]]
def F40o48 : List Ao := [
  o3 53 (.callf 67) [.c (.d (.int .i64 34)), .c (.d (.int .i64 1)), .c (.d (.int .i64 3))],
  o3 54 (.extract 0) [.t 53],
  o3 55 (.extract 1) [.t 53],
  { dst := none, k := (.store 4), xs := [.t 4, .t 54] },
  o3 5 .mv [.t 55]]
def F40c49 : Ac := .ret
def F40o51 : List Ao := [
  o3 57 (.bin .eql) [.t 6, .c (.d (.int .u8 135))],
  o3 56 .mv [.t 57]]
def F40o54 : List Ao := [
  o3 58 (.callf 67) [.c (.d (.int .i64 34)), .c (.d (.int .i64 2)), .c (.d (.int .i64 4))],
  o3 59 (.extract 0) [.t 58],
  o3 60 (.extract 1) [.t 58],
  { dst := none, k := (.store 4), xs := [.t 4, .t 59] },
  o3 5 .mv [.t 60]]
def F40c55 : Ac := .ret
def F40o57 : List Ao := [
  o3 62 (.bin .eql) [.t 6, .c (.d (.int .u8 136))],
  o3 61 .mv [.t 62]]
def F40o60 : List Ao := [
  o3 63 (.callf 67) [.c (.d (.int .i64 35)), .c (.d (.int .i64 1)), .c (.d (.int .i64 3))],
  o3 64 (.extract 0) [.t 63],
  o3 65 (.extract 1) [.t 63],
  { dst := none, k := (.store 4), xs := [.t 4, .t 64] },
  o3 5 .mv [.t 65]]
def F40c61 : Ac := .ret
def F40o63 : List Ao := [
  o3 67 (.bin .eql) [.t 6, .c (.d (.int .u8 137))],
  o3 66 .mv [.t 67]]
def F40o66 : List Ao := [
  o3 68 (.callf 67) [.c (.d (.int .i64 35)), .c (.d (.int .i64 2)), .c (.d (.int .i64 4))],
  o3 69 (.extract 0) [.t 68],
  o3 70 (.extract 1) [.t 68],
  { dst := none, k := (.store 4), xs := [.t 4, .t 69] },
  o3 5 .mv [.t 70]]
def F40c67 : Ac := .ret
def F40o69 : List Ao := [
  o3 72 (.bin .eql) [.t 6, .c (.d (.int .u8 138))],
  o3 71 .mv [.t 72]]
def F40o72 : List Ao := [
  o3 73 (.callf 67) [.c (.d (.int .i64 35)), .c (.d (.int .i64 3)), .c (.d (.int .i64 1))],
  o3 74 (.extract 0) [.t 73],
  o3 75 (.extract 1) [.t 73],
  { dst := none, k := (.store 4), xs := [.t 4, .t 74] },
  o3 5 .mv [.t 75]]
def F40c73 : Ac := .ret
def F40o75 : List Ao := [
  o3 77 (.bin .eql) [.t 6, .c (.d (.int .u8 139))],
  o3 76 .mv [.t 77]]
def F40o78 : List Ao := [
  o3 78 (.callf 67) [.c (.d (.int .i64 35)), .c (.d (.int .i64 4)), .c (.d (.int .i64 2))],
  o3 79 (.extract 0) [.t 78],
  o3 80 (.extract 1) [.t 78],
  { dst := none, k := (.store 4), xs := [.t 4, .t 79] },
  o3 5 .mv [.t 80]]
def F40c79 : Ac := .ret
def F40o81 : List Ao := [
  o3 82 (.bin .eql) [.t 6, .c (.d (.int .u8 140))],
  o3 81 .mv [.t 82]]
def F40o84 : List Ao := [
  o3 83 .mv [.t 1],
  o3 84 (.bin .lss) [.t 83, .c (.d (.int .i64 4))]]
def F40o87 : List Ao := [
  o3 85 (.callf 67) [.c (.d (.int .i64 35)), .c (.d (.int .i64 2)), .c (.d (.int .i64 5))],
  o3 86 (.extract 0) [.t 85],
  o3 87 (.extract 1) [.t 85],
  { dst := none, k := (.store 4), xs := [.t 4, .t 86] },
  o3 5 .mv [.t 87]]
def F40c88 : Ac := .ret
def F40c85 : Ac := (.cond (.t 84) (.seq (.ops F40o87) F40c88) .skip)
def F40o91 : List Ao := [
  o3 89 (.bin .eql) [.t 6, .c (.d (.int .u8 141))],
  o3 88 .mv [.t 89]]
def F40o94 : List Ao := [
  o3 90 (.callf 67) [.c (.d (.int .i64 36)), .c (.d (.int .i64 4)), .c (.d (.int .i64 20))],
  o3 91 (.extract 0) [.t 90],
  o3 92 (.extract 1) [.t 90],
  { dst := none, k := (.store 4), xs := [.t 4, .t 91] },
  o3 5 .mv [.t 92]]
def F40c95 : Ac := .ret
def F40o97 : List Ao := [
  o3 94 (.bin .eql) [.t 6, .c (.d (.int .u8 142))],
  o3 93 .mv [.t 94]]
def F40o100 : List Ao := [
  o3 95 .mv [.t 1],
  o3 96 (.bin .lss) [.t 95, .c (.d (.int .i64 4))],
  o3 97 .mv [.t 96],
  { dst := some 98, k := .mv, xs := [.t 1], g := some (97, true) },
  { dst := some 99, k := (.bin .neq), xs := [.t 98, .c (.d (.int .i64 1))], g := some (97, true) },
  o3 100 .pick [.t 97, .t 99, .c (.d (.bool false))]]
def F40o103 : List Ao := [
  o3 101 (.callf 67) [.c (.d (.int .i64 35)), .c (.d (.int .i64 5)), .c (.d (.int .i64 2))],
  o3 102 (.extract 0) [.t 101],
  o3 103 (.extract 1) [.t 101],
  { dst := none, k := (.store 4), xs := [.t 4, .t 102] },
  o3 5 .mv [.t 103]]
def F40c104 : Ac := .ret
def F40c101 : Ac := (.cond (.t 100) (.seq (.ops F40o103) F40c104) .skip)
def F40o107 : List Ao := [
  o3 105 (.bin .eql) [.t 6, .c (.d (.int .u8 143))],
  o3 104 .mv [.t 105]]
def F40o110 : List Ao := [
  o3 106 .mv [.t 1],
  o3 107 (.bin .eql) [.t 106, .c (.d (.int .i64 0))]]
def F40o113 : List Ao := [
  o3 108 (.callf 67) [.c (.d (.int .i64 10)), .c (.d (.int .i64 2)), .c (.d (.int .i64 0))],
  o3 109 (.extract 0) [.t 108],
  o3 110 (.extract 1) [.t 108],
  { dst := none, k := (.store 4), xs := [.t 4, .t 109] },
  o3 5 .mv [.t 110]]
def F40c114 : Ac := .ret
def F40c111 : Ac := (.cond (.t 107) (.seq (.ops F40o113) F40c114) .skip)
def F40c108 : Ac := (.cond (.t 104) (.seq (.ops F40o110) F40c111) .skip)
def F40c98 : Ac := (.cond (.t 93) (.seq (.ops F40o100) F40c101) (.seq (.ops F40o107) F40c108))
def F40c92 : Ac := (.cond (.t 88) (.seq (.ops F40o94) F40c95) (.seq (.ops F40o97) F40c98))
def F40c82 : Ac := (.cond (.t 81) (.seq (.ops F40o84) F40c85) (.seq (.ops F40o91) F40c92))
def F40c76 : Ac := (.cond (.t 76) (.seq (.ops F40o78) F40c79) (.seq (.ops F40o81) F40c82))
def F40c70 : Ac := (.cond (.t 71) (.seq (.ops F40o72) F40c73) (.seq (.ops F40o75) F40c76))
def F40c64 : Ac := (.cond (.t 66) (.seq (.ops F40o66) F40c67) (.seq (.ops F40o69) F40c70))
def F40c58 : Ac := (.cond (.t 61) (.seq (.ops F40o60) F40c61) (.seq (.ops F40o63) F40c64))
def F40c52 : Ac := (.cond (.t 56) (.seq (.ops F40o54) F40c55) (.seq (.ops F40o57) F40c58))
def F40c46 : Ac := (.cond (.t 51) (.seq (.ops F40o48) F40c49) (.seq (.ops F40o51) F40c52))
def F40c40 : Ac := (.cond (.t 46) (.seq (.ops F40o42) F40c43) (.seq (.ops F40o45) F40c46))
def F40c34 : Ac := (.cond (.t 41) (.seq (.ops F40o36) F40c37) (.seq (.ops F40o39) F40c40))
def F40c20 : Ac := (.cond (.t 21) (.seq (.seq (.ops F40o23) F40c24) F40c29) (.seq (.ops F40o33) F40c34))
def F40c14 : Ac := (.cond (.t 14) (.seq (.ops F40o16) F40c17) (.seq (.ops F40o19) F40c20))
def F40c8 : Ac := (.cond (.t 7) (.seq (.ops F40o10) F40c11) (.seq (.ops F40o13) F40c14))
def F40c5 : Ac := (.block 0 (.seq (.ops F40o7) F40c8))
def F40o118 : List Ao := [
  o3 111 (.callf 39) [],
  o3 112 (.extract 0) [.t 111],
  o3 113 (.extract 1) [.t 111],
  { dst := none, k := (.store 4), xs := [.t 4, .t 112] },
  o3 5 .mv [.t 113]]
def F40c119 : Ac := .ret
def F40c117 : Ac := (.seq (.ops F40o118) F40c119)
def F40c2 : Ac := (.seq (.seq (.ops F40o4) F40c5) F40c117)
def F40c0 : Ac := (.seq (.ops F40o1) F40c2)
/-- hansom/isa.moves -/
def F40 : Fn := { np := 2, pb := [], rs := [.c 4 (some 4), .t 5], body := F40c0 }
def F41o1 : List Ao := [
  o3 2 (.alloc [.d (.int .i64 0), .d (.int .i64 0), .d (.int .i64 0), .d (.bool false)]) [],
  o3 3 .mv [.c (.d (.bool false))]]
def F41o4 : List Ao := [
  o3 5 .mv [.t 0],
  o3 6 (.bin .lss) [.t 5, .c (.d (.int .u8 152))]]
def F41o7 : List Ao := [
  o3 7 (.callf 38) [.c (.d (.int .i64 34)), .c (.d (.int .i64 16)), .c (.d (.int .i64 22))],
  o3 8 (.extract 0) [.t 7],
  o3 9 (.extract 1) [.t 7],
  { dst := none, k := (.store 4), xs := [.t 2, .t 8] },
  o3 3 .mv [.t 9]]
def F41c8 : Ac := .ret
def F41c5 : Ac := (.cond (.t 6) (.seq (.ops F41o7) F41c8) .skip)
def F41o12 : List Ao := [
  o3 10 .mv [.t 0],
  o3 11 (.bin .eql) [.t 10, .c (.d (.int .u8 154))]]
def F41o15 : List Ao := [
  o3 12 (.callf 38) [.c (.d (.int .i64 40)), .c (.d (.int .i64 11)), .c (.d (.int .i64 0))],
  o3 13 (.extract 0) [.t 12],
  o3 14 (.extract 1) [.t 12],
  { dst := none, k := (.store 4), xs := [.t 2, .t 13] },
  o3 3 .mv [.t 14]]
def F41c16 : Ac := .ret
def F41c13 : Ac := (.cond (.t 11) (.seq (.ops F41o15) F41c16) .skip)
def F41o19 : List Ao := [
  o3 15 (.bslice (.int .i64 0) 8 [0, 1, 2, 3, 4, 5, 6, 7]) [.c (.d (.int .i64 37)), .c (.d (.int .i64 38)), .c (.d (.int .i64 0)), .c (.d (.int .i64 41)), .c (.d (.int .i64 42)), .c (.d (.int .i64 43)), .c (.d (.int .i64 44)), .c (.d (.int .i64 45))],
  o3 16 .mv [.t 0],
  o3 17 (.bin .sub) [.t 16, .c (.d (.int .u8 152))],
  o3 18 (.iaddrS 1) [.t 15, .t 17],
  o3 19 (.load none) [.t 18],
  o3 4 .mv [.t 19]]
def F41o21 : List Ao := [
  o3 20 .mv [.t 4],
  o3 21 (.callf 38) [.t 20, .c (.d (.int .i64 0)), .c (.d (.int .i64 0))],
  o3 22 (.extract 0) [.t 21],
  o3 23 (.extract 1) [.t 21],
  { dst := none, k := (.store 4), xs := [.t 2, .t 22] },
  o3 3 .mv [.t 23]]
def F41c22 : Ac := .ret
def F41c20 : Ac := (.seq (.ops F41o21) F41c22)
def F41c18 : Ac := (.seq (.ops F41o19) F41c20)
def F41c10 : Ac := (.seq (.seq (.ops F41o12) F41c13) F41c18)
def F41c2 : Ac := (.seq (.seq (.ops F41o4) F41c5) F41c10)
def F41c0 : Ac := (.seq (.ops F41o1) F41c2)
/-- hansom/isa.words -/
def F41 : Fn := { np := 1, pb := [], rs := [.c 2 (some 4), .t 3], body := F41c0 }
def F42o1 : List Ao := [
  o3 2 (.alloc [.d (.int .i64 0), .d (.int .i64 0), .d (.int .i64 0), .d (.bool false)]) [],
  o3 3 .mv [.c (.d (.bool false))]]
def F42o4 : List Ao := [
  o3 4 .mv [.t 0]]
def F42o7 : List Ao := [
  o3 6 (.bin .eql) [.t 4, .c (.d (.int .u8 160))],
  o3 5 .mv [.t 6]]
def F42o10 : List Ao := [
  o3 7 (.callf 38) [.c (.d (.int .i64 35)), .c (.d (.int .i64 14)), .c (.d (.int .i64 12))],
  o3 8 (.extract 0) [.t 7],
  o3 9 (.extract 1) [.t 7],
  { dst := none, k := (.store 4), xs := [.t 2, .t 8] },
  o3 3 .mv [.t 9]]
def F42c11 : Ac := .ret
def F42o13 : List Ao := [
  o3 11 (.bin .eql) [.t 4, .c (.d (.int .u8 161))],
  o3 10 .mv [.t 11]]
def F42o16 : List Ao := [
  o3 12 (.callf 38) [.c (.d (.int .i64 35)), .c (.d (.int .i64 16)), .c (.d (.int .i64 13))],
  o3 13 (.extract 0) [.t 12],
  o3 14 (.extract 1) [.t 12],
  { dst := none, k := (.store 4), xs := [.t 2, .t 13] },
  o3 3 .mv [.t 14]]
def F42c17 : Ac := .ret
def F42o19 : List Ao := [
  o3 16 (.bin .eql) [.t 4, .c (.d (.int .u8 162))],
  o3 15 .mv [.t 16]]
def F42o22 : List Ao := [
  o3 17 (.callf 38) [.c (.d (.int .i64 35)), .c (.d (.int .i64 12)), .c (.d (.int .i64 14))],
  o3 18 (.extract 0) [.t 17],
  o3 19 (.extract 1) [.t 17],
  { dst := none, k := (.store 4), xs := [.t 2, .t 18] },
  o3 3 .mv [.t 19]]
def F42c23 : Ac := .ret
def F42o25 : List Ao := [
  o3 21 (.bin .eql) [.t 4, .c (.d (.int .u8 163))],
  o3 20 .mv [.t 21]]
def F42o28 : List Ao := [
  o3 22 (.callf 38) [.c (.d (.int .i64 35)), .c (.d (.int .i64 13)), .c (.d (.int .i64 16))],
  o3 23 (.extract 0) [.t 22],
  o3 24 (.extract 1) [.t 22],
  { dst := none, k := (.store 4), xs := [.t 2, .t 23] },
  o3 3 .mv [.t 24]]
def F42c29 : Ac := .ret
def F42o31 : List Ao := [
  o3 26 (.bin .eql) [.t 4, .c (.d (.int .u8 168))],
  o3 25 .mv [.t 26]]
def F42o34 : List Ao := [
  o3 27 (.callf 38) [.c (.d (.int .i64 33)), .c (.d (.int .i64 14)), .c (.d (.int .i64 6))],
  o3 28 (.extract 0) [.t 27],
  o3 29 (.extract 1) [.t 27],
  { dst := none, k := (.store 4), xs := [.t 2, .t 28] },
  o3 3 .mv [.t 29]]
def F42c35 : Ac := .ret
def F42o37 : List Ao := [
  o3 31 (.bin .eql) [.t 4, .c (.d (.int .u8 169))],
  o3 30 .mv [.t 31]]
def F42o40 : List Ao := [
  o3 32 (.callf 38) [.c (.d (.int .i64 33)), .c (.d (.int .i64 16)), .c (.d (.int .i64 7))],
  o3 33 (.extract 0) [.t 32],
  o3 34 (.extract 1) [.t 32],
  { dst := none, k := (.store 4), xs := [.t 2, .t 33] },
  o3 3 .mv [.t 34]]
def F42c41 : Ac := .ret
def F42c38 : Ac := (.cond (.t 30) (.seq (.ops F42o40) F42c41) .skip)
def F42c32 : Ac := (.cond (.t 25) (.seq (.ops F42o34) F42c35) (.seq (.ops F42o37) F42c38))
def F42c26 : Ac := (.cond (.t 20) (.seq (.ops F42o28) F42c29) (.seq (.ops F42o31) F42c32))
def F42c20 : Ac := (.cond (.t 15) (.seq (.ops F42o22) F42c23) (.seq (.ops F42o25) F42c26))
def F42c14 : Ac := (.cond (.t 10) (.seq (.ops F42o16) F42c17) (.seq (.ops F42o19) F42c20))
def F42c8 : Ac := (.cond (.t 5) (.seq (.ops F42o10) F42c11) (.seq (.ops F42o13) F42c14))
def F42c5 : Ac := (.block 0 (.seq (.ops F42o7) F42c8))
def F42o45 : List Ao := [
  o3 35 .mv [.t 0],
  o3 36 (.bin .lss) [.t 35, .c (.d (.int .u8 168))]]
def F42o48 : List Ao := [
  o3 37 .mv [.t 0],
  o3 38 (.bin .sub) [.t 37, .c (.d (.int .u8 164))],
  o3 39 (.toInt .i64) [.t 38],
  o3 40 (.bin .add) [.c (.d (.int .i64 46)), .t 39],
  o3 41 (.callf 38) [.t 40, .c (.d (.int .i64 0)), .c (.d (.int .i64 0))],
  o3 42 (.extract 0) [.t 41],
  o3 43 (.extract 1) [.t 41],
  { dst := none, k := (.store 4), xs := [.t 2, .t 42] },
  o3 3 .mv [.t 43]]
def F42c49 : Ac := .ret
def F42c46 : Ac := (.cond (.t 36) (.seq (.ops F42o48) F42c49) .skip)
def F42o52 : List Ao := [
  o3 44 .mv [.t 0],
  o3 45 (.bin .sub) [.t 44, .c (.d (.int .u8 170))],
  o3 46 (.toInt .i64) [.t 45],
  o3 47 (.bin .add) [.c (.d (.int .i64 50)), .t 46],
  o3 48 (.callf 38) [.t 47, .c (.d (.int .i64 0)), .c (.d (.int .i64 0))],
  o3 49 (.extract 0) [.t 48],
  o3 50 (.extract 1) [.t 48],
  { dst := none, k := (.store 4), xs := [.t 2, .t 49] },
  o3 3 .mv [.t 50]]
def F42c53 : Ac := .ret
def F42c51 : Ac := (.seq (.ops F42o52) F42c53)
def F42c43 : Ac := (.seq (.seq (.ops F42o45) F42c46) F42c51)
def F42c2 : Ac := (.seq (.seq (.ops F42o4) F42c5) F42c43)
def F42c0 : Ac := (.seq (.ops F42o1) F42c2)
/-- hansom/isa.texts -/
def F42 : Fn := { np := 1, pb := [], rs := [.c 2 (some 4), .t 3], body := F42c0 }
def F43o1 : List Ao := [
  o3 4 (.alloc [.d (.int .i64 0), .d (.int .i64 0), .d (.int .i64 0), .d (.bool false)]) [],
  o3 5 .mv [.c (.d (.bool false))]]
def F43o4 : List Ao := [
  o3 6 .mv [.t 0]]
def F43o7 : List Ao := [
  o3 8 (.bin .eql) [.t 6, .c (.d (.int .u8 194))],
  o3 7 .mv [.t 8]]
def F43o10 : List Ao := [
  o3 9 (.callf 38) [.c (.d (.int .i64 56)), .c (.d (.int .i64 7)), .c (.d (.int .i64 0))],
  o3 10 (.extract 0) [.t 9],
  o3 11 (.extract 1) [.t 9],
  { dst := none, k := (.store 4), xs := [.t 4, .t 10] },
  o3 5 .mv [.t 11]]
def F43c11 : Ac := .ret
def F43o13 : List Ao := [
  o3 13 (.bin .eql) [.t 6, .c (.d (.int .u8 195))],
  o3 12 .mv [.t 13]]
def F43o16 : List Ao := [
  o3 14 (.callf 38) [.c (.d (.int .i64 56)), .c (.d (.int .i64 0)), .c (.d (.int .i64 0))],
  o3 15 (.extract 0) [.t 14],
  o3 16 (.extract 1) [.t 14],
  { dst := none, k := (.store 4), xs := [.t 4, .t 15] },
  o3 5 .mv [.t 16]]
def F43c17 : Ac := .ret
def F43o19 : List Ao := [
  o3 18 (.bin .eql) [.t 6, .c (.d (.int .u8 196))],
  o3 17 .mv [.t 18]]
def F43o22 : List Ao := [
  o3 19 (.callf 67) [.c (.d (.int .i64 58)), .c (.d (.int .i64 4)), .c (.d (.int .i64 19))],
  o3 20 (.extract 0) [.t 19],
  o3 21 (.extract 1) [.t 19],
  { dst := none, k := (.store 4), xs := [.t 4, .t 20] },
  o3 5 .mv [.t 21]]
def F43c23 : Ac := .ret
def F43o25 : List Ao := [
  o3 23 (.bin .eql) [.t 6, .c (.d (.int .u8 197))],
  o3 22 .mv [.t 23]]
def F43o28 : List Ao := [
  o3 24 (.callf 67) [.c (.d (.int .i64 59)), .c (.d (.int .i64 4)), .c (.d (.int .i64 19))],
  o3 25 (.extract 0) [.t 24],
  o3 26 (.extract 1) [.t 24],
  { dst := none, k := (.store 4), xs := [.t 4, .t 25] },
  o3 5 .mv [.t 26]]
def F43c29 : Ac := .ret
def F43o31 : List Ao := [
  o3 28 (.bin .eql) [.t 6, .c (.d (.int .u8 198))],
  o3 27 .mv [.t 28]]
def F43o34 : List Ao := [
  o3 29 .mv [.t 1],
  o3 30 (.bin .eql) [.t 29, .c (.d (.int .i64 0))]]
def F43o37 : List Ao := [
  o3 31 (.callf 67) [.c (.d (.int .i64 35)), .c (.d (.int .i64 1)), .c (.d (.int .i64 6))],
  o3 32 (.extract 0) [.t 31],
  o3 33 (.extract 1) [.t 31],
  { dst := none, k := (.store 4), xs := [.t 4, .t 32] },
  o3 5 .mv [.t 33]]
def F43c38 : Ac := .ret
def F43c35 : Ac := (.cond (.t 30) (.seq (.ops F43o37) F43c38) .skip)
def F43o41 : List Ao := [
  o3 35 (.bin .eql) [.t 6, .c (.d (.int .u8 199))],
  o3 34 .mv [.t 35]]
def F43o44 : List Ao := [
  o3 36 .mv [.t 1],
  o3 37 (.bin .eql) [.t 36, .c (.d (.int .i64 0))]]
def F43o47 : List Ao := [
  o3 38 (.callf 67) [.c (.d (.int .i64 35)), .c (.d (.int .i64 2)), .c (.d (.int .i64 7))],
  o3 39 (.extract 0) [.t 38],
  o3 40 (.extract 1) [.t 38],
  { dst := none, k := (.store 4), xs := [.t 4, .t 39] },
  o3 5 .mv [.t 40]]
def F43c48 : Ac := .ret
def F43c45 : Ac := (.cond (.t 37) (.seq (.ops F43o47) F43c48) .skip)
def F43o51 : List Ao := [
  o3 42 (.bin .eql) [.t 6, .c (.d (.int .u8 202))],
  o3 41 .mv [.t 42]]
def F43o54 : List Ao := [
  o3 43 (.callf 38) [.c (.d (.int .i64 57)), .c (.d (.int .i64 7)), .c (.d (.int .i64 0))],
  o3 44 (.extract 0) [.t 43],
  o3 45 (.extract 1) [.t 43],
  { dst := none, k := (.store 4), xs := [.t 4, .t 44] },
  o3 5 .mv [.t 45]]
def F43c55 : Ac := .ret
def F43o57 : List Ao := [
  o3 47 (.bin .eql) [.t 6, .c (.d (.int .u8 203))],
  o3 46 .mv [.t 47]]
def F43o60 : List Ao := [
  o3 48 (.callf 38) [.c (.d (.int .i64 57)), .c (.d (.int .i64 0)), .c (.d (.int .i64 0))],
  o3 49 (.extract 0) [.t 48],
  o3 50 (.extract 1) [.t 48],
  { dst := none, k := (.store 4), xs := [.t 4, .t 49] },
  o3 5 .mv [.t 50]]
def F43c61 : Ac := .ret
def F43o63 : List Ao := [
  o3 52 (.bin .eql) [.t 6, .c (.d (.int .u8 204))],
  o3 51 .mv [.t 52]]
def F43o66 : List Ao := [
  o3 53 (.callf 38) [.c (.d (.int .i64 60)), .c (.d (.int .i64 24)), .c (.d (.int .i64 0))],
  o3 54 (.extract 0) [.t 53],
  o3 55 (.extract 1) [.t 53],
  { dst := none, k := (.store 4), xs := [.t 4, .t 54] },
  o3 5 .mv [.t 55]]
def F43c67 : Ac := .ret
def F43o69 : List Ao := [
  o3 57 (.bin .eql) [.t 6, .c (.d (.int .u8 205))],
  o3 56 .mv [.t 57]]
def F43o72 : List Ao := [
  o3 58 (.callf 38) [.c (.d (.int .i64 60)), .c (.d (.int .i64 6)), .c (.d (.int .i64 0))],
  o3 59 (.extract 0) [.t 58],
  o3 60 (.extract 1) [.t 58],
  { dst := none, k := (.store 4), xs := [.t 4, .t 59] },
  o3 5 .mv [.t 60]]
def F43c73 : Ac := .ret
def F43o75 : List Ao := [
  o3 62 (.bin .eql) [.t 6, .c (.d (.int .u8 206))],
  o3 61 .mv [.t 62]]
def F43o78 : List Ao := [
  o3 63 (.callf 38) [.c (.d (.int .i64 61)), .c (.d (.int .i64 0)), .c (.d (.int .i64 0))],
  o3 64 (.extract 0) [.t 63],
  o3 65 (.extract 1) [.t 63],
  { dst := none, k := (.store 4), xs := [.t 4, .t 64] },
  o3 5 .mv [.t 65]]
def F43c79 : Ac := .ret
def F43o81 : List Ao := [
  o3 67 (.bin .eql) [.t 6, .c (.d (.int .u8 207))],
  o3 66 .mv [.t 67]]
def F43o84 : List Ao := [
  o3 68 (.callf 38) [.c (.d (.int .i64 62)), .c (.d (.int .i64 0)), .c (.d (.int .i64 0))],
  o3 69 (.extract 0) [.t 68],
  o3 70 (.extract 1) [.t 68],
  { dst := none, k := (.store 4), xs := [.t 4, .t 69] },
  o3 5 .mv [.t 70]]
def F43c85 : Ac := .ret
def F43c82 : Ac := (.cond (.t 66) (.seq (.ops F43o84) F43c85) .skip)
def F43c76 : Ac := (.cond (.t 61) (.seq (.ops F43o78) F43c79) (.seq (.ops F43o81) F43c82))
def F43c70 : Ac := (.cond (.t 56) (.seq (.ops F43o72) F43c73) (.seq (.ops F43o75) F43c76))
def F43c64 : Ac := (.cond (.t 51) (.seq (.ops F43o66) F43c67) (.seq (.ops F43o69) F43c70))
def F43c58 : Ac := (.cond (.t 46) (.seq (.ops F43o60) F43c61) (.seq (.ops F43o63) F43c64))
def F43c52 : Ac := (.cond (.t 41) (.seq (.ops F43o54) F43c55) (.seq (.ops F43o57) F43c58))
def F43c42 : Ac := (.cond (.t 34) (.seq (.ops F43o44) F43c45) (.seq (.ops F43o51) F43c52))
def F43c32 : Ac := (.cond (.t 27) (.seq (.ops F43o34) F43c35) (.seq (.ops F43o41) F43c42))
def F43c26 : Ac := (.cond (.t 22) (.seq (.ops F43o28) F43c29) (.seq (.ops F43o31) F43c32))
def F43c20 : Ac := (.cond (.t 17) (.seq (.ops F43o22) F43c23) (.seq (.ops F43o25) F43c26))
def F43c14 : Ac := (.cond (.t 12) (.seq (.ops F43o16) F43c17) (.seq (.ops F43o19) F43c20))
def F43c8 : Ac := (.cond (.t 7) (.seq (.ops F43o10) F43c11) (.seq (.ops F43o13) F43c14))
def F43c5 : Ac := (.block 0 (.seq (.ops F43o7) F43c8))
def F43o88 : List Ao := [
  o3 71 (.callf 39) [],
  o3 72 (.extract 0) [.t 71],
  o3 73 (.extract 1) [.t 71],
  { dst := none, k := (.store 4), xs := [.t 4, .t 72] },
  o3 5 .mv [.t 73]]
def F43c89 : Ac := .ret
def F43c87 : Ac := (.seq (.ops F43o88) F43c89)
def F43c2 : Ac := (.seq (.seq (.ops F43o4) F43c5) F43c87)
def F43c0 : Ac := (.seq (.ops F43o1) F43c2)
/-- hansom/isa.backs -/
def F43 : Fn := { np := 2, pb := [], rs := [.c 4 (some 4), .t 5], body := F43c0 }
def F44o1 : List Ao := [
  o3 4 (.alloc [.d (.int .i64 0), .d (.int .i64 0), .d (.int .i64 0), .d (.bool false)]) [],
  o3 5 .mv [.c (.d (.bool false))]]
def F44o4 : List Ao := [
  o3 9 .mv [.t 0],
  o3 10 (.bin .lss) [.t 9, .c (.d (.int .u8 212))]]
def F44o8 : List Ao := [
  o3 11 .mv [.t 1],
  o3 12 (.bin .eql) [.t 11, .c (.d (.int .i64 6))]]
def F44o11 : List Ao := [
  o3 13 (.callf 39) [],
  o3 14 (.extract 0) [.t 13],
  o3 15 (.extract 1) [.t 13],
  { dst := none, k := (.store 4), xs := [.t 4, .t 14] },
  o3 5 .mv [.t 15]]
def F44c12 : Ac := .ret
def F44c9 : Ac := (.cond (.t 12) (.seq (.ops F44o11) F44c12) .skip)
def F44o15 : List Ao := [
  o3 16 (.bslice (.int .i64 0) 8 [0, 1, 2, 3, 4, 5, 6, 7]) [.c (.d (.int .i64 63)), .c (.d (.int .i64 64)), .c (.d (.int .i64 65)), .c (.d (.int .i64 66)), .c (.d (.int .i64 67)), .c (.d (.int .i64 68)), .c (.d (.int .i64 0)), .c (.d (.int .i64 69))],
  o3 17 .mv [.t 1],
  o3 18 (.iaddrS 1) [.t 16, .t 17],
  o3 19 (.load none) [.t 18],
  o3 6 .mv [.t 19]]
def F44o17 : List Ao := [
  o3 7 .mv [.c (.d (.int .i64 1))],
  o3 8 .mv [.c (.d (.int .i64 18))]]
def F44o20 : List Ao := [
  o3 20 .mv [.t 0],
  o3 21 (.bin .and) [.t 20, .c (.d (.int .u8 1))],
  o3 22 (.bin .eql) [.t 21, .c (.d (.int .u8 1))]]
def F44o22 : List Ao := [
  o3 7 .mv [.c (.d (.int .i64 2))]]
def F44c21 : Ac := (.cond (.t 22) (.ops F44o22) .skip)
def F44o26 : List Ao := [
  o3 23 .mv [.t 0],
  o3 24 (.bin .and) [.t 23, .c (.d (.int .u8 2))],
  o3 25 (.bin .neq) [.t 24, .c (.d (.int .u8 0))]]
def F44o28 : List Ao := [
  o3 8 .mv [.c (.d (.int .i64 15))]]
def F44c27 : Ac := (.cond (.t 25) (.ops F44o28) .skip)
def F44o31 : List Ao := [
  o3 26 .mv [.t 6],
  o3 27 .mv [.t 7],
  o3 28 .mv [.t 8],
  o3 29 (.callf 67) [.t 26, .t 27, .t 28],
  o3 30 (.extract 0) [.t 29],
  o3 31 (.extract 1) [.t 29],
  { dst := none, k := (.store 4), xs := [.t 4, .t 30] },
  o3 5 .mv [.t 31]]
def F44c32 : Ac := .ret
def F44c30 : Ac := (.seq (.ops F44o31) F44c32)
def F44c24 : Ac := (.seq (.seq (.ops F44o26) F44c27) F44c30)
def F44c18 : Ac := (.seq (.seq (.ops F44o20) F44c21) F44c24)
def F44c16 : Ac := (.seq (.ops F44o17) F44c18)
def F44c14 : Ac := (.seq (.ops F44o15) F44c16)
def F44c5 : Ac := (.cond (.t 10) (.seq (.seq (.ops F44o8) F44c9) F44c14) .skip)
def F44o37 : List Ao := [
  o3 33 .mv [.t 0],
  o3 34 (.bin .eql) [.t 33, .c (.d (.int .u8 212))],
  o3 32 .mv [.t 34]]
def F44o40 : List Ao := [
  o3 35 (.callf 38) [.c (.d (.int .i64 70)), .c (.d (.int .i64 6)), .c (.d (.int .i64 0))],
  o3 36 (.extract 0) [.t 35],
  o3 37 (.extract 1) [.t 35],
  { dst := none, k := (.store 4), xs := [.t 4, .t 36] },
  o3 5 .mv [.t 37]]
def F44c41 : Ac := .ret
def F44o43 : List Ao := [
  o3 39 .mv [.t 0],
  o3 40 (.bin .eql) [.t 39, .c (.d (.int .u8 213))],
  o3 38 .mv [.t 40]]
def F44o46 : List Ao := [
  o3 41 (.callf 38) [.c (.d (.int .i64 71)), .c (.d (.int .i64 6)), .c (.d (.int .i64 0))],
  o3 42 (.extract 0) [.t 41],
  o3 43 (.extract 1) [.t 41],
  { dst := none, k := (.store 4), xs := [.t 4, .t 42] },
  o3 5 .mv [.t 43]]
def F44c47 : Ac := .ret
def F44o49 : List Ao := [
  o3 45 .mv [.t 0],
  o3 46 (.bin .eql) [.t 45, .c (.d (.int .u8 215))],
  o3 44 .mv [.t 46]]
def F44o52 : List Ao := [
  o3 47 (.callf 38) [.c (.d (.int .i64 72)), .c (.d (.int .i64 0)), .c (.d (.int .i64 0))],
  o3 48 (.extract 0) [.t 47],
  o3 49 (.extract 1) [.t 47],
  { dst := none, k := (.store 4), xs := [.t 4, .t 48] },
  o3 5 .mv [.t 49]]
def F44c53 : Ac := .ret
def F44o55 : List Ao := [
  o3 51 .mv [.t 0],
  o3 52 (.bin .geq) [.t 51, .c (.d (.int .u8 216))],
  o3 50 .mv [.t 52]]
def F44o58 : List Ao := [
  o3 53 (.callf 67) [.c (.d (.int .i64 73)), .c (.d (.int .i64 2)), .c (.d (.int .i64 0))],
  o3 54 (.extract 0) [.t 53],
  o3 55 (.extract 1) [.t 53],
  { dst := none, k := (.store 4), xs := [.t 4, .t 54] },
  o3 5 .mv [.t 55]]
def F44c59 : Ac := .ret
def F44c56 : Ac := (.cond (.t 50) (.seq (.ops F44o58) F44c59) .skip)
def F44c50 : Ac := (.cond (.t 44) (.seq (.ops F44o52) F44c53) (.seq (.ops F44o55) F44c56))
def F44c44 : Ac := (.cond (.t 38) (.seq (.ops F44o46) F44c47) (.seq (.ops F44o49) F44c50))
def F44c38 : Ac := (.cond (.t 32) (.seq (.ops F44o40) F44c41) (.seq (.ops F44o43) F44c44))
def F44o62 : List Ao := [
  o3 56 (.callf 39) [],
  o3 57 (.extract 0) [.t 56],
  o3 58 (.extract 1) [.t 56],
  { dst := none, k := (.store 4), xs := [.t 4, .t 57] },
  o3 5 .mv [.t 58]]
def F44c63 : Ac := .ret
def F44c61 : Ac := (.seq (.ops F44o62) F44c63)
def F44c34 : Ac := (.seq (.block 0 (.seq (.ops F44o37) F44c38)) F44c61)
def F44c2 : Ac := (.seq (.seq (.ops F44o4) F44c5) F44c34)
def F44c0 : Ac := (.seq (.ops F44o1) F44c2)
/-- hansom/isa.turns -/
def F44 : Fn := { np := 2, pb := [], rs := [.c 4 (some 4), .t 5], body := F44c0 }
def F45o1 : List Ao := [
  o3 2 (.alloc [.d (.int .i64 0), .d (.int .i64 0), .d (.int .i64 0), .d (.bool false)]) [],
  o3 3 .mv [.c (.d (.bool false))]]
def F45o4 : List Ao := [
  o3 4 .mv [.t 0]]
def F45o8 : List Ao := [
  o3 6 (.bin .eql) [.t 4, .c (.d (.int .u8 224))],
  o3 5 .mv [.t 6]]
def F45o12 : List Ao := [
  o3 7 (.bin .eql) [.t 4, .c (.d (.int .u8 225))],
  o3 5 .mv [.t 7]]
def F45o16 : List Ao := [
  o3 8 (.bin .eql) [.t 4, .c (.d (.int .u8 226))],
  o3 5 .mv [.t 8]]
def F45o19 : List Ao := [
  o3 9 (.bin .eql) [.t 4, .c (.d (.int .u8 227))],
  o3 5 .mv [.t 9]]
def F45c17 : Ac := (.cond (.t 5) .skip (.ops F45o19))
def F45c13 : Ac := (.cond (.t 5) .skip (.seq (.ops F45o16) F45c17))
def F45c9 : Ac := (.cond (.t 5) .skip (.seq (.ops F45o12) F45c13))
def F45o22 : List Ao := [
  o3 10 .mv [.t 0],
  o3 11 (.bin .sub) [.t 10, .c (.d (.int .u8 224))],
  o3 12 (.toInt .i64) [.t 11],
  o3 13 (.bin .add) [.c (.d (.int .i64 74)), .t 12],
  o3 14 (.callf 38) [.t 13, .c (.d (.int .i64 9)), .c (.d (.int .i64 0))],
  o3 15 (.extract 0) [.t 14],
  o3 16 (.extract 1) [.t 14],
  { dst := none, k := (.store 4), xs := [.t 2, .t 15] },
  o3 3 .mv [.t 16]]
def F45c23 : Ac := .ret
def F45o25 : List Ao := [
  o3 18 (.bin .eql) [.t 4, .c (.d (.int .u8 228))],
  o3 17 .mv [.t 18]]
def F45o28 : List Ao := [
  o3 19 (.callf 38) [.c (.d (.int .i64 78)), .c (.d (.int .i64 14)), .c (.d (.int .i64 6))],
  o3 20 (.extract 0) [.t 19],
  o3 21 (.extract 1) [.t 19],
  { dst := none, k := (.store 4), xs := [.t 2, .t 20] },
  o3 3 .mv [.t 21]]
def F45c29 : Ac := .ret
def F45o31 : List Ao := [
  o3 23 (.bin .eql) [.t 4, .c (.d (.int .u8 229))],
  o3 22 .mv [.t 23]]
def F45o34 : List Ao := [
  o3 24 (.callf 38) [.c (.d (.int .i64 78)), .c (.d (.int .i64 16)), .c (.d (.int .i64 6))],
  o3 25 (.extract 0) [.t 24],
  o3 26 (.extract 1) [.t 24],
  { dst := none, k := (.store 4), xs := [.t 2, .t 25] },
  o3 3 .mv [.t 26]]
def F45c35 : Ac := .ret
def F45o37 : List Ao := [
  o3 28 (.bin .eql) [.t 4, .c (.d (.int .u8 230))],
  o3 27 .mv [.t 28]]
def F45o40 : List Ao := [
  o3 29 (.callf 38) [.c (.d (.int .i64 79)), .c (.d (.int .i64 6)), .c (.d (.int .i64 14))],
  o3 30 (.extract 0) [.t 29],
  o3 31 (.extract 1) [.t 29],
  { dst := none, k := (.store 4), xs := [.t 2, .t 30] },
  o3 3 .mv [.t 31]]
def F45c41 : Ac := .ret
def F45o43 : List Ao := [
  o3 33 (.bin .eql) [.t 4, .c (.d (.int .u8 231))],
  o3 32 .mv [.t 33]]
def F45o46 : List Ao := [
  o3 34 (.callf 38) [.c (.d (.int .i64 79)), .c (.d (.int .i64 6)), .c (.d (.int .i64 16))],
  o3 35 (.extract 0) [.t 34],
  o3 36 (.extract 1) [.t 34],
  { dst := none, k := (.store 4), xs := [.t 2, .t 35] },
  o3 3 .mv [.t 36]]
def F45c47 : Ac := .ret
def F45o49 : List Ao := [
  o3 38 (.bin .eql) [.t 4, .c (.d (.int .u8 232))],
  o3 37 .mv [.t 38]]
def F45o52 : List Ao := [
  o3 39 (.callf 38) [.c (.d (.int .i64 39)), .c (.d (.int .i64 10)), .c (.d (.int .i64 0))],
  o3 40 (.extract 0) [.t 39],
  o3 41 (.extract 1) [.t 39],
  { dst := none, k := (.store 4), xs := [.t 2, .t 40] },
  o3 3 .mv [.t 41]]
def F45c53 : Ac := .ret
def F45o55 : List Ao := [
  o3 43 (.bin .eql) [.t 4, .c (.d (.int .u8 233))],
  o3 42 .mv [.t 43]]
def F45o58 : List Ao := [
  o3 44 (.callf 38) [.c (.d (.int .i64 80)), .c (.d (.int .i64 10)), .c (.d (.int .i64 0))],
  o3 45 (.extract 0) [.t 44],
  o3 46 (.extract 1) [.t 44],
  { dst := none, k := (.store 4), xs := [.t 2, .t 45] },
  o3 3 .mv [.t 46]]
def F45c59 : Ac := .ret
def F45o61 : List Ao := [
  o3 48 (.bin .eql) [.t 4, .c (.d (.int .u8 234))],
  o3 47 .mv [.t 48]]
def F45o64 : List Ao := [
  o3 49 (.callf 38) [.c (.d (.int .i64 81)), .c (.d (.int .i64 11)), .c (.d (.int .i64 0))],
  o3 50 (.extract 0) [.t 49],
  o3 51 (.extract 1) [.t 49],
  { dst := none, k := (.store 4), xs := [.t 2, .t 50] },
  o3 3 .mv [.t 51]]
def F45c65 : Ac := .ret
def F45o67 : List Ao := [
  o3 53 (.bin .eql) [.t 4, .c (.d (.int .u8 235))],
  o3 52 .mv [.t 53]]
def F45o70 : List Ao := [
  o3 54 (.callf 38) [.c (.d (.int .i64 80)), .c (.d (.int .i64 9)), .c (.d (.int .i64 0))],
  o3 55 (.extract 0) [.t 54],
  o3 56 (.extract 1) [.t 54],
  { dst := none, k := (.store 4), xs := [.t 2, .t 55] },
  o3 3 .mv [.t 56]]
def F45c71 : Ac := .ret
def F45o73 : List Ao := [
  o3 58 (.bin .eql) [.t 4, .c (.d (.int .u8 236))],
  o3 57 .mv [.t 58]]
def F45o76 : List Ao := [
  o3 59 (.callf 38) [.c (.d (.int .i64 78)), .c (.d (.int .i64 14)), .c (.d (.int .i64 17))],
  o3 60 (.extract 0) [.t 59],
  o3 61 (.extract 1) [.t 59],
  { dst := none, k := (.store 4), xs := [.t 2, .t 60] },
  o3 3 .mv [.t 61]]
def F45c77 : Ac := .ret
def F45o79 : List Ao := [
  o3 63 (.bin .eql) [.t 4, .c (.d (.int .u8 237))],
  o3 62 .mv [.t 63]]
def F45o82 : List Ao := [
  o3 64 (.callf 38) [.c (.d (.int .i64 78)), .c (.d (.int .i64 16)), .c (.d (.int .i64 17))],
  o3 65 (.extract 0) [.t 64],
  o3 66 (.extract 1) [.t 64],
  { dst := none, k := (.store 4), xs := [.t 2, .t 65] },
  o3 3 .mv [.t 66]]
def F45c83 : Ac := .ret
def F45o85 : List Ao := [
  o3 68 (.bin .eql) [.t 4, .c (.d (.int .u8 238))],
  o3 67 .mv [.t 68]]
def F45o88 : List Ao := [
  o3 69 (.callf 38) [.c (.d (.int .i64 79)), .c (.d (.int .i64 17)), .c (.d (.int .i64 14))],
  o3 70 (.extract 0) [.t 69],
  o3 71 (.extract 1) [.t 69],
  { dst := none, k := (.store 4), xs := [.t 2, .t 70] },
  o3 3 .mv [.t 71]]
def F45c89 : Ac := .ret
def F45c86 : Ac := (.cond (.t 67) (.seq (.ops F45o88) F45c89) .skip)
def F45c80 : Ac := (.cond (.t 62) (.seq (.ops F45o82) F45c83) (.seq (.ops F45o85) F45c86))
def F45c74 : Ac := (.cond (.t 57) (.seq (.ops F45o76) F45c77) (.seq (.ops F45o79) F45c80))
def F45c68 : Ac := (.cond (.t 52) (.seq (.ops F45o70) F45c71) (.seq (.ops F45o73) F45c74))
def F45c62 : Ac := (.cond (.t 47) (.seq (.ops F45o64) F45c65) (.seq (.ops F45o67) F45c68))
def F45c56 : Ac := (.cond (.t 42) (.seq (.ops F45o58) F45c59) (.seq (.ops F45o61) F45c62))
def F45c50 : Ac := (.cond (.t 37) (.seq (.ops F45o52) F45c53) (.seq (.ops F45o55) F45c56))
def F45c44 : Ac := (.cond (.t 32) (.seq (.ops F45o46) F45c47) (.seq (.ops F45o49) F45c50))
def F45c38 : Ac := (.cond (.t 27) (.seq (.ops F45o40) F45c41) (.seq (.ops F45o43) F45c44))
def F45c32 : Ac := (.cond (.t 22) (.seq (.ops F45o34) F45c35) (.seq (.ops F45o37) F45c38))
def F45c26 : Ac := (.cond (.t 17) (.seq (.ops F45o28) F45c29) (.seq (.ops F45o31) F45c32))
def F45b20 : Ac := (.cond (.t 5) (.seq (.ops F45o22) F45c23) (.seq (.ops F45o25) F45c26))
def F45c20 : Ac := (.seq (.gh []) (.seq (.keep [0, 2, 4, 5] [[2]]) F45b20))
def F45c5 : Ac := (.block 0 (.seq (.seq (.ops F45o8) F45c9) F45c20))
def F45o92 : List Ao := [
  o3 72 (.callf 38) [.c (.d (.int .i64 79)), .c (.d (.int .i64 17)), .c (.d (.int .i64 16))],
  o3 73 (.extract 0) [.t 72],
  o3 74 (.extract 1) [.t 72],
  { dst := none, k := (.store 4), xs := [.t 2, .t 73] },
  o3 3 .mv [.t 74]]
def F45c93 : Ac := .ret
def F45c91 : Ac := (.seq (.ops F45o92) F45c93)
def F45c2 : Ac := (.seq (.seq (.ops F45o4) F45c5) F45c91)
def F45c0 : Ac := (.seq (.ops F45o1) F45c2)
/-- hansom/isa.goes -/
def F45 : Fn := { np := 1, pb := [], rs := [.c 2 (some 4), .t 3], body := F45c0 }
def F46o1 : List Ao := [
  o3 4 (.alloc [.d (.int .i64 0), .d (.int .i64 0), .d (.int .i64 0), .d (.bool false)]) [],
  o3 5 .mv [.c (.d (.bool false))]]
def F46o5 : List Ao := [
  o3 10 .mv [.t 0],
  o3 11 (.bin .eql) [.t 10, .c (.d (.int .u8 244))],
  o3 9 .mv [.t 11]]
def F46o8 : List Ao := [
  o3 12 (.callf 38) [.c (.d (.int .i64 82)), .c (.d (.int .i64 0)), .c (.d (.int .i64 0))],
  o3 13 (.extract 0) [.t 12],
  o3 14 (.extract 1) [.t 12],
  { dst := none, k := (.store 4), xs := [.t 4, .t 13] },
  o3 5 .mv [.t 14]]
def F46c9 : Ac := .ret
def F46o11 : List Ao := [
  o3 16 .mv [.t 0],
  o3 17 (.bin .eql) [.t 16, .c (.d (.int .u8 245))],
  o3 15 .mv [.t 17]]
def F46o14 : List Ao := [
  o3 18 (.callf 38) [.c (.d (.int .i64 83)), .c (.d (.int .i64 0)), .c (.d (.int .i64 0))],
  o3 19 (.extract 0) [.t 18],
  o3 20 (.extract 1) [.t 18],
  { dst := none, k := (.store 4), xs := [.t 4, .t 19] },
  o3 5 .mv [.t 20]]
def F46c15 : Ac := .ret
def F46o17 : List Ao := [
  o3 22 .mv [.t 0],
  o3 23 (.bin .geq) [.t 22, .c (.d (.int .u8 248))],
  o3 24 .mv [.t 23],
  { dst := some 25, k := .mv, xs := [.t 0], g := some (24, true) },
  { dst := some 26, k := (.bin .lss), xs := [.t 25, .c (.d (.int .u8 254))], g := some (24, true) },
  o3 27 .pick [.t 24, .t 26, .c (.d (.bool false))],
  o3 21 .mv [.t 27]]
def F46o20 : List Ao := [
  o3 28 .mv [.t 0],
  o3 29 (.bin .sub) [.t 28, .c (.d (.int .u8 248))],
  o3 30 (.toInt .i64) [.t 29],
  o3 31 (.bin .add) [.c (.d (.int .i64 90)), .t 30],
  o3 32 (.callf 38) [.t 31, .c (.d (.int .i64 0)), .c (.d (.int .i64 0))],
  o3 33 (.extract 0) [.t 32],
  o3 34 (.extract 1) [.t 32],
  { dst := none, k := (.store 4), xs := [.t 4, .t 33] },
  o3 5 .mv [.t 34]]
def F46c21 : Ac := .ret
def F46o23 : List Ao := [
  o3 36 .mv [.t 0],
  o3 37 (.bin .lss) [.t 36, .c (.d (.int .u8 246))],
  o3 35 .mv [.t 37]]
def F46o26 : List Ao := [
  o3 38 (.callf 39) [],
  o3 39 (.extract 0) [.t 38],
  o3 40 (.extract 1) [.t 38],
  { dst := none, k := (.store 4), xs := [.t 4, .t 39] },
  o3 5 .mv [.t 40]]
def F46c27 : Ac := .ret
def F46c24 : Ac := (.cond (.t 35) (.seq (.ops F46o26) F46c27) .skip)
def F46b18 : Ac := (.cond (.t 21) (.seq (.ops F46o20) F46c21) (.seq (.ops F46o23) F46c24))
def F46c18 : Ac := (.seq (.gh []) (.seq (.keep [0, 1, 4, 21] [[4]]) F46b18))
def F46c12 : Ac := (.cond (.t 15) (.seq (.ops F46o14) F46c15) (.seq (.ops F46o17) F46c18))
def F46c6 : Ac := (.cond (.t 9) (.seq (.ops F46o8) F46c9) (.seq (.ops F46o11) F46c12))
def F46o30 : List Ao := [
  o3 6 .mv [.c (.d (.int .i64 1))],
  o3 7 .mv [.c (.d (.int .i64 6))]]
def F46o33 : List Ao := [
  o3 41 .mv [.t 0],
  o3 42 (.bin .and) [.t 41, .c (.d (.int .u8 1))],
  o3 43 (.bin .eql) [.t 42, .c (.d (.int .u8 1))]]
def F46o35 : List Ao := [
  o3 6 .mv [.c (.d (.int .i64 2))],
  o3 7 .mv [.c (.d (.int .i64 7))]]
def F46c34 : Ac := (.cond (.t 43) (.ops F46o35) .skip)
def F46o39 : List Ao := [
  o3 44 .mv [.t 0],
  o3 45 (.bin .lss) [.t 44, .c (.d (.int .u8 248))]]
def F46o43 : List Ao := [
  o3 46 .mv [.t 1]]
def F46o46 : List Ao := [
  o3 48 (.bin .eql) [.t 46, .c (.d (.int .i64 0))],
  o3 47 .mv [.t 48]]
def F46o49 : List Ao := [
  o3 49 .mv [.t 6],
  o3 50 .mv [.t 7],
  o3 51 (.callf 67) [.c (.d (.int .i64 33)), .t 49, .t 50],
  o3 52 (.extract 0) [.t 51],
  o3 53 (.extract 1) [.t 51],
  { dst := none, k := (.store 4), xs := [.t 4, .t 52] },
  o3 5 .mv [.t 53]]
def F46c50 : Ac := .ret
def F46o52 : List Ao := [
  o3 55 (.bin .eql) [.t 46, .c (.d (.int .i64 1))],
  o3 54 .mv [.t 55]]
def F46o55 : List Ao := [
  o3 56 (.callf 39) [],
  o3 57 (.extract 0) [.t 56],
  o3 58 (.extract 1) [.t 56],
  { dst := none, k := (.store 4), xs := [.t 4, .t 57] },
  o3 5 .mv [.t 58]]
def F46c56 : Ac := .ret
def F46c53 : Ac := (.cond (.t 54) (.seq (.ops F46o55) F46c56) .skip)
def F46c47 : Ac := (.cond (.t 47) (.seq (.ops F46o49) F46c50) (.seq (.ops F46o52) F46c53))
def F46c44 : Ac := (.block 1 (.seq (.ops F46o46) F46c47))
def F46o59 : List Ao := [
  o3 59 .mv [.t 1],
  o3 60 (.bin .add) [.c (.d (.int .i64 84)), .t 59],
  o3 61 (.bin .sub) [.t 60, .c (.d (.int .i64 2))],
  o3 62 .mv [.t 6],
  o3 63 (.callf 67) [.t 61, .t 62, .c (.d (.int .i64 0))],
  o3 64 (.extract 0) [.t 63],
  o3 65 (.extract 1) [.t 63],
  { dst := none, k := (.store 4), xs := [.t 4, .t 64] },
  o3 5 .mv [.t 65]]
def F46c60 : Ac := .ret
def F46c58 : Ac := (.seq (.ops F46o59) F46c60)
def F46c40 : Ac := (.cond (.t 45) (.seq (.seq (.ops F46o43) F46c44) F46c58) .skip)
def F46o65 : List Ao := [
  o3 67 .mv [.t 1],
  o3 68 (.bin .lss) [.t 67, .c (.d (.int .i64 2))],
  o3 66 .mv [.t 68]]
def F46o68 : List Ao := [
  o3 69 .mv [.t 1],
  o3 70 (.bin .add) [.c (.d (.int .i64 15)), .t 69],
  o3 71 .mv [.t 6],
  o3 72 (.callf 67) [.t 70, .t 71, .c (.d (.int .i64 0))],
  o3 73 (.extract 0) [.t 72],
  o3 74 (.extract 1) [.t 72],
  { dst := none, k := (.store 4), xs := [.t 4, .t 73] },
  o3 5 .mv [.t 74]]
def F46c69 : Ac := .ret
def F46o71 : List Ao := [
  o3 76 .mv [.t 0],
  o3 77 (.bin .eql) [.t 76, .c (.d (.int .u8 254))],
  o3 78 .mv [.t 77],
  { dst := some 79, k := .mv, xs := [.t 1], g := some (78, false) },
  { dst := some 80, k := (.bin .eql), xs := [.t 79, .c (.d (.int .i64 7))], g := some (78, false) },
  o3 81 .pick [.t 78, .c (.d (.bool true)), .t 80],
  o3 75 .mv [.t 81]]
def F46o74 : List Ao := [
  o3 82 (.callf 39) [],
  o3 83 (.extract 0) [.t 82],
  o3 84 (.extract 1) [.t 82],
  { dst := none, k := (.store 4), xs := [.t 4, .t 83] },
  o3 5 .mv [.t 84]]
def F46c75 : Ac := .ret
def F46c72 : Ac := (.cond (.t 75) (.seq (.ops F46o74) F46c75) .skip)
def F46c66 : Ac := (.cond (.t 66) (.seq (.ops F46o68) F46c69) (.seq (.ops F46o71) F46c72))
def F46o78 : List Ao := [
  o3 85 (.bslice (.int .i64 0) 5 [0, 1, 2, 3, 4]) [.c (.d (.int .i64 39)), .c (.d (.int .i64 40)), .c (.d (.int .i64 80)), .c (.d (.int .i64 81)), .c (.d (.int .i64 9))],
  o3 86 .mv [.t 1],
  o3 87 (.bin .sub) [.t 86, .c (.d (.int .i64 2))],
  o3 88 (.iaddrS 1) [.t 85, .t 87],
  o3 89 (.load none) [.t 88],
  o3 8 .mv [.t 89]]
def F46o81 : List Ao := [
  o3 90 .mv [.t 1],
  o3 91 (.bin .eql) [.t 90, .c (.d (.int .i64 3))],
  o3 92 .mv [.t 91],
  { dst := some 93, k := .mv, xs := [.t 1], g := some (92, false) },
  { dst := some 94, k := (.bin .eql), xs := [.t 93, .c (.d (.int .i64 5))], g := some (92, false) },
  o3 95 .pick [.t 92, .c (.d (.bool true)), .t 94]]
def F46o83 : List Ao := [
  o3 6 .mv [.c (.d (.int .i64 19))]]
def F46c82 : Ac := (.cond (.t 95) (.ops F46o83) .skip)
def F46o86 : List Ao := [
  o3 96 .mv [.t 8],
  o3 97 .mv [.t 6],
  o3 98 (.callf 67) [.t 96, .t 97, .c (.d (.int .i64 0))],
  o3 99 (.extract 0) [.t 98],
  o3 100 (.extract 1) [.t 98],
  { dst := none, k := (.store 4), xs := [.t 4, .t 99] },
  o3 5 .mv [.t 100]]
def F46c87 : Ac := .ret
def F46c85 : Ac := (.seq (.ops F46o86) F46c87)
def F46c79 : Ac := (.seq (.seq (.ops F46o81) F46c82) F46c85)
def F46c77 : Ac := (.seq (.ops F46o78) F46c79)
def F46c62 : Ac := (.seq (.block 2 (.seq (.ops F46o65) F46c66)) F46c77)
def F46b37 : Ac := (.seq (.seq (.ops F46o39) F46c40) F46c62)
def F46c37 : Ac := (.seq (.gh []) (.seq (.keep [0, 1, 4, 6, 7] [[4]]) F46b37))
def F46c31 : Ac := (.seq (.seq (.ops F46o33) F46c34) F46c37)
def F46c29 : Ac := (.seq (.ops F46o30) F46c31)
def F46c2 : Ac := (.seq (.block 0 (.seq (.ops F46o5) F46c6)) F46c29)
def F46c0 : Ac := (.seq (.ops F46o1) F46c2)
/-- hansom/isa.rest -/
def F46 : Fn := { np := 2, pb := [], rs := [.c 4 (some 4), .t 5], body := F46c0 }
def F47o1 : List Ao := [
  o3 2 .mv [.c (.d (.str []))]]
def F47o4 : List Ao := [
  o3 3 .mv [.t 0],
  o3 4 (.bin .lss) [.t 3, .c (.d (.int .i64 1))],
  o3 5 .mv [.t 4],
  { dst := some 6, k := .mv, xs := [.t 0], g := some (5, false) },
  { dst := some 7, k := (.bin .gtr), xs := [.t 6, .c (.d (.int .i64 95))], g := some (5, false) },
  o3 8 .pick [.t 5, .c (.d (.bool true)), .t 7]]
def F47o7 : List Ao := [
  o3 2 .mv [.c (.d (.str [63]))]]
def F47c8 : Ac := .ret
def F47c5 : Ac := (.cond (.t 8) (.seq (.ops F47o7) F47c8) .skip)
def F47o11 : List Ao := [
  o3 9 .mv [.t 0],
  o3 10 (.bin .sub) [.t 9, .c (.d (.int .i64 1))],
  o3 11 (.callf 53) [.c (.d (.str [65, 68, 68, 32, 79, 82, 32, 65, 68, 67, 32, 83, 66, 66, 32, 65, 78, 68, 32, 83, 85, 66, 32, 88, 79, 82, 32, 67, 77, 80, 32, 80, 85, 83, 72, 32, 80, 79, 80, 32, 68, 65, 65, 32, 68, 65, 83, 32, 65, 65, 65, 32, 65, 65, 83, 32, 73, 78, 67, 32, 68, 69, 67, 32, 74, 79, 32, 74, 78, 79, 32, 74, 66, 32, 74, 78, 66, 32, 74, 90, 32, 74, 78, 90, 32, 74, 66, 69, 32, 74, 65, 32, 74, 83, 32, 74, 78, 83, 32, 74, 80, 32, 74, 78, 80, 32, 74, 76, 32, 74, 71, 69, 32, 74, 76, 69, 32, 74, 71, 32, 84, 69, 83, 84, 32, 88, 67, 72, 71, 32, 77, 79, 86, 32, 76, 69, 65, 32, 67, 66, 87, 32, 67, 87, 68, 32, 67, 65, 76, 76, 32, 67, 65, 76, 76, 70, 32, 87, 65, 73, 84, 32, 80, 85, 83, 72, 70, 32, 80, 79, 80, 70, 32, 83, 65, 72, 70, 32, 76, 65, 72, 70, 32, 77, 79, 86, 83, 66, 32, 77, 79, 86, 83, 87, 32, 67, 77, 80, 83, 66, 32, 67, 77, 80, 83, 87, 32, 83, 84, 79, 83, 66, 32, 83, 84, 79, 83, 87, 32, 76, 79, 68, 83, 66, 32, 76, 79, 68, 83, 87, 32, 83, 67, 65, 83, 66, 32, 83, 67, 65, 83, 87, 32, 82, 69, 84, 32, 82, 69, 84, 70, 32, 76, 69, 83, 32, 76, 68, 83, 32, 73, 78, 84, 32, 73, 78, 84, 79, 32, 73, 82, 69, 84, 32, 82, 79, 76, 32, 82, 79, 82, 32, 82, 67, 76, 32, 82, 67, 82, 32, 83, 72, 76, 32, 83, 72, 82, 32, 83, 65, 82, 32, 65, 65, 77, 32, 65, 65, 68, 32, 88, 76, 65, 84, 32, 69, 83, 67, 32, 76, 79, 79, 80, 78, 90, 32, 76, 79, 79, 80, 90, 32, 76, 79, 79, 80, 32, 74, 67, 88, 90, 32, 73, 78, 32, 79, 85, 84, 32, 74, 77, 80, 32, 74, 77, 80, 70, 32, 72, 76, 84, 32, 67, 77, 67, 32, 78, 79, 84, 32, 78, 69, 71, 32, 77, 85, 76, 32, 73, 77, 85, 76, 32, 68, 73, 86, 32, 73, 68, 73, 86, 32, 67, 76, 67, 32, 83, 84, 67, 32, 67, 76, 73, 32, 83, 84, 73, 32, 67, 76, 68, 32, 83, 84, 68, 32])), .t 10],
  o3 2 .mv [.t 11]]
def F47c12 : Ac := .ret
def F47c10 : Ac := (.seq (.ops F47o11) F47c12)
def F47c2 : Ac := (.seq (.seq (.ops F47o4) F47c5) F47c10)
def F47c0 : Ac := (.seq (.ops F47o1) F47c2)
/-- hansom/hansomref04.Name -/
def F47 : Fn := { np := 1, pb := [], rs := [.t 2], body := F47c0 }
def F48o1 : List Ao := [
  o3 4 .mv [.c (.d (.str []))]]
def F48o3 : List Ao := [
  o3 6 .mv [.t 0],
  o3 7 (.toInt .i64) [.t 6],
  o3 8 (.callf 53) [.c (.d (.str [65, 68, 68, 58, 69, 98, 58, 71, 98, 32, 65, 68, 68, 58, 69, 118, 58, 71, 118, 32, 65, 68, 68, 58, 71, 98, 58, 69, 98, 32, 65, 68, 68, 58, 71, 118, 58, 69, 118, 32, 65, 68, 68, 58, 65, 76, 58, 73, 98, 32, 65, 68, 68, 58, 65, 88, 58, 73, 118, 32, 80, 85, 83, 72, 58, 90, 115, 32, 80, 79, 80, 58, 90, 115, 32, 79, 82, 58, 69, 98, 58, 71, 98, 32, 79, 82, 58, 69, 118, 58, 71, 118, 32, 79, 82, 58, 71, 98, 58, 69, 98, 32, 79, 82, 58, 71, 118, 58, 69, 118, 32, 79, 82, 58, 65, 76, 58, 73, 98, 32, 79, 82, 58, 65, 88, 58, 73, 118, 32, 80, 85, 83, 72, 58, 90, 115, 32, 45, 32, 65, 68, 67, 58, 69, 98, 58, 71, 98, 32, 65, 68, 67, 58, 69, 118, 58, 71, 118, 32, 65, 68, 67, 58, 71, 98, 58, 69, 98, 32, 65, 68, 67, 58, 71, 118, 58, 69, 118, 32, 65, 68, 67, 58, 65, 76, 58, 73, 98, 32, 65, 68, 67, 58, 65, 88, 58, 73, 118, 32, 80, 85, 83, 72, 58, 90, 115, 32, 80, 79, 80, 58, 90, 115, 32, 83, 66, 66, 58, 69, 98, 58, 71, 98, 32, 83, 66, 66, 58, 69, 118, 58, 71, 118, 32, 83, 66, 66, 58, 71, 98, 58, 69, 98, 32, 83, 66, 66, 58, 71, 118, 58, 69, 118, 32, 83, 66, 66, 58, 65, 76, 58, 73, 98, 32, 83, 66, 66, 58, 65, 88, 58, 73, 118, 32, 80, 85, 83, 72, 58, 90, 115, 32, 80, 79, 80, 58, 90, 115, 32, 65, 78, 68, 58, 69, 98, 58, 71, 98, 32, 65, 78, 68, 58, 69, 118, 58, 71, 118, 32, 65, 78, 68, 58, 71, 98, 58, 69, 98, 32, 65, 78, 68, 58, 71, 118, 58, 69, 118, 32, 65, 78, 68, 58, 65, 76, 58, 73, 98, 32, 65, 78, 68, 58, 65, 88, 58, 73, 118, 32, 45, 32, 68, 65, 65, 32, 83, 85, 66, 58, 69, 98, 58, 71, 98, 32, 83, 85, 66, 58, 69, 118, 58, 71, 118, 32, 83, 85, 66, 58, 71, 98, 58, 69, 98, 32, 83, 85, 66, 58, 71, 118, 58, 69, 118, 32, 83, 85, 66, 58, 65, 76, 58, 73, 98, 32, 83, 85, 66, 58, 65, 88, 58, 73, 118, 32, 45, 32, 68, 65, 83, 32, 88, 79, 82, 58, 69, 98, 58, 71, 98, 32, 88, 79, 82, 58, 69, 118, 58, 71, 118, 32, 88, 79, 82, 58, 71, 98, 58, 69, 98, 32, 88, 79, 82, 58, 71, 118, 58, 69, 118, 32, 88, 79, 82, 58, 65, 76, 58, 73, 98, 32, 88, 79, 82, 58, 65, 88, 58, 73, 118, 32, 45, 32, 65, 65, 65, 32, 67, 77, 80, 58, 69, 98, 58, 71, 98, 32, 67, 77, 80, 58, 69, 118, 58, 71, 118, 32, 67, 77, 80, 58, 71, 98, 58, 69, 98, 32, 67, 77, 80, 58, 71, 118, 58, 69, 118, 32, 67, 77, 80, 58, 65, 76, 58, 73, 98, 32, 67, 77, 80, 58, 65, 88, 58, 73, 118, 32, 45, 32, 65, 65, 83, 32, 73, 78, 67, 58, 90, 118, 32, 73, 78, 67, 58, 90, 118, 32, 73, 78, 67, 58, 90, 118, 32, 73, 78, 67, 58, 90, 118, 32, 73, 78, 67, 58, 90, 118, 32, 73, 78, 67, 58, 90, 118, 32, 73, 78, 67, 58, 90, 118, 32, 73, 78, 67, 58, 90, 118, 32, 68, 69, 67, 58, 90, 118, 32, 68, 69, 67, 58, 90, 118, 32, 68, 69, 67, 58, 90, 118, 32, 68, 69, 67, 58, 90, 118, 32, 68, 69, 67, 58, 90, 118, 32, 68, 69, 67, 58, 90, 118, 32, 68, 69, 67, 58, 90, 118, 32, 68, 69, 67, 58, 90, 118, 32, 80, 85, 83, 72, 58, 90, 118, 32, 80, 85, 83, 72, 58, 90, 118, 32, 80, 85, 83, 72, 58, 90, 118, 32, 80, 85, 83, 72, 58, 90, 118, 32, 80, 85, 83, 72, 58, 90, 118, 32, 80, 85, 83, 72, 58, 90, 118, 32, 80, 85, 83, 72, 58, 90, 118, 32, 80, 85, 83, 72, 58, 90, 118, 32, 80, 79, 80, 58, 90, 118, 32, 80, 79, 80, 58, 90, 118, 32, 80, 79, 80, 58, 90, 118, 32, 80, 79, 80, 58, 90, 118, 32, 80, 79, 80, 58, 90, 118, 32, 80, 79, 80, 58, 90, 118, 32, 80, 79, 80, 58, 90, 118, 32, 80, 79, 80, 58, 90, 118, 32, 45, 32, 45, 32, 45, 32, 45, 32, 45, 32, 45, 32, 45, 32, 45, 32, 45, 32, 45, 32, 45, 32, 45, 32, 45, 32, 45, 32, 45, 32, 45, 32, 74, 79, 58, 74, 98, 32, 74, 78, 79, 58, 74, 98, 32, 74, 66, 58, 74, 98, 32, 74, 78, 66, 58, 74, 98, 32, 74, 90, 58, 74, 98, 32, 74, 78, 90, 58, 74, 98, 32, 74, 66, 69, 58, 74, 98, 32, 74, 65, 58, 74, 98, 32, 74, 83, 58, 74, 98, 32, 74, 78, 83, 58, 74, 98, 32, 74, 80, 58, 74, 98, 32, 74, 78, 80, 58, 74, 98, 32, 74, 76, 58, 74, 98, 32, 74, 71, 69, 58, 74, 98, 32, 74, 76, 69, 58, 74, 98, 32, 74, 71, 58, 74, 98, 32, 47, 65, 68, 68, 58, 69, 98, 58, 73, 98, 47, 79, 82, 58, 69, 98, 58, 73, 98, 47, 65, 68, 67, 58, 69, 98, 58, 73, 98, 47, 83, 66, 66, 58, 69, 98, 58, 73, 98, 47, 65, 78, 68, 58, 69, 98, 58, 73, 98, 47, 83, 85, 66, 58, 69, 98, 58, 73, 98, 47, 88, 79, 82, 58, 69, 98, 58, 73, 98, 47, 67, 77, 80, 58, 69, 98, 58, 73, 98, 32, 47, 65, 68, 68, 58, 69, 118, 58, 73, 118, 47, 79, 82, 58, 69, 118, 58, 73, 118, 47, 65, 68, 67, 58, 69, 118, 58, 73, 118, 47, 83, 66, 66, 58, 69, 118, 58, 73, 118, 47, 65, 78, 68, 58, 69, 118, 58, 73, 118, 47, 83, 85, 66, 58, 69, 118, 58, 73, 118, 47, 88, 79, 82, 58, 69, 118, 58, 73, 118, 47, 67, 77, 80, 58, 69, 118, 58, 73, 118, 32, 45, 32, 47, 65, 68, 68, 58, 69, 118, 58, 73, 115, 47, 45, 47, 65, 68, 67, 58, 69, 118, 58, 73, 115, 47, 83, 66, 66, 58, 69, 118, 58, 73, 115, 47, 45, 47, 83, 85, 66, 58, 69, 118, 58, 73, 115, 47, 45, 47, 67, 77, 80, 58, 69, 118, 58, 73, 115, 32, 84, 69, 83, 84, 58, 69, 98, 58, 71, 98, 32, 84, 69, 83, 84, 58, 69, 118, 58, 71, 118, 32, 88, 67, 72, 71, 58, 69, 98, 58, 71, 98, 32, 88, 67, 72, 71, 58, 69, 118, 58, 71, 118, 32, 77, 79, 86, 58, 69, 98, 58, 71, 98, 32, 77, 79, 86, 58, 69, 118, 58, 71, 118, 32, 77, 79, 86, 58, 71, 98, 58, 69, 98, 32, 77, 79, 86, 58, 71, 118, 58, 69, 118, 32, 47, 77, 79, 86, 58, 69, 118, 58, 83, 119, 47, 77, 79, 86, 58, 69, 118, 58, 83, 119, 47, 77, 79, 86, 58, 69, 118, 58, 83, 119, 47, 77, 79, 86, 58, 69, 118, 58, 83, 119, 47, 45, 47, 45, 47, 45, 47, 45, 32, 76, 69, 65, 58, 71, 118, 58, 77, 32, 47, 77, 79, 86, 58, 83, 119, 58, 69, 118, 47, 45, 47, 77, 79, 86, 58, 83, 119, 58, 69, 118, 47, 77, 79, 86, 58, 83, 119, 58, 69, 118, 47, 45, 47, 45, 47, 45, 47, 45, 32, 47, 80, 79, 80, 58, 69, 118, 47, 45, 47, 45, 47, 45, 47, 45, 47, 45, 47, 45, 47, 45, 32, 88, 67, 72, 71, 58, 65, 88, 58, 90, 118, 32, 88, 67, 72, 71, 58, 65, 88, 58, 90, 118, 32, 88, 67, 72, 71, 58, 65, 88, 58, 90, 118, 32, 88, 67, 72, 71, 58, 65, 88, 58, 90, 118, 32, 88, 67, 72, 71, 58, 65, 88, 58, 90, 118, 32, 88, 67, 72, 71, 58, 65, 88, 58, 90, 118, 32, 88, 67, 72, 71, 58, 65, 88, 58, 90, 118, 32, 88, 67, 72, 71, 58, 65, 88, 58, 90, 118, 32, 67, 66, 87, 32, 67, 87, 68, 32, 67, 65, 76, 76, 70, 58, 65, 112, 32, 87, 65, 73, 84, 32, 80, 85, 83, 72, 70, 32, 80, 79, 80, 70, 32, 83, 65, 72, 70, 32, 76, 65, 72, 70, 32, 77, 79, 86, 58, 65, 76, 58, 79, 98, 32, 77, 79, 86, 58, 65, 88, 58, 79, 118, 32, 77, 79, 86, 58, 79, 98, 58, 65, 76, 32, 77, 79, 86, 58, 79, 118, 58, 65, 88, 32, 77, 79, 86, 83, 66, 32, 77, 79, 86, 83, 87, 32, 67, 77, 80, 83, 66, 32, 67, 77, 80, 83, 87, 32, 84, 69, 83, 84, 58, 65, 76, 58, 73, 98, 32, 84, 69, 83, 84, 58, 65, 88, 58, 73, 118, 32, 83, 84, 79, 83, 66, 32, 83, 84, 79, 83, 87, 32, 76, 79, 68, 83, 66, 32, 76, 79, 68, 83, 87, 32, 83, 67, 65, 83, 66, 32, 83, 67, 65, 83, 87, 32, 77, 79, 86, 58, 90, 98, 58, 73, 98, 32, 77, 79, 86, 58, 90, 98, 58, 73, 98, 32, 77, 79, 86, 58, 90, 98, 58, 73, 98, 32, 77, 79, 86, 58, 90, 98, 58, 73, 98, 32, 77, 79, 86, 58, 90, 98, 58, 73, 98, 32, 77, 79, 86, 58, 90, 98, 58, 73, 98, 32, 77, 79, 86, 58, 90, 98, 58, 73, 98, 32, 77, 79, 86, 58, 90, 98, 58, 73, 98, 32, 77, 79, 86, 58, 90, 118, 58, 73, 118, 32, 77, 79, 86, 58, 90, 118, 58, 73, 118, 32, 77, 79, 86, 58, 90, 118, 58, 73, 118, 32, 77, 79, 86, 58, 90, 118, 58, 73, 118, 32, 77, 79, 86, 58, 90, 118, 58, 73, 118, 32, 77, 79, 86, 58, 90, 118, 58, 73, 118, 32, 77, 79, 86, 58, 90, 118, 58, 73, 118, 32, 77, 79, 86, 58, 90, 118, 58, 73, 118, 32, 45, 32, 45, 32, 82, 69, 84, 58, 73, 118, 32, 82, 69, 84, 32, 76, 69, 83, 58, 71, 118, 58, 77, 112, 32, 76, 68, 83, 58, 71, 118, 58, 77, 112, 32, 47, 77, 79, 86, 58, 69, 98, 58, 73, 98, 47, 45, 47, 45, 47, 45, 47, 45, 47, 45, 47, 45, 47, 45, 32, 47, 77, 79, 86, 58, 69, 118, 58, 73, 118, 47, 45, 47, 45, 47, 45, 47, 45, 47, 45, 47, 45, 47, 45, 32, 45, 32, 45, 32, 82, 69, 84, 70, 58, 73, 118, 32, 82, 69, 84, 70, 32, 73, 78, 84, 58, 84, 104, 114, 101, 101, 32, 73, 78, 84, 58, 73, 98, 32, 73, 78, 84, 79, 32, 73, 82, 69, 84, 32, 47, 82, 79, 76, 58, 69, 98, 58, 79, 110, 101, 47, 82, 79, 82, 58, 69, 98, 58, 79, 110, 101, 47, 82, 67, 76, 58, 69, 98, 58, 79, 110, 101, 47, 82, 67, 82, 58, 69, 98, 58, 79, 110, 101, 47, 83, 72, 76, 58, 69, 98, 58, 79, 110, 101, 47, 83, 72, 82, 58, 69, 98, 58, 79, 110, 101, 47, 45, 47, 83, 65, 82, 58, 69, 98, 58, 79, 110, 101, 32, 47, 82, 79, 76, 58, 69, 118, 58, 79, 110, 101, 47, 82, 79, 82, 58, 69, 118, 58, 79, 110, 101, 47, 82, 67, 76, 58, 69, 118, 58, 79, 110, 101, 47, 82, 67, 82, 58, 69, 118, 58, 79, 110, 101, 47, 83, 72, 76, 58, 69, 118, 58, 79, 110, 101, 47, 83, 72, 82, 58, 69, 118, 58, 79, 110, 101, 47, 45, 47, 83, 65, 82, 58, 69, 118, 58, 79, 110, 101, 32, 47, 82, 79, 76, 58, 69, 98, 58, 67, 76, 47, 82, 79, 82, 58, 69, 98, 58, 67, 76, 47, 82, 67, 76, 58, 69, 98, 58, 67, 76, 47, 82, 67, 82, 58, 69, 98, 58, 67, 76, 47, 83, 72, 76, 58, 69, 98, 58, 67, 76, 47, 83, 72, 82, 58, 69, 98, 58, 67, 76, 47, 45, 47, 83, 65, 82, 58, 69, 98, 58, 67, 76, 32, 47, 82, 79, 76, 58, 69, 118, 58, 67, 76, 47, 82, 79, 82, 58, 69, 118, 58, 67, 76, 47, 82, 67, 76, 58, 69, 118, 58, 67, 76, 47, 82, 67, 82, 58, 69, 118, 58, 67, 76, 47, 83, 72, 76, 58, 69, 118, 58, 67, 76, 47, 83, 72, 82, 58, 69, 118, 58, 67, 76, 47, 45, 47, 83, 65, 82, 58, 69, 118, 58, 67, 76, 32, 65, 65, 77, 58, 73, 98, 32, 65, 65, 68, 58, 73, 98, 32, 45, 32, 88, 76, 65, 84, 32, 69, 83, 67, 58, 69, 118, 32, 69, 83, 67, 58, 69, 118, 32, 69, 83, 67, 58, 69, 118, 32, 69, 83, 67, 58, 69, 118, 32, 69, 83, 67, 58, 69, 118, 32, 69, 83, 67, 58, 69, 118, 32, 69, 83, 67, 58, 69, 118, 32, 69, 83, 67, 58, 69, 118, 32, 76, 79, 79, 80, 78, 90, 58, 74, 98, 32, 76, 79, 79, 80, 90, 58, 74, 98, 32, 76, 79, 79, 80, 58, 74, 98, 32, 74, 67, 88, 90, 58, 74, 98, 32, 73, 78, 58, 65, 76, 58, 73, 98, 32, 73, 78, 58, 65, 88, 58, 73, 98, 32, 79, 85, 84, 58, 73, 98, 58, 65, 76, 32, 79, 85, 84, 58, 73, 98, 58, 65, 88, 32, 67, 65, 76, 76, 58, 74, 118, 32, 74, 77, 80, 58, 74, 118, 32, 74, 77, 80, 70, 58, 65, 112, 32, 74, 77, 80, 58, 74, 98, 32, 73, 78, 58, 65, 76, 58, 68, 88, 32, 73, 78, 58, 65, 88, 58, 68, 88, 32, 79, 85, 84, 58, 68, 88, 58, 65, 76, 32, 79, 85, 84, 58, 68, 88, 58, 65, 88, 32, 45, 32, 45, 32, 45, 32, 45, 32, 72, 76, 84, 32, 67, 77, 67, 32, 47, 84, 69, 83, 84, 58, 69, 98, 58, 73, 98, 47, 45, 47, 78, 79, 84, 58, 69, 98, 47, 78, 69, 71, 58, 69, 98, 47, 77, 85, 76, 58, 69, 98, 47, 73, 77, 85, 76, 58, 69, 98, 47, 68, 73, 86, 58, 69, 98, 47, 73, 68, 73, 86, 58, 69, 98, 32, 47, 84, 69, 83, 84, 58, 69, 118, 58, 73, 118, 47, 45, 47, 78, 79, 84, 58, 69, 118, 47, 78, 69, 71, 58, 69, 118, 47, 77, 85, 76, 58, 69, 118, 47, 73, 77, 85, 76, 58, 69, 118, 47, 68, 73, 86, 58, 69, 118, 47, 73, 68, 73, 86, 58, 69, 118, 32, 67, 76, 67, 32, 83, 84, 67, 32, 67, 76, 73, 32, 83, 84, 73, 32, 67, 76, 68, 32, 83, 84, 68, 32, 47, 73, 78, 67, 58, 69, 98, 47, 68, 69, 67, 58, 69, 98, 47, 45, 47, 45, 47, 45, 47, 45, 47, 45, 47, 45, 32, 47, 73, 78, 67, 58, 69, 118, 47, 68, 69, 67, 58, 69, 118, 47, 67, 65, 76, 76, 58, 69, 118, 47, 67, 65, 76, 76, 70, 58, 77, 112, 47, 74, 77, 80, 58, 69, 118, 47, 74, 77, 80, 70, 58, 77, 112, 47, 80, 85, 83, 72, 58, 69, 118, 47, 45, 32])), .t 7],
  o3 5 .mv [.t 8]]
def F48o6 : List Ao := [
  o3 9 .mv [.t 5],
  o3 10 .lenS [.t 9],
  o3 11 (.bin .gtr) [.t 10, .c (.d (.int .i64 0))],
  o3 12 .mv [.t 11],
  { dst := some 13, k := .mv, xs := [.t 5], g := some (12, true) },
  { dst := some 14, k := .indexS, xs := [.t 13, .c (.d (.int .i64 0))], g := some (12, true) },
  { dst := some 15, k := (.bin .eql), xs := [.t 14, .c (.d (.int .u8 47))], g := some (12, true) },
  o3 16 .pick [.t 12, .t 15, .c (.d (.bool false))]]
def F48o9 : List Ao := [
  o3 17 .mv [.t 5],
  o3 18 .mv [.t 1],
  o3 19 (.bin .and) [.t 18, .c (.d (.int .i64 7))],
  o3 20 (.bin .add) [.t 19, .c (.d (.int .i64 1))],
  o3 21 (.callf 50) [.t 17, .c (.d (.int .u8 47)), .t 20],
  o3 4 .mv [.t 21]]
def F48c10 : Ac := .ret
def F48c7 : Ac := (.cond (.t 16) (.seq (.ops F48o9) F48c10) .skip)
def F48o13 : List Ao := [
  o3 22 .mv [.t 5],
  o3 4 .mv [.t 22]]
def F48c14 : Ac := .ret
def F48c12 : Ac := (.seq (.ops F48o13) F48c14)
def F48c4 : Ac := (.seq (.seq (.ops F48o6) F48c7) F48c12)
def F48c2 : Ac := (.seq (.ops F48o3) F48c4)
def F48c0 : Ac := (.seq (.ops F48o1) F48c2)
/-- hansom/hansomref04.Entry -/
def F48 : Fn := { np := 2, pb := [], rs := [.t 4], body := F48c0 }
def F49o1 : List Ao := [
  o3 2 .mv [.c (.d (.int .i64 0))]]
def F49o3 : List Ao := [
  o3 3 .mv [.t 0],
  o3 4 (.callf 51) [.c (.d (.str [65, 68, 68, 32, 79, 82, 32, 65, 68, 67, 32, 83, 66, 66, 32, 65, 78, 68, 32, 83, 85, 66, 32, 88, 79, 82, 32, 67, 77, 80, 32, 80, 85, 83, 72, 32, 80, 79, 80, 32, 68, 65, 65, 32, 68, 65, 83, 32, 65, 65, 65, 32, 65, 65, 83, 32, 73, 78, 67, 32, 68, 69, 67, 32, 74, 79, 32, 74, 78, 79, 32, 74, 66, 32, 74, 78, 66, 32, 74, 90, 32, 74, 78, 90, 32, 74, 66, 69, 32, 74, 65, 32, 74, 83, 32, 74, 78, 83, 32, 74, 80, 32, 74, 78, 80, 32, 74, 76, 32, 74, 71, 69, 32, 74, 76, 69, 32, 74, 71, 32, 84, 69, 83, 84, 32, 88, 67, 72, 71, 32, 77, 79, 86, 32, 76, 69, 65, 32, 67, 66, 87, 32, 67, 87, 68, 32, 67, 65, 76, 76, 32, 67, 65, 76, 76, 70, 32, 87, 65, 73, 84, 32, 80, 85, 83, 72, 70, 32, 80, 79, 80, 70, 32, 83, 65, 72, 70, 32, 76, 65, 72, 70, 32, 77, 79, 86, 83, 66, 32, 77, 79, 86, 83, 87, 32, 67, 77, 80, 83, 66, 32, 67, 77, 80, 83, 87, 32, 83, 84, 79, 83, 66, 32, 83, 84, 79, 83, 87, 32, 76, 79, 68, 83, 66, 32, 76, 79, 68, 83, 87, 32, 83, 67, 65, 83, 66, 32, 83, 67, 65, 83, 87, 32, 82, 69, 84, 32, 82, 69, 84, 70, 32, 76, 69, 83, 32, 76, 68, 83, 32, 73, 78, 84, 32, 73, 78, 84, 79, 32, 73, 82, 69, 84, 32, 82, 79, 76, 32, 82, 79, 82, 32, 82, 67, 76, 32, 82, 67, 82, 32, 83, 72, 76, 32, 83, 72, 82, 32, 83, 65, 82, 32, 65, 65, 77, 32, 65, 65, 68, 32, 88, 76, 65, 84, 32, 69, 83, 67, 32, 76, 79, 79, 80, 78, 90, 32, 76, 79, 79, 80, 90, 32, 76, 79, 79, 80, 32, 74, 67, 88, 90, 32, 73, 78, 32, 79, 85, 84, 32, 74, 77, 80, 32, 74, 77, 80, 70, 32, 72, 76, 84, 32, 67, 77, 67, 32, 78, 79, 84, 32, 78, 69, 71, 32, 77, 85, 76, 32, 73, 77, 85, 76, 32, 68, 73, 86, 32, 73, 68, 73, 86, 32, 67, 76, 67, 32, 83, 84, 67, 32, 67, 76, 73, 32, 83, 84, 73, 32, 67, 76, 68, 32, 83, 84, 68, 32])), .t 3],
  o3 2 .mv [.t 4]]
def F49c4 : Ac := .ret
def F49c2 : Ac := (.seq (.ops F49o3) F49c4)
def F49c0 : Ac := (.seq (.ops F49o1) F49c2)
/-- hansom/hansomref04.Find -/
def F49 : Fn := { np := 1, pb := [], rs := [.t 2], body := F49c0 }
def F50o1 : List Ao := [
  o3 6 .mv [.c (.d (.str []))]]
def F50o3 : List Ao := [
  o3 7 .mv [.c (.d (.int .i64 0))]]
def F50o6 : List Ao := [
  o3 8 .mv [.c (.d (.int .i64 0))]]
def F50o11 : List Ao := [
  o3 9 .mv [.t 8],
  o3 10 .mv [.t 0],
  o3 11 .lenS [.t 10],
  o3 12 (.bin .leq) [.t 9, .t 11]]
def F50c12 : Ac := (.cond (.t 12) .skip (.exit 0))
def F50o19 : List Ao := [
  o3 15 .mv [.t 8],
  o3 16 .mv [.t 0],
  o3 17 .lenS [.t 16],
  o3 18 (.bin .lss) [.t 15, .t 17],
  o3 19 .mv [.t 18],
  { dst := some 20, k := .mv, xs := [.t 0], g := some (19, true) },
  { dst := some 21, k := .mv, xs := [.t 8], g := some (19, true) },
  { dst := some 22, k := .indexS, xs := [.t 20, .t 21], g := some (19, true) },
  { dst := some 23, k := .mv, xs := [.t 1], g := some (19, true) },
  { dst := some 24, k := (.bin .neq), xs := [.t 22, .t 23], g := some (19, true) },
  o3 25 .pick [.t 19, .t 24, .c (.d (.bool false))]]
def F50c20 : Ac := (.cond (.t 25) (.exit 1) .skip)
def F50o25 : List Ao := [
  o3 26 .mv [.t 2],
  o3 27 (.bin .eql) [.t 26, .c (.d (.int .i64 0))]]
def F50o28 : List Ao := [
  o3 28 .mv [.t 0],
  o3 29 .mv [.t 7],
  o3 30 .mv [.t 8],
  o3 31 (.substr true true) [.t 28, .t 29, .t 30],
  o3 6 .mv [.t 31]]
def F50c29 : Ac := .ret
def F50c26 : Ac := (.cond (.t 27) (.seq (.ops F50o28) F50c29) .skip)
def F50o32 : List Ao := [
  o3 32 .mv [.t 2],
  o3 33 (.bin .sub) [.t 32, .c (.d (.int .i64 1))],
  o3 2 .mv [.t 33]]
def F50o33 : List Ao := [
  o3 34 .mv [.t 8],
  o3 35 (.bin .add) [.t 34, .c (.d (.int .i64 1))],
  o3 7 .mv [.t 35]]
def F50c33 : Ac := (.ops F50o33)
def F50c31 : Ac := (.seq (.ops F50o32) F50c33)
def F50c23 : Ac := (.seq (.seq (.ops F50o25) F50c26) F50c31)
def F50o34 : List Ao := [
  o3 13 .mv [.t 8],
  o3 14 (.bin .add) [.t 13, .c (.d (.int .i64 1))],
  o3 8 .mv [.t 14]]
def F50c34 : Ac := (.ops F50o34)
def F50c15 : Ac := (.seq (.block 1 (.seq (.seq (.ops F50o19) F50c20) F50c23)) F50c34)
def F50l8 : Ac := (.seq (.seq (.ops F50o11) F50c12) F50c15)
def F50c7 : Ac := (.block 0 (.loop (.seq (.gh []) (.seq (.keep [0, 1, 2, 7, 8] []) F50l8))))
def F50o36 : List Ao := [
  o3 6 .mv [.c (.d (.str []))]]
def F50c37 : Ac := .ret
def F50b35 : Ac := (.seq (.ops F50o36) F50c37)
def F50c35 : Ac := (.seq (.gh []) (.seq (.keep [] []) F50b35))
def F50c4 : Ac := (.seq (.seq (.ops F50o6) F50c7) F50c35)
def F50c2 : Ac := (.seq (.ops F50o3) F50c4)
def F50c0 : Ac := (.seq (.ops F50o1) F50c2)
/-- hansom/hansomref04.part -/
def F50 : Fn := { np := 3, pb := [], rs := [.t 6], body := F50c0 }
def F51o1 : List Ao := [
  o3 4 .mv [.c (.d (.int .i64 0))]]
def F51o3 : List Ao := [
  o3 5 .mv [.c (.d (.int .i64 1))],
  o3 6 .mv [.c (.d (.int .i64 0))]]
def F51o6 : List Ao := [
  o3 7 .mv [.c (.d (.int .i64 0))]]
def F51o11 : List Ao := [
  o3 8 .mv [.t 7],
  o3 9 .mv [.t 0],
  o3 10 .lenS [.t 9],
  o3 11 (.bin .lss) [.t 8, .t 10]]
def F51c12 : Ac := (.cond (.t 11) .skip (.exit 0))
def F51o19 : List Ao := [
  o3 14 .mv [.t 0],
  o3 15 .mv [.t 7],
  o3 16 .indexS [.t 14, .t 15],
  o3 17 (.bin .neq) [.t 16, .c (.d (.int .u8 32))]]
def F51c20 : Ac := (.cond (.t 17) (.exit 1) .skip)
def F51o25 : List Ao := [
  o3 18 .mv [.t 0],
  o3 19 .mv [.t 6],
  o3 20 .mv [.t 7],
  o3 21 (.substr true true) [.t 18, .t 19, .t 20],
  o3 22 .mv [.t 1],
  o3 23 (.bin .eql) [.t 21, .t 22]]
def F51o28 : List Ao := [
  o3 24 .mv [.t 5],
  o3 4 .mv [.t 24]]
def F51c29 : Ac := .ret
def F51c26 : Ac := (.cond (.t 23) (.seq (.ops F51o28) F51c29) .skip)
def F51o32 : List Ao := [
  o3 25 .mv [.t 5],
  o3 26 (.bin .add) [.t 25, .c (.d (.int .i64 1))],
  o3 5 .mv [.t 26]]
def F51o33 : List Ao := [
  o3 27 .mv [.t 7],
  o3 28 (.bin .add) [.t 27, .c (.d (.int .i64 1))],
  o3 6 .mv [.t 28]]
def F51c33 : Ac := (.ops F51o33)
def F51c31 : Ac := (.seq (.ops F51o32) F51c33)
def F51c23 : Ac := (.seq (.seq (.ops F51o25) F51c26) F51c31)
def F51o34 : List Ao := [
  o3 12 .mv [.t 7],
  o3 13 (.bin .add) [.t 12, .c (.d (.int .i64 1))],
  o3 7 .mv [.t 13]]
def F51c34 : Ac := (.ops F51o34)
def F51c15 : Ac := (.seq (.block 1 (.seq (.seq (.ops F51o19) F51c20) F51c23)) F51c34)
def F51l8 : Ac := (.seq (.seq (.ops F51o11) F51c12) F51c15)
def F51c7 : Ac := (.block 0 (.loop (.seq (.gh []) (.seq (.keep [0, 1, 5, 6, 7] []) F51l8))))
def F51o36 : List Ao := [
  o3 4 .mv [.c (.d (.int .i64 0))]]
def F51c37 : Ac := .ret
def F51b35 : Ac := (.seq (.ops F51o36) F51c37)
def F51c35 : Ac := (.seq (.gh []) (.seq (.keep [] []) F51b35))
def F51c4 : Ac := (.seq (.seq (.ops F51o6) F51c7) F51c35)
def F51c2 : Ac := (.seq (.ops F51o3) F51c4)
def F51c0 : Ac := (.seq (.ops F51o1) F51c2)
/-- hansom/hansomref04.find -/
def F51 : Fn := { np := 2, pb := [], rs := [.t 4], body := F51c0 }
def F52o1 : List Ao := [
  o3 2 .mv [.c (.d (.bool false))]]
def F52o3 : List Ao := [
  o3 3 .mv [.t 0],
  o3 4 (.bin .geq) [.t 3, .c (.d (.int .i64 1))],
  o3 5 .mv [.t 4],
  { dst := some 6, k := .mv, xs := [.t 0], g := some (5, true) },
  { dst := some 7, k := (.bin .leq), xs := [.t 6, .c (.d (.int .i64 5))], g := some (5, true) },
  o3 8 .pick [.t 5, .t 7, .c (.d (.bool false))],
  o3 9 .mv [.t 8],
  { dst := some 10, k := .mv, xs := [.t 0], g := some (9, false) },
  { dst := some 11, k := (.bin .eql), xs := [.t 10, .c (.d (.int .i64 19))], g := some (9, false) },
  o3 12 .pick [.t 9, .c (.d (.bool true)), .t 11],
  o3 13 .mv [.t 12],
  { dst := some 14, k := .mv, xs := [.t 0], g := some (13, false) },
  { dst := some 15, k := (.bin .eql), xs := [.t 14, .c (.d (.int .i64 20))], g := some (13, false) },
  o3 16 .pick [.t 13, .c (.d (.bool true)), .t 15],
  o3 2 .mv [.t 16]]
def F52c4 : Ac := .ret
def F52c2 : Ac := (.seq (.ops F52o3) F52c4)
def F52c0 : Ac := (.seq (.ops F52o1) F52c2)
/-- hansom/hansomref04.second -/
def F52 : Fn := { np := 1, pb := [], rs := [.t 2], body := F52c0 }
def F53o1 : List Ao := [
  o3 4 .mv [.c (.d (.str []))]]
def F53o3 : List Ao := [
  o3 5 .mv [.c (.d (.int .i64 0))]]
def F53o6 : List Ao := [
  o3 6 .mv [.c (.d (.int .i64 0))]]
def F53o11 : List Ao := [
  o3 8 .mv [.t 6],
  o3 9 .mv [.t 1],
  o3 10 (.bin .lss) [.t 8, .t 9],
  o3 11 .mv [.t 10],
  { dst := some 12, k := .mv, xs := [.t 5], g := some (11, true) },
  { dst := some 13, k := .mv, xs := [.t 0], g := some (11, true) },
  { dst := some 14, k := .lenS, xs := [.t 13], g := some (11, true) },
  { dst := some 15, k := (.bin .lss), xs := [.t 12, .t 14], g := some (11, true) },
  o3 16 .pick [.t 11, .t 15, .c (.d (.bool false))]]
def F53c12 : Ac := (.cond (.t 16) .skip (.exit 0))
def F53o22 : List Ao := [
  o3 19 .mv [.t 5],
  o3 20 .mv [.t 0],
  o3 21 .lenS [.t 20],
  o3 22 (.bin .lss) [.t 19, .t 21],
  o3 23 .mv [.t 22],
  { dst := some 24, k := .mv, xs := [.t 0], g := some (23, true) },
  { dst := some 25, k := .mv, xs := [.t 5], g := some (23, true) },
  { dst := some 26, k := .indexS, xs := [.t 24, .t 25], g := some (23, true) },
  { dst := some 27, k := (.bin .neq), xs := [.t 26, .c (.d (.int .u8 32))], g := some (23, true) },
  o3 28 .pick [.t 23, .t 27, .c (.d (.bool false))]]
def F53c23 : Ac := (.cond (.t 28) .skip (.exit 2))
def F53o27 : List Ao := [
  o3 29 .mv [.t 5],
  o3 30 (.bin .add) [.t 29, .c (.d (.int .i64 1))],
  o3 5 .mv [.t 30]]
def F53c26 : Ac := (.block 3 (.ops F53o27))
def F53l19 : Ac := (.seq (.seq (.ops F53o22) F53c23) F53c26)
def F53o28 : List Ao := [
  o3 31 .mv [.t 5],
  o3 32 (.bin .add) [.t 31, .c (.d (.int .i64 1))],
  o3 5 .mv [.t 32]]
def F53b28 : Ac := (.ops F53o28)
def F53c28 : Ac := (.seq (.gh []) (.seq (.keep [0, 1, 5, 6] []) F53b28))
def F53o29 : List Ao := [
  o3 17 .mv [.t 6],
  o3 18 (.bin .add) [.t 17, .c (.d (.int .i64 1))],
  o3 6 .mv [.t 18]]
def F53c29 : Ac := (.ops F53o29)
def F53c15 : Ac := (.seq (.block 1 (.seq (.block 2 (.loop (.seq (.gh []) (.seq (.keep [0, 1, 5, 6] []) F53l19)))) F53c28)) F53c29)
def F53l8 : Ac := (.seq (.seq (.ops F53o11) F53c12) F53c15)
def F53c7 : Ac := (.block 0 (.loop (.seq (.gh []) (.seq (.keep [0, 1, 5, 6] []) F53l8))))
def F53o31 : List Ao := [
  o3 33 .mv [.t 5],
  o3 7 .mv [.t 33]]
def F53o37 : List Ao := [
  o3 34 .mv [.t 7],
  o3 35 .mv [.t 0],
  o3 36 .lenS [.t 35],
  o3 37 (.bin .lss) [.t 34, .t 36],
  o3 38 .mv [.t 37],
  { dst := some 39, k := .mv, xs := [.t 0], g := some (38, true) },
  { dst := some 40, k := .mv, xs := [.t 7], g := some (38, true) },
  { dst := some 41, k := .indexS, xs := [.t 39, .t 40], g := some (38, true) },
  { dst := some 42, k := (.bin .neq), xs := [.t 41, .c (.d (.int .u8 32))], g := some (38, true) },
  o3 43 .pick [.t 38, .t 42, .c (.d (.bool false))]]
def F53c38 : Ac := (.cond (.t 43) .skip (.exit 4))
def F53o42 : List Ao := [
  o3 44 .mv [.t 7],
  o3 45 (.bin .add) [.t 44, .c (.d (.int .i64 1))],
  o3 7 .mv [.t 45]]
def F53c41 : Ac := (.block 5 (.ops F53o42))
def F53l34 : Ac := (.seq (.seq (.ops F53o37) F53c38) F53c41)
def F53o45 : List Ao := [
  o3 46 .mv [.t 5],
  o3 47 .mv [.t 0],
  o3 48 .lenS [.t 47],
  o3 49 (.bin .geq) [.t 46, .t 48]]
def F53o48 : List Ao := [
  o3 4 .mv [.c (.d (.str []))]]
def F53c49 : Ac := .ret
def F53c46 : Ac := (.cond (.t 49) (.seq (.ops F53o48) F53c49) .skip)
def F53o52 : List Ao := [
  o3 50 .mv [.t 0],
  o3 51 .mv [.t 5],
  o3 52 .mv [.t 7],
  o3 53 (.substr true true) [.t 50, .t 51, .t 52],
  o3 4 .mv [.t 53]]
def F53c53 : Ac := .ret
def F53c51 : Ac := (.seq (.ops F53o52) F53c53)
def F53b43 : Ac := (.seq (.seq (.ops F53o45) F53c46) F53c51)
def F53c43 : Ac := (.seq (.gh []) (.seq (.keep [0, 5, 7] []) F53b43))
def F53c32 : Ac := (.seq (.block 4 (.loop (.seq (.gh []) (.seq (.keep [0, 5, 7] []) F53l34)))) F53c43)
def F53b30 : Ac := (.seq (.ops F53o31) F53c32)
def F53c30 : Ac := (.seq (.gh []) (.seq (.keep [0, 5] []) F53b30))
def F53c4 : Ac := (.seq (.seq (.ops F53o6) F53c7) F53c30)
def F53c2 : Ac := (.seq (.ops F53o3) F53c4)
def F53c0 : Ac := (.seq (.ops F53o1) F53c2)
/-- hansom/hansomref04.word -/
def F53 : Fn := { np := 2, pb := [], rs := [.t 4], body := F53c0 }
def F54o1 : List Ao := [
  o3 4 .mv [.c (.d (.int .i64 0))]]
def F54o4 : List Ao := [
  o3 5 .mv [.t 0],
  o3 6 (.bin .eql) [.t 5, .c (.d (.int .i64 1))]]
def F54o7 : List Ao := [
  o3 4 .mv [.c (.d (.int .i64 1))]]
def F54c8 : Ac := .ret
def F54c5 : Ac := (.cond (.t 6) (.seq (.ops F54o7) F54c8) .skip)
def F54o12 : List Ao := [
  o3 7 .mv [.t 0],
  o3 8 (.bin .eql) [.t 7, .c (.d (.int .i64 2))],
  o3 9 .mv [.t 8],
  { dst := some 10, k := .mv, xs := [.t 0], g := some (9, false) },
  { dst := some 11, k := (.bin .eql), xs := [.t 10, .c (.d (.int .i64 0))], g := some (9, false) },
  { dst := some 12, k := .mv, xs := [.t 11], g := some (9, false) },
  { dst := some 13, k := .mv, xs := [.t 1], g := some (12, true) },
  { dst := some 14, k := (.bin .eql), xs := [.t 13, .c (.d (.int .i64 6))], g := some (12, true) },
  { dst := some 15, k := .pick, xs := [.t 12, .t 14, .c (.d (.bool false))], g := some (9, false) },
  o3 16 .pick [.t 9, .c (.d (.bool true)), .t 15]]
def F54o15 : List Ao := [
  o3 4 .mv [.c (.d (.int .i64 2))]]
def F54c16 : Ac := .ret
def F54c13 : Ac := (.cond (.t 16) (.seq (.ops F54o15) F54c16) .skip)
def F54o19 : List Ao := [
  o3 4 .mv [.c (.d (.int .i64 0))]]
def F54c20 : Ac := .ret
def F54c18 : Ac := (.seq (.ops F54o19) F54c20)
def F54c10 : Ac := (.seq (.seq (.ops F54o12) F54c13) F54c18)
def F54c2 : Ac := (.seq (.seq (.ops F54o4) F54c5) F54c10)
def F54c0 : Ac := (.seq (.ops F54o1) F54c2)
/-- hansom/hansomref05.Disps -/
def F54 : Fn := { np := 2, pb := [], rs := [.t 4], body := F54c0 }
def F55o1 : List Ao := [
  o3 2 .mv [.c (.d (.int .u16 0))]]
def F55o4 : List Ao := [
  o3 3 .mv [.t 0],
  o3 4 (.bin .lss) [.t 3, .c (.d (.int .u8 128))]]
def F55o7 : List Ao := [
  o3 5 .mv [.t 0],
  o3 6 (.toInt .u16) [.t 5],
  o3 2 .mv [.t 6]]
def F55c8 : Ac := .ret
def F55c5 : Ac := (.cond (.t 4) (.seq (.ops F55o7) F55c8) .skip)
def F55o11 : List Ao := [
  o3 7 .mv [.t 0],
  o3 8 (.toInt .u16) [.t 7],
  o3 9 (.bin .add) [.c (.d (.int .u16 65280)), .t 8],
  o3 2 .mv [.t 9]]
def F55c12 : Ac := .ret
def F55c10 : Ac := (.seq (.ops F55o11) F55c12)
def F55c2 : Ac := (.seq (.seq (.ops F55o4) F55c5) F55c10)
def F55c0 : Ac := (.seq (.ops F55o1) F55c2)
/-- hansom/hansomref01.Sign -/
def F55 : Fn := { np := 1, pb := [], rs := [.t 2], body := F55c0 }
def F56o1 : List Ao := [
  o3 2 .mv [.c (.d (.bool false))]]
def F56o3 : List Ao := [
  o3 3 .mv [.t 0],
  o3 4 (.bin .lss) [.t 3, .c (.d (.int .u16 128))],
  o3 5 .mv [.t 4],
  { dst := some 6, k := .mv, xs := [.t 0], g := some (5, false) },
  { dst := some 7, k := (.bin .geq), xs := [.t 6, .c (.d (.int .u16 65408))], g := some (5, false) },
  o3 8 .pick [.t 5, .c (.d (.bool true)), .t 7],
  o3 2 .mv [.t 8]]
def F56c4 : Ac := .ret
def F56c2 : Ac := (.seq (.ops F56o3) F56c4)
def F56c0 : Ac := (.seq (.ops F56o1) F56c2)
/-- hansom/hansomref01.Fits -/
def F56 : Fn := { np := 1, pb := [], rs := [.t 2], body := F56c0 }
def F57o1 : List Ao := [
  o3 2 .mv [.c (.d (.bool false))]]
def F57o3 : List Ao := [
  o3 3 .mv [.t 0],
  o3 4 (.bin .eql) [.t 3, .c (.d (.int .u8 38))],
  o3 5 .mv [.t 4],
  { dst := some 6, k := .mv, xs := [.t 0], g := some (5, false) },
  { dst := some 7, k := (.bin .eql), xs := [.t 6, .c (.d (.int .u8 46))], g := some (5, false) },
  o3 8 .pick [.t 5, .c (.d (.bool true)), .t 7],
  o3 9 .mv [.t 8],
  { dst := some 10, k := .mv, xs := [.t 0], g := some (9, false) },
  { dst := some 11, k := (.bin .eql), xs := [.t 10, .c (.d (.int .u8 54))], g := some (9, false) },
  o3 12 .pick [.t 9, .c (.d (.bool true)), .t 11],
  o3 13 .mv [.t 12],
  { dst := some 14, k := .mv, xs := [.t 0], g := some (13, false) },
  { dst := some 15, k := (.bin .eql), xs := [.t 14, .c (.d (.int .u8 62))], g := some (13, false) },
  o3 16 .pick [.t 13, .c (.d (.bool true)), .t 15],
  o3 17 .mv [.t 16],
  { dst := some 18, k := .mv, xs := [.t 0], g := some (17, false) },
  { dst := some 19, k := (.bin .eql), xs := [.t 18, .c (.d (.int .u8 240))], g := some (17, false) },
  o3 20 .pick [.t 17, .c (.d (.bool true)), .t 19],
  o3 21 .mv [.t 20],
  { dst := some 22, k := .mv, xs := [.t 0], g := some (21, false) },
  { dst := some 23, k := (.bin .eql), xs := [.t 22, .c (.d (.int .u8 242))], g := some (21, false) },
  o3 24 .pick [.t 21, .c (.d (.bool true)), .t 23],
  o3 25 .mv [.t 24],
  { dst := some 26, k := .mv, xs := [.t 0], g := some (25, false) },
  { dst := some 27, k := (.bin .eql), xs := [.t 26, .c (.d (.int .u8 243))], g := some (25, false) },
  o3 28 .pick [.t 25, .c (.d (.bool true)), .t 27],
  o3 2 .mv [.t 28]]
def F57c4 : Ac := .ret
def F57c2 : Ac := (.seq (.ops F57o3) F57c4)
def F57c0 : Ac := (.seq (.ops F57o1) F57c2)
/-- hansom/hansomref05.prefix -/
def F57 : Fn := { np := 1, pb := [], rs := [.t 2], body := F57c0 }
def F58o1 : List Ao := [
  o3 2 .mv [.c (.nils)]]
def F58o3 : List Ao := [
  o3 3 .mv [.t 0],
  o3 4 (.bin .rem) [.t 3, .c (.d (.int .u16 256))],
  o3 5 (.toInt .u8) [.t 4],
  o3 6 .mv [.t 0],
  o3 7 (.bin .quo) [.t 6, .c (.d (.int .u16 256))],
  o3 8 (.toInt .u8) [.t 7],
  o3 9 (.bslice (.int .u8 0) 2 [0, 1]) [.t 5, .t 8],
  o3 2 .mv [.t 9]]
def F58c4 : Ac := (.seq (.gh [.frz 2]) .ret)
def F58c2 : Ac := (.seq (.ops F58o3) F58c4)
def F58c0 : Ac := (.seq (.ops F58o1) F58c2)
/-- hansom/hansomref05.two -/
def F58 : Fn := { np := 1, pb := [], rs := [.t 2], body := F58c0 }
def F59o1 : List Ao := [
  o3 4 .mv [.c (.d (.int .i64 0))]]
def F59o5 : List Ao := [
  o3 6 .mv [.t 0],
  o3 7 (.bin .eql) [.t 6, .c (.d (.int .i64 1))],
  o3 5 .mv [.t 7]]
def F59o8 : List Ao := [
  o3 4 .mv [.c (.d (.int .i64 1))]]
def F59c9 : Ac := .ret
def F59o12 : List Ao := [
  o3 9 .mv [.t 0],
  o3 10 (.bin .eql) [.t 9, .c (.d (.int .i64 2))],
  o3 8 .mv [.t 10]]
def F59o15 : List Ao := [
  o3 11 .mv [.t 0],
  o3 12 (.bin .eql) [.t 11, .c (.d (.int .i64 0))],
  o3 13 .mv [.t 12],
  { dst := some 14, k := .mv, xs := [.t 1], g := some (13, true) },
  { dst := some 15, k := (.bin .eql), xs := [.t 14, .c (.d (.int .i64 6))], g := some (13, true) },
  o3 16 .pick [.t 13, .t 15, .c (.d (.bool false))],
  o3 8 .mv [.t 16]]
def F59c13 : Ac := (.cond (.t 8) .skip (.ops F59o15))
def F59o18 : List Ao := [
  o3 4 .mv [.c (.d (.int .i64 2))]]
def F59c19 : Ac := .ret
def F59c16 : Ac := (.cond (.t 8) (.seq (.ops F59o18) F59c19) .skip)
def F59c6 : Ac := (.cond (.t 5) (.seq (.ops F59o8) F59c9) (.seq (.seq (.ops F59o12) F59c13) F59c16))
def F59o22 : List Ao := [
  o3 4 .mv [.c (.d (.int .i64 0))]]
def F59c23 : Ac := .ret
def F59c21 : Ac := (.seq (.ops F59o22) F59c23)
def F59c2 : Ac := (.seq (.block 0 (.seq (.ops F59o5) F59c6)) F59c21)
def F59c0 : Ac := (.seq (.ops F59o1) F59c2)
/-- hansom/inst.Disps -/
def F59 : Fn := { np := 2, pb := [], rs := [.t 4], body := F59c0 }
def F60o1 : List Ao := [
  o3 1 (.box 10) [.t 0],
  o3 2 (.alloc [.d (.int .i64 0), .d (.int .i64 0), .d (.int .i64 0), .d (.bool false)]) [],
  o3 3 .mv [.c (.d (.bool false))]]
def F60o4 : List Ao := [
  o3 4 (.faddr 3) [.t 1],
  o3 5 (.load none) [.t 4],
  o3 6 (.callf 20) [.t 5]]
def F60o7 : List Ao := [
  o3 7 (.build [.d (.int .i64 0), .d (.int .i64 0), .d (.int .i64 0), .d (.bool false)] []) [],
  { dst := none, k := (.store 4), xs := [.t 2, .t 7] },
  o3 3 .mv [.c (.d (.bool false))]]
def F60c8 : Ac := .ret
def F60c5 : Ac := (.cond (.t 6) (.seq (.ops F60o7) F60c8) .skip)
def F60o11 : List Ao := [
  o3 8 (.faddr 3) [.t 1],
  o3 9 (.load none) [.t 8],
  o3 10 (.faddr 5) [.t 1],
  o3 11 (.load none) [.t 10],
  o3 12 (.callf 11) [.t 9, .t 11],
  o3 13 (.extract 0) [.t 12],
  o3 14 (.extract 1) [.t 12],
  { dst := none, k := (.store 4), xs := [.t 2, .t 13] },
  o3 3 .mv [.t 14]]
def F60c12 : Ac := .ret
def F60c10 : Ac := (.seq (.ops F60o11) F60c12)
def F60c2 : Ac := (.seq (.seq (.ops F60o4) F60c5) F60c10)
def F60c0 : Ac := (.seq (.ops F60o1) F60c2)
/-- hansom/inst.Row -/
def F60 : Fn := { np := 1, pb := [], rs := [.c 2 (some 4), .t 3], body := F60c0 }
def F61o1 : List Ao := [
  o3 2 (.box 10) [.t 0],
  o3 3 (.box 4) [.t 1],
  o3 4 .mv [.c (.d (.bool false))]]
def F61o4 : List Ao := [
  o3 5 (.faddr 3) [.t 3],
  o3 6 (.load none) [.t 5],
  o3 7 (.un .not) [.t 6]]
def F61o7 : List Ao := [
  o3 8 (.faddr 4) [.t 2],
  o3 9 (.load none) [.t 8],
  o3 10 (.bin .eql) [.t 9, .c (.d (.int .i64 0))],
  o3 11 .mv [.t 10],
  { dst := some 12, k := (.faddr 5), xs := [.t 2], g := some (11, true) },
  { dst := some 13, k := (.load none), xs := [.t 12], g := some (11, true) },
  { dst := some 14, k := (.bin .eql), xs := [.t 13, .c (.d (.int .i64 0))], g := some (11, true) },
  o3 15 .pick [.t 11, .t 14, .c (.d (.bool false))],
  o3 16 .mv [.t 15],
  { dst := some 17, k := (.faddr 6), xs := [.t 2], g := some (16, true) },
  { dst := some 18, k := (.load none), xs := [.t 17], g := some (16, true) },
  { dst := some 19, k := (.bin .eql), xs := [.t 18, .c (.d (.int .i64 0))], g := some (16, true) },
  o3 20 .pick [.t 16, .t 19, .c (.d (.bool false))],
  o3 21 .mv [.t 20],
  { dst := some 22, k := (.faddr 7), xs := [.t 2], g := some (21, true) },
  { dst := some 23, k := (.load none), xs := [.t 22], g := some (21, true) },
  { dst := some 24, k := (.bin .eql), xs := [.t 23, .c (.d (.int .u16 0))], g := some (21, true) },
  o3 25 .pick [.t 21, .t 24, .c (.d (.bool false))],
  o3 4 .mv [.t 25]]
def F61c8 : Ac := .ret
def F61c5 : Ac := (.cond (.t 7) (.seq (.ops F61o7) F61c8) .skip)
def F61o12 : List Ao := [
  o3 26 (.faddr 4) [.t 2],
  o3 27 (.load none) [.t 26],
  o3 28 (.bin .lss) [.t 27, .c (.d (.int .i64 0))],
  o3 29 .mv [.t 28],
  { dst := some 30, k := (.faddr 4), xs := [.t 2], g := some (29, false) },
  { dst := some 31, k := (.load none), xs := [.t 30], g := some (29, false) },
  { dst := some 32, k := (.bin .gtr), xs := [.t 31, .c (.d (.int .i64 3))], g := some (29, false) },
  o3 33 .pick [.t 29, .c (.d (.bool true)), .t 32],
  o3 34 .mv [.t 33],
  { dst := some 35, k := (.faddr 5), xs := [.t 2], g := some (34, false) },
  { dst := some 36, k := (.load none), xs := [.t 35], g := some (34, false) },
  { dst := some 37, k := (.bin .lss), xs := [.t 36, .c (.d (.int .i64 0))], g := some (34, false) },
  o3 38 .pick [.t 34, .c (.d (.bool true)), .t 37],
  o3 39 .mv [.t 38],
  { dst := some 40, k := (.faddr 5), xs := [.t 2], g := some (39, false) },
  { dst := some 41, k := (.load none), xs := [.t 40], g := some (39, false) },
  { dst := some 42, k := (.bin .gtr), xs := [.t 41, .c (.d (.int .i64 7))], g := some (39, false) },
  o3 43 .pick [.t 39, .c (.d (.bool true)), .t 42],
  o3 44 .mv [.t 43],
  { dst := some 45, k := (.faddr 6), xs := [.t 2], g := some (44, false) },
  { dst := some 46, k := (.load none), xs := [.t 45], g := some (44, false) },
  { dst := some 47, k := (.bin .lss), xs := [.t 46, .c (.d (.int .i64 0))], g := some (44, false) },
  o3 48 .pick [.t 44, .c (.d (.bool true)), .t 47],
  o3 49 .mv [.t 48],
  { dst := some 50, k := (.faddr 6), xs := [.t 2], g := some (49, false) },
  { dst := some 51, k := (.load none), xs := [.t 50], g := some (49, false) },
  { dst := some 52, k := (.bin .gtr), xs := [.t 51, .c (.d (.int .i64 7))], g := some (49, false) },
  o3 53 .pick [.t 49, .c (.d (.bool true)), .t 52]]
def F61o15 : List Ao := [
  o3 4 .mv [.c (.d (.bool false))]]
def F61c16 : Ac := .ret
def F61c13 : Ac := (.cond (.t 53) (.seq (.ops F61o15) F61c16) .skip)
def F61o20 : List Ao := [
  o3 54 (.faddr 4) [.t 2],
  o3 55 (.load none) [.t 54],
  o3 56 (.bin .eql) [.t 55, .c (.d (.int .i64 3))],
  o3 57 .mv [.t 56],
  { dst := some 58, k := (.faddr 1), xs := [.t 3], g := some (57, true) },
  { dst := some 59, k := (.load none), xs := [.t 58], g := some (57, true) },
  { dst := some 60, k := (.bin .eql), xs := [.t 59, .c (.d (.int .i64 19))], g := some (57, true) },
  { dst := some 61, k := .mv, xs := [.t 60], g := some (57, true) },
  { dst := some 62, k := (.faddr 2), xs := [.t 3], g := some (61, false) },
  { dst := some 63, k := (.load none), xs := [.t 62], g := some (61, false) },
  { dst := some 64, k := (.bin .eql), xs := [.t 63, .c (.d (.int .i64 19))], g := some (61, false) },
  { dst := some 65, k := .pick, xs := [.t 61, .c (.d (.bool true)), .t 64], g := some (57, true) },
  { dst := some 66, k := .mv, xs := [.t 65], g := some (57, true) },
  { dst := some 67, k := (.faddr 2), xs := [.t 3], g := some (66, false) },
  { dst := some 68, k := (.load none), xs := [.t 67], g := some (66, false) },
  { dst := some 69, k := (.bin .eql), xs := [.t 68, .c (.d (.int .i64 20))], g := some (66, false) },
  { dst := some 70, k := .pick, xs := [.t 66, .c (.d (.bool true)), .t 69], g := some (57, true) },
  o3 71 .pick [.t 57, .t 70, .c (.d (.bool false))]]
def F61o23 : List Ao := [
  o3 4 .mv [.c (.d (.bool false))]]
def F61c24 : Ac := .ret
def F61c21 : Ac := (.cond (.t 71) (.seq (.ops F61o23) F61c24) .skip)
def F61o28 : List Ao := [
  o3 72 (.faddr 4) [.t 2],
  o3 73 (.load none) [.t 72],
  o3 74 (.faddr 6) [.t 2],
  o3 75 (.load none) [.t 74],
  o3 76 (.callf 59) [.t 73, .t 75]]
def F61o31 : List Ao := [
  o3 78 (.bin .eql) [.t 76, .c (.d (.int .i64 0))],
  o3 77 .mv [.t 78]]
def F61o34 : List Ao := [
  o3 79 (.faddr 7) [.t 2],
  o3 80 (.load none) [.t 79],
  o3 81 (.bin .eql) [.t 80, .c (.d (.int .u16 0))],
  o3 4 .mv [.t 81]]
def F61c35 : Ac := .ret
def F61o37 : List Ao := [
  o3 83 (.bin .eql) [.t 76, .c (.d (.int .i64 1))],
  o3 82 .mv [.t 83]]
def F61o40 : List Ao := [
  o3 84 (.faddr 7) [.t 2],
  o3 85 (.load none) [.t 84],
  o3 86 (.callf 68) [.t 85],
  o3 4 .mv [.t 86]]
def F61c41 : Ac := .ret
def F61c38 : Ac := (.cond (.t 82) (.seq (.ops F61o40) F61c41) .skip)
def F61c32 : Ac := (.cond (.t 77) (.seq (.ops F61o34) F61c35) (.seq (.ops F61o37) F61c38))
def F61c29 : Ac := (.block 0 (.seq (.ops F61o31) F61c32))
def F61o44 : List Ao := [
  o3 4 .mv [.c (.d (.bool true))]]
def F61c45 : Ac := .ret
def F61c43 : Ac := (.seq (.ops F61o44) F61c45)
def F61b26 : Ac := (.seq (.seq (.ops F61o28) F61c29) F61c43)
def F61c26 : Ac := (.seq (.gh []) (.seq (.keep [2] [[2]]) F61b26))
def F61c18 : Ac := (.seq (.seq (.ops F61o20) F61c21) F61c26)
def F61c10 : Ac := (.seq (.seq (.ops F61o12) F61c13) F61c18)
def F61c2 : Ac := (.seq (.seq (.ops F61o4) F61c5) F61c10)
def F61c0 : Ac := (.seq (.ops F61o1) F61c2)
/-- hansom/inst.second -/
def F61 : Fn := { np := 2, pb := [], rs := [.t 4], body := F61c0 }
def F62o1 : List Ao := [
  o3 2 (.box 10) [.t 0],
  o3 3 (.box 4) [.t 1],
  o3 4 .mv [.c (.d (.bool false))]]
def F62o4 : List Ao := [
  o3 7 (.faddr 1) [.t 3],
  o3 8 (.load none) [.t 7],
  o3 9 (.faddr 2) [.t 3],
  o3 10 (.load none) [.t 9],
  o3 11 (.build [.d (.int .i64 0), .d (.int .i64 0)] [(0, 1), (1, 1)]) [.t 8, .t 10],
  o3 12 .mv [.c (.d (.int .i64 0))]]
def F62o8 : List Ao := [
  o3 13 (.bin .lss) [.t 12, .c (.d (.int .i64 2))]]
def F62o16 : List Ao := [
  o3 14 (.indexA 2 1 none) [.t 11, .t 12],
  o3 6 .mv [.t 14]]
def F62o18 : List Ao := [
  o3 15 .mv [.t 6]]
def F62o21 : List Ao := [
  o3 17 (.bin .eql) [.t 15, .c (.d (.int .i64 6))],
  o3 16 .mv [.t 17]]
def F62o24 : List Ao := [
  o3 18 (.faddr 8) [.t 2],
  o3 19 (.load none) [.t 18],
  o3 20 (.bin .lss) [.t 19, .c (.d (.int .u16 256))],
  o3 21 .mv [.t 20],
  { dst := some 22, k := (.faddr 9), xs := [.t 2], g := some (21, true) },
  { dst := some 23, k := (.load none), xs := [.t 22], g := some (21, true) },
  { dst := some 24, k := (.bin .eql), xs := [.t 23, .c (.d (.int .u16 0))], g := some (21, true) },
  o3 25 .pick [.t 21, .t 24, .c (.d (.bool false))],
  o3 26 .mv [.t 25],
  { dst := some 27, k := (.faddr 0), xs := [.t 3], g := some (26, true) },
  { dst := some 28, k := (.load none), xs := [.t 27], g := some (26, true) },
  { dst := some 29, k := (.bin .neq), xs := [.t 28, .c (.d (.int .i64 70))], g := some (26, true) },
  { dst := some 30, k := .mv, xs := [.t 29], g := some (26, true) },
  { dst := some 31, k := (.faddr 0), xs := [.t 3], g := some (30, true) },
  { dst := some 32, k := (.load none), xs := [.t 31], g := some (30, true) },
  { dst := some 33, k := (.bin .neq), xs := [.t 32, .c (.d (.int .i64 71))], g := some (30, true) },
  { dst := some 34, k := .pick, xs := [.t 30, .t 33, .c (.d (.bool false))], g := some (26, true) },
  { dst := some 35, k := .mv, xs := [.t 34], g := some (26, true) },
  { dst := some 36, k := (.faddr 8), xs := [.t 2], g := some (35, false) },
  { dst := some 37, k := (.load none), xs := [.t 36], g := some (35, false) },
  { dst := some 38, k := (.bin .eql), xs := [.t 37, .c (.d (.int .u16 10))], g := some (35, false) },
  { dst := some 39, k := .pick, xs := [.t 35, .c (.d (.bool true)), .t 38], g := some (26, true) },
  o3 40 .pick [.t 26, .t 39, .c (.d (.bool false))],
  o3 4 .mv [.t 40]]
def F62c25 : Ac := .ret
def F62o28 : List Ao := [
  o3 42 (.bin .eql) [.t 15, .c (.d (.int .i64 8))],
  o3 41 .mv [.t 42]]
def F62o31 : List Ao := [
  o3 43 (.bin .eql) [.t 15, .c (.d (.int .i64 9))],
  o3 41 .mv [.t 43]]
def F62c29 : Ac := (.cond (.t 41) .skip (.ops F62o31))
def F62o34 : List Ao := [
  o3 44 (.faddr 8) [.t 2],
  o3 45 (.load none) [.t 44],
  o3 46 (.callf 68) [.t 45],
  o3 47 .mv [.t 46],
  { dst := some 48, k := (.faddr 9), xs := [.t 2], g := some (47, true) },
  { dst := some 49, k := (.load none), xs := [.t 48], g := some (47, true) },
  { dst := some 50, k := (.bin .eql), xs := [.t 49, .c (.d (.int .u16 0))], g := some (47, true) },
  o3 51 .pick [.t 47, .t 50, .c (.d (.bool false))],
  o3 4 .mv [.t 51]]
def F62c35 : Ac := .ret
def F62o38 : List Ao := [
  o3 53 (.bin .eql) [.t 15, .c (.d (.int .i64 7))],
  o3 52 .mv [.t 53]]
def F62o42 : List Ao := [
  o3 54 (.bin .eql) [.t 15, .c (.d (.int .i64 10))],
  o3 52 .mv [.t 54]]
def F62o46 : List Ao := [
  o3 55 (.bin .eql) [.t 15, .c (.d (.int .i64 12))],
  o3 52 .mv [.t 55]]
def F62o49 : List Ao := [
  o3 56 (.bin .eql) [.t 15, .c (.d (.int .i64 13))],
  o3 52 .mv [.t 56]]
def F62c47 : Ac := (.cond (.t 52) .skip (.ops F62o49))
def F62c43 : Ac := (.cond (.t 52) .skip (.seq (.ops F62o46) F62c47))
def F62c39 : Ac := (.cond (.t 52) .skip (.seq (.ops F62o42) F62c43))
def F62o52 : List Ao := [
  o3 57 (.faddr 9) [.t 2],
  o3 58 (.load none) [.t 57],
  o3 59 (.bin .eql) [.t 58, .c (.d (.int .u16 0))],
  o3 4 .mv [.t 59]]
def F62c53 : Ac := .ret
def F62o55 : List Ao := [
  o3 61 (.bin .eql) [.t 15, .c (.d (.int .i64 11))],
  o3 60 .mv [.t 61]]
def F62o58 : List Ao := [
  o3 4 .mv [.c (.d (.bool true))]]
def F62c59 : Ac := .ret
def F62c56 : Ac := (.cond (.t 60) (.seq (.ops F62o58) F62c59) .skip)
def F62c50 : Ac := (.cond (.t 52) (.seq (.ops F62o52) F62c53) (.seq (.ops F62o55) F62c56))
def F62b32 : Ac := (.cond (.t 41) (.seq (.ops F62o34) F62c35) (.seq (.seq (.ops F62o38) F62c39) F62c50))
def F62c32 : Ac := (.seq (.gh []) (.seq (.keep [2, 3, 11, 12, 15, 41] [[2], [3]]) F62b32))
def F62c22 : Ac := (.cond (.t 16) (.seq (.ops F62o24) F62c25) (.seq (.seq (.ops F62o28) F62c29) F62c32))
def F62c19 : Ac := (.block 2 (.seq (.ops F62o21) F62c22))
def F62c17 : Ac := (.seq (.ops F62o18) F62c19)
def F62o61 : List Ao := [
  o3 62 (.bin .add) [.t 12, .c (.d (.int .i64 1))],
  o3 12 .mv [.t 62]]
def F62c61 : Ac := (.ops F62o61)
def F62c13 : Ac := (.seq (.block 1 (.seq (.ops F62o16) F62c17)) F62c61)
def F62c9 : Ac := (.seq (.cond (.t 13) .skip (.exit 0)) F62c13)
def F62l6 : Ac := (.seq (.ops F62o8) F62c9)
def F62c5 : Ac := (.block 0 (.loop (.seq (.gh []) (.seq (.keep [2, 3, 11, 12] [[2], [3]]) F62l6))))
def F62o63 : List Ao := [
  o3 63 (.faddr 8) [.t 2],
  o3 64 (.load none) [.t 63],
  o3 65 (.bin .eql) [.t 64, .c (.d (.int .u16 0))],
  o3 66 .mv [.t 65],
  { dst := some 67, k := (.faddr 9), xs := [.t 2], g := some (66, true) },
  { dst := some 68, k := (.load none), xs := [.t 67], g := some (66, true) },
  { dst := some 69, k := (.bin .eql), xs := [.t 68, .c (.d (.int .u16 0))], g := some (66, true) },
  o3 70 .pick [.t 66, .t 69, .c (.d (.bool false))],
  o3 4 .mv [.t 70]]
def F62c64 : Ac := .ret
def F62b62 : Ac := (.seq (.ops F62o63) F62c64)
def F62c62 : Ac := (.seq (.gh []) (.seq (.keep [2] [[2]]) F62b62))
def F62c2 : Ac := (.seq (.seq (.ops F62o4) F62c5) F62c62)
def F62c0 : Ac := (.seq (.ops F62o1) F62c2)
/-- hansom/inst.behind -/
def F62 : Fn := { np := 2, pb := [], rs := [.t 4], body := F62c0 }
def F63o1 : List Ao := [
  o3 2 (.box 10) [.t 0],
  o3 3 (.box 4) [.t 1],
  o3 4 .mv [.c (.d (.bool false))]]
def F63o3 : List Ao := [
  o3 6 (.faddr 0) [.t 3],
  o3 7 (.load none) [.t 6],
  o3 8 (.callf 15) [.t 7],
  o3 5 .mv [.t 8]]
def F63o6 : List Ao := [
  o3 9 (.faddr 1) [.t 2],
  o3 10 (.load none) [.t 9]]
def F63o9 : List Ao := [
  o3 12 (.bin .eql) [.t 10, .c (.d (.int .i64 0))],
  o3 11 .mv [.t 12]]
def F63o13 : List Ao := [
  o3 14 (.bin .eql) [.t 10, .c (.d (.int .i64 1))],
  o3 13 .mv [.t 14]]
def F63o16 : List Ao := [
  o3 15 .mv [.t 5],
  o3 16 (.bin .lss) [.t 15, .c (.d (.int .i64 2))]]
def F63o19 : List Ao := [
  o3 4 .mv [.c (.d (.bool false))]]
def F63c20 : Ac := .ret
def F63c17 : Ac := (.cond (.t 16) (.seq (.ops F63o19) F63c20) .skip)
def F63o23 : List Ao := [
  o3 18 (.bin .eql) [.t 10, .c (.d (.int .i64 2))],
  o3 17 .mv [.t 18]]
def F63o26 : List Ao := [
  o3 19 .mv [.t 5],
  o3 20 (.bin .lss) [.t 19, .c (.d (.int .i64 1))]]
def F63o29 : List Ao := [
  o3 4 .mv [.c (.d (.bool false))]]
def F63c30 : Ac := .ret
def F63c27 : Ac := (.cond (.t 20) (.seq (.ops F63o29) F63c30) .skip)
def F63o33 : List Ao := [
  o3 4 .mv [.c (.d (.bool false))]]
def F63c34 : Ac := .ret
def F63c24 : Ac := (.cond (.t 17) (.seq (.ops F63o26) F63c27) (.seq (.ops F63o33) F63c34))
def F63c14 : Ac := (.cond (.t 13) (.seq (.ops F63o16) F63c17) (.seq (.ops F63o23) F63c24))
def F63c10 : Ac := (.cond (.t 11) .skip (.seq (.ops F63o13) F63c14))
def F63c7 : Ac := (.block 0 (.seq (.ops F63o9) F63c10))
def F63o36 : List Ao := [
  o3 21 (.faddr 2) [.t 2],
  o3 22 (.load none) [.t 21],
  o3 23 (.bin .geq) [.t 22, .c (.d (.int .i64 0))],
  o3 24 .mv [.t 23],
  { dst := some 25, k := (.faddr 2), xs := [.t 2], g := some (24, true) },
  { dst := some 26, k := (.load none), xs := [.t 25], g := some (24, true) },
  { dst := some 27, k := (.bin .leq), xs := [.t 26, .c (.d (.int .i64 4))], g := some (24, true) },
  o3 28 .pick [.t 24, .t 27, .c (.d (.bool false))],
  o3 4 .mv [.t 28]]
def F63c37 : Ac := .ret
def F63c35 : Ac := (.seq (.ops F63o36) F63c37)
def F63c4 : Ac := (.seq (.seq (.ops F63o6) F63c7) F63c35)
def F63c2 : Ac := (.seq (.ops F63o3) F63c4)
def F63c0 : Ac := (.seq (.ops F63o1) F63c2)
/-- hansom/inst.prefixes -/
def F63 : Fn := { np := 2, pb := [], rs := [.t 4], body := F63c0 }
def F64o1 : List Ao := [
  o3 1 (.box 4) [.t 0],
  o3 2 .mv [.c (.d (.int .i64 0))]]
def F64o3 : List Ao := [
  o3 3 (.faddr 1) [.t 1],
  o3 4 (.load none) [.t 3],
  { dst := some 5, k := (.callf 17), xs := [.t 4], al := some [] },
  o3 6 (.faddr 2) [.t 1],
  { dst := some 7, k := (.load none), xs := [.t 6], av := [[5]] },
  o3 8 (.callf 17) [.t 7],
  o3 9 (.bin .add) [.t 5, .t 8],
  o3 2 .mv [.t 9]]
def F64c4 : Ac := .ret
def F64c2 : Ac := (.seq (.ops F64o3) F64c4)
def F64c0 : Ac := (.seq (.ops F64o1) F64c2)
/-- hansom/inst.Imms -/
def F64 : Fn := { np := 1, pb := [], rs := [.t 2], body := F64c0 }
def F67o1 : List Ao := [
  o3 6 (.alloc [.d (.int .i64 0), .d (.int .i64 0), .d (.int .i64 0), .d (.bool false)]) [],
  o3 7 .mv [.c (.d (.bool false))]]
def F67o3 : List Ao := [
  o3 8 .mv [.t 0],
  o3 9 .mv [.t 1],
  o3 10 .mv [.t 2],
  o3 11 (.build [.d (.int .i64 0), .d (.int .i64 0), .d (.int .i64 0), .d (.bool false)] [(0, 1), (1, 1), (2, 1), (3, 1)]) [.t 8, .t 9, .t 10, .c (.d (.bool true))],
  { dst := none, k := (.store 4), xs := [.t 6, .t 11] },
  o3 7 .mv [.c (.d (.bool true))]]
def F67c4 : Ac := .ret
def F67c2 : Ac := (.seq (.ops F67o3) F67c4)
def F67c0 : Ac := (.seq (.ops F67o1) F67c2)
/-- hansom/isa.mod -/
def F67 : Fn := { np := 3, pb := [], rs := [.c 6 (some 4), .t 7], body := F67c0 }
def F68o1 : List Ao := [
  o3 2 .mv [.c (.d (.bool false))]]
def F68o3 : List Ao := [
  o3 3 .mv [.t 0],
  o3 4 (.callf 73) [.t 3],
  o3 5 (.callf 72) [.t 4],
  o3 6 .mv [.t 0],
  o3 7 (.bin .eql) [.t 5, .t 6],
  o3 2 .mv [.t 7]]
def F68c4 : Ac := .ret
def F68c2 : Ac := (.seq (.ops F68o3) F68c4)
def F68c0 : Ac := (.seq (.ops F68o1) F68c2)
/-- hansom/bits.Fits -/
def F68 : Fn := { np := 1, pb := [], rs := [.t 2], body := F68c0 }
def F72o1 : List Ao := [
  o3 2 .mv [.c (.d (.int .u16 0))]]
def F72o3 : List Ao := [
  o3 3 .mv [.t 0],
  o3 4 (.toInt .i8) [.t 3],
  o3 5 (.toInt .i16) [.t 4],
  o3 6 (.toInt .u16) [.t 5],
  o3 2 .mv [.t 6]]
def F72c4 : Ac := .ret
def F72c2 : Ac := (.seq (.ops F72o3) F72c4)
def F72c0 : Ac := (.seq (.ops F72o1) F72c2)
/-- hansom/bits.Sign -/
def F72 : Fn := { np := 1, pb := [], rs := [.t 2], body := F72c0 }
def F73o1 : List Ao := [
  o3 2 .mv [.c (.d (.int .u8 0))]]
def F73o3 : List Ao := [
  o3 3 .mv [.t 0],
  o3 4 (.toInt .u8) [.t 3],
  o3 2 .mv [.t 4]]
def F73c4 : Ac := .ret
def F73c2 : Ac := (.seq (.ops F73o3) F73c4)
def F73c0 : Ac := (.seq (.ops F73o1) F73c2)
/-- hansom/bits.Low -/
def F73 : Fn := { np := 1, pb := [], rs := [.t 2], body := F73c0 }
def tab1 : Nat → Option Fn
  | 6 => some F6
  | 7 => some F7
  | 11 => some F11
  | 15 => some F15
  | 16 => some F16
  | 17 => some F17
  | 18 => some F18
  | 20 => some F20
  | 21 => some F21
  | 24 => some F24
  | 25 => some F25
  | 26 => some F26
  | 27 => some F27
  | 28 => some F28
  | 29 => some F29
  | 30 => some F30
  | 31 => some F31
  | 32 => some F32
  | 33 => some F33
  | 37 => some F37
  | 38 => some F38
  | 39 => some F39
  | 40 => some F40
  | 41 => some F41
  | 42 => some F42
  | 43 => some F43
  | 44 => some F44
  | 45 => some F45
  | 46 => some F46
  | 47 => some F47
  | 48 => some F48
  | 49 => some F49
  | 50 => some F50
  | 51 => some F51
  | 52 => some F52
  | 53 => some F53
  | 54 => some F54
  | 55 => some F55
  | 56 => some F56
  | 57 => some F57
  | 58 => some F58
  | 59 => some F59
  | 60 => some F60
  | 61 => some F61
  | 62 => some F62
  | 63 => some F63
  | 64 => some F64
  | 67 => some F67
  | 68 => some F68
  | 72 => some F72
  | 73 => some F73
  | _ => none
noncomputable def L : Cs := lim tab1 (fun _ _ => none)

theorem no_globals : GOk (fun _ _ => none) (fun _ => none) := fun n a h => by cases h
theorem ok6 : FnOk (fun _ _ => none) Try.prog 6 F6 := compF_spec no_globals Try.func6 (by kernel_rfl)
theorem ok7 : FnOk (fun _ _ => none) Try.prog 7 F7 := compF_spec no_globals Try.func7 (by kernel_rfl)
theorem ok11 : FnOk (fun _ _ => none) Try.prog 11 F11 := compF_spec no_globals Try.func11 (by kernel_rfl)
theorem ok15 : FnOk (fun _ _ => none) Try.prog 15 F15 := compF_spec no_globals Try.func15 (by kernel_rfl)
theorem ok16 : FnOk (fun _ _ => none) Try.prog 16 F16 := compF_spec no_globals Try.func16 (by kernel_rfl)
theorem ok17 : FnOk (fun _ _ => none) Try.prog 17 F17 := compF_spec no_globals Try.func17 (by kernel_rfl)
theorem ok18 : FnOk (fun _ _ => none) Try.prog 18 F18 := compF_spec no_globals Try.func18 (by kernel_rfl)
theorem ok20 : FnOk (fun _ _ => none) Try.prog 20 F20 := compF_spec no_globals Try.func20 (by kernel_rfl)
theorem ok21 : FnOk (fun _ _ => none) Try.prog 21 F21 := compF_spec no_globals Try.func21 (by kernel_rfl)
theorem ok24 : FnOk (fun _ _ => none) Try.prog 24 F24 := compF_spec no_globals Try.func24 (by kernel_rfl)
theorem ok25 : FnOk (fun _ _ => none) Try.prog 25 F25 := compF_spec no_globals Try.func25 (by kernel_rfl)
theorem ok26 : FnOk (fun _ _ => none) Try.prog 26 F26 := compF_spec no_globals Try.func26 (by kernel_rfl)
theorem ok27 : FnOk (fun _ _ => none) Try.prog 27 F27 := compF_spec no_globals Try.func27 (by kernel_rfl)
theorem ok28 : FnOk (fun _ _ => none) Try.prog 28 F28 := compF_spec no_globals Try.func28 (by kernel_rfl)
theorem ok29 : FnOk (fun _ _ => none) Try.prog 29 F29 := compF_spec no_globals Try.func29 (by kernel_rfl)
theorem ok30 : FnOk (fun _ _ => none) Try.prog 30 F30 := compF_spec no_globals Try.func30 (by kernel_rfl)
theorem ok31 : FnOk (fun _ _ => none) Try.prog 31 F31 := compF_spec no_globals Try.func31 (by kernel_rfl)
theorem ok32 : FnOk (fun _ _ => none) Try.prog 32 F32 := compF_spec no_globals Try.func32 (by kernel_rfl)
theorem ok33 : FnOk (fun _ _ => none) Try.prog 33 F33 := compF_spec no_globals Try.func33 (by kernel_rfl)
theorem ok37 : FnOk (fun _ _ => none) Try.prog 37 F37 := compF_spec no_globals Try.func37 (by kernel_rfl)
theorem ok38 : FnOk (fun _ _ => none) Try.prog 38 F38 := compF_spec no_globals Try.func38 (by kernel_rfl)
theorem ok39 : FnOk (fun _ _ => none) Try.prog 39 F39 := compF_spec no_globals Try.func39 (by kernel_rfl)
theorem ok40 : FnOk (fun _ _ => none) Try.prog 40 F40 := compF_spec no_globals Try.func40 (by kernel_rfl)
theorem ok41 : FnOk (fun _ _ => none) Try.prog 41 F41 := compF_spec no_globals Try.func41 (by kernel_rfl)
theorem ok42 : FnOk (fun _ _ => none) Try.prog 42 F42 := compF_spec no_globals Try.func42 (by kernel_rfl)
theorem ok43 : FnOk (fun _ _ => none) Try.prog 43 F43 := compF_spec no_globals Try.func43 (by kernel_rfl)
theorem ok44 : FnOk (fun _ _ => none) Try.prog 44 F44 := compF_spec no_globals Try.func44 (by kernel_rfl)
theorem ok45 : FnOk (fun _ _ => none) Try.prog 45 F45 := compF_spec no_globals Try.func45 (by kernel_rfl)
theorem ok46 : FnOk (fun _ _ => none) Try.prog 46 F46 := compF_spec no_globals Try.func46 (by kernel_rfl)
theorem ok47 : FnOk (fun _ _ => none) Try.prog 47 F47 := compF_spec no_globals Try.func47 (by kernel_rfl)
theorem ok48 : FnOk (fun _ _ => none) Try.prog 48 F48 := compF_spec no_globals Try.func48 (by kernel_rfl)
theorem ok49 : FnOk (fun _ _ => none) Try.prog 49 F49 := compF_spec no_globals Try.func49 (by kernel_rfl)
theorem ok50 : FnOk (fun _ _ => none) Try.prog 50 F50 := compF_spec no_globals Try.func50 (by kernel_rfl)
theorem ok51 : FnOk (fun _ _ => none) Try.prog 51 F51 := compF_spec no_globals Try.func51 (by kernel_rfl)
theorem ok52 : FnOk (fun _ _ => none) Try.prog 52 F52 := compF_spec no_globals Try.func52 (by kernel_rfl)
theorem ok53 : FnOk (fun _ _ => none) Try.prog 53 F53 := compF_spec no_globals Try.func53 (by kernel_rfl)
theorem ok54 : FnOk (fun _ _ => none) Try.prog 54 F54 := compF_spec no_globals Try.func54 (by kernel_rfl)
theorem ok55 : FnOk (fun _ _ => none) Try.prog 55 F55 := compF_spec no_globals Try.func55 (by kernel_rfl)
theorem ok56 : FnOk (fun _ _ => none) Try.prog 56 F56 := compF_spec no_globals Try.func56 (by kernel_rfl)
theorem ok57 : FnOk (fun _ _ => none) Try.prog 57 F57 := compF_spec no_globals Try.func57 (by kernel_rfl)
theorem ok58 : FnOk (fun _ _ => none) Try.prog 58 F58 := compF_spec no_globals Try.func58 (by kernel_rfl)
theorem ok59 : FnOk (fun _ _ => none) Try.prog 59 F59 := compF_spec no_globals Try.func59 (by kernel_rfl)
theorem ok60 : FnOk (fun _ _ => none) Try.prog 60 F60 := compF_spec no_globals Try.func60 (by kernel_rfl)
theorem ok61 : FnOk (fun _ _ => none) Try.prog 61 F61 := compF_spec no_globals Try.func61 (by kernel_rfl)
theorem ok62 : FnOk (fun _ _ => none) Try.prog 62 F62 := compF_spec no_globals Try.func62 (by kernel_rfl)
theorem ok63 : FnOk (fun _ _ => none) Try.prog 63 F63 := compF_spec no_globals Try.func63 (by kernel_rfl)
theorem ok64 : FnOk (fun _ _ => none) Try.prog 64 F64 := compF_spec no_globals Try.func64 (by kernel_rfl)
theorem ok67 : FnOk (fun _ _ => none) Try.prog 67 F67 := compF_spec no_globals Try.func67 (by kernel_rfl)
theorem ok68 : FnOk (fun _ _ => none) Try.prog 68 F68 := compF_spec no_globals Try.func68 (by kernel_rfl)
theorem ok72 : FnOk (fun _ _ => none) Try.prog 72 F72 := compF_spec no_globals Try.func72 (by kernel_rfl)
theorem ok73 : FnOk (fun _ _ => none) Try.prog 73 F73 := compF_spec no_globals Try.func73 (by kernel_rfl)
theorem tab1_ok : ∀ f fn, tab1 f = some fn → FnOk (fun _ _ => none) Try.prog f fn := by
  intro f fn h
  unfold tab1 at h
  split at h <;> cases h
  · exact ok6
  · exact ok7
  · exact ok11
  · exact ok15
  · exact ok16
  · exact ok17
  · exact ok18
  · exact ok20
  · exact ok21
  · exact ok24
  · exact ok25
  · exact ok26
  · exact ok27
  · exact ok28
  · exact ok29
  · exact ok30
  · exact ok31
  · exact ok32
  · exact ok33
  · exact ok37
  · exact ok38
  · exact ok39
  · exact ok40
  · exact ok41
  · exact ok42
  · exact ok43
  · exact ok44
  · exact ok45
  · exact ok46
  · exact ok47
  · exact ok48
  · exact ok49
  · exact ok50
  · exact ok51
  · exact ok52
  · exact ok53
  · exact ok54
  · exact ok55
  · exact ok56
  · exact ok57
  · exact ok58
  · exact ok59
  · exact ok60
  · exact ok61
  · exact ok62
  · exact ok63
  · exact ok64
  · exact ok67
  · exact ok68
  · exact ok72
  · exact ok73
theorem meets1 (f : Nat) : Meets (fun _ _ => none) Try.prog f (L f) := lim_meets tab1_ok (fun f _ m w args vs bs _ _ _ _ _ r a h => by cases h) f

end Go.Es.Ins
