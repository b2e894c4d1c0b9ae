/- The code of the functions that the statement IsaAll reaches, as the interpreter reads it. No condition. -/
import Derived.Test.YtncfbghdnnhfiaaEsD
import Derived.Test.YtncfbghdnnhfiaaChecked
import Derived.KernelRfl
set_option linter.unusedVariables false
set_option linter.unusedSimpArgs false
set_option maxRecDepth 100000
set_option maxHeartbeats 4000000
namespace Go.Es.Iaa
open Go.Proofs
def F3o1 : List Ao := [
  o3 2 .mv [.c (.d (.bool false))]]
def F3o3 : List Ao := [
  o3 11 (.build [.d (.bool false), .d (.bool false), .d (.bool false), .d (.bool false), .d (.bool false), .d (.bool false), .d (.bool false), .d (.bool false), .d (.bool false), .d (.bool false), .d (.bool false), .d (.bool false), .d (.bool false), .d (.bool false), .d (.bool false), .d (.bool false), .d (.bool false), .d (.bool false), .d (.bool false), .d (.bool false), .d (.bool false), .d (.bool false), .d (.bool false), .d (.bool false), .d (.bool false), .d (.bool false), .d (.bool false), .d (.bool false), .d (.bool false), .d (.bool false), .d (.bool false), .d (.bool false), .d (.bool false), .d (.bool false), .d (.bool false), .d (.bool false), .d (.bool false), .d (.bool false), .d (.bool false), .d (.bool false), .d (.bool false), .d (.bool false), .d (.bool false), .d (.bool false), .d (.bool false), .d (.bool false), .d (.bool false), .d (.bool false), .d (.bool false), .d (.bool false), .d (.bool false), .d (.bool false), .d (.bool false), .d (.bool false), .d (.bool false), .d (.bool false), .d (.bool false), .d (.bool false), .d (.bool false), .d (.bool false), .d (.bool false), .d (.bool false), .d (.bool false), .d (.bool false), .d (.bool false), .d (.bool false), .d (.bool false), .d (.bool false), .d (.bool false), .d (.bool false), .d (.bool false), .d (.bool false), .d (.bool false), .d (.bool false), .d (.bool false), .d (.bool false), .d (.bool false), .d (.bool false), .d (.bool false), .d (.bool false), .d (.bool false), .d (.bool false), .d (.bool false), .d (.bool false), .d (.bool false), .d (.bool false), .d (.bool false), .d (.bool false), .d (.bool false), .d (.bool false), .d (.bool false), .d (.bool false), .d (.bool false), .d (.bool false), .d (.bool false), .d (.bool false)] []) [],
  o3 4 (.alloc [.d (.bool false), .d (.bool false), .d (.bool false), .d (.bool false), .d (.bool false), .d (.bool false), .d (.bool false), .d (.bool false), .d (.bool false), .d (.bool false), .d (.bool false), .d (.bool false), .d (.bool false), .d (.bool false), .d (.bool false), .d (.bool false), .d (.bool false), .d (.bool false), .d (.bool false), .d (.bool false), .d (.bool false), .d (.bool false), .d (.bool false), .d (.bool false), .d (.bool false), .d (.bool false), .d (.bool false), .d (.bool false), .d (.bool false), .d (.bool false), .d (.bool false), .d (.bool false), .d (.bool false), .d (.bool false), .d (.bool false), .d (.bool false), .d (.bool false), .d (.bool false), .d (.bool false), .d (.bool false), .d (.bool false), .d (.bool false), .d (.bool false), .d (.bool false), .d (.bool false), .d (.bool false), .d (.bool false), .d (.bool false), .d (.bool false), .d (.bool false), .d (.bool false), .d (.bool false), .d (.bool false), .d (.bool false), .d (.bool false), .d (.bool false), .d (.bool false), .d (.bool false), .d (.bool false), .d (.bool false), .d (.bool false), .d (.bool false), .d (.bool false), .d (.bool false), .d (.bool false), .d (.bool false), .d (.bool false), .d (.bool false), .d (.bool false), .d (.bool false), .d (.bool false), .d (.bool false), .d (.bool false), .d (.bool false), .d (.bool false), .d (.bool false), .d (.bool false), .d (.bool false), .d (.bool false), .d (.bool false), .d (.bool false), .d (.bool false), .d (.bool false), .d (.bool false), .d (.bool false), .d (.bool false), .d (.bool false), .d (.bool false), .d (.bool false), .d (.bool false), .d (.bool false), .d (.bool false), .d (.bool false), .d (.bool false), .d (.bool false), .d (.bool false)]) [],
  o3 3 .mv [.c (.d (.int .i64 0))],
  { dst := none, k := (.store 96), xs := [.t 4, .t 11] }]
def F3o6 : List Ao := [
  o3 5 .mv [.c (.d (.int .i64 0))]]
def F3o11 : List Ao := [
  o3 12 .mv [.t 5],
  o3 13 (.bin .lss) [.t 12, .c (.d (.int .i64 256))]]
def F3c12 : Ac := (.cond (.t 13) .skip (.exit 0))
def F3o18 : List Ao := [
  o3 16 .mv [.t 5],
  o3 17 (.toInt .u8) [.t 16],
  o3 18 .mv [.t 0],
  o3 19 (.bin .add) [.t 17, .t 18],
  o3 6 .mv [.t 19]]
def F3o20 : List Ao := [
  o3 7 .mv [.c (.d (.int .i64 0))]]
def F3o25 : List Ao := [
  o3 20 .mv [.t 7],
  o3 21 (.bin .lss) [.t 20, .c (.d (.int .i64 8))]]
def F3c26 : Ac := (.cond (.t 21) .skip (.exit 2))
def F3o32 : List Ao := [
  o3 25 .mv [.t 6],
  o3 26 .mv [.t 7],
  o3 27 (.callf 11) [.t 25, .t 26],
  o3 24 .mv [.t 27],
  o3 28 (.extract 0) [.t 24],
  o3 29 (.extract 1) [.t 24],
  o3 8 (.alloc [.d (.int .i64 0), .d (.int .i64 0), .d (.int .i64 0), .d (.bool false)]) [],
  { dst := none, k := (.store 4), xs := [.t 8, .t 28] },
  o3 9 .mv [.t 29]]
def F3o34 : List Ao := [
  o3 30 .mv [.t 9],
  o3 31 .mv [.t 30],
  { dst := some 32, k := .mv, xs := [.t 7], g := some (31, true) },
  { dst := some 33, k := (.bin .eql), xs := [.t 32, .c (.d (.int .i64 0))], g := some (31, true) },
  { dst := some 34, k := .mv, xs := [.t 33], g := some (31, true) },
  { dst := some 35, k := .mv, xs := [.t 6], g := some (34, false) },
  { dst := some 36, k := (.callf 12), xs := [.t 35], g := some (34, false) },
  { dst := some 37, k := .pick, xs := [.t 34, .c (.d (.bool true)), .t 36], g := some (31, true) },
  o3 38 .pick [.t 31, .t 37, .c (.d (.bool false))]]
def F3o37 : List Ao := [
  o3 39 .mv [.t 3],
  o3 40 (.bin .add) [.t 39, .c (.d (.int .i64 1))],
  o3 3 .mv [.t 40]]
def F3o40 : List Ao := [
  o3 41 (.faddr 0) [.t 8],
  o3 42 (.load none) [.t 41],
  o3 43 (.bin .lss) [.t 42, .c (.d (.int .i64 1))],
  o3 44 .mv [.t 43],
  { dst := some 45, k := (.faddr 0), xs := [.t 8], g := some (44, false) },
  { dst := some 46, k := (.load none), xs := [.t 45], g := some (44, false) },
  { dst := some 47, k := (.bin .gtr), xs := [.t 46, .c (.d (.int .i64 95))], g := some (44, false) },
  o3 48 .pick [.t 44, .c (.d (.bool true)), .t 47]]
def F3o43 : List Ao := [
  o3 2 .mv [.c (.d (.bool false))]]
def F3c44 : Ac := .ret
def F3c41 : Ac := (.cond (.t 48) (.seq (.ops F3o43) F3c44) .skip)
def F3o46 : List Ao := [
  o3 49 (.faddr 0) [.t 8],
  o3 50 (.load none) [.t 49],
  o3 51 (.iaddrA 96 1) [.t 4, .t 50],
  { dst := none, k := (.store 1), xs := [.t 51, .c (.d (.bool true))] }]
def F3c46 : Ac := (.ops F3o46)
def F3c38 : Ac := (.seq (.seq (.ops F3o40) F3c41) F3c46)
def F3b35 : Ac := (.cond (.t 38) (.seq (.ops F3o37) F3c38) .skip)
def F3c35 : Ac := (.seq (.gh []) (.seq (.keep [0, 3, 4, 5, 6, 7, 8, 38] [[4], [8]]) F3b35))
def F3c33 : Ac := (.seq (.ops F3o34) F3c35)
def F3o48 : List Ao := [
  o3 22 .mv [.t 7],
  o3 23 (.bin .add) [.t 22, .c (.d (.int .i64 1))],
  o3 7 .mv [.t 23]]
def F3c48 : Ac := (.ops F3o48)
def F3c29 : Ac := (.seq (.block 3 (.seq (.ops F3o32) F3c33)) F3c48)
def F3l22 : Ac := (.seq (.seq (.ops F3o25) F3c26) F3c29)
def F3c21 : Ac := (.block 2 (.loop (.seq (.gh []) (.seq (.keep [0, 3, 4, 5, 6, 7] [[4]]) F3l22))))
def F3c19 : Ac := (.seq (.ops F3o20) F3c21)
def F3o49 : List Ao := [
  o3 14 .mv [.t 5],
  o3 15 (.bin .add) [.t 14, .c (.d (.int .i64 1))],
  o3 5 .mv [.t 15]]
def F3b49 : Ac := (.ops F3o49)
def F3c49 : Ac := (.seq (.gh []) (.seq (.keep [0, 3, 4, 5] [[4]]) F3b49))
def F3c15 : Ac := (.seq (.block 1 (.seq (.ops F3o18) F3c19)) F3c49)
def F3l8 : Ac := (.seq (.seq (.ops F3o11) F3c12) F3c15)
def F3c7 : Ac := (.block 0 (.loop (.seq (.gh []) (.seq (.keep [0, 3, 4, 5] [[4]]) F3l8))))
def F3o52 : List Ao := [
  o3 10 .mv [.c (.d (.int .i64 1))]]
def F3o57 : List Ao := [
  o3 52 .mv [.t 10],
  o3 53 (.bin .leq) [.t 52, .c (.d (.int .i64 95))]]
def F3c58 : Ac := (.cond (.t 53) .skip (.exit 4))
def F3o64 : List Ao := [
  o3 56 .mv [.t 10],
  o3 57 (.iaddrA 96 1) [.t 4, .t 56],
  o3 58 (.load none) [.t 57],
  o3 59 (.un .not) [.t 58]]
def F3o67 : List Ao := [
  o3 2 .mv [.c (.d (.bool false))]]
def F3c68 : Ac := .ret
def F3c65 : Ac := (.cond (.t 59) (.seq (.ops F3o67) F3c68) .skip)
def F3o70 : List Ao := [
  o3 54 .mv [.t 10],
  o3 55 (.bin .add) [.t 54, .c (.d (.int .i64 1))],
  o3 10 .mv [.t 55]]
def F3c70 : Ac := (.ops F3o70)
def F3c61 : Ac := (.seq (.block 5 (.seq (.ops F3o64) F3c65)) F3c70)
def F3l54 : Ac := (.seq (.seq (.ops F3o57) F3c58) F3c61)
def F3c53 : Ac := (.block 4 (.loop (.seq (.gh []) (.seq (.keep [3, 4, 10] [[4]]) F3l54))))
def F3o72 : List Ao := [
  o3 60 (.callf 13) [],
  o3 61 .mv [.t 60],
  { dst := some 62, k := .mv, xs := [.t 3], g := some (61, true) },
  { dst := some 63, k := (.callf 14), xs := [], g := some (61, true) },
  { dst := some 64, k := (.bin .eql), xs := [.t 62, .t 63], g := some (61, true) },
  o3 65 .pick [.t 61, .t 64, .c (.d (.bool false))],
  o3 2 .mv [.t 65]]
def F3c73 : Ac := .ret
def F3b71 : Ac := (.seq (.ops F3o72) F3c73)
def F3c71 : Ac := (.seq (.gh []) (.seq (.keep [3] []) F3b71))
def F3b50 : Ac := (.seq (.seq (.ops F3o52) F3c53) F3c71)
def F3c50 : Ac := (.seq (.gh []) (.seq (.keep [3, 4] [[4]]) F3b50))
def F3c4 : Ac := (.seq (.seq (.ops F3o6) F3c7) F3c50)
def F3c2 : Ac := (.seq (.ops F3o3) F3c4)
def F3c0 : Ac := (.seq (.ops F3o1) F3c2)
/-- hansom/hansomlaw04.IsaAll -/
def F3 : Fn := { np := 1, pb := [], rs := [.t 2], body := F3c0 }
def F11o1 : List Ao := [
  o3 4 (.alloc [.d (.int .i64 0), .d (.int .i64 0), .d (.int .i64 0), .d (.bool false)]) [],
  o3 5 .mv [.c (.d (.bool false))]]
def F11o3 : List Ao := [
  o3 7 .mv [.t 1],
  o3 8 (.bin .and) [.t 7, .c (.d (.int .i64 7))],
  o3 1 .mv [.t 8]]
def F11o7 : List Ao := [
  o3 10 .mv [.t 0],
  o3 11 (.bin .lss) [.t 10, .c (.d (.int .u8 64))],
  o3 9 .mv [.t 11]]
def F11o10 : List Ao := [
  o3 12 .mv [.t 0],
  o3 13 (.callf 37) [.t 12],
  o3 14 (.extract 0) [.t 13],
  o3 15 (.extract 1) [.t 13],
  { dst := none, k := (.store 4), xs := [.t 4, .t 14] },
  o3 5 .mv [.t 15]]
def F11c11 : Ac := .ret
def F11o13 : List Ao := [
  o3 17 .mv [.t 0],
  o3 18 (.bin .lss) [.t 17, .c (.d (.int .u8 96))],
  o3 16 .mv [.t 18]]
def F11o16 : List Ao := [
  o3 19 (.bslice (.int .i64 0) 4 [0, 1, 2, 3]) [.c (.d (.int .i64 15)), .c (.d (.int .i64 16)), .c (.d (.int .i64 9)), .c (.d (.int .i64 10))],
  o3 20 .mv [.t 0],
  o3 21 (.bin .sub) [.t 20, .c (.d (.int .u8 64))],
  o3 22 (.bin .shr) [.t 21, .c (.d (.int .u64 3))],
  o3 23 (.iaddrS 1) [.t 19, .t 22],
  o3 24 (.load none) [.t 23],
  o3 6 .mv [.t 24]]
def F11o18 : List Ao := [
  o3 25 .mv [.t 6],
  o3 26 (.callf 38) [.t 25, .c (.d (.int .i64 22)), .c (.d (.int .i64 0))],
  o3 27 (.extract 0) [.t 26],
  o3 28 (.extract 1) [.t 26],
  { dst := none, k := (.store 4), xs := [.t 4, .t 27] },
  o3 5 .mv [.t 28]]
def F11c19 : Ac := .ret
def F11c17 : Ac := (.seq (.ops F11o18) F11c19)
def F11o21 : List Ao := [
  o3 30 .mv [.t 0],
  o3 31 (.bin .lss) [.t 30, .c (.d (.int .u8 112))],
  o3 29 .mv [.t 31]]
def F11o24 : List Ao := [
  o3 32 (.callf 39) [],
  o3 33 (.extract 0) [.t 32],
  o3 34 (.extract 1) [.t 32],
  { dst := none, k := (.store 4), xs := [.t 4, .t 33] },
  o3 5 .mv [.t 34]]
def F11c25 : Ac := .ret
def F11o27 : List Ao := [
  o3 36 .mv [.t 0],
  o3 37 (.bin .lss) [.t 36, .c (.d (.int .u8 128))],
  o3 35 .mv [.t 37]]
def F11o30 : List Ao := [
  o3 38 .mv [.t 0],
  o3 39 (.bin .sub) [.t 38, .c (.d (.int .u8 112))],
  o3 40 (.toInt .i64) [.t 39],
  o3 41 (.bin .add) [.c (.d (.int .i64 17)), .t 40],
  o3 42 (.callf 38) [.t 41, .c (.d (.int .i64 9)), .c (.d (.int .i64 0))],
  o3 43 (.extract 0) [.t 42],
  o3 44 (.extract 1) [.t 42],
  { dst := none, k := (.store 4), xs := [.t 4, .t 43] },
  o3 5 .mv [.t 44]]
def F11c31 : Ac := .ret
def F11o33 : List Ao := [
  o3 46 .mv [.t 0],
  o3 47 (.bin .lss) [.t 46, .c (.d (.int .u8 144))],
  o3 45 .mv [.t 47]]
def F11o36 : List Ao := [
  o3 48 .mv [.t 0],
  o3 49 .mv [.t 1],
  o3 50 (.callf 40) [.t 48, .t 49],
  o3 51 (.extract 0) [.t 50],
  o3 52 (.extract 1) [.t 50],
  { dst := none, k := (.store 4), xs := [.t 4, .t 51] },
  o3 5 .mv [.t 52]]
def F11c37 : Ac := .ret
def F11o39 : List Ao := [
  o3 54 .mv [.t 0],
  o3 55 (.bin .lss) [.t 54, .c (.d (.int .u8 160))],
  o3 53 .mv [.t 55]]
def F11o42 : List Ao := [
  o3 56 .mv [.t 0],
  o3 57 (.callf 41) [.t 56],
  o3 58 (.extract 0) [.t 57],
  o3 59 (.extract 1) [.t 57],
  { dst := none, k := (.store 4), xs := [.t 4, .t 58] },
  o3 5 .mv [.t 59]]
def F11c43 : Ac := .ret
def F11o45 : List Ao := [
  o3 61 .mv [.t 0],
  o3 62 (.bin .lss) [.t 61, .c (.d (.int .u8 176))],
  o3 60 .mv [.t 62]]
def F11o48 : List Ao := [
  o3 63 .mv [.t 0],
  o3 64 (.callf 42) [.t 63],
  o3 65 (.extract 0) [.t 64],
  o3 66 (.extract 1) [.t 64],
  { dst := none, k := (.store 4), xs := [.t 4, .t 65] },
  o3 5 .mv [.t 66]]
def F11c49 : Ac := .ret
def F11o51 : List Ao := [
  o3 68 .mv [.t 0],
  o3 69 (.bin .lss) [.t 68, .c (.d (.int .u8 184))],
  o3 67 .mv [.t 69]]
def F11o54 : List Ao := [
  o3 70 (.callf 38) [.c (.d (.int .i64 35)), .c (.d (.int .i64 21)), .c (.d (.int .i64 6))],
  o3 71 (.extract 0) [.t 70],
  o3 72 (.extract 1) [.t 70],
  { dst := none, k := (.store 4), xs := [.t 4, .t 71] },
  o3 5 .mv [.t 72]]
def F11c55 : Ac := .ret
def F11o57 : List Ao := [
  o3 74 .mv [.t 0],
  o3 75 (.bin .lss) [.t 74, .c (.d (.int .u8 192))],
  o3 73 .mv [.t 75]]
def F11o60 : List Ao := [
  o3 76 (.callf 38) [.c (.d (.int .i64 35)), .c (.d (.int .i64 22)), .c (.d (.int .i64 7))],
  o3 77 (.extract 0) [.t 76],
  o3 78 (.extract 1) [.t 76],
  { dst := none, k := (.store 4), xs := [.t 4, .t 77] },
  o3 5 .mv [.t 78]]
def F11c61 : Ac := .ret
def F11o63 : List Ao := [
  o3 80 .mv [.t 0],
  o3 81 (.bin .lss) [.t 80, .c (.d (.int .u8 208))],
  o3 79 .mv [.t 81]]
def F11o66 : List Ao := [
  o3 82 .mv [.t 0],
  o3 83 .mv [.t 1],
  o3 84 (.callf 43) [.t 82, .t 83],
  o3 85 (.extract 0) [.t 84],
  o3 86 (.extract 1) [.t 84],
  { dst := none, k := (.store 4), xs := [.t 4, .t 85] },
  o3 5 .mv [.t 86]]
def F11c67 : Ac := .ret
def F11o69 : List Ao := [
  o3 88 .mv [.t 0],
  o3 89 (.bin .lss) [.t 88, .c (.d (.int .u8 224))],
  o3 87 .mv [.t 89]]
def F11o72 : List Ao := [
  o3 90 .mv [.t 0],
  o3 91 .mv [.t 1],
  o3 92 (.callf 44) [.t 90, .t 91],
  o3 93 (.extract 0) [.t 92],
  o3 94 (.extract 1) [.t 92],
  { dst := none, k := (.store 4), xs := [.t 4, .t 93] },
  o3 5 .mv [.t 94]]
def F11c73 : Ac := .ret
def F11o75 : List Ao := [
  o3 96 .mv [.t 0],
  o3 97 (.bin .lss) [.t 96, .c (.d (.int .u8 240))],
  o3 95 .mv [.t 97]]
def F11o78 : List Ao := [
  o3 98 .mv [.t 0],
  o3 99 (.callf 45) [.t 98],
  o3 100 (.extract 0) [.t 99],
  o3 101 (.extract 1) [.t 99],
  { dst := none, k := (.store 4), xs := [.t 4, .t 100] },
  o3 5 .mv [.t 101]]
def F11c79 : Ac := .ret
def F11c76 : Ac := (.cond (.t 95) (.seq (.ops F11o78) F11c79) .skip)
def F11c70 : Ac := (.cond (.t 87) (.seq (.ops F11o72) F11c73) (.seq (.ops F11o75) F11c76))
def F11c64 : Ac := (.cond (.t 79) (.seq (.ops F11o66) F11c67) (.seq (.ops F11o69) F11c70))
def F11c58 : Ac := (.cond (.t 73) (.seq (.ops F11o60) F11c61) (.seq (.ops F11o63) F11c64))
def F11c52 : Ac := (.cond (.t 67) (.seq (.ops F11o54) F11c55) (.seq (.ops F11o57) F11c58))
def F11c46 : Ac := (.cond (.t 60) (.seq (.ops F11o48) F11c49) (.seq (.ops F11o51) F11c52))
def F11c40 : Ac := (.cond (.t 53) (.seq (.ops F11o42) F11c43) (.seq (.ops F11o45) F11c46))
def F11c34 : Ac := (.cond (.t 45) (.seq (.ops F11o36) F11c37) (.seq (.ops F11o39) F11c40))
def F11c28 : Ac := (.cond (.t 35) (.seq (.ops F11o30) F11c31) (.seq (.ops F11o33) F11c34))
def F11c22 : Ac := (.cond (.t 29) (.seq (.ops F11o24) F11c25) (.seq (.ops F11o27) F11c28))
def F11c14 : Ac := (.cond (.t 16) (.seq (.ops F11o16) F11c17) (.seq (.ops F11o21) F11c22))
def F11c8 : Ac := (.cond (.t 9) (.seq (.ops F11o10) F11c11) (.seq (.ops F11o13) F11c14))
def F11o82 : List Ao := [
  o3 102 .mv [.t 0],
  o3 103 .mv [.t 1],
  o3 104 (.callf 46) [.t 102, .t 103],
  o3 105 (.extract 0) [.t 104],
  o3 106 (.extract 1) [.t 104],
  { dst := none, k := (.store 4), xs := [.t 4, .t 105] },
  o3 5 .mv [.t 106]]
def F11c83 : Ac := .ret
def F11c81 : Ac := (.seq (.ops F11o82) F11c83)
def F11c4 : Ac := (.seq (.block 0 (.seq (.ops F11o7) F11c8)) F11c81)
def F11c2 : Ac := (.seq (.ops F11o3) F11c4)
def F11c0 : Ac := (.seq (.ops F11o1) F11c2)
/-- hansom/isa.Of -/
def F11 : Fn := { np := 2, pb := [], rs := [.c 4 (some 4), .t 5], body := F11c0 }
def F12o1 : List Ao := [
  o3 2 .mv [.c (.d (.bool false))]]
def F12o4 : List Ao := [
  o3 3 .mv [.t 0]]
def F12o8 : List Ao := [
  o3 5 (.bin .eql) [.t 3, .c (.d (.int .u8 128))],
  o3 4 .mv [.t 5]]
def F12o12 : List Ao := [
  o3 6 (.bin .eql) [.t 3, .c (.d (.int .u8 129))],
  o3 4 .mv [.t 6]]
def F12o16 : List Ao := [
  o3 7 (.bin .eql) [.t 3, .c (.d (.int .u8 131))],
  o3 4 .mv [.t 7]]
def F12o20 : List Ao := [
  o3 8 (.bin .eql) [.t 3, .c (.d (.int .u8 143))],
  o3 4 .mv [.t 8]]
def F12o24 : List Ao := [
  o3 9 (.bin .eql) [.t 3, .c (.d (.int .u8 198))],
  o3 4 .mv [.t 9]]
def F12o28 : List Ao := [
  o3 10 (.bin .eql) [.t 3, .c (.d (.int .u8 199))],
  o3 4 .mv [.t 10]]
def F12o32 : List Ao := [
  o3 11 (.bin .eql) [.t 3, .c (.d (.int .u8 208))],
  o3 4 .mv [.t 11]]
def F12o36 : List Ao := [
  o3 12 (.bin .eql) [.t 3, .c (.d (.int .u8 209))],
  o3 4 .mv [.t 12]]
def F12o40 : List Ao := [
  o3 13 (.bin .eql) [.t 3, .c (.d (.int .u8 210))],
  o3 4 .mv [.t 13]]
def F12o44 : List Ao := [
  o3 14 (.bin .eql) [.t 3, .c (.d (.int .u8 211))],
  o3 4 .mv [.t 14]]
def F12o48 : List Ao := [
  o3 15 (.bin .eql) [.t 3, .c (.d (.int .u8 246))],
  o3 4 .mv [.t 15]]
def F12o52 : List Ao := [
  o3 16 (.bin .eql) [.t 3, .c (.d (.int .u8 247))],
  o3 4 .mv [.t 16]]
def F12o56 : List Ao := [
  o3 17 (.bin .eql) [.t 3, .c (.d (.int .u8 254))],
  o3 4 .mv [.t 17]]
def F12o59 : List Ao := [
  o3 18 (.bin .eql) [.t 3, .c (.d (.int .u8 255))],
  o3 4 .mv [.t 18]]
def F12c57 : Ac := (.cond (.t 4) .skip (.ops F12o59))
def F12c53 : Ac := (.cond (.t 4) .skip (.seq (.ops F12o56) F12c57))
def F12c49 : Ac := (.cond (.t 4) .skip (.seq (.ops F12o52) F12c53))
def F12c45 : Ac := (.cond (.t 4) .skip (.seq (.ops F12o48) F12c49))
def F12c41 : Ac := (.cond (.t 4) .skip (.seq (.ops F12o44) F12c45))
def F12c37 : Ac := (.cond (.t 4) .skip (.seq (.ops F12o40) F12c41))
def F12c33 : Ac := (.cond (.t 4) .skip (.seq (.ops F12o36) F12c37))
def F12c29 : Ac := (.cond (.t 4) .skip (.seq (.ops F12o32) F12c33))
def F12c25 : Ac := (.cond (.t 4) .skip (.seq (.ops F12o28) F12c29))
def F12c21 : Ac := (.cond (.t 4) .skip (.seq (.ops F12o24) F12c25))
def F12c17 : Ac := (.cond (.t 4) .skip (.seq (.ops F12o20) F12c21))
def F12c13 : Ac := (.cond (.t 4) .skip (.seq (.ops F12o16) F12c17))
def F12c9 : Ac := (.cond (.t 4) .skip (.seq (.ops F12o12) F12c13))
def F12o62 : List Ao := [
  o3 2 .mv [.c (.d (.bool true))]]
def F12c63 : Ac := .ret
def F12c60 : Ac := (.cond (.t 4) (.seq (.ops F12o62) F12c63) .skip)
def F12c5 : Ac := (.block 0 (.seq (.seq (.ops F12o8) F12c9) F12c60))
def F12o66 : List Ao := [
  o3 2 .mv [.c (.d (.bool false))]]
def F12c67 : Ac := .ret
def F12c65 : Ac := (.seq (.ops F12o66) F12c67)
def F12c2 : Ac := (.seq (.seq (.ops F12o4) F12c5) F12c65)
def F12c0 : Ac := (.seq (.ops F12o1) F12c2)
/-- hansom/isa.Grouped -/
def F12 : Fn := { np := 1, pb := [], rs := [.t 2], body := F12c0 }
def F13o1 : List Ao := [
  o3 0 .mv [.c (.d (.bool false))]]
def F13o3 : List Ao := [
  o3 6 (.callf 11) [.c (.d (.int .u8 144)), .c (.d (.int .i64 0))],
  o3 5 .mv [.t 6],
  o3 7 (.extract 0) [.t 5],
  o3 8 (.extract 1) [.t 5],
  o3 1 (.alloc [.d (.int .i64 0), .d (.int .i64 0), .d (.int .i64 0), .d (.bool false)]) [],
  { dst := none, k := (.store 4), xs := [.t 1, .t 7] },
  o3 2 .mv [.t 8]]
def F13o5 : List Ao := [
  o3 10 (.callf 11) [.c (.d (.int .u8 15)), .c (.d (.int .i64 0))],
  o3 9 .mv [.t 10],
  o3 11 (.extract 0) [.t 9],
  o3 12 (.extract 1) [.t 9],
  o3 3 (.alloc [.d (.int .i64 0), .d (.int .i64 0), .d (.int .i64 0), .d (.bool false)]) [],
  { dst := none, k := (.store 4), xs := [.t 3, .t 11] },
  o3 4 .mv [.t 12]]
def F13o7 : List Ao := [
  o3 13 .mv [.t 2],
  o3 14 .mv [.t 13],
  { dst := some 15, k := (.faddr 0), xs := [.t 1], g := some (14, true) },
  { dst := some 16, k := (.load none), xs := [.t 15], g := some (14, true) },
  { dst := some 17, k := (.bin .eql), xs := [.t 16, .c (.d (.int .i64 34))], g := some (14, true) },
  o3 18 .pick [.t 14, .t 17, .c (.d (.bool false))],
  o3 19 .mv [.t 18],
  { dst := some 20, k := (.faddr 1), xs := [.t 1], g := some (19, true) },
  { dst := some 21, k := (.load none), xs := [.t 20], g := some (19, true) },
  { dst := some 22, k := (.bin .eql), xs := [.t 21, .c (.d (.int .i64 16))], g := some (19, true) },
  o3 23 .pick [.t 19, .t 22, .c (.d (.bool false))],
  o3 24 .mv [.t 23],
  { dst := some 25, k := (.faddr 2), xs := [.t 1], g := some (24, true) },
  { dst := some 26, k := (.load none), xs := [.t 25], g := some (24, true) },
  { dst := some 27, k := (.bin .eql), xs := [.t 26, .c (.d (.int .i64 22))], g := some (24, true) },
  o3 28 .pick [.t 24, .t 27, .c (.d (.bool false))],
  o3 29 .mv [.t 28],
  { dst := some 30, k := .mv, xs := [.t 4], g := some (29, true) },
  { dst := some 31, k := (.un .not), xs := [.t 30], g := some (29, true) },
  o3 32 .pick [.t 29, .t 31, .c (.d (.bool false))],
  o3 33 .mv [.t 32],
  { dst := some 34, k := (.callf 20), xs := [.c (.d (.int .u8 243))], g := some (33, true) },
  o3 35 .pick [.t 33, .t 34, .c (.d (.bool false))],
  o3 36 .mv [.t 35],
  { dst := some 37, k := (.callf 17), xs := [.c (.d (.int .i64 11))], g := some (36, true) },
  { dst := some 38, k := (.bin .eql), xs := [.t 37, .c (.d (.int .i64 4))], g := some (36, true) },
  o3 39 .pick [.t 36, .t 38, .c (.d (.bool false))],
  o3 0 .mv [.t 39]]
def F13c8 : Ac := .ret
def F13c6 : Ac := (.seq (.ops F13o7) F13c8)
def F13c4 : Ac := (.seq (.ops F13o5) F13c6)
def F13c2 : Ac := (.seq (.ops F13o3) F13c4)
def F13c0 : Ac := (.seq (.ops F13o1) F13c2)
/-- hansom/hansomlaw04.awake -/
def F13 : Fn := { np := 0, pb := [], rs := [.t 0], body := F13c0 }
def F14o1 : List Ao := [
  o3 0 .mv [.c (.d (.int .i64 0))]]
def F14o3 : List Ao := [
  o3 1 .mv [.c (.d (.int .i64 0))]]
def F14o6 : List Ao := [
  o3 2 .mv [.c (.d (.int .i64 0))]]
def F14o11 : List Ao := [
  o3 6 .mv [.t 2],
  o3 7 (.bin .lss) [.t 6, .c (.d (.int .i64 256))]]
def F14c12 : Ac := (.cond (.t 7) .skip (.exit 0))
def F14o18 : List Ao := [
  o3 3 .mv [.c (.d (.int .i64 0))]]
def F14o23 : List Ao := [
  o3 10 .mv [.t 3],
  o3 11 (.bin .lss) [.t 10, .c (.d (.int .i64 8))]]
def F14c24 : Ac := (.cond (.t 11) .skip (.exit 2))
def F14o30 : List Ao := [
  o3 15 .mv [.t 2],
  o3 16 (.toInt .u8) [.t 15],
  o3 17 .mv [.t 3],
  o3 18 (.callf 21) [.t 16, .t 17],
  o3 14 .mv [.t 18],
  o3 19 (.extract 0) [.t 14],
  o3 20 (.extract 1) [.t 14],
  o3 4 (.alloc [.d (.int .i64 0), .d (.int .i64 0), .d (.int .i64 0), .d (.bool false)]) [],
  { dst := none, k := (.store 4), xs := [.t 4, .t 19] },
  o3 5 .mv [.t 20]]
def F14o32 : List Ao := [
  o3 21 .mv [.t 5],
  o3 22 .mv [.t 21],
  { dst := some 23, k := .mv, xs := [.t 3], g := some (22, true) },
  { dst := some 24, k := (.bin .eql), xs := [.t 23, .c (.d (.int .i64 0))], g := some (22, true) },
  { dst := some 25, k := .mv, xs := [.t 24], g := some (22, true) },
  { dst := some 26, k := .mv, xs := [.t 2], g := some (25, false) },
  { dst := some 27, k := (.toInt .u8), xs := [.t 26], g := some (25, false) },
  { dst := some 28, k := (.callf 22), xs := [.t 27], g := some (25, false) },
  { dst := some 29, k := .pick, xs := [.t 25, .c (.d (.bool true)), .t 28], g := some (22, true) },
  o3 30 .pick [.t 22, .t 29, .c (.d (.bool false))]]
def F14o34 : List Ao := [
  o3 31 .mv [.t 1],
  o3 32 (.bin .add) [.t 31, .c (.d (.int .i64 1))],
  o3 1 .mv [.t 32]]
def F14c33 : Ac := (.cond (.t 30) (.ops F14o34) .skip)
def F14c31 : Ac := (.seq (.ops F14o32) F14c33)
def F14o36 : List Ao := [
  o3 12 .mv [.t 3],
  o3 13 (.bin .add) [.t 12, .c (.d (.int .i64 1))],
  o3 3 .mv [.t 13]]
def F14c36 : Ac := (.ops F14o36)
def F14c27 : Ac := (.seq (.block 3 (.seq (.ops F14o30) F14c31)) F14c36)
def F14l20 : Ac := (.seq (.seq (.ops F14o23) F14c24) F14c27)
def F14c19 : Ac := (.block 2 (.loop (.seq (.gh []) (.seq (.keep [1, 2, 3] []) F14l20))))
def F14o37 : List Ao := [
  o3 8 .mv [.t 2],
  o3 9 (.bin .add) [.t 8, .c (.d (.int .i64 1))],
  o3 2 .mv [.t 9]]
def F14b37 : Ac := (.ops F14o37)
def F14c37 : Ac := (.seq (.gh []) (.seq (.keep [1, 2] []) F14b37))
def F14c15 : Ac := (.seq (.block 1 (.seq (.ops F14o18) F14c19)) F14c37)
def F14l8 : Ac := (.seq (.seq (.ops F14o11) F14c12) F14c15)
def F14c7 : Ac := (.block 0 (.loop (.seq (.gh []) (.seq (.keep [1, 2] []) F14l8))))
def F14o39 : List Ao := [
  o3 33 .mv [.t 1],
  o3 0 .mv [.t 33]]
def F14c40 : Ac := .ret
def F14b38 : Ac := (.seq (.ops F14o39) F14c40)
def F14c38 : Ac := (.seq (.gh []) (.seq (.keep [1] []) F14b38))
def F14c4 : Ac := (.seq (.seq (.ops F14o6) F14c7) F14c38)
def F14c2 : Ac := (.seq (.ops F14o3) F14c4)
def F14c0 : Ac := (.seq (.ops F14o1) F14c2)
/-- hansom/hansomlaw04.count -/
def F14 : Fn := { np := 0, pb := [], rs := [.t 0], body := F14c0 }
def F17o1 : List Ao := [
  o3 2 .mv [.c (.d (.int .i64 0))]]
def F17o4 : List Ao := [
  o3 3 .mv [.t 0]]
def F17o8 : List Ao := [
  o3 5 (.bin .eql) [.t 3, .c (.d (.int .i64 6))],
  o3 4 .mv [.t 5]]
def F17o12 : List Ao := [
  o3 6 (.bin .eql) [.t 3, .c (.d (.int .i64 8))],
  o3 4 .mv [.t 6]]
def F17o15 : List Ao := [
  o3 7 (.bin .eql) [.t 3, .c (.d (.int .i64 9))],
  o3 4 .mv [.t 7]]
def F17c13 : Ac := (.cond (.t 4) .skip (.ops F17o15))
def F17c9 : Ac := (.cond (.t 4) .skip (.seq (.ops F17o12) F17c13))
def F17o18 : List Ao := [
  o3 2 .mv [.c (.d (.int .i64 1))]]
def F17c19 : Ac := .ret
def F17o22 : List Ao := [
  o3 9 (.bin .eql) [.t 3, .c (.d (.int .i64 7))],
  o3 8 .mv [.t 9]]
def F17o26 : List Ao := [
  o3 10 (.bin .eql) [.t 3, .c (.d (.int .i64 10))],
  o3 8 .mv [.t 10]]
def F17o30 : List Ao := [
  o3 11 (.bin .eql) [.t 3, .c (.d (.int .i64 12))],
  o3 8 .mv [.t 11]]
def F17o33 : List Ao := [
  o3 12 (.bin .eql) [.t 3, .c (.d (.int .i64 13))],
  o3 8 .mv [.t 12]]
def F17c31 : Ac := (.cond (.t 8) .skip (.ops F17o33))
def F17c27 : Ac := (.cond (.t 8) .skip (.seq (.ops F17o30) F17c31))
def F17c23 : Ac := (.cond (.t 8) .skip (.seq (.ops F17o26) F17c27))
def F17o36 : List Ao := [
  o3 2 .mv [.c (.d (.int .i64 2))]]
def F17c37 : Ac := .ret
def F17o39 : List Ao := [
  o3 14 (.bin .eql) [.t 3, .c (.d (.int .i64 11))],
  o3 13 .mv [.t 14]]
def F17o42 : List Ao := [
  o3 2 .mv [.c (.d (.int .i64 4))]]
def F17c43 : Ac := .ret
def F17c40 : Ac := (.cond (.t 13) (.seq (.ops F17o42) F17c43) .skip)
def F17c34 : Ac := (.cond (.t 8) (.seq (.ops F17o36) F17c37) (.seq (.ops F17o39) F17c40))
def F17b16 : Ac := (.cond (.t 4) (.seq (.ops F17o18) F17c19) (.seq (.seq (.ops F17o22) F17c23) F17c34))
def F17c16 : Ac := (.seq (.gh []) (.seq (.keep [3, 4] []) F17b16))
def F17c5 : Ac := (.block 0 (.seq (.seq (.ops F17o8) F17c9) F17c16))
def F17o46 : List Ao := [
  o3 2 .mv [.c (.d (.int .i64 0))]]
def F17c47 : Ac := .ret
def F17c45 : Ac := (.seq (.ops F17o46) F17c47)
def F17c2 : Ac := (.seq (.seq (.ops F17o4) F17c5) F17c45)
def F17c0 : Ac := (.seq (.ops F17o1) F17c2)
/-- hansom/isa.Immediate -/
def F17 : Fn := { np := 1, pb := [], rs := [.t 2], body := F17c0 }
def F20o1 : List Ao := [
  o3 2 .mv [.c (.d (.bool false))]]
def F20o4 : List Ao := [
  o3 3 .mv [.t 0]]
def F20o8 : List Ao := [
  o3 5 (.bin .eql) [.t 3, .c (.d (.int .u8 38))],
  o3 4 .mv [.t 5]]
def F20o12 : List Ao := [
  o3 6 (.bin .eql) [.t 3, .c (.d (.int .u8 46))],
  o3 4 .mv [.t 6]]
def F20o16 : List Ao := [
  o3 7 (.bin .eql) [.t 3, .c (.d (.int .u8 54))],
  o3 4 .mv [.t 7]]
def F20o20 : List Ao := [
  o3 8 (.bin .eql) [.t 3, .c (.d (.int .u8 62))],
  o3 4 .mv [.t 8]]
def F20o24 : List Ao := [
  o3 9 (.bin .eql) [.t 3, .c (.d (.int .u8 240))],
  o3 4 .mv [.t 9]]
def F20o28 : List Ao := [
  o3 10 (.bin .eql) [.t 3, .c (.d (.int .u8 242))],
  o3 4 .mv [.t 10]]
def F20o31 : List Ao := [
  o3 11 (.bin .eql) [.t 3, .c (.d (.int .u8 243))],
  o3 4 .mv [.t 11]]
def F20c29 : Ac := (.cond (.t 4) .skip (.ops F20o31))
def F20c25 : Ac := (.cond (.t 4) .skip (.seq (.ops F20o28) F20c29))
def F20c21 : Ac := (.cond (.t 4) .skip (.seq (.ops F20o24) F20c25))
def F20c17 : Ac := (.cond (.t 4) .skip (.seq (.ops F20o20) F20c21))
def F20c13 : Ac := (.cond (.t 4) .skip (.seq (.ops F20o16) F20c17))
def F20c9 : Ac := (.cond (.t 4) .skip (.seq (.ops F20o12) F20c13))
def F20o34 : List Ao := [
  o3 2 .mv [.c (.d (.bool true))]]
def F20c35 : Ac := .ret
def F20c32 : Ac := (.cond (.t 4) (.seq (.ops F20o34) F20c35) .skip)
def F20c5 : Ac := (.block 0 (.seq (.seq (.ops F20o8) F20c9) F20c32))
def F20o38 : List Ao := [
  o3 2 .mv [.c (.d (.bool false))]]
def F20c39 : Ac := .ret
def F20c37 : Ac := (.seq (.ops F20o38) F20c39)
def F20c2 : Ac := (.seq (.seq (.ops F20o4) F20c5) F20c37)
def F20c0 : Ac := (.seq (.ops F20o1) F20c2)
/-- hansom/isa.Prefix -/
def F20 : Fn := { np := 1, pb := [], rs := [.t 2], body := F20c0 }
def F21o1 : List Ao := [
  o3 4 (.alloc [.d (.int .i64 0), .d (.int .i64 0), .d (.int .i64 0), .d (.bool false)]) [],
  o3 5 .mv [.c (.d (.bool false))]]
def F21o3 : List Ao := [
  o3 8 .mv [.t 0],
  o3 9 .mv [.t 1],
  o3 10 (.callf 48) [.t 8, .t 9],
  o3 6 .mv [.t 10]]
def F21o6 : List Ao := [
  o3 11 .mv [.t 6],
  o3 12 (.bin .eql) [.t 11, .c (.d (.str [45]))],
  o3 13 .mv [.t 12],
  { dst := some 14, k := .mv, xs := [.t 6], g := some (13, false) },
  { dst := some 15, k := (.bin .eql), xs := [.t 14, .c (.d (.str []))], g := some (13, false) },
  o3 16 .pick [.t 13, .c (.d (.bool true)), .t 15]]
def F21o9 : List Ao := [
  o3 17 (.build [.d (.int .i64 0), .d (.int .i64 0), .d (.int .i64 0), .d (.bool false)] []) [],
  { dst := none, k := (.store 4), xs := [.t 4, .t 17] },
  o3 5 .mv [.c (.d (.bool false))]]
def F21c10 : Ac := .ret
def F21c7 : Ac := (.cond (.t 16) (.seq (.ops F21o9) F21c10) .skip)
def F21o13 : List Ao := [
  o3 18 .mv [.t 6],
  o3 19 (.callf 50) [.t 18, .c (.d (.int .u8 58)), .c (.d (.int .i64 0))],
  o3 20 (.callf 49) [.t 19],
  o3 21 .mv [.t 6],
  o3 22 (.callf 50) [.t 21, .c (.d (.int .u8 58)), .c (.d (.int .i64 1))],
  o3 23 (.callf 51) [.c (.d (.str [69, 98, 32, 69, 118, 32, 71, 98, 32, 71, 118, 32, 83, 119, 32, 73, 98, 32, 73, 118, 32, 73, 115, 32, 74, 98, 32, 74, 118, 32, 65, 112, 32, 79, 98, 32, 79, 118, 32, 65, 76, 32, 67, 76, 32, 65, 88, 32, 68, 88, 32, 79, 110, 101, 32, 77, 112, 32, 77, 32, 90, 98, 32, 90, 118, 32, 90, 115, 32, 84, 104, 114, 101, 101, 32])), .t 22],
  o3 24 .mv [.t 6],
  o3 25 (.callf 50) [.t 24, .c (.d (.int .u8 58)), .c (.d (.int .i64 2))],
  o3 26 (.callf 51) [.c (.d (.str [69, 98, 32, 69, 118, 32, 71, 98, 32, 71, 118, 32, 83, 119, 32, 73, 98, 32, 73, 118, 32, 73, 115, 32, 74, 98, 32, 74, 118, 32, 65, 112, 32, 79, 98, 32, 79, 118, 32, 65, 76, 32, 67, 76, 32, 65, 88, 32, 68, 88, 32, 79, 110, 101, 32, 77, 112, 32, 77, 32, 90, 98, 32, 90, 118, 32, 90, 115, 32, 84, 104, 114, 101, 101, 32])), .t 25],
  o3 27 (.build [.d (.int .i64 0), .d (.int .i64 0), .d (.int .i64 0), .d (.bool false)] [(0, 1), (1, 1), (2, 1)]) [.t 20, .t 23, .t 26],
  o3 7 (.alloc [.d (.int .i64 0), .d (.int .i64 0), .d (.int .i64 0), .d (.bool false)]) [],
  { dst := none, k := (.store 4), xs := [.t 7, .t 27] }]
def F21o15 : List Ao := [
  o3 28 (.faddr 1) [.t 7],
  o3 29 (.load none) [.t 28],
  o3 30 (.callf 52) [.t 29],
  o3 31 .mv [.t 30],
  { dst := some 32, k := (.faddr 2), xs := [.t 7], g := some (31, false) },
  { dst := some 33, k := (.load none), xs := [.t 32], g := some (31, false) },
  { dst := some 34, k := (.callf 52), xs := [.t 33], g := some (31, false) },
  o3 35 .pick [.t 31, .c (.d (.bool true)), .t 34],
  o3 36 (.faddr 3) [.t 7],
  { dst := none, k := (.store 1), xs := [.t 36, .t 35] }]
def F21o17 : List Ao := [
  o3 37 (.load (some 4)) [.t 7],
  { dst := none, k := (.store 4), xs := [.t 4, .t 37] },
  o3 5 .mv [.c (.d (.bool true))]]
def F21c18 : Ac := .ret
def F21c16 : Ac := (.seq (.ops F21o17) F21c18)
def F21c14 : Ac := (.seq (.ops F21o15) F21c16)
def F21c12 : Ac := (.seq (.ops F21o13) F21c14)
def F21c4 : Ac := (.seq (.seq (.ops F21o6) F21c7) F21c12)
def F21c2 : Ac := (.seq (.ops F21o3) F21c4)
def F21c0 : Ac := (.seq (.ops F21o1) F21c2)
/-- hansom/hansomref04.Row -/
def F21 : Fn := { np := 2, pb := [], rs := [.c 4 (some 4), .t 5], body := F21c0 }
def F22o1 : List Ao := [
  o3 2 .mv [.c (.d (.bool false))]]
def F22o3 : List Ao := [
  o3 4 .mv [.t 0],
  o3 5 (.toInt .i64) [.t 4],
  o3 6 (.callf 53) [.c (.d (.str [65, 68, 68, 58, 69, 98, 58, 71, 98, 32, 65, 68, 68, 58, 69, 118, 58, 71, 118, 32, 65, 68, 68, 58, 71, 98, 58, 69, 98, 32, 65, 68, 68, 58, 71, 118, 58, 69, 118, 32, 65, 68, 68, 58, 65, 76, 58, 73, 98, 32, 65, 68, 68, 58, 65, 88, 58, 73, 118, 32, 80, 85, 83, 72, 58, 90, 115, 32, 80, 79, 80, 58, 90, 115, 32, 79, 82, 58, 69, 98, 58, 71, 98, 32, 79, 82, 58, 69, 118, 58, 71, 118, 32, 79, 82, 58, 71, 98, 58, 69, 98, 32, 79, 82, 58, 71, 118, 58, 69, 118, 32, 79, 82, 58, 65, 76, 58, 73, 98, 32, 79, 82, 58, 65, 88, 58, 73, 118, 32, 80, 85, 83, 72, 58, 90, 115, 32, 45, 32, 65, 68, 67, 58, 69, 98, 58, 71, 98, 32, 65, 68, 67, 58, 69, 118, 58, 71, 118, 32, 65, 68, 67, 58, 71, 98, 58, 69, 98, 32, 65, 68, 67, 58, 71, 118, 58, 69, 118, 32, 65, 68, 67, 58, 65, 76, 58, 73, 98, 32, 65, 68, 67, 58, 65, 88, 58, 73, 118, 32, 80, 85, 83, 72, 58, 90, 115, 32, 80, 79, 80, 58, 90, 115, 32, 83, 66, 66, 58, 69, 98, 58, 71, 98, 32, 83, 66, 66, 58, 69, 118, 58, 71, 118, 32, 83, 66, 66, 58, 71, 98, 58, 69, 98, 32, 83, 66, 66, 58, 71, 118, 58, 69, 118, 32, 83, 66, 66, 58, 65, 76, 58, 73, 98, 32, 83, 66, 66, 58, 65, 88, 58, 73, 118, 32, 80, 85, 83, 72, 58, 90, 115, 32, 80, 79, 80, 58, 90, 115, 32, 65, 78, 68, 58, 69, 98, 58, 71, 98, 32, 65, 78, 68, 58, 69, 118, 58, 71, 118, 32, 65, 78, 68, 58, 71, 98, 58, 69, 98, 32, 65, 78, 68, 58, 71, 118, 58, 69, 118, 32, 65, 78, 68, 58, 65, 76, 58, 73, 98, 32, 65, 78, 68, 58, 65, 88, 58, 73, 118, 32, 45, 32, 68, 65, 65, 32, 83, 85, 66, 58, 69, 98, 58, 71, 98, 32, 83, 85, 66, 58, 69, 118, 58, 71, 118, 32, 83, 85, 66, 58, 71, 98, 58, 69, 98, 32, 83, 85, 66, 58, 71, 118, 58, 69, 118, 32, 83, 85, 66, 58, 65, 76, 58, 73, 98, 32, 83, 85, 66, 58, 65, 88, 58, 73, 118, 32, 45, 32, 68, 65, 83, 32, 88, 79, 82, 58, 69, 98, 58, 71, 98, 32, 88, 79, 82, 58, 69, 118, 58, 71, 118, 32, 88, 79, 82, 58, 71, 98, 58, 69, 98, 32, 88, 79, 82, 58, 71, 118, 58, 69, 118, 32, 88, 79, 82, 58, 65, 76, 58, 73, 98, 32, 88, 79, 82, 58, 65, 88, 58, 73, 118, 32, 45, 32, 65, 65, 65, 32, 67, 77, 80, 58, 69, 98, 58, 71, 98, 32, 67, 77, 80, 58, 69, 118, 58, 71, 118, 32, 67, 77, 80, 58, 71, 98, 58, 69, 98, 32, 67, 77, 80, 58, 71, 118, 58, 69, 118, 32, 67, 77, 80, 58, 65, 76, 58, 73, 98, 32, 67, 77, 80, 58, 65, 88, 58, 73, 118, 32, 45, 32, 65, 65, 83, 32, 73, 78, 67, 58, 90, 118, 32, 73, 78, 67, 58, 90, 118, 32, 73, 78, 67, 58, 90, 118, 32, 73, 78, 67, 58, 90, 118, 32, 73, 78, 67, 58, 90, 118, 32, 73, 78, 67, 58, 90, 118, 32, 73, 78, 67, 58, 90, 118, 32, 73, 78, 67, 58, 90, 118, 32, 68, 69, 67, 58, 90, 118, 32, 68, 69, 67, 58, 90, 118, 32, 68, 69, 67, 58, 90, 118, 32, 68, 69, 67, 58, 90, 118, 32, 68, 69, 67, 58, 90, 118, 32, 68, 69, 67, 58, 90, 118, 32, 68, 69, 67, 58, 90, 118, 32, 68, 69, 67, 58, 90, 118, 32, 80, 85, 83, 72, 58, 90, 118, 32, 80, 85, 83, 72, 58, 90, 118, 32, 80, 85, 83, 72, 58, 90, 118, 32, 80, 85, 83, 72, 58, 90, 118, 32, 80, 85, 83, 72, 58, 90, 118, 32, 80, 85, 83, 72, 58, 90, 118, 32, 80, 85, 83, 72, 58, 90, 118, 32, 80, 85, 83, 72, 58, 90, 118, 32, 80, 79, 80, 58, 90, 118, 32, 80, 79, 80, 58, 90, 118, 32, 80, 79, 80, 58, 90, 118, 32, 80, 79, 80, 58, 90, 118, 32, 80, 79, 80, 58, 90, 118, 32, 80, 79, 80, 58, 90, 118, 32, 80, 79, 80, 58, 90, 118, 32, 80, 79, 80, 58, 90, 118, 32, 45, 32, 45, 32, 45, 32, 45, 32, 45, 32, 45, 32, 45, 32, 45, 32, 45, 32, 45, 32, 45, 32, 45, 32, 45, 32, 45, 32, 45, 32, 45, 32, 74, 79, 58, 74, 98, 32, 74, 78, 79, 58, 74, 98, 32, 74, 66, 58, 74, 98, 32, 74, 78, 66, 58, 74, 98, 32, 74, 90, 58, 74, 98, 32, 74, 78, 90, 58, 74, 98, 32, 74, 66, 69, 58, 74, 98, 32, 74, 65, 58, 74, 98, 32, 74, 83, 58, 74, 98, 32, 74, 78, 83, 58, 74, 98, 32, 74, 80, 58, 74, 98, 32, 74, 78, 80, 58, 74, 98, 32, 74, 76, 58, 74, 98, 32, 74, 71, 69, 58, 74, 98, 32, 74, 76, 69, 58, 74, 98, 32, 74, 71, 58, 74, 98, 32, 47, 65, 68, 68, 58, 69, 98, 58, 73, 98, 47, 79, 82, 58, 69, 98, 58, 73, 98, 47, 65, 68, 67, 58, 69, 98, 58, 73, 98, 47, 83, 66, 66, 58, 69, 98, 58, 73, 98, 47, 65, 78, 68, 58, 69, 98, 58, 73, 98, 47, 83, 85, 66, 58, 69, 98, 58, 73, 98, 47, 88, 79, 82, 58, 69, 98, 58, 73, 98, 47, 67, 77, 80, 58, 69, 98, 58, 73, 98, 32, 47, 65, 68, 68, 58, 69, 118, 58, 73, 118, 47, 79, 82, 58, 69, 118, 58, 73, 118, 47, 65, 68, 67, 58, 69, 118, 58, 73, 118, 47, 83, 66, 66, 58, 69, 118, 58, 73, 118, 47, 65, 78, 68, 58, 69, 118, 58, 73, 118, 47, 83, 85, 66, 58, 69, 118, 58, 73, 118, 47, 88, 79, 82, 58, 69, 118, 58, 73, 118, 47, 67, 77, 80, 58, 69, 118, 58, 73, 118, 32, 45, 32, 47, 65, 68, 68, 58, 69, 118, 58, 73, 115, 47, 45, 47, 65, 68, 67, 58, 69, 118, 58, 73, 115, 47, 83, 66, 66, 58, 69, 118, 58, 73, 115, 47, 45, 47, 83, 85, 66, 58, 69, 118, 58, 73, 115, 47, 45, 47, 67, 77, 80, 58, 69, 118, 58, 73, 115, 32, 84, 69, 83, 84, 58, 69, 98, 58, 71, 98, 32, 84, 69, 83, 84, 58, 69, 118, 58, 71, 118, 32, 88, 67, 72, 71, 58, 69, 98, 58, 71, 98, 32, 88, 67, 72, 71, 58, 69, 118, 58, 71, 118, 32, 77, 79, 86, 58, 69, 98, 58, 71, 98, 32, 77, 79, 86, 58, 69, 118, 58, 71, 118, 32, 77, 79, 86, 58, 71, 98, 58, 69, 98, 32, 77, 79, 86, 58, 71, 118, 58, 69, 118, 32, 47, 77, 79, 86, 58, 69, 118, 58, 83, 119, 47, 77, 79, 86, 58, 69, 118, 58, 83, 119, 47, 77, 79, 86, 58, 69, 118, 58, 83, 119, 47, 77, 79, 86, 58, 69, 118, 58, 83, 119, 47, 45, 47, 45, 47, 45, 47, 45, 32, 76, 69, 65, 58, 71, 118, 58, 77, 32, 47, 77, 79, 86, 58, 83, 119, 58, 69, 118, 47, 45, 47, 77, 79, 86, 58, 83, 119, 58, 69, 118, 47, 77, 79, 86, 58, 83, 119, 58, 69, 118, 47, 45, 47, 45, 47, 45, 47, 45, 32, 47, 80, 79, 80, 58, 69, 118, 47, 45, 47, 45, 47, 45, 47, 45, 47, 45, 47, 45, 47, 45, 32, 88, 67, 72, 71, 58, 65, 88, 58, 90, 118, 32, 88, 67, 72, 71, 58, 65, 88, 58, 90, 118, 32, 88, 67, 72, 71, 58, 65, 88, 58, 90, 118, 32, 88, 67, 72, 71, 58, 65, 88, 58, 90, 118, 32, 88, 67, 72, 71, 58, 65, 88, 58, 90, 118, 32, 88, 67, 72, 71, 58, 65, 88, 58, 90, 118, 32, 88, 67, 72, 71, 58, 65, 88, 58, 90, 118, 32, 88, 67, 72, 71, 58, 65, 88, 58, 90, 118, 32, 67, 66, 87, 32, 67, 87, 68, 32, 67, 65, 76, 76, 70, 58, 65, 112, 32, 87, 65, 73, 84, 32, 80, 85, 83, 72, 70, 32, 80, 79, 80, 70, 32, 83, 65, 72, 70, 32, 76, 65, 72, 70, 32, 77, 79, 86, 58, 65, 76, 58, 79, 98, 32, 77, 79, 86, 58, 65, 88, 58, 79, 118, 32, 77, 79, 86, 58, 79, 98, 58, 65, 76, 32, 77, 79, 86, 58, 79, 118, 58, 65, 88, 32, 77, 79, 86, 83, 66, 32, 77, 79, 86, 83, 87, 32, 67, 77, 80, 83, 66, 32, 67, 77, 80, 83, 87, 32, 84, 69, 83, 84, 58, 65, 76, 58, 73, 98, 32, 84, 69, 83, 84, 58, 65, 88, 58, 73, 118, 32, 83, 84, 79, 83, 66, 32, 83, 84, 79, 83, 87, 32, 76, 79, 68, 83, 66, 32, 76, 79, 68, 83, 87, 32, 83, 67, 65, 83, 66, 32, 83, 67, 65, 83, 87, 32, 77, 79, 86, 58, 90, 98, 58, 73, 98, 32, 77, 79, 86, 58, 90, 98, 58, 73, 98, 32, 77, 79, 86, 58, 90, 98, 58, 73, 98, 32, 77, 79, 86, 58, 90, 98, 58, 73, 98, 32, 77, 79, 86, 58, 90, 98, 58, 73, 98, 32, 77, 79, 86, 58, 90, 98, 58, 73, 98, 32, 77, 79, 86, 58, 90, 98, 58, 73, 98, 32, 77, 79, 86, 58, 90, 98, 58, 73, 98, 32, 77, 79, 86, 58, 90, 118, 58, 73, 118, 32, 77, 79, 86, 58, 90, 118, 58, 73, 118, 32, 77, 79, 86, 58, 90, 118, 58, 73, 118, 32, 77, 79, 86, 58, 90, 118, 58, 73, 118, 32, 77, 79, 86, 58, 90, 118, 58, 73, 118, 32, 77, 79, 86, 58, 90, 118, 58, 73, 118, 32, 77, 79, 86, 58, 90, 118, 58, 73, 118, 32, 77, 79, 86, 58, 90, 118, 58, 73, 118, 32, 45, 32, 45, 32, 82, 69, 84, 58, 73, 118, 32, 82, 69, 84, 32, 76, 69, 83, 58, 71, 118, 58, 77, 112, 32, 76, 68, 83, 58, 71, 118, 58, 77, 112, 32, 47, 77, 79, 86, 58, 69, 98, 58, 73, 98, 47, 45, 47, 45, 47, 45, 47, 45, 47, 45, 47, 45, 47, 45, 32, 47, 77, 79, 86, 58, 69, 118, 58, 73, 118, 47, 45, 47, 45, 47, 45, 47, 45, 47, 45, 47, 45, 47, 45, 32, 45, 32, 45, 32, 82, 69, 84, 70, 58, 73, 118, 32, 82, 69, 84, 70, 32, 73, 78, 84, 58, 84, 104, 114, 101, 101, 32, 73, 78, 84, 58, 73, 98, 32, 73, 78, 84, 79, 32, 73, 82, 69, 84, 32, 47, 82, 79, 76, 58, 69, 98, 58, 79, 110, 101, 47, 82, 79, 82, 58, 69, 98, 58, 79, 110, 101, 47, 82, 67, 76, 58, 69, 98, 58, 79, 110, 101, 47, 82, 67, 82, 58, 69, 98, 58, 79, 110, 101, 47, 83, 72, 76, 58, 69, 98, 58, 79, 110, 101, 47, 83, 72, 82, 58, 69, 98, 58, 79, 110, 101, 47, 45, 47, 83, 65, 82, 58, 69, 98, 58, 79, 110, 101, 32, 47, 82, 79, 76, 58, 69, 118, 58, 79, 110, 101, 47, 82, 79, 82, 58, 69, 118, 58, 79, 110, 101, 47, 82, 67, 76, 58, 69, 118, 58, 79, 110, 101, 47, 82, 67, 82, 58, 69, 118, 58, 79, 110, 101, 47, 83, 72, 76, 58, 69, 118, 58, 79, 110, 101, 47, 83, 72, 82, 58, 69, 118, 58, 79, 110, 101, 47, 45, 47, 83, 65, 82, 58, 69, 118, 58, 79, 110, 101, 32, 47, 82, 79, 76, 58, 69, 98, 58, 67, 76, 47, 82, 79, 82, 58, 69, 98, 58, 67, 76, 47, 82, 67, 76, 58, 69, 98, 58, 67, 76, 47, 82, 67, 82, 58, 69, 98, 58, 67, 76, 47, 83, 72, 76, 58, 69, 98, 58, 67, 76, 47, 83, 72, 82, 58, 69, 98, 58, 67, 76, 47, 45, 47, 83, 65, 82, 58, 69, 98, 58, 67, 76, 32, 47, 82, 79, 76, 58, 69, 118, 58, 67, 76, 47, 82, 79, 82, 58, 69, 118, 58, 67, 76, 47, 82, 67, 76, 58, 69, 118, 58, 67, 76, 47, 82, 67, 82, 58, 69, 118, 58, 67, 76, 47, 83, 72, 76, 58, 69, 118, 58, 67, 76, 47, 83, 72, 82, 58, 69, 118, 58, 67, 76, 47, 45, 47, 83, 65, 82, 58, 69, 118, 58, 67, 76, 32, 65, 65, 77, 58, 73, 98, 32, 65, 65, 68, 58, 73, 98, 32, 45, 32, 88, 76, 65, 84, 32, 69, 83, 67, 58, 69, 118, 32, 69, 83, 67, 58, 69, 118, 32, 69, 83, 67, 58, 69, 118, 32, 69, 83, 67, 58, 69, 118, 32, 69, 83, 67, 58, 69, 118, 32, 69, 83, 67, 58, 69, 118, 32, 69, 83, 67, 58, 69, 118, 32, 69, 83, 67, 58, 69, 118, 32, 76, 79, 79, 80, 78, 90, 58, 74, 98, 32, 76, 79, 79, 80, 90, 58, 74, 98, 32, 76, 79, 79, 80, 58, 74, 98, 32, 74, 67, 88, 90, 58, 74, 98, 32, 73, 78, 58, 65, 76, 58, 73, 98, 32, 73, 78, 58, 65, 88, 58, 73, 98, 32, 79, 85, 84, 58, 73, 98, 58, 65, 76, 32, 79, 85, 84, 58, 73, 98, 58, 65, 88, 32, 67, 65, 76, 76, 58, 74, 118, 32, 74, 77, 80, 58, 74, 118, 32, 74, 77, 80, 70, 58, 65, 112, 32, 74, 77, 80, 58, 74, 98, 32, 73, 78, 58, 65, 76, 58, 68, 88, 32, 73, 78, 58, 65, 88, 58, 68, 88, 32, 79, 85, 84, 58, 68, 88, 58, 65, 76, 32, 79, 85, 84, 58, 68, 88, 58, 65, 88, 32, 45, 32, 45, 32, 45, 32, 45, 32, 72, 76, 84, 32, 67, 77, 67, 32, 47, 84, 69, 83, 84, 58, 69, 98, 58, 73, 98, 47, 45, 47, 78, 79, 84, 58, 69, 98, 47, 78, 69, 71, 58, 69, 98, 47, 77, 85, 76, 58, 69, 98, 47, 73, 77, 85, 76, 58, 69, 98, 47, 68, 73, 86, 58, 69, 98, 47, 73, 68, 73, 86, 58, 69, 98, 32, 47, 84, 69, 83, 84, 58, 69, 118, 58, 73, 118, 47, 45, 47, 78, 79, 84, 58, 69, 118, 47, 78, 69, 71, 58, 69, 118, 47, 77, 85, 76, 58, 69, 118, 47, 73, 77, 85, 76, 58, 69, 118, 47, 68, 73, 86, 58, 69, 118, 47, 73, 68, 73, 86, 58, 69, 118, 32, 67, 76, 67, 32, 83, 84, 67, 32, 67, 76, 73, 32, 83, 84, 73, 32, 67, 76, 68, 32, 83, 84, 68, 32, 47, 73, 78, 67, 58, 69, 98, 47, 68, 69, 67, 58, 69, 98, 47, 45, 47, 45, 47, 45, 47, 45, 47, 45, 47, 45, 32, 47, 73, 78, 67, 58, 69, 118, 47, 68, 69, 67, 58, 69, 118, 47, 67, 65, 76, 76, 58, 69, 118, 47, 67, 65, 76, 76, 70, 58, 77, 112, 47, 74, 77, 80, 58, 69, 118, 47, 74, 77, 80, 70, 58, 77, 112, 47, 80, 85, 83, 72, 58, 69, 118, 47, 45, 32])), .t 5],
  o3 3 .mv [.t 6]]
def F22o5 : List Ao := [
  o3 7 .mv [.t 3],
  o3 8 .lenS [.t 7],
  o3 9 (.bin .gtr) [.t 8, .c (.d (.int .i64 0))],
  o3 10 .mv [.t 9],
  { dst := some 11, k := .mv, xs := [.t 3], g := some (10, true) },
  { dst := some 12, k := .indexS, xs := [.t 11, .c (.d (.int .i64 0))], g := some (10, true) },
  { dst := some 13, k := (.bin .eql), xs := [.t 12, .c (.d (.int .u8 47))], g := some (10, true) },
  o3 14 .pick [.t 10, .t 13, .c (.d (.bool false))],
  o3 15 .mv [.t 14],
  { dst := some 16, k := .mv, xs := [.t 0], g := some (15, true) },
  { dst := some 17, k := (.bin .neq), xs := [.t 16, .c (.d (.int .u8 140))], g := some (15, true) },
  o3 18 .pick [.t 15, .t 17, .c (.d (.bool false))],
  o3 19 .mv [.t 18],
  { dst := some 20, k := .mv, xs := [.t 0], g := some (19, true) },
  { dst := some 21, k := (.bin .neq), xs := [.t 20, .c (.d (.int .u8 142))], g := some (19, true) },
  o3 22 .pick [.t 19, .t 21, .c (.d (.bool false))],
  o3 2 .mv [.t 22]]
def F22c6 : Ac := .ret
def F22c4 : Ac := (.seq (.ops F22o5) F22c6)
def F22c2 : Ac := (.seq (.ops F22o3) F22c4)
def F22c0 : Ac := (.seq (.ops F22o1) F22c2)
/-- hansom/hansomref04.Grouped -/
def F22 : Fn := { np := 1, pb := [], rs := [.t 2], body := F22c0 }
def F37o1 : List Ao := [
  o3 2 (.alloc [.d (.int .i64 0), .d (.int .i64 0), .d (.int .i64 0), .d (.bool false)]) [],
  o3 3 .mv [.c (.d (.bool false))]]
def F37o3 : List Ao := [
  o3 5 .mv [.t 0],
  o3 6 (.bin .shr) [.t 5, .c (.d (.int .u64 3))],
  o3 7 (.toInt .i64) [.t 6],
  o3 8 (.bin .add) [.c (.d (.int .i64 1)), .t 7],
  o3 4 .mv [.t 8]]
def F37o6 : List Ao := [
  o3 9 .mv [.t 0],
  o3 10 (.bin .and) [.t 9, .c (.d (.int .u8 7))]]
def F37o9 : List Ao := [
  o3 12 (.bin .eql) [.t 10, .c (.d (.int .u8 0))],
  o3 11 .mv [.t 12]]
def F37o12 : List Ao := [
  o3 13 .mv [.t 4],
  o3 14 (.callf 67) [.t 13, .c (.d (.int .i64 1)), .c (.d (.int .i64 3))],
  o3 15 (.extract 0) [.t 14],
  o3 16 (.extract 1) [.t 14],
  { dst := none, k := (.store 4), xs := [.t 2, .t 15] },
  o3 3 .mv [.t 16]]
def F37c13 : Ac := .ret
def F37o15 : List Ao := [
  o3 18 (.bin .eql) [.t 10, .c (.d (.int .u8 1))],
  o3 17 .mv [.t 18]]
def F37o18 : List Ao := [
  o3 19 .mv [.t 4],
  o3 20 (.callf 67) [.t 19, .c (.d (.int .i64 2)), .c (.d (.int .i64 4))],
  o3 21 (.extract 0) [.t 20],
  o3 22 (.extract 1) [.t 20],
  { dst := none, k := (.store 4), xs := [.t 2, .t 21] },
  o3 3 .mv [.t 22]]
def F37c19 : Ac := .ret
def F37o21 : List Ao := [
  o3 24 (.bin .eql) [.t 10, .c (.d (.int .u8 2))],
  o3 23 .mv [.t 24]]
def F37o24 : List Ao := [
  o3 25 .mv [.t 4],
  o3 26 (.callf 67) [.t 25, .c (.d (.int .i64 3)), .c (.d (.int .i64 1))],
  o3 27 (.extract 0) [.t 26],
  o3 28 (.extract 1) [.t 26],
  { dst := none, k := (.store 4), xs := [.t 2, .t 27] },
  o3 3 .mv [.t 28]]
def F37c25 : Ac := .ret
def F37o27 : List Ao := [
  o3 30 (.bin .eql) [.t 10, .c (.d (.int .u8 3))],
  o3 29 .mv [.t 30]]
def F37o30 : List Ao := [
  o3 31 .mv [.t 4],
  o3 32 (.callf 67) [.t 31, .c (.d (.int .i64 4)), .c (.d (.int .i64 2))],
  o3 33 (.extract 0) [.t 32],
  o3 34 (.extract 1) [.t 32],
  { dst := none, k := (.store 4), xs := [.t 2, .t 33] },
  o3 3 .mv [.t 34]]
def F37c31 : Ac := .ret
def F37o33 : List Ao := [
  o3 36 (.bin .eql) [.t 10, .c (.d (.int .u8 4))],
  o3 35 .mv [.t 36]]
def F37o36 : List Ao := [
  o3 37 .mv [.t 4],
  o3 38 (.callf 38) [.t 37, .c (.d (.int .i64 14)), .c (.d (.int .i64 6))],
  o3 39 (.extract 0) [.t 38],
  o3 40 (.extract 1) [.t 38],
  { dst := none, k := (.store 4), xs := [.t 2, .t 39] },
  o3 3 .mv [.t 40]]
def F37c37 : Ac := .ret
def F37o39 : List Ao := [
  o3 42 (.bin .eql) [.t 10, .c (.d (.int .u8 5))],
  o3 41 .mv [.t 42]]
def F37o42 : List Ao := [
  o3 43 .mv [.t 4],
  o3 44 (.callf 38) [.t 43, .c (.d (.int .i64 16)), .c (.d (.int .i64 7))],
  o3 45 (.extract 0) [.t 44],
  o3 46 (.extract 1) [.t 44],
  { dst := none, k := (.store 4), xs := [.t 2, .t 45] },
  o3 3 .mv [.t 46]]
def F37c43 : Ac := .ret
def F37c40 : Ac := (.cond (.t 41) (.seq (.ops F37o42) F37c43) .skip)
def F37c34 : Ac := (.cond (.t 35) (.seq (.ops F37o36) F37c37) (.seq (.ops F37o39) F37c40))
def F37c28 : Ac := (.cond (.t 29) (.seq (.ops F37o30) F37c31) (.seq (.ops F37o33) F37c34))
def F37c22 : Ac := (.cond (.t 23) (.seq (.ops F37o24) F37c25) (.seq (.ops F37o27) F37c28))
def F37c16 : Ac := (.cond (.t 17) (.seq (.ops F37o18) F37c19) (.seq (.ops F37o21) F37c22))
def F37c10 : Ac := (.cond (.t 11) (.seq (.ops F37o12) F37c13) (.seq (.ops F37o15) F37c16))
def F37c7 : Ac := (.block 0 (.seq (.ops F37o9) F37c10))
def F37o47 : List Ao := [
  o3 47 .mv [.t 0]]
def F37o51 : List Ao := [
  o3 49 (.bin .eql) [.t 47, .c (.d (.int .u8 6))],
  o3 48 .mv [.t 49]]
def F37o55 : List Ao := [
  o3 50 (.bin .eql) [.t 47, .c (.d (.int .u8 14))],
  o3 48 .mv [.t 50]]
def F37o59 : List Ao := [
  o3 51 (.bin .eql) [.t 47, .c (.d (.int .u8 22))],
  o3 48 .mv [.t 51]]
def F37o62 : List Ao := [
  o3 52 (.bin .eql) [.t 47, .c (.d (.int .u8 30))],
  o3 48 .mv [.t 52]]
def F37c60 : Ac := (.cond (.t 48) .skip (.ops F37o62))
def F37c56 : Ac := (.cond (.t 48) .skip (.seq (.ops F37o59) F37c60))
def F37c52 : Ac := (.cond (.t 48) .skip (.seq (.ops F37o55) F37c56))
def F37o65 : List Ao := [
  o3 53 (.callf 38) [.c (.d (.int .i64 9)), .c (.d (.int .i64 23)), .c (.d (.int .i64 0))],
  o3 54 (.extract 0) [.t 53],
  o3 55 (.extract 1) [.t 53],
  { dst := none, k := (.store 4), xs := [.t 2, .t 54] },
  o3 3 .mv [.t 55]]
def F37c66 : Ac := .ret
def F37o69 : List Ao := [
  o3 57 (.bin .eql) [.t 47, .c (.d (.int .u8 7))],
  o3 56 .mv [.t 57]]
def F37o73 : List Ao := [
  o3 58 (.bin .eql) [.t 47, .c (.d (.int .u8 23))],
  o3 56 .mv [.t 58]]
def F37o76 : List Ao := [
  o3 59 (.bin .eql) [.t 47, .c (.d (.int .u8 31))],
  o3 56 .mv [.t 59]]
def F37c74 : Ac := (.cond (.t 56) .skip (.ops F37o76))
def F37c70 : Ac := (.cond (.t 56) .skip (.seq (.ops F37o73) F37c74))
def F37o79 : List Ao := [
  o3 60 (.callf 38) [.c (.d (.int .i64 10)), .c (.d (.int .i64 23)), .c (.d (.int .i64 0))],
  o3 61 (.extract 0) [.t 60],
  o3 62 (.extract 1) [.t 60],
  { dst := none, k := (.store 4), xs := [.t 2, .t 61] },
  o3 3 .mv [.t 62]]
def F37c80 : Ac := .ret
def F37o82 : List Ao := [
  o3 64 (.bin .eql) [.t 47, .c (.d (.int .u8 39))],
  o3 63 .mv [.t 64]]
def F37o85 : List Ao := [
  o3 65 (.callf 38) [.c (.d (.int .i64 11)), .c (.d (.int .i64 0)), .c (.d (.int .i64 0))],
  o3 66 (.extract 0) [.t 65],
  o3 67 (.extract 1) [.t 65],
  { dst := none, k := (.store 4), xs := [.t 2, .t 66] },
  o3 3 .mv [.t 67]]
def F37c86 : Ac := .ret
def F37o88 : List Ao := [
  o3 69 (.bin .eql) [.t 47, .c (.d (.int .u8 47))],
  o3 68 .mv [.t 69]]
def F37o91 : List Ao := [
  o3 70 (.callf 38) [.c (.d (.int .i64 12)), .c (.d (.int .i64 0)), .c (.d (.int .i64 0))],
  o3 71 (.extract 0) [.t 70],
  o3 72 (.extract 1) [.t 70],
  { dst := none, k := (.store 4), xs := [.t 2, .t 71] },
  o3 3 .mv [.t 72]]
def F37c92 : Ac := .ret
def F37o94 : List Ao := [
  o3 74 (.bin .eql) [.t 47, .c (.d (.int .u8 55))],
  o3 73 .mv [.t 74]]
def F37o97 : List Ao := [
  o3 75 (.callf 38) [.c (.d (.int .i64 13)), .c (.d (.int .i64 0)), .c (.d (.int .i64 0))],
  o3 76 (.extract 0) [.t 75],
  o3 77 (.extract 1) [.t 75],
  { dst := none, k := (.store 4), xs := [.t 2, .t 76] },
  o3 3 .mv [.t 77]]
def F37c98 : Ac := .ret
def F37o100 : List Ao := [
  o3 79 (.bin .eql) [.t 47, .c (.d (.int .u8 63))],
  o3 78 .mv [.t 79]]
def F37o103 : List Ao := [
  o3 80 (.callf 38) [.c (.d (.int .i64 14)), .c (.d (.int .i64 0)), .c (.d (.int .i64 0))],
  o3 81 (.extract 0) [.t 80],
  o3 82 (.extract 1) [.t 80],
  { dst := none, k := (.store 4), xs := [.t 2, .t 81] },
  o3 3 .mv [.t 82]]
def F37c104 : Ac := .ret
def F37c101 : Ac := (.cond (.t 78) (.seq (.ops F37o103) F37c104) .skip)
def F37c95 : Ac := (.cond (.t 73) (.seq (.ops F37o97) F37c98) (.seq (.ops F37o100) F37c101))
def F37c89 : Ac := (.cond (.t 68) (.seq (.ops F37o91) F37c92) (.seq (.ops F37o94) F37c95))
def F37c83 : Ac := (.cond (.t 63) (.seq (.ops F37o85) F37c86) (.seq (.ops F37o88) F37c89))
def F37b77 : Ac := (.cond (.t 56) (.seq (.ops F37o79) F37c80) (.seq (.ops F37o82) F37c83))
def F37c77 : Ac := (.seq (.gh []) (.seq (.keep [2, 47, 56] [[2]]) F37b77))
def F37b63 : Ac := (.cond (.t 48) (.seq (.ops F37o65) F37c66) (.seq (.seq (.ops F37o69) F37c70) F37c77))
def F37c63 : Ac := (.seq (.gh []) (.seq (.keep [2, 47, 48] [[2]]) F37b63))
def F37c48 : Ac := (.block 1 (.seq (.seq (.ops F37o51) F37c52) F37c63))
def F37o107 : List Ao := [
  o3 83 (.callf 39) [],
  o3 84 (.extract 0) [.t 83],
  o3 85 (.extract 1) [.t 83],
  { dst := none, k := (.store 4), xs := [.t 2, .t 84] },
  o3 3 .mv [.t 85]]
def F37c108 : Ac := .ret
def F37c106 : Ac := (.seq (.ops F37o107) F37c108)
def F37c45 : Ac := (.seq (.seq (.ops F37o47) F37c48) F37c106)
def F37c4 : Ac := (.seq (.seq (.ops F37o6) F37c7) F37c45)
def F37c2 : Ac := (.seq (.ops F37o3) F37c4)
def F37c0 : Ac := (.seq (.ops F37o1) F37c2)
/-- hansom/isa.sums -/
def F37 : Fn := { np := 1, pb := [], rs := [.c 2 (some 4), .t 3], body := F37c0 }
def F38o1 : List Ao := [
  o3 6 (.alloc [.d (.int .i64 0), .d (.int .i64 0), .d (.int .i64 0), .d (.bool false)]) [],
  o3 7 .mv [.c (.d (.bool false))]]
def F38o3 : List Ao := [
  o3 8 .mv [.t 0],
  o3 9 .mv [.t 1],
  o3 10 .mv [.t 2],
  o3 11 (.build [.d (.int .i64 0), .d (.int .i64 0), .d (.int .i64 0), .d (.bool false)] [(0, 1), (1, 1), (2, 1)]) [.t 8, .t 9, .t 10],
  { dst := none, k := (.store 4), xs := [.t 6, .t 11] },
  o3 7 .mv [.c (.d (.bool true))]]
def F38c4 : Ac := .ret
def F38c2 : Ac := (.seq (.ops F38o3) F38c4)
def F38c0 : Ac := (.seq (.ops F38o1) F38c2)
/-- hansom/isa.row -/
def F38 : Fn := { np := 3, pb := [], rs := [.c 6 (some 4), .t 7], body := F38c0 }
def F39o1 : List Ao := [
  o3 0 (.alloc [.d (.int .i64 0), .d (.int .i64 0), .d (.int .i64 0), .d (.bool false)]) [],
  o3 1 .mv [.c (.d (.bool false))]]
def F39o3 : List Ao := [
  o3 2 (.build [.d (.int .i64 0), .d (.int .i64 0), .d (.int .i64 0), .d (.bool false)] []) [],
  { dst := none, k := (.store 4), xs := [.t 0, .t 2] },
  o3 1 .mv [.c (.d (.bool false))]]
def F39c4 : Ac := .ret
def F39c2 : Ac := (.seq (.ops F39o3) F39c4)
def F39c0 : Ac := (.seq (.ops F39o1) F39c2)
/-- hansom/isa.bad -/
def F39 : Fn := { np := 0, pb := [], rs := [.c 0 (some 4), .t 1], body := F39c0 }
def F40o1 : List Ao := [
  o3 4 (.alloc [.d (.int .i64 0), .d (.int .i64 0), .d (.int .i64 0), .d (.bool false)]) [],
  o3 5 .mv [.c (.d (.bool false))]]
def F40o4 : List Ao := [
  o3 6 .mv [.t 0]]
def F40o7 : List Ao := [
  o3 8 (.bin .eql) [.t 6, .c (.d (.int .u8 128))],
  o3 7 .mv [.t 8]]
def F40o10 : List Ao := [
  o3 9 .mv [.t 1],
  o3 10 (.bin .add) [.c (.d (.int .i64 1)), .t 9],
  o3 11 (.callf 67) [.t 10, .c (.d (.int .i64 1)), .c (.d (.int .i64 6))],
  o3 12 (.extract 0) [.t 11],
  o3 13 (.extract 1) [.t 11],
  { dst := none, k := (.store 4), xs := [.t 4, .t 12] },
  o3 5 .mv [.t 13]]
def F40c11 : Ac := .ret
def F40o13 : List Ao := [
  o3 15 (.bin .eql) [.t 6, .c (.d (.int .u8 129))],
  o3 14 .mv [.t 15]]
def F40o16 : List Ao := [
  o3 16 .mv [.t 1],
  o3 17 (.bin .add) [.c (.d (.int .i64 1)), .t 16],
  o3 18 (.callf 67) [.t 17, .c (.d (.int .i64 2)), .c (.d (.int .i64 7))],
  o3 19 (.extract 0) [.t 18],
  o3 20 (.extract 1) [.t 18],
  { dst := none, k := (.store 4), xs := [.t 4, .t 19] },
  o3 5 .mv [.t 20]]
def F40c17 : Ac := .ret
def F40o19 : List Ao := [
  o3 22 (.bin .eql) [.t 6, .c (.d (.int .u8 131))],
  o3 21 .mv [.t 22]]
def F40o23 : List Ao := [
  o3 23 .mv [.t 1],
  o3 24 (.bin .eql) [.t 23, .c (.d (.int .i64 1))],
  o3 25 .mv [.t 24],
  { dst := some 26, k := .mv, xs := [.t 1], g := some (25, false) },
  { dst := some 27, k := (.bin .eql), xs := [.t 26, .c (.d (.int .i64 4))], g := some (25, false) },
  o3 28 .pick [.t 25, .c (.d (.bool true)), .t 27],
  o3 29 .mv [.t 28],
  { dst := some 30, k := .mv, xs := [.t 1], g := some (29, false) },
  { dst := some 31, k := (.bin .eql), xs := [.t 30, .c (.d (.int .i64 6))], g := some (29, false) },
  o3 32 .pick [.t 29, .c (.d (.bool true)), .t 31]]
def F40o26 : List Ao := [
  o3 33 (.callf 39) [],
  o3 34 (.extract 0) [.t 33],
  o3 35 (.extract 1) [.t 33],
  { dst := none, k := (.store 4), xs := [.t 4, .t 34] },
  o3 5 .mv [.t 35]]
def F40c27 : Ac := .ret
def F40c24 : Ac := (.cond (.t 32) (.seq (.ops F40o26) F40c27) .skip)
def F40o30 : List Ao := [
  o3 36 .mv [.t 1],
  o3 37 (.bin .add) [.c (.d (.int .i64 1)), .t 36],
  o3 38 (.callf 67) [.t 37, .c (.d (.int .i64 2)), .c (.d (.int .i64 8))],
  o3 39 (.extract 0) [.t 38],
  o3 40 (.extract 1) [.t 38],
  { dst := none, k := (.store 4), xs := [.t 4, .t 39] },
  o3 5 .mv [.t 40]]
def F40c31 : Ac := .ret
def F40c29 : Ac := (.seq (.ops F40o30) F40c31)
def F40o33 : List Ao := [
  o3 42 (.bin .eql) [.t 6, .c (.d (.int .u8 132))],
  o3 41 .mv [.t 42]]
def F40o36 : List Ao := [
  o3 43 (.callf 67) [.c (.d (.int .i64 33)), .c (.d (.int .i64 1)), .c (.d (.int .i64 3))],
  o3 44 (.extract 0) [.t 43],
  o3 45 (.extract 1) [.t 43],
  { dst := none, k := (.store 4), xs := [.t 4, .t 44] },
  o3 5 .mv [.t 45]]
def F40c37 : Ac := .ret
def F40o39 : List Ao := [
  o3 47 (.bin .eql) [.t 6, .c (.d (.int .u8 133))],
  o3 46 .mv [.t 47]]
def F40o42 : List Ao := [
  o3 48 (.callf 67) [.c (.d (.int .i64 33)), .c (.d (.int .i64 2)), .c (.d (.int .i64 4))],
  o3 49 (.extract 0) [.t 48],
  o3 50 (.extract 1) [.t 48],
  { dst := none, k := (.store 4), xs := [.t 4, .t 49] },
  o3 5 .mv [.t 50]]
def F40c43 : Ac := .ret
def F40o45 : List Ao := [
  o3 52 (.bin .eql) [.t 6, .c (.d (.int .u8 134))],
  o3 51 .mv [.t 52]]
def F40o48 : List Ao := [
  o3 53 (.callf 67) [.c (.d (.int .i64 34)), .c (.d (.int .i64 1)), .c (.d (.int .i64 3))],
  o3 54 (.extract 0) [.t 53],
  o3 55 (.extract 1) [.t 53],
  { dst := none, k := (.store 4), xs := [.t 4, .t 54] },
  o3 5 .mv [.t 55]]
def F40c49 : Ac := .ret
def F40o51 : List Ao := [
  o3 57 (.bin .eql) [.t 6, .c (.d (.int .u8 135))],
  o3 56 .mv [.t 57]]
def F40o54 : List Ao := [
  o3 58 (.callf 67) [.c (.d (.int .i64 34)), .c (.d (.int .i64 2)), .c (.d (.int .i64 4))],
  o3 59 (.extract 0) [.t 58],
  o3 60 (.extract 1) [.t 58],
  { dst := none, k := (.store 4), xs := [.t 4, .t 59] },
  o3 5 .mv [.t 60]]
def F40c55 : Ac := .ret
def F40o57 : List Ao := [
  o3 62 (.bin .eql) [.t 6, .c (.d (.int .u8 136))],
  o3 61 .mv [.t 62]]
def F40o60 : List Ao := [
  o3 63 (.callf 67) [.c (.d (.int .i64 35)), .c (.d (.int .i64 1)), .c (.d (.int .i64 3))],
  o3 64 (.extract 0) [.t 63],
  o3 65 (.extract 1) [.t 63],
  { dst := none, k := (.store 4), xs := [.t 4, .t 64] },
  o3 5 .mv [.t 65]]
def F40c61 : Ac := .ret
def F40o63 : List Ao := [
  o3 67 (.bin .eql) [.t 6, .c (.d (.int .u8 137))],
  o3 66 .mv [.t 67]]
def F40o66 : List Ao := [
  o3 68 (.callf 67) [.c (.d (.int .i64 35)), .c (.d (.int .i64 2)), .c (.d (.int .i64 4))],
  o3 69 (.extract 0) [.t 68],
  o3 70 (.extract 1) [.t 68],
  { dst := none, k := (.store 4), xs := [.t 4, .t 69] },
  o3 5 .mv [.t 70]]
def F40c67 : Ac := .ret
def F40o69 : List Ao := [
  o3 72 (.bin .eql) [.t 6, .c (.d (.int .u8 138))],
  o3 71 .mv [.t 72]]
def F40o72 : List Ao := [
  o3 73 (.callf 67) [.c (.d (.int .i64 35)), .c (.d (.int .i64 3)), .c (.d (.int .i64 1))],
  o3 74 (.extract 0) [.t 73],
  o3 75 (.extract 1) [.t 73],
  { dst := none, k := (.store 4), xs := [.t 4, .t 74] },
  o3 5 .mv [.t 75]]
def F40c73 : Ac := .ret
def F40o75 : List Ao := [
  o3 77 (.bin .eql) [.t 6, .c (.d (.int .u8 139))],
  o3 76 .mv [.t 77]]
def F40o78 : List Ao := [
  o3 78 (.callf 67) [.c (.d (.int .i64 35)), .c (.d (.int .i64 4)), .c (.d (.int .i64 2))],
  o3 79 (.extract 0) [.t 78],
  o3 80 (.extract 1) [.t 78],
  { dst := none, k := (.store 4), xs := [.t 4, .t 79] },
  o3 5 .mv [.t 80]]
def F40c79 : Ac := .ret
def F40o81 : List Ao := [
  o3 82 (.bin .eql) [.t 6, .c (.d (.int .u8 140))],
  o3 81 .mv [.t 82]]
def F40o84 : List Ao := [
  o3 83 .mv [.t 1],
  o3 84 (.bin .lss) [.t 83, .c (.d (.int .i64 4))]]
def F40o87 : List Ao := [
  o3 85 (.callf 67) [.c (.d (.int .i64 35)), .c (.d (.int .i64 2)), .c (.d (.int .i64 5))],
  o3 86 (.extract 0) [.t 85],
  o3 87 (.extract 1) [.t 85],
  { dst := none, k := (.store 4), xs := [.t 4, .t 86] },
  o3 5 .mv [.t 87]]
def F40c88 : Ac := .ret
def F40c85 : Ac := (.cond (.t 84) (.seq (.ops F40o87) F40c88) .skip)
def F40o91 : List Ao := [
  o3 89 (.bin .eql) [.t 6, .c (.d (.int .u8 141))],
  o3 88 .mv [.t 89]]
def F40o94 : List Ao := [
  o3 90 (.callf 67) [.c (.d (.int .i64 36)), .c (.d (.int .i64 4)), .c (.d (.int .i64 20))],
  o3 91 (.extract 0) [.t 90],
  o3 92 (.extract 1) [.t 90],
  { dst := none, k := (.store 4), xs := [.t 4, .t 91] },
  o3 5 .mv [.t 92]]
def F40c95 : Ac := .ret
def F40o97 : List Ao := [
  o3 94 (.bin .eql) [.t 6, .c (.d (.int .u8 142))],
  o3 93 .mv [.t 94]]
def F40o100 : List Ao := [
  o3 95 .mv [.t 1],
  o3 96 (.bin .lss) [.t 95, .c (.d (.int .i64 4))],
  o3 97 .mv [.t 96],
  { dst := some 98, k := .mv, xs := [.t 1], g := some (97, true) },
  { dst := some 99, k := (.bin .neq), xs := [.t 98, .c (.d (.int .i64 1))], g := some (97, true) },
  o3 100 .pick [.t 97, .t 99, .c (.d (.bool false))]]
def F40o103 : List Ao := [
  o3 101 (.callf 67) [.c (.d (.int .i64 35)), .c (.d (.int .i64 5)), .c (.d (.int .i64 2))],
  o3 102 (.extract 0) [.t 101],
  o3 103 (.extract 1) [.t 101],
  { dst := none, k := (.store 4), xs := [.t 4, .t 102] },
  o3 5 .mv [.t 103]]
def F40c104 : Ac := .ret
def F40c101 : Ac := (.cond (.t 100) (.seq (.ops F40o103) F40c104) .skip)
def F40o107 : List Ao := [
  o3 105 (.bin .eql) [.t 6, .c (.d (.int .u8 143))],
  o3 104 .mv [.t 105]]
def F40o110 : List Ao := [
  o3 106 .mv [.t 1],
  o3 107 (.bin .eql) [.t 106, .c (.d (.int .i64 0))]]
def F40o113 : List Ao := [
  o3 108 (.callf 67) [.c (.d (.int .i64 10)), .c (.d (.int .i64 2)), .c (.d (.int .i64 0))],
  o3 109 (.extract 0) [.t 108],
  o3 110 (.extract 1) [.t 108],
  { dst := none, k := (.store 4), xs := [.t 4, .t 109] },
  o3 5 .mv [.t 110]]
def F40c114 : Ac := .ret
def F40c111 : Ac := (.cond (.t 107) (.seq (.ops F40o113) F40c114) .skip)
def F40c108 : Ac := (.cond (.t 104) (.seq (.ops F40o110) F40c111) .skip)
def F40c98 : Ac := (.cond (.t 93) (.seq (.ops F40o100) F40c101) (.seq (.ops F40o107) F40c108))
def F40c92 : Ac := (.cond (.t 88) (.seq (.ops F40o94) F40c95) (.seq (.ops F40o97) F40c98))
def F40c82 : Ac := (.cond (.t 81) (.seq (.ops F40o84) F40c85) (.seq (.ops F40o91) F40c92))
def F40c76 : Ac := (.cond (.t 76) (.seq (.ops F40o78) F40c79) (.seq (.ops F40o81) F40c82))
def F40c70 : Ac := (.cond (.t 71) (.seq (.ops F40o72) F40c73) (.seq (.ops F40o75) F40c76))
def F40c64 : Ac := (.cond (.t 66) (.seq (.ops F40o66) F40c67) (.seq (.ops F40o69) F40c70))
def F40c58 : Ac := (.cond (.t 61) (.seq (.ops F40o60) F40c61) (.seq (.ops F40o63) F40c64))
def F40c52 : Ac := (.cond (.t 56) (.seq (.ops F40o54) F40c55) (.seq (.ops F40o57) F40c58))
def F40c46 : Ac := (.cond (.t 51) (.seq (.ops F40o48) F40c49) (.seq (.ops F40o51) F40c52))
def F40c40 : Ac := (.cond (.t 46) (.seq (.ops F40o42) F40c43) (.seq (.ops F40o45) F40c46))
def F40c34 : Ac := (.cond (.t 41) (.seq (.ops F40o36) F40c37) (.seq (.ops F40o39) F40c40))
def F40c20 : Ac := (.cond (.t 21) (.seq (.seq (.ops F40o23) F40c24) F40c29) (.seq (.ops F40o33) F40c34))
def F40c14 : Ac := (.cond (.t 14) (.seq (.ops F40o16) F40c17) (.seq (.ops F40o19) F40c20))
def F40c8 : Ac := (.cond (.t 7) (.seq (.ops F40o10) F40c11) (.seq (.ops F40o13) F40c14))
def F40c5 : Ac := (.block 0 (.seq (.ops F40o7) F40c8))
def F40o118 : List Ao := [
  o3 111 (.callf 39) [],
  o3 112 (.extract 0) [.t 111],
  o3 113 (.extract 1) [.t 111],
  { dst := none, k := (.store 4), xs := [.t 4, .t 112] },
  o3 5 .mv [.t 113]]
def F40c119 : Ac := .ret
def F40c117 : Ac := (.seq (.ops F40o118) F40c119)
def F40c2 : Ac := (.seq (.seq (.ops F40o4) F40c5) F40c117)
def F40c0 : Ac := (.seq (.ops F40o1) F40c2)
/-- hansom/isa.moves -/
def F40 : Fn := { np := 2, pb := [], rs := [.c 4 (some 4), .t 5], body := F40c0 }
def F41o1 : List Ao := [
  o3 2 (.alloc [.d (.int .i64 0), .d (.int .i64 0), .d (.int .i64 0), .d (.bool false)]) [],
  o3 3 .mv [.c (.d (.bool false))]]
def F41o4 : List Ao := [
  o3 5 .mv [.t 0],
  o3 6 (.bin .lss) [.t 5, .c (.d (.int .u8 152))]]
def F41o7 : List Ao := [
  o3 7 (.callf 38) [.c (.d (.int .i64 34)), .c (.d (.int .i64 16)), .c (.d (.int .i64 22))],
  o3 8 (.extract 0) [.t 7],
  o3 9 (.extract 1) [.t 7],
  { dst := none, k := (.store 4), xs := [.t 2, .t 8] },
  o3 3 .mv [.t 9]]
def F41c8 : Ac := .ret
def F41c5 : Ac := (.cond (.t 6) (.seq (.ops F41o7) F41c8) .skip)
def F41o12 : List Ao := [
  o3 10 .mv [.t 0],
  o3 11 (.bin .eql) [.t 10, .c (.d (.int .u8 154))]]
def F41o15 : List Ao := [
  o3 12 (.callf 38) [.c (.d (.int .i64 40)), .c (.d (.int .i64 11)), .c (.d (.int .i64 0))],
  o3 13 (.extract 0) [.t 12],
  o3 14 (.extract 1) [.t 12],
  { dst := none, k := (.store 4), xs := [.t 2, .t 13] },
  o3 3 .mv [.t 14]]
def F41c16 : Ac := .ret
def F41c13 : Ac := (.cond (.t 11) (.seq (.ops F41o15) F41c16) .skip)
def F41o19 : List Ao := [
  o3 15 (.bslice (.int .i64 0) 8 [0, 1, 2, 3, 4, 5, 6, 7]) [.c (.d (.int .i64 37)), .c (.d (.int .i64 38)), .c (.d (.int .i64 0)), .c (.d (.int .i64 41)), .c (.d (.int .i64 42)), .c (.d (.int .i64 43)), .c (.d (.int .i64 44)), .c (.d (.int .i64 45))],
  o3 16 .mv [.t 0],
  o3 17 (.bin .sub) [.t 16, .c (.d (.int .u8 152))],
  o3 18 (.iaddrS 1) [.t 15, .t 17],
  o3 19 (.load none) [.t 18],
  o3 4 .mv [.t 19]]
def F41o21 : List Ao := [
  o3 20 .mv [.t 4],
  o3 21 (.callf 38) [.t 20, .c (.d (.int .i64 0)), .c (.d (.int .i64 0))],
  o3 22 (.extract 0) [.t 21],
  o3 23 (.extract 1) [.t 21],
  { dst := none, k := (.store 4), xs := [.t 2, .t 22] },
  o3 3 .mv [.t 23]]
def F41c22 : Ac := .ret
def F41c20 : Ac := (.seq (.ops F41o21) F41c22)
def F41c18 : Ac := (.seq (.ops F41o19) F41c20)
def F41c10 : Ac := (.seq (.seq (.ops F41o12) F41c13) F41c18)
def F41c2 : Ac := (.seq (.seq (.ops F41o4) F41c5) F41c10)
def F41c0 : Ac := (.seq (.ops F41o1) F41c2)
/-- hansom/isa.words -/
def F41 : Fn := { np := 1, pb := [], rs := [.c 2 (some 4), .t 3], body := F41c0 }
def F42o1 : List Ao := [
  o3 2 (.alloc [.d (.int .i64 0), .d (.int .i64 0), .d (.int .i64 0), .d (.bool false)]) [],
  o3 3 .mv [.c (.d (.bool false))]]
def F42o4 : List Ao := [
  o3 4 .mv [.t 0]]
def F42o7 : List Ao := [
  o3 6 (.bin .eql) [.t 4, .c (.d (.int .u8 160))],
  o3 5 .mv [.t 6]]
def F42o10 : List Ao := [
  o3 7 (.callf 38) [.c (.d (.int .i64 35)), .c (.d (.int .i64 14)), .c (.d (.int .i64 12))],
  o3 8 (.extract 0) [.t 7],
  o3 9 (.extract 1) [.t 7],
  { dst := none, k := (.store 4), xs := [.t 2, .t 8] },
  o3 3 .mv [.t 9]]
def F42c11 : Ac := .ret
def F42o13 : List Ao := [
  o3 11 (.bin .eql) [.t 4, .c (.d (.int .u8 161))],
  o3 10 .mv [.t 11]]
def F42o16 : List Ao := [
  o3 12 (.callf 38) [.c (.d (.int .i64 35)), .c (.d (.int .i64 16)), .c (.d (.int .i64 13))],
  o3 13 (.extract 0) [.t 12],
  o3 14 (.extract 1) [.t 12],
  { dst := none, k := (.store 4), xs := [.t 2, .t 13] },
  o3 3 .mv [.t 14]]
def F42c17 : Ac := .ret
def F42o19 : List Ao := [
  o3 16 (.bin .eql) [.t 4, .c (.d (.int .u8 162))],
  o3 15 .mv [.t 16]]
def F42o22 : List Ao := [
  o3 17 (.callf 38) [.c (.d (.int .i64 35)), .c (.d (.int .i64 12)), .c (.d (.int .i64 14))],
  o3 18 (.extract 0) [.t 17],
  o3 19 (.extract 1) [.t 17],
  { dst := none, k := (.store 4), xs := [.t 2, .t 18] },
  o3 3 .mv [.t 19]]
def F42c23 : Ac := .ret
def F42o25 : List Ao := [
  o3 21 (.bin .eql) [.t 4, .c (.d (.int .u8 163))],
  o3 20 .mv [.t 21]]
def F42o28 : List Ao := [
  o3 22 (.callf 38) [.c (.d (.int .i64 35)), .c (.d (.int .i64 13)), .c (.d (.int .i64 16))],
  o3 23 (.extract 0) [.t 22],
  o3 24 (.extract 1) [.t 22],
  { dst := none, k := (.store 4), xs := [.t 2, .t 23] },
  o3 3 .mv [.t 24]]
def F42c29 : Ac := .ret
def F42o31 : List Ao := [
  o3 26 (.bin .eql) [.t 4, .c (.d (.int .u8 168))],
  o3 25 .mv [.t 26]]
def F42o34 : List Ao := [
  o3 27 (.callf 38) [.c (.d (.int .i64 33)), .c (.d (.int .i64 14)), .c (.d (.int .i64 6))],
  o3 28 (.extract 0) [.t 27],
  o3 29 (.extract 1) [.t 27],
  { dst := none, k := (.store 4), xs := [.t 2, .t 28] },
  o3 3 .mv [.t 29]]
def F42c35 : Ac := .ret
def F42o37 : List Ao := [
  o3 31 (.bin .eql) [.t 4, .c (.d (.int .u8 169))],
  o3 30 .mv [.t 31]]
def F42o40 : List Ao := [
  o3 32 (.callf 38) [.c (.d (.int .i64 33)), .c (.d (.int .i64 16)), .c (.d (.int .i64 7))],
  o3 33 (.extract 0) [.t 32],
  o3 34 (.extract 1) [.t 32],
  { dst := none, k := (.store 4), xs := [.t 2, .t 33] },
  o3 3 .mv [.t 34]]
def F42c41 : Ac := .ret
def F42c38 : Ac := (.cond (.t 30) (.seq (.ops F42o40) F42c41) .skip)
def F42c32 : Ac := (.cond (.t 25) (.seq (.ops F42o34) F42c35) (.seq (.ops F42o37) F42c38))
def F42c26 : Ac := (.cond (.t 20) (.seq (.ops F42o28) F42c29) (.seq (.ops F42o31) F42c32))
def F42c20 : Ac := (.cond (.t 15) (.seq (.ops F42o22) F42c23) (.seq (.ops F42o25) F42c26))
def F42c14 : Ac := (.cond (.t 10) (.seq (.ops F42o16) F42c17) (.seq (.ops F42o19) F42c20))
def F42c8 : Ac := (.cond (.t 5) (.seq (.ops F42o10) F42c11) (.seq (.ops F42o13) F42c14))
def F42c5 : Ac := (.block 0 (.seq (.ops F42o7) F42c8))
def F42o45 : List Ao := [
  o3 35 .mv [.t 0],
  o3 36 (.bin .lss) [.t 35, .c (.d (.int .u8 168))]]
def F42o48 : List Ao := [
  o3 37 .mv [.t 0],
  o3 38 (.bin .sub) [.t 37, .c (.d (.int .u8 164))],
  o3 39 (.toInt .i64) [.t 38],
  o3 40 (.bin .add) [.c (.d (.int .i64 46)), .t 39],
  o3 41 (.callf 38) [.t 40, .c (.d (.int .i64 0)), .c (.d (.int .i64 0))],
  o3 42 (.extract 0) [.t 41],
  o3 43 (.extract 1) [.t 41],
  { dst := none, k := (.store 4), xs := [.t 2, .t 42] },
  o3 3 .mv [.t 43]]
def F42c49 : Ac := .ret
def F42c46 : Ac := (.cond (.t 36) (.seq (.ops F42o48) F42c49) .skip)
def F42o52 : List Ao := [
  o3 44 .mv [.t 0],
  o3 45 (.bin .sub) [.t 44, .c (.d (.int .u8 170))],
  o3 46 (.toInt .i64) [.t 45],
  o3 47 (.bin .add) [.c (.d (.int .i64 50)), .t 46],
  o3 48 (.callf 38) [.t 47, .c (.d (.int .i64 0)), .c (.d (.int .i64 0))],
  o3 49 (.extract 0) [.t 48],
  o3 50 (.extract 1) [.t 48],
  { dst := none, k := (.store 4), xs := [.t 2, .t 49] },
  o3 3 .mv [.t 50]]
def F42c53 : Ac := .ret
def F42c51 : Ac := (.seq (.ops F42o52) F42c53)
def F42c43 : Ac := (.seq (.seq (.ops F42o45) F42c46) F42c51)
def F42c2 : Ac := (.seq (.seq (.ops F42o4) F42c5) F42c43)
def F42c0 : Ac := (.seq (.ops F42o1) F42c2)
/-- hansom/isa.texts -/
def F42 : Fn := { np := 1, pb := [], rs := [.c 2 (some 4), .t 3], body := F42c0 }
def F43o1 : List Ao := [
  o3 4 (.alloc [.d (.int .i64 0), .d (.int .i64 0), .d (.int .i64 0), .d (.bool false)]) [],
  o3 5 .mv [.c (.d (.bool false))]]
def F43o4 : List Ao := [
  o3 6 .mv [.t 0]]
def F43o7 : List Ao := [
  o3 8 (.bin .eql) [.t 6, .c (.d (.int .u8 194))],
  o3 7 .mv [.t 8]]
def F43o10 : List Ao := [
  o3 9 (.callf 38) [.c (.d (.int .i64 56)), .c (.d (.int .i64 7)), .c (.d (.int .i64 0))],
  o3 10 (.extract 0) [.t 9],
  o3 11 (.extract 1) [.t 9],
  { dst := none, k := (.store 4), xs := [.t 4, .t 10] },
  o3 5 .mv [.t 11]]
def F43c11 : Ac := .ret
def F43o13 : List Ao := [
  o3 13 (.bin .eql) [.t 6, .c (.d (.int .u8 195))],
  o3 12 .mv [.t 13]]
def F43o16 : List Ao := [
  o3 14 (.callf 38) [.c (.d (.int .i64 56)), .c (.d (.int .i64 0)), .c (.d (.int .i64 0))],
  o3 15 (.extract 0) [.t 14],
  o3 16 (.extract 1) [.t 14],
  { dst := none, k := (.store 4), xs := [.t 4, .t 15] },
  o3 5 .mv [.t 16]]
def F43c17 : Ac := .ret
def F43o19 : List Ao := [
  o3 18 (.bin .eql) [.t 6, .c (.d (.int .u8 196))],
  o3 17 .mv [.t 18]]
def F43o22 : List Ao := [
  o3 19 (.callf 67) [.c (.d (.int .i64 58)), .c (.d (.int .i64 4)), .c (.d (.int .i64 19))],
  o3 20 (.extract 0) [.t 19],
  o3 21 (.extract 1) [.t 19],
  { dst := none, k := (.store 4), xs := [.t 4, .t 20] },
  o3 5 .mv [.t 21]]
def F43c23 : Ac := .ret
def F43o25 : List Ao := [
  o3 23 (.bin .eql) [.t 6, .c (.d (.int .u8 197))],
  o3 22 .mv [.t 23]]
def F43o28 : List Ao := [
  o3 24 (.callf 67) [.c (.d (.int .i64 59)), .c (.d (.int .i64 4)), .c (.d (.int .i64 19))],
  o3 25 (.extract 0) [.t 24],
  o3 26 (.extract 1) [.t 24],
  { dst := none, k := (.store 4), xs := [.t 4, .t 25] },
  o3 5 .mv [.t 26]]
def F43c29 : Ac := .ret
def F43o31 : List Ao := [
  o3 28 (.bin .eql) [.t 6, .c (.d (.int .u8 198))],
  o3 27 .mv [.t 28]]
def F43o34 : List Ao := [
  o3 29 .mv [.t 1],
  o3 30 (.bin .eql) [.t 29, .c (.d (.int .i64 0))]]
def F43o37 : List Ao := [
  o3 31 (.callf 67) [.c (.d (.int .i64 35)), .c (.d (.int .i64 1)), .c (.d (.int .i64 6))],
  o3 32 (.extract 0) [.t 31],
  o3 33 (.extract 1) [.t 31],
  { dst := none, k := (.store 4), xs := [.t 4, .t 32] },
  o3 5 .mv [.t 33]]
def F43c38 : Ac := .ret
def F43c35 : Ac := (.cond (.t 30) (.seq (.ops F43o37) F43c38) .skip)
def F43o41 : List Ao := [
  o3 35 (.bin .eql) [.t 6, .c (.d (.int .u8 199))],
  o3 34 .mv [.t 35]]
def F43o44 : List Ao := [
  o3 36 .mv [.t 1],
  o3 37 (.bin .eql) [.t 36, .c (.d (.int .i64 0))]]
def F43o47 : List Ao := [
  o3 38 (.callf 67) [.c (.d (.int .i64 35)), .c (.d (.int .i64 2)), .c (.d (.int .i64 7))],
  o3 39 (.extract 0) [.t 38],
  o3 40 (.extract 1) [.t 38],
  { dst := none, k := (.store 4), xs := [.t 4, .t 39] },
  o3 5 .mv [.t 40]]
def F43c48 : Ac := .ret
def F43c45 : Ac := (.cond (.t 37) (.seq (.ops F43o47) F43c48) .skip)
def F43o51 : List Ao := [
  o3 42 (.bin .eql) [.t 6, .c (.d (.int .u8 202))],
  o3 41 .mv [.t 42]]
def F43o54 : List Ao := [
  o3 43 (.callf 38) [.c (.d (.int .i64 57)), .c (.d (.int .i64 7)), .c (.d (.int .i64 0))],
  o3 44 (.extract 0) [.t 43],
  o3 45 (.extract 1) [.t 43],
  { dst := none, k := (.store 4), xs := [.t 4, .t 44] },
  o3 5 .mv [.t 45]]
def F43c55 : Ac := .ret
def F43o57 : List Ao := [
  o3 47 (.bin .eql) [.t 6, .c (.d (.int .u8 203))],
  o3 46 .mv [.t 47]]
def F43o60 : List Ao := [
  o3 48 (.callf 38) [.c (.d (.int .i64 57)), .c (.d (.int .i64 0)), .c (.d (.int .i64 0))],
  o3 49 (.extract 0) [.t 48],
  o3 50 (.extract 1) [.t 48],
  { dst := none, k := (.store 4), xs := [.t 4, .t 49] },
  o3 5 .mv [.t 50]]
def F43c61 : Ac := .ret
def F43o63 : List Ao := [
  o3 52 (.bin .eql) [.t 6, .c (.d (.int .u8 204))],
  o3 51 .mv [.t 52]]
def F43o66 : List Ao := [
  o3 53 (.callf 38) [.c (.d (.int .i64 60)), .c (.d (.int .i64 24)), .c (.d (.int .i64 0))],
  o3 54 (.extract 0) [.t 53],
  o3 55 (.extract 1) [.t 53],
  { dst := none, k := (.store 4), xs := [.t 4, .t 54] },
  o3 5 .mv [.t 55]]
def F43c67 : Ac := .ret
def F43o69 : List Ao := [
  o3 57 (.bin .eql) [.t 6, .c (.d (.int .u8 205))],
  o3 56 .mv [.t 57]]
def F43o72 : List Ao := [
  o3 58 (.callf 38) [.c (.d (.int .i64 60)), .c (.d (.int .i64 6)), .c (.d (.int .i64 0))],
  o3 59 (.extract 0) [.t 58],
  o3 60 (.extract 1) [.t 58],
  { dst := none, k := (.store 4), xs := [.t 4, .t 59] },
  o3 5 .mv [.t 60]]
def F43c73 : Ac := .ret
def F43o75 : List Ao := [
  o3 62 (.bin .eql) [.t 6, .c (.d (.int .u8 206))],
  o3 61 .mv [.t 62]]
def F43o78 : List Ao := [
  o3 63 (.callf 38) [.c (.d (.int .i64 61)), .c (.d (.int .i64 0)), .c (.d (.int .i64 0))],
  o3 64 (.extract 0) [.t 63],
  o3 65 (.extract 1) [.t 63],
  { dst := none, k := (.store 4), xs := [.t 4, .t 64] },
  o3 5 .mv [.t 65]]
def F43c79 : Ac := .ret
def F43o81 : List Ao := [
  o3 67 (.bin .eql) [.t 6, .c (.d (.int .u8 207))],
  o3 66 .mv [.t 67]]
def F43o84 : List Ao := [
  o3 68 (.callf 38) [.c (.d (.int .i64 62)), .c (.d (.int .i64 0)), .c (.d (.int .i64 0))],
  o3 69 (.extract 0) [.t 68],
  o3 70 (.extract 1) [.t 68],
  { dst := none, k := (.store 4), xs := [.t 4, .t 69] },
  o3 5 .mv [.t 70]]
def F43c85 : Ac := .ret
def F43c82 : Ac := (.cond (.t 66) (.seq (.ops F43o84) F43c85) .skip)
def F43c76 : Ac := (.cond (.t 61) (.seq (.ops F43o78) F43c79) (.seq (.ops F43o81) F43c82))
def F43c70 : Ac := (.cond (.t 56) (.seq (.ops F43o72) F43c73) (.seq (.ops F43o75) F43c76))
def F43c64 : Ac := (.cond (.t 51) (.seq (.ops F43o66) F43c67) (.seq (.ops F43o69) F43c70))
def F43c58 : Ac := (.cond (.t 46) (.seq (.ops F43o60) F43c61) (.seq (.ops F43o63) F43c64))
def F43c52 : Ac := (.cond (.t 41) (.seq (.ops F43o54) F43c55) (.seq (.ops F43o57) F43c58))
def F43c42 : Ac := (.cond (.t 34) (.seq (.ops F43o44) F43c45) (.seq (.ops F43o51) F43c52))
def F43c32 : Ac := (.cond (.t 27) (.seq (.ops F43o34) F43c35) (.seq (.ops F43o41) F43c42))
def F43c26 : Ac := (.cond (.t 22) (.seq (.ops F43o28) F43c29) (.seq (.ops F43o31) F43c32))
def F43c20 : Ac := (.cond (.t 17) (.seq (.ops F43o22) F43c23) (.seq (.ops F43o25) F43c26))
def F43c14 : Ac := (.cond (.t 12) (.seq (.ops F43o16) F43c17) (.seq (.ops F43o19) F43c20))
def F43c8 : Ac := (.cond (.t 7) (.seq (.ops F43o10) F43c11) (.seq (.ops F43o13) F43c14))
def F43c5 : Ac := (.block 0 (.seq (.ops F43o7) F43c8))
def F43o88 : List Ao := [
  o3 71 (.callf 39) [],
  o3 72 (.extract 0) [.t 71],
  o3 73 (.extract 1) [.t 71],
  { dst := none, k := (.store 4), xs := [.t 4, .t 72] },
  o3 5 .mv [.t 73]]
def F43c89 : Ac := .ret
def F43c87 : Ac := (.seq (.ops F43o88) F43c89)
def F43c2 : Ac := (.seq (.seq (.ops F43o4) F43c5) F43c87)
def F43c0 : Ac := (.seq (.ops F43o1) F43c2)
/-- hansom/isa.backs -/
def F43 : Fn := { np := 2, pb := [], rs := [.c 4 (some 4), .t 5], body := F43c0 }
def F44o1 : List Ao := [
  o3 4 (.alloc [.d (.int .i64 0), .d (.int .i64 0), .d (.int .i64 0), .d (.bool false)]) [],
  o3 5 .mv [.c (.d (.bool false))]]
def F44o4 : List Ao := [
  o3 9 .mv [.t 0],
  o3 10 (.bin .lss) [.t 9, .c (.d (.int .u8 212))]]
def F44o8 : List Ao := [
  o3 11 .mv [.t 1],
  o3 12 (.bin .eql) [.t 11, .c (.d (.int .i64 6))]]
def F44o11 : List Ao := [
  o3 13 (.callf 39) [],
  o3 14 (.extract 0) [.t 13],
  o3 15 (.extract 1) [.t 13],
  { dst := none, k := (.store 4), xs := [.t 4, .t 14] },
  o3 5 .mv [.t 15]]
def F44c12 : Ac := .ret
def F44c9 : Ac := (.cond (.t 12) (.seq (.ops F44o11) F44c12) .skip)
def F44o15 : List Ao := [
  o3 16 (.bslice (.int .i64 0) 8 [0, 1, 2, 3, 4, 5, 6, 7]) [.c (.d (.int .i64 63)), .c (.d (.int .i64 64)), .c (.d (.int .i64 65)), .c (.d (.int .i64 66)), .c (.d (.int .i64 67)), .c (.d (.int .i64 68)), .c (.d (.int .i64 0)), .c (.d (.int .i64 69))],
  o3 17 .mv [.t 1],
  o3 18 (.iaddrS 1) [.t 16, .t 17],
  o3 19 (.load none) [.t 18],
  o3 6 .mv [.t 19]]
def F44o17 : List Ao := [
  o3 7 .mv [.c (.d (.int .i64 1))],
  o3 8 .mv [.c (.d (.int .i64 18))]]
def F44o20 : List Ao := [
  o3 20 .mv [.t 0],
  o3 21 (.bin .and) [.t 20, .c (.d (.int .u8 1))],
  o3 22 (.bin .eql) [.t 21, .c (.d (.int .u8 1))]]
def F44o22 : List Ao := [
  o3 7 .mv [.c (.d (.int .i64 2))]]
def F44c21 : Ac := (.cond (.t 22) (.ops F44o22) .skip)
def F44o26 : List Ao := [
  o3 23 .mv [.t 0],
  o3 24 (.bin .and) [.t 23, .c (.d (.int .u8 2))],
  o3 25 (.bin .neq) [.t 24, .c (.d (.int .u8 0))]]
def F44o28 : List Ao := [
  o3 8 .mv [.c (.d (.int .i64 15))]]
def F44c27 : Ac := (.cond (.t 25) (.ops F44o28) .skip)
def F44o31 : List Ao := [
  o3 26 .mv [.t 6],
  o3 27 .mv [.t 7],
  o3 28 .mv [.t 8],
  o3 29 (.callf 67) [.t 26, .t 27, .t 28],
  o3 30 (.extract 0) [.t 29],
  o3 31 (.extract 1) [.t 29],
  { dst := none, k := (.store 4), xs := [.t 4, .t 30] },
  o3 5 .mv [.t 31]]
def F44c32 : Ac := .ret
def F44c30 : Ac := (.seq (.ops F44o31) F44c32)
def F44c24 : Ac := (.seq (.seq (.ops F44o26) F44c27) F44c30)
def F44c18 : Ac := (.seq (.seq (.ops F44o20) F44c21) F44c24)
def F44c16 : Ac := (.seq (.ops F44o17) F44c18)
def F44c14 : Ac := (.seq (.ops F44o15) F44c16)
def F44c5 : Ac := (.cond (.t 10) (.seq (.seq (.ops F44o8) F44c9) F44c14) .skip)
def F44o37 : List Ao := [
  o3 33 .mv [.t 0],
  o3 34 (.bin .eql) [.t 33, .c (.d (.int .u8 212))],
  o3 32 .mv [.t 34]]
def F44o40 : List Ao := [
  o3 35 (.callf 38) [.c (.d (.int .i64 70)), .c (.d (.int .i64 6)), .c (.d (.int .i64 0))],
  o3 36 (.extract 0) [.t 35],
  o3 37 (.extract 1) [.t 35],
  { dst := none, k := (.store 4), xs := [.t 4, .t 36] },
  o3 5 .mv [.t 37]]
def F44c41 : Ac := .ret
def F44o43 : List Ao := [
  o3 39 .mv [.t 0],
  o3 40 (.bin .eql) [.t 39, .c (.d (.int .u8 213))],
  o3 38 .mv [.t 40]]
def F44o46 : List Ao := [
  o3 41 (.callf 38) [.c (.d (.int .i64 71)), .c (.d (.int .i64 6)), .c (.d (.int .i64 0))],
  o3 42 (.extract 0) [.t 41],
  o3 43 (.extract 1) [.t 41],
  { dst := none, k := (.store 4), xs := [.t 4, .t 42] },
  o3 5 .mv [.t 43]]
def F44c47 : Ac := .ret
def F44o49 : List Ao := [
  o3 45 .mv [.t 0],
  o3 46 (.bin .eql) [.t 45, .c (.d (.int .u8 215))],
  o3 44 .mv [.t 46]]
def F44o52 : List Ao := [
  o3 47 (.callf 38) [.c (.d (.int .i64 72)), .c (.d (.int .i64 0)), .c (.d (.int .i64 0))],
  o3 48 (.extract 0) [.t 47],
  o3 49 (.extract 1) [.t 47],
  { dst := none, k := (.store 4), xs := [.t 4, .t 48] },
  o3 5 .mv [.t 49]]
def F44c53 : Ac := .ret
def F44o55 : List Ao := [
  o3 51 .mv [.t 0],
  o3 52 (.bin .geq) [.t 51, .c (.d (.int .u8 216))],
  o3 50 .mv [.t 52]]
def F44o58 : List Ao := [
  o3 53 (.callf 67) [.c (.d (.int .i64 73)), .c (.d (.int .i64 2)), .c (.d (.int .i64 0))],
  o3 54 (.extract 0) [.t 53],
  o3 55 (.extract 1) [.t 53],
  { dst := none, k := (.store 4), xs := [.t 4, .t 54] },
  o3 5 .mv [.t 55]]
def F44c59 : Ac := .ret
def F44c56 : Ac := (.cond (.t 50) (.seq (.ops F44o58) F44c59) .skip)
def F44c50 : Ac := (.cond (.t 44) (.seq (.ops F44o52) F44c53) (.seq (.ops F44o55) F44c56))
def F44c44 : Ac := (.cond (.t 38) (.seq (.ops F44o46) F44c47) (.seq (.ops F44o49) F44c50))
def F44c38 : Ac := (.cond (.t 32) (.seq (.ops F44o40) F44c41) (.seq (.ops F44o43) F44c44))
def F44o62 : List Ao := [
  o3 56 (.callf 39) [],
  o3 57 (.extract 0) [.t 56],
  o3 58 (.extract 1) [.t 56],
  { dst := none, k := (.store 4), xs := [.t 4, .t 57] },
  o3 5 .mv [.t 58]]
def F44c63 : Ac := .ret
def F44c61 : Ac := (.seq (.ops F44o62) F44c63)
def F44c34 : Ac := (.seq (.block 0 (.seq (.ops F44o37) F44c38)) F44c61)
def F44c2 : Ac := (.seq (.seq (.ops F44o4) F44c5) F44c34)
def F44c0 : Ac := (.seq (.ops F44o1) F44c2)
/-- hansom/isa.turns -/
def F44 : Fn := { np := 2, pb := [], rs := [.c 4 (some 4), .t 5], body := F44c0 }
def F45o1 : List Ao := [
  o3 2 (.alloc [.d (.int .i64 0), .d (.int .i64 0), .d (.int .i64 0), .d (.bool false)]) [],
  o3 3 .mv [.c (.d (.bool false))]]
def F45o4 : List Ao := [
  o3 4 .mv [.t 0]]
def F45o8 : List Ao := [
  o3 6 (.bin .eql) [.t 4, .c (.d (.int .u8 224))],
  o3 5 .mv [.t 6]]
def F45o12 : List Ao := [
  o3 7 (.bin .eql) [.t 4, .c (.d (.int .u8 225))],
  o3 5 .mv [.t 7]]
def F45o16 : List Ao := [
  o3 8 (.bin .eql) [.t 4, .c (.d (.int .u8 226))],
  o3 5 .mv [.t 8]]
def F45o19 : List Ao := [
  o3 9 (.bin .eql) [.t 4, .c (.d (.int .u8 227))],
  o3 5 .mv [.t 9]]
def F45c17 : Ac := (.cond (.t 5) .skip (.ops F45o19))
def F45c13 : Ac := (.cond (.t 5) .skip (.seq (.ops F45o16) F45c17))
def F45c9 : Ac := (.cond (.t 5) .skip (.seq (.ops F45o12) F45c13))
def F45o22 : List Ao := [
  o3 10 .mv [.t 0],
  o3 11 (.bin .sub) [.t 10, .c (.d (.int .u8 224))],
  o3 12 (.toInt .i64) [.t 11],
  o3 13 (.bin .add) [.c (.d (.int .i64 74)), .t 12],
  o3 14 (.callf 38) [.t 13, .c (.d (.int .i64 9)), .c (.d (.int .i64 0))],
  o3 15 (.extract 0) [.t 14],
  o3 16 (.extract 1) [.t 14],
  { dst := none, k := (.store 4), xs := [.t 2, .t 15] },
  o3 3 .mv [.t 16]]
def F45c23 : Ac := .ret
def F45o25 : List Ao := [
  o3 18 (.bin .eql) [.t 4, .c (.d (.int .u8 228))],
  o3 17 .mv [.t 18]]
def F45o28 : List Ao := [
  o3 19 (.callf 38) [.c (.d (.int .i64 78)), .c (.d (.int .i64 14)), .c (.d (.int .i64 6))],
  o3 20 (.extract 0) [.t 19],
  o3 21 (.extract 1) [.t 19],
  { dst := none, k := (.store 4), xs := [.t 2, .t 20] },
  o3 3 .mv [.t 21]]
def F45c29 : Ac := .ret
def F45o31 : List Ao := [
  o3 23 (.bin .eql) [.t 4, .c (.d (.int .u8 229))],
  o3 22 .mv [.t 23]]
def F45o34 : List Ao := [
  o3 24 (.callf 38) [.c (.d (.int .i64 78)), .c (.d (.int .i64 16)), .c (.d (.int .i64 6))],
  o3 25 (.extract 0) [.t 24],
  o3 26 (.extract 1) [.t 24],
  { dst := none, k := (.store 4), xs := [.t 2, .t 25] },
  o3 3 .mv [.t 26]]
def F45c35 : Ac := .ret
def F45o37 : List Ao := [
  o3 28 (.bin .eql) [.t 4, .c (.d (.int .u8 230))],
  o3 27 .mv [.t 28]]
def F45o40 : List Ao := [
  o3 29 (.callf 38) [.c (.d (.int .i64 79)), .c (.d (.int .i64 6)), .c (.d (.int .i64 14))],
  o3 30 (.extract 0) [.t 29],
  o3 31 (.extract 1) [.t 29],
  { dst := none, k := (.store 4), xs := [.t 2, .t 30] },
  o3 3 .mv [.t 31]]
def F45c41 : Ac := .ret
def F45o43 : List Ao := [
  o3 33 (.bin .eql) [.t 4, .c (.d (.int .u8 231))],
  o3 32 .mv [.t 33]]
def F45o46 : List Ao := [
  o3 34 (.callf 38) [.c (.d (.int .i64 79)), .c (.d (.int .i64 6)), .c (.d (.int .i64 16))],
  o3 35 (.extract 0) [.t 34],
  o3 36 (.extract 1) [.t 34],
  { dst := none, k := (.store 4), xs := [.t 2, .t 35] },
  o3 3 .mv [.t 36]]
def F45c47 : Ac := .ret
def F45o49 : List Ao := [
  o3 38 (.bin .eql) [.t 4, .c (.d (.int .u8 232))],
  o3 37 .mv [.t 38]]
def F45o52 : List Ao := [
  o3 39 (.callf 38) [.c (.d (.int .i64 39)), .c (.d (.int .i64 10)), .c (.d (.int .i64 0))],
  o3 40 (.extract 0) [.t 39],
  o3 41 (.extract 1) [.t 39],
  { dst := none, k := (.store 4), xs := [.t 2, .t 40] },
  o3 3 .mv [.t 41]]
def F45c53 : Ac := .ret
def F45o55 : List Ao := [
  o3 43 (.bin .eql) [.t 4, .c (.d (.int .u8 233))],
  o3 42 .mv [.t 43]]
def F45o58 : List Ao := [
  o3 44 (.callf 38) [.c (.d (.int .i64 80)), .c (.d (.int .i64 10)), .c (.d (.int .i64 0))],
  o3 45 (.extract 0) [.t 44],
  o3 46 (.extract 1) [.t 44],
  { dst := none, k := (.store 4), xs := [.t 2, .t 45] },
  o3 3 .mv [.t 46]]
def F45c59 : Ac := .ret
def F45o61 : List Ao := [
  o3 48 (.bin .eql) [.t 4, .c (.d (.int .u8 234))],
  o3 47 .mv [.t 48]]
def F45o64 : List Ao := [
  o3 49 (.callf 38) [.c (.d (.int .i64 81)), .c (.d (.int .i64 11)), .c (.d (.int .i64 0))],
  o3 50 (.extract 0) [.t 49],
  o3 51 (.extract 1) [.t 49],
  { dst := none, k := (.store 4), xs := [.t 2, .t 50] },
  o3 3 .mv [.t 51]]
def F45c65 : Ac := .ret
def F45o67 : List Ao := [
  o3 53 (.bin .eql) [.t 4, .c (.d (.int .u8 235))],
  o3 52 .mv [.t 53]]
def F45o70 : List Ao := [
  o3 54 (.callf 38) [.c (.d (.int .i64 80)), .c (.d (.int .i64 9)), .c (.d (.int .i64 0))],
  o3 55 (.extract 0) [.t 54],
  o3 56 (.extract 1) [.t 54],
  { dst := none, k := (.store 4), xs := [.t 2, .t 55] },
  o3 3 .mv [.t 56]]
def F45c71 : Ac := .ret
def F45o73 : List Ao := [
  o3 58 (.bin .eql) [.t 4, .c (.d (.int .u8 236))],
  o3 57 .mv [.t 58]]
def F45o76 : List Ao := [
  o3 59 (.callf 38) [.c (.d (.int .i64 78)), .c (.d (.int .i64 14)), .c (.d (.int .i64 17))],
  o3 60 (.extract 0) [.t 59],
  o3 61 (.extract 1) [.t 59],
  { dst := none, k := (.store 4), xs := [.t 2, .t 60] },
  o3 3 .mv [.t 61]]
def F45c77 : Ac := .ret
def F45o79 : List Ao := [
  o3 63 (.bin .eql) [.t 4, .c (.d (.int .u8 237))],
  o3 62 .mv [.t 63]]
def F45o82 : List Ao := [
  o3 64 (.callf 38) [.c (.d (.int .i64 78)), .c (.d (.int .i64 16)), .c (.d (.int .i64 17))],
  o3 65 (.extract 0) [.t 64],
  o3 66 (.extract 1) [.t 64],
  { dst := none, k := (.store 4), xs := [.t 2, .t 65] },
  o3 3 .mv [.t 66]]
def F45c83 : Ac := .ret
def F45o85 : List Ao := [
  o3 68 (.bin .eql) [.t 4, .c (.d (.int .u8 238))],
  o3 67 .mv [.t 68]]
def F45o88 : List Ao := [
  o3 69 (.callf 38) [.c (.d (.int .i64 79)), .c (.d (.int .i64 17)), .c (.d (.int .i64 14))],
  o3 70 (.extract 0) [.t 69],
  o3 71 (.extract 1) [.t 69],
  { dst := none, k := (.store 4), xs := [.t 2, .t 70] },
  o3 3 .mv [.t 71]]
def F45c89 : Ac := .ret
def F45c86 : Ac := (.cond (.t 67) (.seq (.ops F45o88) F45c89) .skip)
def F45c80 : Ac := (.cond (.t 62) (.seq (.ops F45o82) F45c83) (.seq (.ops F45o85) F45c86))
def F45c74 : Ac := (.cond (.t 57) (.seq (.ops F45o76) F45c77) (.seq (.ops F45o79) F45c80))
def F45c68 : Ac := (.cond (.t 52) (.seq (.ops F45o70) F45c71) (.seq (.ops F45o73) F45c74))
def F45c62 : Ac := (.cond (.t 47) (.seq (.ops F45o64) F45c65) (.seq (.ops F45o67) F45c68))
def F45c56 : Ac := (.cond (.t 42) (.seq (.ops F45o58) F45c59) (.seq (.ops F45o61) F45c62))
def F45c50 : Ac := (.cond (.t 37) (.seq (.ops F45o52) F45c53) (.seq (.ops F45o55) F45c56))
def F45c44 : Ac := (.cond (.t 32) (.seq (.ops F45o46) F45c47) (.seq (.ops F45o49) F45c50))
def F45c38 : Ac := (.cond (.t 27) (.seq (.ops F45o40) F45c41) (.seq (.ops F45o43) F45c44))
def F45c32 : Ac := (.cond (.t 22) (.seq (.ops F45o34) F45c35) (.seq (.ops F45o37) F45c38))
def F45c26 : Ac := (.cond (.t 17) (.seq (.ops F45o28) F45c29) (.seq (.ops F45o31) F45c32))
def F45b20 : Ac := (.cond (.t 5) (.seq (.ops F45o22) F45c23) (.seq (.ops F45o25) F45c26))
def F45c20 : Ac := (.seq (.gh []) (.seq (.keep [0, 2, 4, 5] [[2]]) F45b20))
def F45c5 : Ac := (.block 0 (.seq (.seq (.ops F45o8) F45c9) F45c20))
def F45o92 : List Ao := [
  o3 72 (.callf 38) [.c (.d (.int .i64 79)), .c (.d (.int .i64 17)), .c (.d (.int .i64 16))],
  o3 73 (.extract 0) [.t 72],
  o3 74 (.extract 1) [.t 72],
  { dst := none, k := (.store 4), xs := [.t 2, .t 73] },
  o3 3 .mv [.t 74]]
def F45c93 : Ac := .ret
def F45c91 : Ac := (.seq (.ops F45o92) F45c93)
def F45c2 : Ac := (.seq (.seq (.ops F45o4) F45c5) F45c91)
def F45c0 : Ac := (.seq (.ops F45o1) F45c2)
/-- hansom/isa.goes -/
def F45 : Fn := { np := 1, pb := [], rs := [.c 2 (some 4), .t 3], body := F45c0 }
def F46o1 : List Ao := [
  o3 4 (.alloc [.d (.int .i64 0), .d (.int .i64 0), .d (.int .i64 0), .d (.bool false)]) [],
  o3 5 .mv [.c (.d (.bool false))]]
def F46o5 : List Ao := [
  o3 10 .mv [.t 0],
  o3 11 (.bin .eql) [.t 10, .c (.d (.int .u8 244))],
  o3 9 .mv [.t 11]]
def F46o8 : List Ao := [
  o3 12 (.callf 38) [.c (.d (.int .i64 82)), .c (.d (.int .i64 0)), .c (.d (.int .i64 0))],
  o3 13 (.extract 0) [.t 12],
  o3 14 (.extract 1) [.t 12],
  { dst := none, k := (.store 4), xs := [.t 4, .t 13] },
  o3 5 .mv [.t 14]]
def F46c9 : Ac := .ret
def F46o11 : List Ao := [
  o3 16 .mv [.t 0],
  o3 17 (.bin .eql) [.t 16, .c (.d (.int .u8 245))],
  o3 15 .mv [.t 17]]
def F46o14 : List Ao := [
  o3 18 (.callf 38) [.c (.d (.int .i64 83)), .c (.d (.int .i64 0)), .c (.d (.int .i64 0))],
  o3 19 (.extract 0) [.t 18],
  o3 20 (.extract 1) [.t 18],
  { dst := none, k := (.store 4), xs := [.t 4, .t 19] },
  o3 5 .mv [.t 20]]
def F46c15 : Ac := .ret
def F46o17 : List Ao := [
  o3 22 .mv [.t 0],
  o3 23 (.bin .geq) [.t 22, .c (.d (.int .u8 248))],
  o3 24 .mv [.t 23],
  { dst := some 25, k := .mv, xs := [.t 0], g := some (24, true) },
  { dst := some 26, k := (.bin .lss), xs := [.t 25, .c (.d (.int .u8 254))], g := some (24, true) },
  o3 27 .pick [.t 24, .t 26, .c (.d (.bool false))],
  o3 21 .mv [.t 27]]
def F46o20 : List Ao := [
  o3 28 .mv [.t 0],
  o3 29 (.bin .sub) [.t 28, .c (.d (.int .u8 248))],
  o3 30 (.toInt .i64) [.t 29],
  o3 31 (.bin .add) [.c (.d (.int .i64 90)), .t 30],
  o3 32 (.callf 38) [.t 31, .c (.d (.int .i64 0)), .c (.d (.int .i64 0))],
  o3 33 (.extract 0) [.t 32],
  o3 34 (.extract 1) [.t 32],
  { dst := none, k := (.store 4), xs := [.t 4, .t 33] },
  o3 5 .mv [.t 34]]
def F46c21 : Ac := .ret
def F46o23 : List Ao := [
  o3 36 .mv [.t 0],
  o3 37 (.bin .lss) [.t 36, .c (.d (.int .u8 246))],
  o3 35 .mv [.t 37]]
def F46o26 : List Ao := [
  o3 38 (.callf 39) [],
  o3 39 (.extract 0) [.t 38],
  o3 40 (.extract 1) [.t 38],
  { dst := none, k := (.store 4), xs := [.t 4, .t 39] },
  o3 5 .mv [.t 40]]
def F46c27 : Ac := .ret
def F46c24 : Ac := (.cond (.t 35) (.seq (.ops F46o26) F46c27) .skip)
def F46b18 : Ac := (.cond (.t 21) (.seq (.ops F46o20) F46c21) (.seq (.ops F46o23) F46c24))
def F46c18 : Ac := (.seq (.gh []) (.seq (.keep [0, 1, 4, 21] [[4]]) F46b18))
def F46c12 : Ac := (.cond (.t 15) (.seq (.ops F46o14) F46c15) (.seq (.ops F46o17) F46c18))
def F46c6 : Ac := (.cond (.t 9) (.seq (.ops F46o8) F46c9) (.seq (.ops F46o11) F46c12))
def F46o30 : List Ao := [
  o3 6 .mv [.c (.d (.int .i64 1))],
  o3 7 .mv [.c (.d (.int .i64 6))]]
def F46o33 : List Ao := [
  o3 41 .mv [.t 0],
  o3 42 (.bin .and) [.t 41, .c (.d (.int .u8 1))],
  o3 43 (.bin .eql) [.t 42, .c (.d (.int .u8 1))]]
def F46o35 : List Ao := [
  o3 6 .mv [.c (.d (.int .i64 2))],
  o3 7 .mv [.c (.d (.int .i64 7))]]
def F46c34 : Ac := (.cond (.t 43) (.ops F46o35) .skip)
def F46o39 : List Ao := [
  o3 44 .mv [.t 0],
  o3 45 (.bin .lss) [.t 44, .c (.d (.int .u8 248))]]
def F46o43 : List Ao := [
  o3 46 .mv [.t 1]]
def F46o46 : List Ao := [
  o3 48 (.bin .eql) [.t 46, .c (.d (.int .i64 0))],
  o3 47 .mv [.t 48]]
def F46o49 : List Ao := [
  o3 49 .mv [.t 6],
  o3 50 .mv [.t 7],
  o3 51 (.callf 67) [.c (.d (.int .i64 33)), .t 49, .t 50],
  o3 52 (.extract 0) [.t 51],
  o3 53 (.extract 1) [.t 51],
  { dst := none, k := (.store 4), xs := [.t 4, .t 52] },
  o3 5 .mv [.t 53]]
def F46c50 : Ac := .ret
def F46o52 : List Ao := [
  o3 55 (.bin .eql) [.t 46, .c (.d (.int .i64 1))],
  o3 54 .mv [.t 55]]
def F46o55 : List Ao := [
  o3 56 (.callf 39) [],
  o3 57 (.extract 0) [.t 56],
  o3 58 (.extract 1) [.t 56],
  { dst := none, k := (.store 4), xs := [.t 4, .t 57] },
  o3 5 .mv [.t 58]]
def F46c56 : Ac := .ret
def F46c53 : Ac := (.cond (.t 54) (.seq (.ops F46o55) F46c56) .skip)
def F46c47 : Ac := (.cond (.t 47) (.seq (.ops F46o49) F46c50) (.seq (.ops F46o52) F46c53))
def F46c44 : Ac := (.block 1 (.seq (.ops F46o46) F46c47))
def F46o59 : List Ao := [
  o3 59 .mv [.t 1],
  o3 60 (.bin .add) [.c (.d (.int .i64 84)), .t 59],
  o3 61 (.bin .sub) [.t 60, .c (.d (.int .i64 2))],
  o3 62 .mv [.t 6],
  o3 63 (.callf 67) [.t 61, .t 62, .c (.d (.int .i64 0))],
  o3 64 (.extract 0) [.t 63],
  o3 65 (.extract 1) [.t 63],
  { dst := none, k := (.store 4), xs := [.t 4, .t 64] },
  o3 5 .mv [.t 65]]
def F46c60 : Ac := .ret
def F46c58 : Ac := (.seq (.ops F46o59) F46c60)
def F46c40 : Ac := (.cond (.t 45) (.seq (.seq (.ops F46o43) F46c44) F46c58) .skip)
def F46o65 : List Ao := [
  o3 67 .mv [.t 1],
  o3 68 (.bin .lss) [.t 67, .c (.d (.int .i64 2))],
  o3 66 .mv [.t 68]]
def F46o68 : List Ao := [
  o3 69 .mv [.t 1],
  o3 70 (.bin .add) [.c (.d (.int .i64 15)), .t 69],
  o3 71 .mv [.t 6],
  o3 72 (.callf 67) [.t 70, .t 71, .c (.d (.int .i64 0))],
  o3 73 (.extract 0) [.t 72],
  o3 74 (.extract 1) [.t 72],
  { dst := none, k := (.store 4), xs := [.t 4, .t 73] },
  o3 5 .mv [.t 74]]
def F46c69 : Ac := .ret
def F46o71 : List Ao := [
  o3 76 .mv [.t 0],
  o3 77 (.bin .eql) [.t 76, .c (.d (.int .u8 254))],
  o3 78 .mv [.t 77],
  { dst := some 79, k := .mv, xs := [.t 1], g := some (78, false) },
  { dst := some 80, k := (.bin .eql), xs := [.t 79, .c (.d (.int .i64 7))], g := some (78, false) },
  o3 81 .pick [.t 78, .c (.d (.bool true)), .t 80],
  o3 75 .mv [.t 81]]
def F46o74 : List Ao := [
  o3 82 (.callf 39) [],
  o3 83 (.extract 0) [.t 82],
  o3 84 (.extract 1) [.t 82],
  { dst := none, k := (.store 4), xs := [.t 4, .t 83] },
  o3 5 .mv [.t 84]]
def F46c75 : Ac := .ret
def F46c72 : Ac := (.cond (.t 75) (.seq (.ops F46o74) F46c75) .skip)
def F46c66 : Ac := (.cond (.t 66) (.seq (.ops F46o68) F46c69) (.seq (.ops F46o71) F46c72))
def F46o78 : List Ao := [
  o3 85 (.bslice (.int .i64 0) 5 [0, 1, 2, 3, 4]) [.c (.d (.int .i64 39)), .c (.d (.int .i64 40)), .c (.d (.int .i64 80)), .c (.d (.int .i64 81)), .c (.d (.int .i64 9))],
  o3 86 .mv [.t 1],
  o3 87 (.bin .sub) [.t 86, .c (.d (.int .i64 2))],
  o3 88 (.iaddrS 1) [.t 85, .t 87],
  o3 89 (.load none) [.t 88],
  o3 8 .mv [.t 89]]
def F46o81 : List Ao := [
  o3 90 .mv [.t 1],
  o3 91 (.bin .eql) [.t 90, .c (.d (.int .i64 3))],
  o3 92 .mv [.t 91],
  { dst := some 93, k := .mv, xs := [.t 1], g := some (92, false) },
  { dst := some 94, k := (.bin .eql), xs := [.t 93, .c (.d (.int .i64 5))], g := some (92, false) },
  o3 95 .pick [.t 92, .c (.d (.bool true)), .t 94]]
def F46o83 : List Ao := [
  o3 6 .mv [.c (.d (.int .i64 19))]]
def F46c82 : Ac := (.cond (.t 95) (.ops F46o83) .skip)
def F46o86 : List Ao := [
  o3 96 .mv [.t 8],
  o3 97 .mv [.t 6],
  o3 98 (.callf 67) [.t 96, .t 97, .c (.d (.int .i64 0))],
  o3 99 (.extract 0) [.t 98],
  o3 100 (.extract 1) [.t 98],
  { dst := none, k := (.store 4), xs := [.t 4, .t 99] },
  o3 5 .mv [.t 100]]
def F46c87 : Ac := .ret
def F46c85 : Ac := (.seq (.ops F46o86) F46c87)
def F46c79 : Ac := (.seq (.seq (.ops F46o81) F46c82) F46c85)
def F46c77 : Ac := (.seq (.ops F46o78) F46c79)
def F46c62 : Ac := (.seq (.block 2 (.seq (.ops F46o65) F46c66)) F46c77)
def F46b37 : Ac := (.seq (.seq (.ops F46o39) F46c40) F46c62)
def F46c37 : Ac := (.seq (.gh []) (.seq (.keep [0, 1, 4, 6, 7] [[4]]) F46b37))
def F46c31 : Ac := (.seq (.seq (.ops F46o33) F46c34) F46c37)
def F46c29 : Ac := (.seq (.ops F46o30) F46c31)
def F46c2 : Ac := (.seq (.block 0 (.seq (.ops F46o5) F46c6)) F46c29)
def F46c0 : Ac := (.seq (.ops F46o1) F46c2)
/-- hansom/isa.rest -/
def F46 : Fn := { np := 2, pb := [], rs := [.c 4 (some 4), .t 5], body := F46c0 }
def F48o1 : List Ao := [
  o3 4 .mv [.c (.d (.str []))]]
def F48o3 : List Ao := [
  o3 6 .mv [.t 0],
  o3 7 (.toInt .i64) [.t 6],
  o3 8 (.callf 53) [.c (.d (.str [65, 68, 68, 58, 69, 98, 58, 71, 98, 32, 65, 68, 68, 58, 69, 118, 58, 71, 118, 32, 65, 68, 68, 58, 71, 98, 58, 69, 98, 32, 65, 68, 68, 58, 71, 118, 58, 69, 118, 32, 65, 68, 68, 58, 65, 76, 58, 73, 98, 32, 65, 68, 68, 58, 65, 88, 58, 73, 118, 32, 80, 85, 83, 72, 58, 90, 115, 32, 80, 79, 80, 58, 90, 115, 32, 79, 82, 58, 69, 98, 58, 71, 98, 32, 79, 82, 58, 69, 118, 58, 71, 118, 32, 79, 82, 58, 71, 98, 58, 69, 98, 32, 79, 82, 58, 71, 118, 58, 69, 118, 32, 79, 82, 58, 65, 76, 58, 73, 98, 32, 79, 82, 58, 65, 88, 58, 73, 118, 32, 80, 85, 83, 72, 58, 90, 115, 32, 45, 32, 65, 68, 67, 58, 69, 98, 58, 71, 98, 32, 65, 68, 67, 58, 69, 118, 58, 71, 118, 32, 65, 68, 67, 58, 71, 98, 58, 69, 98, 32, 65, 68, 67, 58, 71, 118, 58, 69, 118, 32, 65, 68, 67, 58, 65, 76, 58, 73, 98, 32, 65, 68, 67, 58, 65, 88, 58, 73, 118, 32, 80, 85, 83, 72, 58, 90, 115, 32, 80, 79, 80, 58, 90, 115, 32, 83, 66, 66, 58, 69, 98, 58, 71, 98, 32, 83, 66, 66, 58, 69, 118, 58, 71, 118, 32, 83, 66, 66, 58, 71, 98, 58, 69, 98, 32, 83, 66, 66, 58, 71, 118, 58, 69, 118, 32, 83, 66, 66, 58, 65, 76, 58, 73, 98, 32, 83, 66, 66, 58, 65, 88, 58, 73, 118, 32, 80, 85, 83, 72, 58, 90, 115, 32, 80, 79, 80, 58, 90, 115, 32, 65, 78, 68, 58, 69, 98, 58, 71, 98, 32, 65, 78, 68, 58, 69, 118, 58, 71, 118, 32, 65, 78, 68, 58, 71, 98, 58, 69, 98, 32, 65, 78, 68, 58, 71, 118, 58, 69, 118, 32, 65, 78, 68, 58, 65, 76, 58, 73, 98, 32, 65, 78, 68, 58, 65, 88, 58, 73, 118, 32, 45, 32, 68, 65, 65, 32, 83, 85, 66, 58, 69, 98, 58, 71, 98, 32, 83, 85, 66, 58, 69, 118, 58, 71, 118, 32, 83, 85, 66, 58, 71, 98, 58, 69, 98, 32, 83, 85, 66, 58, 71, 118, 58, 69, 118, 32, 83, 85, 66, 58, 65, 76, 58, 73, 98, 32, 83, 85, 66, 58, 65, 88, 58, 73, 118, 32, 45, 32, 68, 65, 83, 32, 88, 79, 82, 58, 69, 98, 58, 71, 98, 32, 88, 79, 82, 58, 69, 118, 58, 71, 118, 32, 88, 79, 82, 58, 71, 98, 58, 69, 98, 32, 88, 79, 82, 58, 71, 118, 58, 69, 118, 32, 88, 79, 82, 58, 65, 76, 58, 73, 98, 32, 88, 79, 82, 58, 65, 88, 58, 73, 118, 32, 45, 32, 65, 65, 65, 32, 67, 77, 80, 58, 69, 98, 58, 71, 98, 32, 67, 77, 80, 58, 69, 118, 58, 71, 118, 32, 67, 77, 80, 58, 71, 98, 58, 69, 98, 32, 67, 77, 80, 58, 71, 118, 58, 69, 118, 32, 67, 77, 80, 58, 65, 76, 58, 73, 98, 32, 67, 77, 80, 58, 65, 88, 58, 73, 118, 32, 45, 32, 65, 65, 83, 32, 73, 78, 67, 58, 90, 118, 32, 73, 78, 67, 58, 90, 118, 32, 73, 78, 67, 58, 90, 118, 32, 73, 78, 67, 58, 90, 118, 32, 73, 78, 67, 58, 90, 118, 32, 73, 78, 67, 58, 90, 118, 32, 73, 78, 67, 58, 90, 118, 32, 73, 78, 67, 58, 90, 118, 32, 68, 69, 67, 58, 90, 118, 32, 68, 69, 67, 58, 90, 118, 32, 68, 69, 67, 58, 90, 118, 32, 68, 69, 67, 58, 90, 118, 32, 68, 69, 67, 58, 90, 118, 32, 68, 69, 67, 58, 90, 118, 32, 68, 69, 67, 58, 90, 118, 32, 68, 69, 67, 58, 90, 118, 32, 80, 85, 83, 72, 58, 90, 118, 32, 80, 85, 83, 72, 58, 90, 118, 32, 80, 85, 83, 72, 58, 90, 118, 32, 80, 85, 83, 72, 58, 90, 118, 32, 80, 85, 83, 72, 58, 90, 118, 32, 80, 85, 83, 72, 58, 90, 118, 32, 80, 85, 83, 72, 58, 90, 118, 32, 80, 85, 83, 72, 58, 90, 118, 32, 80, 79, 80, 58, 90, 118, 32, 80, 79, 80, 58, 90, 118, 32, 80, 79, 80, 58, 90, 118, 32, 80, 79, 80, 58, 90, 118, 32, 80, 79, 80, 58, 90, 118, 32, 80, 79, 80, 58, 90, 118, 32, 80, 79, 80, 58, 90, 118, 32, 80, 79, 80, 58, 90, 118, 32, 45, 32, 45, 32, 45, 32, 45, 32, 45, 32, 45, 32, 45, 32, 45, 32, 45, 32, 45, 32, 45, 32, 45, 32, 45, 32, 45, 32, 45, 32, 45, 32, 74, 79, 58, 74, 98, 32, 74, 78, 79, 58, 74, 98, 32, 74, 66, 58, 74, 98, 32, 74, 78, 66, 58, 74, 98, 32, 74, 90, 58, 74, 98, 32, 74, 78, 90, 58, 74, 98, 32, 74, 66, 69, 58, 74, 98, 32, 74, 65, 58, 74, 98, 32, 74, 83, 58, 74, 98, 32, 74, 78, 83, 58, 74, 98, 32, 74, 80, 58, 74, 98, 32, 74, 78, 80, 58, 74, 98, 32, 74, 76, 58, 74, 98, 32, 74, 71, 69, 58, 74, 98, 32, 74, 76, 69, 58, 74, 98, 32, 74, 71, 58, 74, 98, 32, 47, 65, 68, 68, 58, 69, 98, 58, 73, 98, 47, 79, 82, 58, 69, 98, 58, 73, 98, 47, 65, 68, 67, 58, 69, 98, 58, 73, 98, 47, 83, 66, 66, 58, 69, 98, 58, 73, 98, 47, 65, 78, 68, 58, 69, 98, 58, 73, 98, 47, 83, 85, 66, 58, 69, 98, 58, 73, 98, 47, 88, 79, 82, 58, 69, 98, 58, 73, 98, 47, 67, 77, 80, 58, 69, 98, 58, 73, 98, 32, 47, 65, 68, 68, 58, 69, 118, 58, 73, 118, 47, 79, 82, 58, 69, 118, 58, 73, 118, 47, 65, 68, 67, 58, 69, 118, 58, 73, 118, 47, 83, 66, 66, 58, 69, 118, 58, 73, 118, 47, 65, 78, 68, 58, 69, 118, 58, 73, 118, 47, 83, 85, 66, 58, 69, 118, 58, 73, 118, 47, 88, 79, 82, 58, 69, 118, 58, 73, 118, 47, 67, 77, 80, 58, 69, 118, 58, 73, 118, 32, 45, 32, 47, 65, 68, 68, 58, 69, 118, 58, 73, 115, 47, 45, 47, 65, 68, 67, 58, 69, 118, 58, 73, 115, 47, 83, 66, 66, 58, 69, 118, 58, 73, 115, 47, 45, 47, 83, 85, 66, 58, 69, 118, 58, 73, 115, 47, 45, 47, 67, 77, 80, 58, 69, 118, 58, 73, 115, 32, 84, 69, 83, 84, 58, 69, 98, 58, 71, 98, 32, 84, 69, 83, 84, 58, 69, 118, 58, 71, 118, 32, 88, 67, 72, 71, 58, 69, 98, 58, 71, 98, 32, 88, 67, 72, 71, 58, 69, 118, 58, 71, 118, 32, 77, 79, 86, 58, 69, 98, 58, 71, 98, 32, 77, 79, 86, 58, 69, 118, 58, 71, 118, 32, 77, 79, 86, 58, 71, 98, 58, 69, 98, 32, 77, 79, 86, 58, 71, 118, 58, 69, 118, 32, 47, 77, 79, 86, 58, 69, 118, 58, 83, 119, 47, 77, 79, 86, 58, 69, 118, 58, 83, 119, 47, 77, 79, 86, 58, 69, 118, 58, 83, 119, 47, 77, 79, 86, 58, 69, 118, 58, 83, 119, 47, 45, 47, 45, 47, 45, 47, 45, 32, 76, 69, 65, 58, 71, 118, 58, 77, 32, 47, 77, 79, 86, 58, 83, 119, 58, 69, 118, 47, 45, 47, 77, 79, 86, 58, 83, 119, 58, 69, 118, 47, 77, 79, 86, 58, 83, 119, 58, 69, 118, 47, 45, 47, 45, 47, 45, 47, 45, 32, 47, 80, 79, 80, 58, 69, 118, 47, 45, 47, 45, 47, 45, 47, 45, 47, 45, 47, 45, 47, 45, 32, 88, 67, 72, 71, 58, 65, 88, 58, 90, 118, 32, 88, 67, 72, 71, 58, 65, 88, 58, 90, 118, 32, 88, 67, 72, 71, 58, 65, 88, 58, 90, 118, 32, 88, 67, 72, 71, 58, 65, 88, 58, 90, 118, 32, 88, 67, 72, 71, 58, 65, 88, 58, 90, 118, 32, 88, 67, 72, 71, 58, 65, 88, 58, 90, 118, 32, 88, 67, 72, 71, 58, 65, 88, 58, 90, 118, 32, 88, 67, 72, 71, 58, 65, 88, 58, 90, 118, 32, 67, 66, 87, 32, 67, 87, 68, 32, 67, 65, 76, 76, 70, 58, 65, 112, 32, 87, 65, 73, 84, 32, 80, 85, 83, 72, 70, 32, 80, 79, 80, 70, 32, 83, 65, 72, 70, 32, 76, 65, 72, 70, 32, 77, 79, 86, 58, 65, 76, 58, 79, 98, 32, 77, 79, 86, 58, 65, 88, 58, 79, 118, 32, 77, 79, 86, 58, 79, 98, 58, 65, 76, 32, 77, 79, 86, 58, 79, 118, 58, 65, 88, 32, 77, 79, 86, 83, 66, 32, 77, 79, 86, 83, 87, 32, 67, 77, 80, 83, 66, 32, 67, 77, 80, 83, 87, 32, 84, 69, 83, 84, 58, 65, 76, 58, 73, 98, 32, 84, 69, 83, 84, 58, 65, 88, 58, 73, 118, 32, 83, 84, 79, 83, 66, 32, 83, 84, 79, 83, 87, 32, 76, 79, 68, 83, 66, 32, 76, 79, 68, 83, 87, 32, 83, 67, 65, 83, 66, 32, 83, 67, 65, 83, 87, 32, 77, 79, 86, 58, 90, 98, 58, 73, 98, 32, 77, 79, 86, 58, 90, 98, 58, 73, 98, 32, 77, 79, 86, 58, 90, 98, 58, 73, 98, 32, 77, 79, 86, 58, 90, 98, 58, 73, 98, 32, 77, 79, 86, 58, 90, 98, 58, 73, 98, 32, 77, 79, 86, 58, 90, 98, 58, 73, 98, 32, 77, 79, 86, 58, 90, 98, 58, 73, 98, 32, 77, 79, 86, 58, 90, 98, 58, 73, 98, 32, 77, 79, 86, 58, 90, 118, 58, 73, 118, 32, 77, 79, 86, 58, 90, 118, 58, 73, 118, 32, 77, 79, 86, 58, 90, 118, 58, 73, 118, 32, 77, 79, 86, 58, 90, 118, 58, 73, 118, 32, 77, 79, 86, 58, 90, 118, 58, 73, 118, 32, 77, 79, 86, 58, 90, 118, 58, 73, 118, 32, 77, 79, 86, 58, 90, 118, 58, 73, 118, 32, 77, 79, 86, 58, 90, 118, 58, 73, 118, 32, 45, 32, 45, 32, 82, 69, 84, 58, 73, 118, 32, 82, 69, 84, 32, 76, 69, 83, 58, 71, 118, 58, 77, 112, 32, 76, 68, 83, 58, 71, 118, 58, 77, 112, 32, 47, 77, 79, 86, 58, 69, 98, 58, 73, 98, 47, 45, 47, 45, 47, 45, 47, 45, 47, 45, 47, 45, 47, 45, 32, 47, 77, 79, 86, 58, 69, 118, 58, 73, 118, 47, 45, 47, 45, 47, 45, 47, 45, 47, 45, 47, 45, 47, 45, 32, 45, 32, 45, 32, 82, 69, 84, 70, 58, 73, 118, 32, 82, 69, 84, 70, 32, 73, 78, 84, 58, 84, 104, 114, 101, 101, 32, 73, 78, 84, 58, 73, 98, 32, 73, 78, 84, 79, 32, 73, 82, 69, 84, 32, 47, 82, 79, 76, 58, 69, 98, 58, 79, 110, 101, 47, 82, 79, 82, 58, 69, 98, 58, 79, 110, 101, 47, 82, 67, 76, 58, 69, 98, 58, 79, 110, 101, 47, 82, 67, 82, 58, 69, 98, 58, 79, 110, 101, 47, 83, 72, 76, 58, 69, 98, 58, 79, 110, 101, 47, 83, 72, 82, 58, 69, 98, 58, 79, 110, 101, 47, 45, 47, 83, 65, 82, 58, 69, 98, 58, 79, 110, 101, 32, 47, 82, 79, 76, 58, 69, 118, 58, 79, 110, 101, 47, 82, 79, 82, 58, 69, 118, 58, 79, 110, 101, 47, 82, 67, 76, 58, 69, 118, 58, 79, 110, 101, 47, 82, 67, 82, 58, 69, 118, 58, 79, 110, 101, 47, 83, 72, 76, 58, 69, 118, 58, 79, 110, 101, 47, 83, 72, 82, 58, 69, 118, 58, 79, 110, 101, 47, 45, 47, 83, 65, 82, 58, 69, 118, 58, 79, 110, 101, 32, 47, 82, 79, 76, 58, 69, 98, 58, 67, 76, 47, 82, 79, 82, 58, 69, 98, 58, 67, 76, 47, 82, 67, 76, 58, 69, 98, 58, 67, 76, 47, 82, 67, 82, 58, 69, 98, 58, 67, 76, 47, 83, 72, 76, 58, 69, 98, 58, 67, 76, 47, 83, 72, 82, 58, 69, 98, 58, 67, 76, 47, 45, 47, 83, 65, 82, 58, 69, 98, 58, 67, 76, 32, 47, 82, 79, 76, 58, 69, 118, 58, 67, 76, 47, 82, 79, 82, 58, 69, 118, 58, 67, 76, 47, 82, 67, 76, 58, 69, 118, 58, 67, 76, 47, 82, 67, 82, 58, 69, 118, 58, 67, 76, 47, 83, 72, 76, 58, 69, 118, 58, 67, 76, 47, 83, 72, 82, 58, 69, 118, 58, 67, 76, 47, 45, 47, 83, 65, 82, 58, 69, 118, 58, 67, 76, 32, 65, 65, 77, 58, 73, 98, 32, 65, 65, 68, 58, 73, 98, 32, 45, 32, 88, 76, 65, 84, 32, 69, 83, 67, 58, 69, 118, 32, 69, 83, 67, 58, 69, 118, 32, 69, 83, 67, 58, 69, 118, 32, 69, 83, 67, 58, 69, 118, 32, 69, 83, 67, 58, 69, 118, 32, 69, 83, 67, 58, 69, 118, 32, 69, 83, 67, 58, 69, 118, 32, 69, 83, 67, 58, 69, 118, 32, 76, 79, 79, 80, 78, 90, 58, 74, 98, 32, 76, 79, 79, 80, 90, 58, 74, 98, 32, 76, 79, 79, 80, 58, 74, 98, 32, 74, 67, 88, 90, 58, 74, 98, 32, 73, 78, 58, 65, 76, 58, 73, 98, 32, 73, 78, 58, 65, 88, 58, 73, 98, 32, 79, 85, 84, 58, 73, 98, 58, 65, 76, 32, 79, 85, 84, 58, 73, 98, 58, 65, 88, 32, 67, 65, 76, 76, 58, 74, 118, 32, 74, 77, 80, 58, 74, 118, 32, 74, 77, 80, 70, 58, 65, 112, 32, 74, 77, 80, 58, 74, 98, 32, 73, 78, 58, 65, 76, 58, 68, 88, 32, 73, 78, 58, 65, 88, 58, 68, 88, 32, 79, 85, 84, 58, 68, 88, 58, 65, 76, 32, 79, 85, 84, 58, 68, 88, 58, 65, 88, 32, 45, 32, 45, 32, 45, 32, 45, 32, 72, 76, 84, 32, 67, 77, 67, 32, 47, 84, 69, 83, 84, 58, 69, 98, 58, 73, 98, 47, 45, 47, 78, 79, 84, 58, 69, 98, 47, 78, 69, 71, 58, 69, 98, 47, 77, 85, 76, 58, 69, 98, 47, 73, 77, 85, 76, 58, 69, 98, 47, 68, 73, 86, 58, 69, 98, 47, 73, 68, 73, 86, 58, 69, 98, 32, 47, 84, 69, 83, 84, 58, 69, 118, 58, 73, 118, 47, 45, 47, 78, 79, 84, 58, 69, 118, 47, 78, 69, 71, 58, 69, 118, 47, 77, 85, 76, 58, 69, 118, 47, 73, 77, 85, 76, 58, 69, 118, 47, 68, 73, 86, 58, 69, 118, 47, 73, 68, 73, 86, 58, 69, 118, 32, 67, 76, 67, 32, 83, 84, 67, 32, 67, 76, 73, 32, 83, 84, 73, 32, 67, 76, 68, 32, 83, 84, 68, 32, 47, 73, 78, 67, 58, 69, 98, 47, 68, 69, 67, 58, 69, 98, 47, 45, 47, 45, 47, 45, 47, 45, 47, 45, 47, 45, 32, 47, 73, 78, 67, 58, 69, 118, 47, 68, 69, 67, 58, 69, 118, 47, 67, 65, 76, 76, 58, 69, 118, 47, 67, 65, 76, 76, 70, 58, 77, 112, 47, 74, 77, 80, 58, 69, 118, 47, 74, 77, 80, 70, 58, 77, 112, 47, 80, 85, 83, 72, 58, 69, 118, 47, 45, 32])), .t 7],
  o3 5 .mv [.t 8]]
def F48o6 : List Ao := [
  o3 9 .mv [.t 5],
  o3 10 .lenS [.t 9],
  o3 11 (.bin .gtr) [.t 10, .c (.d (.int .i64 0))],
  o3 12 .mv [.t 11],
  { dst := some 13, k := .mv, xs := [.t 5], g := some (12, true) },
  { dst := some 14, k := .indexS, xs := [.t 13, .c (.d (.int .i64 0))], g := some (12, true) },
  { dst := some 15, k := (.bin .eql), xs := [.t 14, .c (.d (.int .u8 47))], g := some (12, true) },
  o3 16 .pick [.t 12, .t 15, .c (.d (.bool false))]]
def F48o9 : List Ao := [
  o3 17 .mv [.t 5],
  o3 18 .mv [.t 1],
  o3 19 (.bin .and) [.t 18, .c (.d (.int .i64 7))],
  o3 20 (.bin .add) [.t 19, .c (.d (.int .i64 1))],
  o3 21 (.callf 50) [.t 17, .c (.d (.int .u8 47)), .t 20],
  o3 4 .mv [.t 21]]
def F48c10 : Ac := .ret
def F48c7 : Ac := (.cond (.t 16) (.seq (.ops F48o9) F48c10) .skip)
def F48o13 : List Ao := [
  o3 22 .mv [.t 5],
  o3 4 .mv [.t 22]]
def F48c14 : Ac := .ret
def F48c12 : Ac := (.seq (.ops F48o13) F48c14)
def F48c4 : Ac := (.seq (.seq (.ops F48o6) F48c7) F48c12)
def F48c2 : Ac := (.seq (.ops F48o3) F48c4)
def F48c0 : Ac := (.seq (.ops F48o1) F48c2)
/-- hansom/hansomref04.Entry -/
def F48 : Fn := { np := 2, pb := [], rs := [.t 4], body := F48c0 }
def F49o1 : List Ao := [
  o3 2 .mv [.c (.d (.int .i64 0))]]
def F49o3 : List Ao := [
  o3 3 .mv [.t 0],
  o3 4 (.callf 51) [.c (.d (.str [65, 68, 68, 32, 79, 82, 32, 65, 68, 67, 32, 83, 66, 66, 32, 65, 78, 68, 32, 83, 85, 66, 32, 88, 79, 82, 32, 67, 77, 80, 32, 80, 85, 83, 72, 32, 80, 79, 80, 32, 68, 65, 65, 32, 68, 65, 83, 32, 65, 65, 65, 32, 65, 65, 83, 32, 73, 78, 67, 32, 68, 69, 67, 32, 74, 79, 32, 74, 78, 79, 32, 74, 66, 32, 74, 78, 66, 32, 74, 90, 32, 74, 78, 90, 32, 74, 66, 69, 32, 74, 65, 32, 74, 83, 32, 74, 78, 83, 32, 74, 80, 32, 74, 78, 80, 32, 74, 76, 32, 74, 71, 69, 32, 74, 76, 69, 32, 74, 71, 32, 84, 69, 83, 84, 32, 88, 67, 72, 71, 32, 77, 79, 86, 32, 76, 69, 65, 32, 67, 66, 87, 32, 67, 87, 68, 32, 67, 65, 76, 76, 32, 67, 65, 76, 76, 70, 32, 87, 65, 73, 84, 32, 80, 85, 83, 72, 70, 32, 80, 79, 80, 70, 32, 83, 65, 72, 70, 32, 76, 65, 72, 70, 32, 77, 79, 86, 83, 66, 32, 77, 79, 86, 83, 87, 32, 67, 77, 80, 83, 66, 32, 67, 77, 80, 83, 87, 32, 83, 84, 79, 83, 66, 32, 83, 84, 79, 83, 87, 32, 76, 79, 68, 83, 66, 32, 76, 79, 68, 83, 87, 32, 83, 67, 65, 83, 66, 32, 83, 67, 65, 83, 87, 32, 82, 69, 84, 32, 82, 69, 84, 70, 32, 76, 69, 83, 32, 76, 68, 83, 32, 73, 78, 84, 32, 73, 78, 84, 79, 32, 73, 82, 69, 84, 32, 82, 79, 76, 32, 82, 79, 82, 32, 82, 67, 76, 32, 82, 67, 82, 32, 83, 72, 76, 32, 83, 72, 82, 32, 83, 65, 82, 32, 65, 65, 77, 32, 65, 65, 68, 32, 88, 76, 65, 84, 32, 69, 83, 67, 32, 76, 79, 79, 80, 78, 90, 32, 76, 79, 79, 80, 90, 32, 76, 79, 79, 80, 32, 74, 67, 88, 90, 32, 73, 78, 32, 79, 85, 84, 32, 74, 77, 80, 32, 74, 77, 80, 70, 32, 72, 76, 84, 32, 67, 77, 67, 32, 78, 79, 84, 32, 78, 69, 71, 32, 77, 85, 76, 32, 73, 77, 85, 76, 32, 68, 73, 86, 32, 73, 68, 73, 86, 32, 67, 76, 67, 32, 83, 84, 67, 32, 67, 76, 73, 32, 83, 84, 73, 32, 67, 76, 68, 32, 83, 84, 68, 32])), .t 3],
  o3 2 .mv [.t 4]]
def F49c4 : Ac := .ret
def F49c2 : Ac := (.seq (.ops F49o3) F49c4)
def F49c0 : Ac := (.seq (.ops F49o1) F49c2)
/-- hansom/hansomref04.Find -/
def F49 : Fn := { np := 1, pb := [], rs := [.t 2], body := F49c0 }
def F50o1 : List Ao := [
  o3 6 .mv [.c (.d (.str []))]]
def F50o3 : List Ao := [
  o3 7 .mv [.c (.d (.int .i64 0))]]
def F50o6 : List Ao := [
  o3 8 .mv [.c (.d (.int .i64 0))]]
def F50o11 : List Ao := [
  o3 9 .mv [.t 8],
  o3 10 .mv [.t 0],
  o3 11 .lenS [.t 10],
  o3 12 (.bin .leq) [.t 9, .t 11]]
def F50c12 : Ac := (.cond (.t 12) .skip (.exit 0))
def F50o19 : List Ao := [
  o3 15 .mv [.t 8],
  o3 16 .mv [.t 0],
  o3 17 .lenS [.t 16],
  o3 18 (.bin .lss) [.t 15, .t 17],
  o3 19 .mv [.t 18],
  { dst := some 20, k := .mv, xs := [.t 0], g := some (19, true) },
  { dst := some 21, k := .mv, xs := [.t 8], g := some (19, true) },
  { dst := some 22, k := .indexS, xs := [.t 20, .t 21], g := some (19, true) },
  { dst := some 23, k := .mv, xs := [.t 1], g := some (19, true) },
  { dst := some 24, k := (.bin .neq), xs := [.t 22, .t 23], g := some (19, true) },
  o3 25 .pick [.t 19, .t 24, .c (.d (.bool false))]]
def F50c20 : Ac := (.cond (.t 25) (.exit 1) .skip)
def F50o25 : List Ao := [
  o3 26 .mv [.t 2],
  o3 27 (.bin .eql) [.t 26, .c (.d (.int .i64 0))]]
def F50o28 : List Ao := [
  o3 28 .mv [.t 0],
  o3 29 .mv [.t 7],
  o3 30 .mv [.t 8],
  o3 31 (.substr true true) [.t 28, .t 29, .t 30],
  o3 6 .mv [.t 31]]
def F50c29 : Ac := .ret
def F50c26 : Ac := (.cond (.t 27) (.seq (.ops F50o28) F50c29) .skip)
def F50o32 : List Ao := [
  o3 32 .mv [.t 2],
  o3 33 (.bin .sub) [.t 32, .c (.d (.int .i64 1))],
  o3 2 .mv [.t 33]]
def F50o33 : List Ao := [
  o3 34 .mv [.t 8],
  o3 35 (.bin .add) [.t 34, .c (.d (.int .i64 1))],
  o3 7 .mv [.t 35]]
def F50c33 : Ac := (.ops F50o33)
def F50c31 : Ac := (.seq (.ops F50o32) F50c33)
def F50c23 : Ac := (.seq (.seq (.ops F50o25) F50c26) F50c31)
def F50o34 : List Ao := [
  o3 13 .mv [.t 8],
  o3 14 (.bin .add) [.t 13, .c (.d (.int .i64 1))],
  o3 8 .mv [.t 14]]
def F50c34 : Ac := (.ops F50o34)
def F50c15 : Ac := (.seq (.block 1 (.seq (.seq (.ops F50o19) F50c20) F50c23)) F50c34)
def F50l8 : Ac := (.seq (.seq (.ops F50o11) F50c12) F50c15)
def F50c7 : Ac := (.block 0 (.loop (.seq (.gh []) (.seq (.keep [0, 1, 2, 7, 8] []) F50l8))))
def F50o36 : List Ao := [
  o3 6 .mv [.c (.d (.str []))]]
def F50c37 : Ac := .ret
def F50b35 : Ac := (.seq (.ops F50o36) F50c37)
def F50c35 : Ac := (.seq (.gh []) (.seq (.keep [] []) F50b35))
def F50c4 : Ac := (.seq (.seq (.ops F50o6) F50c7) F50c35)
def F50c2 : Ac := (.seq (.ops F50o3) F50c4)
def F50c0 : Ac := (.seq (.ops F50o1) F50c2)
/-- hansom/hansomref04.part -/
def F50 : Fn := { np := 3, pb := [], rs := [.t 6], body := F50c0 }
def F51o1 : List Ao := [
  o3 4 .mv [.c (.d (.int .i64 0))]]
def F51o3 : List Ao := [
  o3 5 .mv [.c (.d (.int .i64 1))],
  o3 6 .mv [.c (.d (.int .i64 0))]]
def F51o6 : List Ao := [
  o3 7 .mv [.c (.d (.int .i64 0))]]
def F51o11 : List Ao := [
  o3 8 .mv [.t 7],
  o3 9 .mv [.t 0],
  o3 10 .lenS [.t 9],
  o3 11 (.bin .lss) [.t 8, .t 10]]
def F51c12 : Ac := (.cond (.t 11) .skip (.exit 0))
def F51o19 : List Ao := [
  o3 14 .mv [.t 0],
  o3 15 .mv [.t 7],
  o3 16 .indexS [.t 14, .t 15],
  o3 17 (.bin .neq) [.t 16, .c (.d (.int .u8 32))]]
def F51c20 : Ac := (.cond (.t 17) (.exit 1) .skip)
def F51o25 : List Ao := [
  o3 18 .mv [.t 0],
  o3 19 .mv [.t 6],
  o3 20 .mv [.t 7],
  o3 21 (.substr true true) [.t 18, .t 19, .t 20],
  o3 22 .mv [.t 1],
  o3 23 (.bin .eql) [.t 21, .t 22]]
def F51o28 : List Ao := [
  o3 24 .mv [.t 5],
  o3 4 .mv [.t 24]]
def F51c29 : Ac := .ret
def F51c26 : Ac := (.cond (.t 23) (.seq (.ops F51o28) F51c29) .skip)
def F51o32 : List Ao := [
  o3 25 .mv [.t 5],
  o3 26 (.bin .add) [.t 25, .c (.d (.int .i64 1))],
  o3 5 .mv [.t 26]]
def F51o33 : List Ao := [
  o3 27 .mv [.t 7],
  o3 28 (.bin .add) [.t 27, .c (.d (.int .i64 1))],
  o3 6 .mv [.t 28]]
def F51c33 : Ac := (.ops F51o33)
def F51c31 : Ac := (.seq (.ops F51o32) F51c33)
def F51c23 : Ac := (.seq (.seq (.ops F51o25) F51c26) F51c31)
def F51o34 : List Ao := [
  o3 12 .mv [.t 7],
  o3 13 (.bin .add) [.t 12, .c (.d (.int .i64 1))],
  o3 7 .mv [.t 13]]
def F51c34 : Ac := (.ops F51o34)
def F51c15 : Ac := (.seq (.block 1 (.seq (.seq (.ops F51o19) F51c20) F51c23)) F51c34)
def F51l8 : Ac := (.seq (.seq (.ops F51o11) F51c12) F51c15)
def F51c7 : Ac := (.block 0 (.loop (.seq (.gh []) (.seq (.keep [0, 1, 5, 6, 7] []) F51l8))))
def F51o36 : List Ao := [
  o3 4 .mv [.c (.d (.int .i64 0))]]
def F51c37 : Ac := .ret
def F51b35 : Ac := (.seq (.ops F51o36) F51c37)
def F51c35 : Ac := (.seq (.gh []) (.seq (.keep [] []) F51b35))
def F51c4 : Ac := (.seq (.seq (.ops F51o6) F51c7) F51c35)
def F51c2 : Ac := (.seq (.ops F51o3) F51c4)
def F51c0 : Ac := (.seq (.ops F51o1) F51c2)
/-- hansom/hansomref04.find -/
def F51 : Fn := { np := 2, pb := [], rs := [.t 4], body := F51c0 }
def F52o1 : List Ao := [
  o3 2 .mv [.c (.d (.bool false))]]
def F52o3 : List Ao := [
  o3 3 .mv [.t 0],
  o3 4 (.bin .geq) [.t 3, .c (.d (.int .i64 1))],
  o3 5 .mv [.t 4],
  { dst := some 6, k := .mv, xs := [.t 0], g := some (5, true) },
  { dst := some 7, k := (.bin .leq), xs := [.t 6, .c (.d (.int .i64 5))], g := some (5, true) },
  o3 8 .pick [.t 5, .t 7, .c (.d (.bool false))],
  o3 9 .mv [.t 8],
  { dst := some 10, k := .mv, xs := [.t 0], g := some (9, false) },
  { dst := some 11, k := (.bin .eql), xs := [.t 10, .c (.d (.int .i64 19))], g := some (9, false) },
  o3 12 .pick [.t 9, .c (.d (.bool true)), .t 11],
  o3 13 .mv [.t 12],
  { dst := some 14, k := .mv, xs := [.t 0], g := some (13, false) },
  { dst := some 15, k := (.bin .eql), xs := [.t 14, .c (.d (.int .i64 20))], g := some (13, false) },
  o3 16 .pick [.t 13, .c (.d (.bool true)), .t 15],
  o3 2 .mv [.t 16]]
def F52c4 : Ac := .ret
def F52c2 : Ac := (.seq (.ops F52o3) F52c4)
def F52c0 : Ac := (.seq (.ops F52o1) F52c2)
/-- hansom/hansomref04.second -/
def F52 : Fn := { np := 1, pb := [], rs := [.t 2], body := F52c0 }
def F53o1 : List Ao := [
  o3 4 .mv [.c (.d (.str []))]]
def F53o3 : List Ao := [
  o3 5 .mv [.c (.d (.int .i64 0))]]
def F53o6 : List Ao := [
  o3 6 .mv [.c (.d (.int .i64 0))]]
def F53o11 : List Ao := [
  o3 8 .mv [.t 6],
  o3 9 .mv [.t 1],
  o3 10 (.bin .lss) [.t 8, .t 9],
  o3 11 .mv [.t 10],
  { dst := some 12, k := .mv, xs := [.t 5], g := some (11, true) },
  { dst := some 13, k := .mv, xs := [.t 0], g := some (11, true) },
  { dst := some 14, k := .lenS, xs := [.t 13], g := some (11, true) },
  { dst := some 15, k := (.bin .lss), xs := [.t 12, .t 14], g := some (11, true) },
  o3 16 .pick [.t 11, .t 15, .c (.d (.bool false))]]
def F53c12 : Ac := (.cond (.t 16) .skip (.exit 0))
def F53o22 : List Ao := [
  o3 19 .mv [.t 5],
  o3 20 .mv [.t 0],
  o3 21 .lenS [.t 20],
  o3 22 (.bin .lss) [.t 19, .t 21],
  o3 23 .mv [.t 22],
  { dst := some 24, k := .mv, xs := [.t 0], g := some (23, true) },
  { dst := some 25, k := .mv, xs := [.t 5], g := some (23, true) },
  { dst := some 26, k := .indexS, xs := [.t 24, .t 25], g := some (23, true) },
  { dst := some 27, k := (.bin .neq), xs := [.t 26, .c (.d (.int .u8 32))], g := some (23, true) },
  o3 28 .pick [.t 23, .t 27, .c (.d (.bool false))]]
def F53c23 : Ac := (.cond (.t 28) .skip (.exit 2))
def F53o27 : List Ao := [
  o3 29 .mv [.t 5],
  o3 30 (.bin .add) [.t 29, .c (.d (.int .i64 1))],
  o3 5 .mv [.t 30]]
def F53c26 : Ac := (.block 3 (.ops F53o27))
def F53l19 : Ac := (.seq (.seq (.ops F53o22) F53c23) F53c26)
def F53o28 : List Ao := [
  o3 31 .mv [.t 5],
  o3 32 (.bin .add) [.t 31, .c (.d (.int .i64 1))],
  o3 5 .mv [.t 32]]
def F53b28 : Ac := (.ops F53o28)
def F53c28 : Ac := (.seq (.gh []) (.seq (.keep [0, 1, 5, 6] []) F53b28))
def F53o29 : List Ao := [
  o3 17 .mv [.t 6],
  o3 18 (.bin .add) [.t 17, .c (.d (.int .i64 1))],
  o3 6 .mv [.t 18]]
def F53c29 : Ac := (.ops F53o29)
def F53c15 : Ac := (.seq (.block 1 (.seq (.block 2 (.loop (.seq (.gh []) (.seq (.keep [0, 1, 5, 6] []) F53l19)))) F53c28)) F53c29)
def F53l8 : Ac := (.seq (.seq (.ops F53o11) F53c12) F53c15)
def F53c7 : Ac := (.block 0 (.loop (.seq (.gh []) (.seq (.keep [0, 1, 5, 6] []) F53l8))))
def F53o31 : List Ao := [
  o3 33 .mv [.t 5],
  o3 7 .mv [.t 33]]
def F53o37 : List Ao := [
  o3 34 .mv [.t 7],
  o3 35 .mv [.t 0],
  o3 36 .lenS [.t 35],
  o3 37 (.bin .lss) [.t 34, .t 36],
  o3 38 .mv [.t 37],
  { dst := some 39, k := .mv, xs := [.t 0], g := some (38, true) },
  { dst := some 40, k := .mv, xs := [.t 7], g := some (38, true) },
  { dst := some 41, k := .indexS, xs := [.t 39, .t 40], g := some (38, true) },
  { dst := some 42, k := (.bin .neq), xs := [.t 41, .c (.d (.int .u8 32))], g := some (38, true) },
  o3 43 .pick [.t 38, .t 42, .c (.d (.bool false))]]
def F53c38 : Ac := (.cond (.t 43) .skip (.exit 4))
def F53o42 : List Ao := [
  o3 44 .mv [.t 7],
  o3 45 (.bin .add) [.t 44, .c (.d (.int .i64 1))],
  o3 7 .mv [.t 45]]
def F53c41 : Ac := (.block 5 (.ops F53o42))
def F53l34 : Ac := (.seq (.seq (.ops F53o37) F53c38) F53c41)
def F53o45 : List Ao := [
  o3 46 .mv [.t 5],
  o3 47 .mv [.t 0],
  o3 48 .lenS [.t 47],
  o3 49 (.bin .geq) [.t 46, .t 48]]
def F53o48 : List Ao := [
  o3 4 .mv [.c (.d (.str []))]]
def F53c49 : Ac := .ret
def F53c46 : Ac := (.cond (.t 49) (.seq (.ops F53o48) F53c49) .skip)
def F53o52 : List Ao := [
  o3 50 .mv [.t 0],
  o3 51 .mv [.t 5],
  o3 52 .mv [.t 7],
  o3 53 (.substr true true) [.t 50, .t 51, .t 52],
  o3 4 .mv [.t 53]]
def F53c53 : Ac := .ret
def F53c51 : Ac := (.seq (.ops F53o52) F53c53)
def F53b43 : Ac := (.seq (.seq (.ops F53o45) F53c46) F53c51)
def F53c43 : Ac := (.seq (.gh []) (.seq (.keep [0, 5, 7] []) F53b43))
def F53c32 : Ac := (.seq (.block 4 (.loop (.seq (.gh []) (.seq (.keep [0, 5, 7] []) F53l34)))) F53c43)
def F53b30 : Ac := (.seq (.ops F53o31) F53c32)
def F53c30 : Ac := (.seq (.gh []) (.seq (.keep [0, 5] []) F53b30))
def F53c4 : Ac := (.seq (.seq (.ops F53o6) F53c7) F53c30)
def F53c2 : Ac := (.seq (.ops F53o3) F53c4)
def F53c0 : Ac := (.seq (.ops F53o1) F53c2)
/-- hansom/hansomref04.word -/
def F53 : Fn := { np := 2, pb := [], rs := [.t 4], body := F53c0 }
def F67o1 : List Ao := [
  o3 6 (.alloc [.d (.int .i64 0), .d (.int .i64 0), .d (.int .i64 0), .d (.bool false)]) [],
  o3 7 .mv [.c (.d (.bool false))]]
def F67o3 : List Ao := [
  o3 8 .mv [.t 0],
  o3 9 .mv [.t 1],
  o3 10 .mv [.t 2],
  o3 11 (.build [.d (.int .i64 0), .d (.int .i64 0), .d (.int .i64 0), .d (.bool false)] [(0, 1), (1, 1), (2, 1), (3, 1)]) [.t 8, .t 9, .t 10, .c (.d (.bool true))],
  { dst := none, k := (.store 4), xs := [.t 6, .t 11] },
  o3 7 .mv [.c (.d (.bool true))]]
def F67c4 : Ac := .ret
def F67c2 : Ac := (.seq (.ops F67o3) F67c4)
def F67c0 : Ac := (.seq (.ops F67o1) F67c2)
/-- hansom/isa.mod -/
def F67 : Fn := { np := 3, pb := [], rs := [.c 6 (some 4), .t 7], body := F67c0 }
def tab1 : Nat → Option Fn
  | 3 => some F3
  | 11 => some F11
  | 12 => some F12
  | 13 => some F13
  | 14 => some F14
  | 17 => some F17
  | 20 => some F20
  | 21 => some F21
  | 22 => some F22
  | 37 => some F37
  | 38 => some F38
  | 39 => some F39
  | 40 => some F40
  | 41 => some F41
  | 42 => some F42
  | 43 => some F43
  | 44 => some F44
  | 45 => some F45
  | 46 => some F46
  | 48 => some F48
  | 49 => some F49
  | 50 => some F50
  | 51 => some F51
  | 52 => some F52
  | 53 => some F53
  | 67 => some F67
  | _ => none
noncomputable def L : Cs := lim tab1 (fun _ _ => none)

theorem no_globals : GOk (fun _ _ => none) (fun _ => none) := fun n a h => by cases h
theorem ok3 : FnOk (fun _ _ => none) Try.prog 3 F3 := compF_spec no_globals Try.func3 (by kernel_rfl)
theorem ok11 : FnOk (fun _ _ => none) Try.prog 11 F11 := compF_spec no_globals Try.func11 (by kernel_rfl)
theorem ok12 : FnOk (fun _ _ => none) Try.prog 12 F12 := compF_spec no_globals Try.func12 (by kernel_rfl)
theorem ok13 : FnOk (fun _ _ => none) Try.prog 13 F13 := compF_spec no_globals Try.func13 (by kernel_rfl)
theorem ok14 : FnOk (fun _ _ => none) Try.prog 14 F14 := compF_spec no_globals Try.func14 (by kernel_rfl)
theorem ok17 : FnOk (fun _ _ => none) Try.prog 17 F17 := compF_spec no_globals Try.func17 (by kernel_rfl)
theorem ok20 : FnOk (fun _ _ => none) Try.prog 20 F20 := compF_spec no_globals Try.func20 (by kernel_rfl)
theorem ok21 : FnOk (fun _ _ => none) Try.prog 21 F21 := compF_spec no_globals Try.func21 (by kernel_rfl)
theorem ok22 : FnOk (fun _ _ => none) Try.prog 22 F22 := compF_spec no_globals Try.func22 (by kernel_rfl)
theorem ok37 : FnOk (fun _ _ => none) Try.prog 37 F37 := compF_spec no_globals Try.func37 (by kernel_rfl)
theorem ok38 : FnOk (fun _ _ => none) Try.prog 38 F38 := compF_spec no_globals Try.func38 (by kernel_rfl)
theorem ok39 : FnOk (fun _ _ => none) Try.prog 39 F39 := compF_spec no_globals Try.func39 (by kernel_rfl)
theorem ok40 : FnOk (fun _ _ => none) Try.prog 40 F40 := compF_spec no_globals Try.func40 (by kernel_rfl)
theorem ok41 : FnOk (fun _ _ => none) Try.prog 41 F41 := compF_spec no_globals Try.func41 (by kernel_rfl)
theorem ok42 : FnOk (fun _ _ => none) Try.prog 42 F42 := compF_spec no_globals Try.func42 (by kernel_rfl)
theorem ok43 : FnOk (fun _ _ => none) Try.prog 43 F43 := compF_spec no_globals Try.func43 (by kernel_rfl)
theorem ok44 : FnOk (fun _ _ => none) Try.prog 44 F44 := compF_spec no_globals Try.func44 (by kernel_rfl)
theorem ok45 : FnOk (fun _ _ => none) Try.prog 45 F45 := compF_spec no_globals Try.func45 (by kernel_rfl)
theorem ok46 : FnOk (fun _ _ => none) Try.prog 46 F46 := compF_spec no_globals Try.func46 (by kernel_rfl)
theorem ok48 : FnOk (fun _ _ => none) Try.prog 48 F48 := compF_spec no_globals Try.func48 (by kernel_rfl)
theorem ok49 : FnOk (fun _ _ => none) Try.prog 49 F49 := compF_spec no_globals Try.func49 (by kernel_rfl)
theorem ok50 : FnOk (fun _ _ => none) Try.prog 50 F50 := compF_spec no_globals Try.func50 (by kernel_rfl)
theorem ok51 : FnOk (fun _ _ => none) Try.prog 51 F51 := compF_spec no_globals Try.func51 (by kernel_rfl)
theorem ok52 : FnOk (fun _ _ => none) Try.prog 52 F52 := compF_spec no_globals Try.func52 (by kernel_rfl)
theorem ok53 : FnOk (fun _ _ => none) Try.prog 53 F53 := compF_spec no_globals Try.func53 (by kernel_rfl)
theorem ok67 : FnOk (fun _ _ => none) Try.prog 67 F67 := compF_spec no_globals Try.func67 (by kernel_rfl)
theorem tab1_ok : ∀ f fn, tab1 f = some fn → FnOk (fun _ _ => none) Try.prog f fn := by
  intro f fn h
  unfold tab1 at h
  split at h <;> cases h
  · exact ok3
  · exact ok11
  · exact ok12
  · exact ok13
  · exact ok14
  · exact ok17
  · exact ok20
  · exact ok21
  · exact ok22
  · exact ok37
  · exact ok38
  · exact ok39
  · exact ok40
  · exact ok41
  · exact ok42
  · exact ok43
  · exact ok44
  · exact ok45
  · exact ok46
  · exact ok48
  · exact ok49
  · exact ok50
  · exact ok51
  · exact ok52
  · exact ok53
  · exact ok67
theorem meets1 (f : Nat) : Meets (fun _ _ => none) Try.prog f (L f) := lim_meets tab1_ok (fun f _ m w args vs bs _ _ _ _ _ r a h => by cases h) f

end Go.Es.Iaa
