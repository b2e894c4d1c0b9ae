/- The code of the functions that the statement PubsMade reaches, as the interpreter reads it. No condition. -/
import Derived.Test.YtikbjljifgadmaaEsD
import Derived.Test.YtikbjljifgadmaaChecked
import Derived.KernelRfl
set_option linter.unusedVariables false
set_option linter.unusedSimpArgs false
set_option maxRecDepth 100000
set_option maxHeartbeats 4000000
namespace Go.Es.Pmd
open Go.Proofs
def F3o1 : List Ao := [
  o3 4 .mv [.c (.d (.bool false))]]
def F3o3 : List Ao := [
  o3 19 (.bslice (.agg [.str [], .int .i64 0, .int .u32 0]) 0 []) [],
  o3 5 .mv [.t 19]]
def F3o6 : List Ao := [
  o3 6 .mv [.c (.d (.int .i64 0))]]
def F3o11 : List Ao := [
  o3 20 .mv [.t 6],
  o3 21 .mv [.t 0],
  o3 22 .lenL [.t 21],
  o3 23 (.bin .lss) [.t 20, .t 22],
  o3 24 .mv [.t 23],
  { dst := some 25, k := .mv, xs := [.t 6], g := some (24, true) },
  { dst := some 26, k := (.bin .lss), xs := [.t 25, .c (.d (.int .i64 8))], g := some (24, true) },
  o3 27 .pick [.t 24, .t 26, .c (.d (.bool false))]]
def F3c12 : Ac := (.cond (.t 27) .skip (.exit 0))
def F3o18 : List Ao := [
  o3 30 .mv [.t 0],
  o3 31 .mv [.t 6],
  o3 32 (.iaddrS 3) [.t 30, .t 31],
  o3 33 (.faddr 0) [.t 32],
  { dst := some 34, k := (.load none), xs := [.t 33], av := [[7]] },
  o3 35 .mv [.t 0],
  o3 36 .mv [.t 6],
  o3 37 (.iaddrS 3) [.t 35, .t 36],
  o3 38 (.faddr 0) [.t 37],
  { dst := some 39, k := (.load none), xs := [.t 38], av := [[7]] },
  o3 40 .lenS [.t 39],
  o3 41 .mn [.t 40, .c (.d (.int .i64 40))],
  o3 42 (.substr false true) [.t 34, .t 41],
  o3 43 .mv [.t 0],
  o3 44 .mv [.t 6],
  o3 45 (.iaddrS 3) [.t 43, .t 44],
  o3 46 (.faddr 1) [.t 45],
  { dst := some 47, k := (.load none), xs := [.t 46], av := [[7]] },
  o3 48 (.bin .and) [.t 47, .c (.d (.int .i64 1))],
  o3 49 (.bin .add) [.c (.d (.int .i64 97)), .t 48],
  o3 50 .mv [.t 0],
  o3 51 .mv [.t 6],
  o3 52 (.iaddrS 3) [.t 50, .t 51],
  o3 53 (.faddr 2) [.t 52],
  { dst := some 54, k := (.load none), xs := [.t 53], av := [[7]] },
  o3 55 (.bin .and) [.t 54, .c (.d (.int .u32 2097151))],
  o3 56 (.bin .rem) [.t 55, .c (.d (.int .u32 1048577))],
  o3 57 (.build [.d (.str []), .d (.int .i64 0), .d (.int .u32 0)] [(0, 1), (1, 1), (2, 1)]) [.t 42, .t 49, .t 56],
  o3 7 (.alloc [.d (.str []), .d (.int .i64 0), .d (.int .u32 0)]) [],
  { dst := none, k := (.store 3), xs := [.t 7, .t 57] }]
def F3o19 : List Ao := [
  o3 58 .mv [.t 5],
  o3 59 (.load (some 3)) [.t 7],
  o3 60 (.bslice (.agg [.str [], .int .i64 0, .int .u32 0]) 1 [0]) [.t 59],
  o3 61 (.append 3 32 false) [.t 58, .t 60],
  o3 5 .mv [.t 61]]
def F3c19 : Ac := (.ops F3o19)
def F3o20 : List Ao := [
  o3 28 .mv [.t 6],
  o3 29 (.bin .add) [.t 28, .c (.d (.int .i64 1))],
  o3 6 .mv [.t 29]]
def F3c20 : Ac := (.ops F3o20)
def F3c15 : Ac := (.seq (.block 1 (.seq (.ops F3o18) F3c19)) F3c20)
def F3l8 : Ac := (.seq (.seq (.ops F3o11) F3c12) F3c15)
def F3c7 : Ac := (.block 0 (.loop (.seq (.gh []) (.seq (.keep [0, 1, 5, 6] [[19]]) F3l8))))
def F3o22 : List Ao := [
  o3 62 .mv [.t 5],
  o3 63 (.callf 12) [.t 62],
  o3 8 (.alloc [.d (.int .u8 0), .nils]) [],
  { dst := none, k := (.store 2), xs := [.t 8, .t 63] }]
def F3o24 : List Ao := [
  o3 65 (.faddr 1) [.t 8],
  o3 66 (.load none) [.t 65],
  o3 67 (.callf 13) [.t 66],
  o3 64 .mv [.t 67],
  o3 68 (.extract 0) [.t 64],
  o3 69 (.extract 1) [.t 64],
  o3 9 .mv [.t 68],
  o3 10 .mv [.t 69]]
def F3o27 : List Ao := [
  o3 70 (.faddr 1) [.t 8],
  { dst := some 71, k := (.load none), xs := [.t 70], av := [[74]] },
  { dst := some 72, k := .bytesStr, xs := [.t 71], av := [[74]] },
  o3 73 .mv [.t 5],
  { dst := some 74, k := (.callf 14), xs := [.t 73], al := some [] },
  o3 75 (.bin .neq) [.t 72, .t 74],
  o3 76 .mv [.t 75],
  { dst := some 77, k := (.faddr 0), xs := [.t 8], g := some (76, false) },
  { dst := some 78, k := (.load none), xs := [.t 77], g := some (76, false) },
  { dst := some 79, k := (.bin .neq), xs := [.t 78, .c (.d (.int .u8 176))], g := some (76, false) },
  o3 80 .pick [.t 76, .c (.d (.bool true)), .t 79],
  o3 81 .mv [.t 80],
  { dst := some 82, k := .mv, xs := [.t 10], g := some (81, false) },
  { dst := some 83, k := (.bin .neq), xs := [.t 82, .c (.d (.int .i64 0))], g := some (81, false) },
  o3 84 .pick [.t 81, .c (.d (.bool true)), .t 83],
  o3 85 .mv [.t 84],
  { dst := some 86, k := .mv, xs := [.t 9], g := some (85, false) },
  { dst := some 87, k := .lenL, xs := [.t 86], g := some (85, false) },
  { dst := some 88, k := .mv, xs := [.t 5], g := some (85, false) },
  { dst := some 89, k := .lenL, xs := [.t 88], g := some (85, false) },
  { dst := some 90, k := (.bin .neq), xs := [.t 87, .t 89], g := some (85, false) },
  o3 91 .pick [.t 85, .c (.d (.bool true)), .t 90]]
def F3o30 : List Ao := [
  o3 4 .mv [.c (.d (.bool false))]]
def F3c31 : Ac := .ret
def F3c28 : Ac := (.cond (.t 91) (.seq (.ops F3o30) F3c31) .skip)
def F3o35 : List Ao := [
  o3 11 .mv [.c (.d (.int .i64 0))]]
def F3o40 : List Ao := [
  o3 92 .mv [.t 11],
  o3 93 .mv [.t 5],
  o3 94 .lenL [.t 93],
  o3 95 (.bin .lss) [.t 92, .t 94]]
def F3c41 : Ac := (.cond (.t 95) .skip (.exit 2))
def F3o47 : List Ao := [
  o3 98 .mv [.t 9],
  o3 99 .mv [.t 11],
  o3 100 (.iaddrS 3) [.t 98, .t 99],
  o3 101 (.load (some 3)) [.t 100],
  o3 102 .mv [.t 5],
  o3 103 .mv [.t 11],
  o3 104 (.iaddrS 3) [.t 102, .t 103],
  o3 105 (.load (some 3)) [.t 104],
  o3 106 (.eqa true [.s, .i, .i]) [.t 101, .t 105]]
def F3o50 : List Ao := [
  o3 4 .mv [.c (.d (.bool false))]]
def F3c51 : Ac := .ret
def F3c48 : Ac := (.cond (.t 106) (.seq (.ops F3o50) F3c51) .skip)
def F3o53 : List Ao := [
  o3 96 .mv [.t 11],
  o3 97 (.bin .add) [.t 96, .c (.d (.int .i64 1))],
  o3 11 .mv [.t 97]]
def F3c53 : Ac := (.ops F3o53)
def F3c44 : Ac := (.seq (.block 3 (.seq (.ops F3o47) F3c48)) F3c53)
def F3l37 : Ac := (.seq (.seq (.ops F3o40) F3c41) F3c44)
def F3c36 : Ac := (.block 2 (.loop (.seq (.gh []) (.seq (.keep [1, 5, 8, 9, 11] [[8], [19]]) F3l37))))
def F3o55 : List Ao := [
  o3 107 (.callf 15) [.c (.d (.str [65]))],
  o3 108 (.bin .add) [.t 107, .c (.d (.str [0, 97]))],
  o3 109 (.callf 16) [.c (.d (.int .u32 1024))],
  o3 110 (.bin .add) [.t 108, .t 109],
  o3 111 .mv [.t 1],
  o3 112 (.bin .and) [.t 111, .c (.d (.int .u32 65535))],
  o3 113 (.bin .add) [.c (.d (.int .u32 1025)), .t 112],
  o3 114 (.callf 16) [.t 113],
  o3 115 (.bin .add) [.t 110, .t 114],
  o3 12 .mv [.t 115]]
def F3o57 : List Ao := [
  o3 117 (.bslice (.int .u8 0) 0 []) [],
  o3 118 (.faddr 1) [.t 8],
  o3 119 (.load none) [.t 118],
  o3 120 (.append 1 1 false) [.t 117, .t 119],
  o3 121 .mv [.t 12],
  o3 122 (.append 1 1 true) [.t 120, .t 121],
  o3 123 (.callf 13) [.t 122],
  o3 116 .mv [.t 123],
  o3 124 (.extract 0) [.t 116],
  o3 125 (.extract 1) [.t 116],
  o3 13 .mv [.t 124],
  o3 14 .mv [.t 125]]
def F3o59 : List Ao := [
  o3 127 (.callf 15) [.c (.d (.str [65]))],
  o3 128 (.bin .add) [.t 127, .c (.d (.str [0, 99, 1]))],
  o3 129 .strBytes [.t 128],
  o3 130 (.callf 13) [.t 129],
  o3 126 .mv [.t 130],
  o3 131 (.extract 0) [.t 126],
  o3 132 (.extract 1) [.t 126],
  o3 15 .mv [.t 131],
  o3 16 .mv [.t 132]]
def F3o61 : List Ao := [
  o3 134 (.callf 15) [.c (.d (.str [65]))],
  o3 135 (.bin .add) [.t 134, .c (.d (.str [0, 97, 5, 7]))],
  o3 136 .strBytes [.t 135],
  o3 137 (.callf 13) [.t 136],
  o3 133 .mv [.t 137],
  o3 138 (.extract 0) [.t 133],
  o3 139 (.extract 1) [.t 133],
  o3 17 .mv [.t 138],
  o3 18 .mv [.t 139]]
def F3o63 : List Ao := [
  o3 140 (.callf 17) [],
  o3 141 .mv [.t 140],
  { dst := some 142, k := .mv, xs := [.t 14], g := some (141, true) },
  { dst := some 143, k := (.bin .eql), xs := [.t 142, .c (.d (.int .i64 8))], g := some (141, true) },
  o3 144 .pick [.t 141, .t 143, .c (.d (.bool false))],
  o3 145 .mv [.t 144],
  { dst := some 146, k := .mv, xs := [.t 16], g := some (145, true) },
  { dst := some 147, k := (.bin .eql), xs := [.t 146, .c (.d (.int .i64 3))], g := some (145, true) },
  o3 148 .pick [.t 145, .t 147, .c (.d (.bool false))],
  o3 149 .mv [.t 148],
  { dst := some 150, k := .mv, xs := [.t 18], g := some (149, true) },
  { dst := some 151, k := (.bin .eql), xs := [.t 150, .c (.d (.int .i64 0))], g := some (149, true) },
  o3 152 .pick [.t 149, .t 151, .c (.d (.bool false))],
  o3 153 .mv [.t 152],
  { dst := some 154, k := .mv, xs := [.t 17], g := some (153, true) },
  { dst := some 155, k := .lenL, xs := [.t 154], g := some (153, true) },
  { dst := some 156, k := (.bin .eql), xs := [.t 155, .c (.d (.int .i64 1))], g := some (153, true) },
  o3 157 .pick [.t 153, .t 156, .c (.d (.bool false))],
  o3 158 .mv [.t 157],
  { dst := some 159, k := .mv, xs := [.t 17], g := some (158, true) },
  { dst := some 160, k := (.iaddrS 3), xs := [.t 159, .c (.d (.int .i64 0))], g := some (158, true) },
  { dst := some 161, k := (.faddr 2), xs := [.t 160], g := some (158, true) },
  { dst := some 162, k := (.load none), xs := [.t 161], g := some (158, true) },
  { dst := some 163, k := (.bin .eql), xs := [.t 162, .c (.d (.int .u32 35))], g := some (158, true) },
  o3 164 .pick [.t 158, .t 163, .c (.d (.bool false))],
  o3 4 .mv [.t 164]]
def F3c64 : Ac := .ret
def F3c62 : Ac := (.seq (.ops F3o63) F3c64)
def F3c60 : Ac := (.seq (.ops F3o61) F3c62)
def F3c58 : Ac := (.seq (.ops F3o59) F3c60)
def F3c56 : Ac := (.seq (.ops F3o57) F3c58)
def F3b54 : Ac := (.seq (.ops F3o55) F3c56)
def F3c54 : Ac := (.seq (.gh []) (.seq (.keep [1, 8] [[8]]) F3b54))
def F3c33 : Ac := (.seq (.seq (.ops F3o35) F3c36) F3c54)
def F3c25 : Ac := (.seq (.seq (.ops F3o27) F3c28) F3c33)
def F3c23 : Ac := (.seq (.ops F3o24) F3c25)
def F3b21 : Ac := (.seq (.ops F3o22) F3c23)
def F3c21 : Ac := (.seq (.gh []) (.seq (.keep [1, 5] [[19]]) F3b21))
def F3c4 : Ac := (.seq (.seq (.ops F3o6) F3c7) F3c21)
def F3c2 : Ac := (.seq (.ops F3o3) F3c4)
def F3c0 : Ac := (.seq (.ops F3o1) F3c2)
/-- hansom/hansomlaw22.PubsMade -/
def F3 : Fn := { np := 2, pb := [], rs := [.t 4], body := F3c0 }
def F12o1 : List Ao := [
  o3 2 (.alloc [.d (.int .u8 0), .nils]) []]
def F12o3 : List Ao := [
  o3 6 (.build [.d (.int .u8 0), .nils] [(0, 1)]) [.c (.d (.int .u8 176))],
  o3 3 (.alloc [.d (.int .u8 0), .nils]) [],
  { dst := none, k := (.store 2), xs := [.t 3, .t 6] }]
def F12o6 : List Ao := [
  o3 7 .mv [.t 0],
  o3 8 .lenL [.t 7],
  o3 9 .mv [.c (.d (.int .i64 0))]]
def F12o10 : List Ao := [
  o3 10 (.bin .lss) [.t 9, .t 8]]
def F12o18 : List Ao := [
  o3 11 (.iaddrS 3) [.t 7, .t 9],
  o3 12 (.load (some 3)) [.t 11],
  o3 5 (.alloc [.d (.str []), .d (.int .i64 0), .d (.int .u32 0)]) [],
  { dst := none, k := (.store 3), xs := [.t 5, .t 12] }]
def F12o20 : List Ao := [
  o3 13 (.faddr 1) [.t 3],
  { dst := some 14, k := (.load none), xs := [.t 13], av := [[17], [19]] },
  o3 15 (.faddr 0) [.t 5],
  { dst := some 16, k := (.load none), xs := [.t 15], av := [[19]] },
  { dst := some 17, k := (.callf 48), xs := [.t 16], av := [[19]], al := some [] },
  { dst := some 18, k := (.append 1 1 false), xs := [.t 14, .t 17], av := [[19]], al := some [[1, 3], [18], [20], [28], [32], [37], [42], [46], [901, 3]] },
  { dst := some 19, k := (.bslice (.int .u8 0) 1 [0]), xs := [.c (.d (.int .u8 0))], av := [[17], [18], [1, 3], [20], [28], [32], [37], [42], [46], [901, 3]] },
  o3 20 (.append 1 1 false) [.t 18, .t 19],
  o3 21 (.faddr 1) [.t 3],
  { dst := none, k := (.store 1), xs := [.t 21, .t 20] }]
def F12o23 : List Ao := [
  o3 22 (.faddr 1) [.t 5],
  o3 23 (.load none) [.t 22],
  o3 24 (.bin .eql) [.t 23, .c (.d (.int .i64 97))]]
def F12o26 : List Ao := [
  o3 25 (.faddr 1) [.t 3],
  { dst := some 26, k := (.load none), xs := [.t 25], av := [[27]] },
  o3 27 (.bslice (.int .u8 0) 1 [0]) [.c (.d (.int .u8 97))],
  { dst := some 28, k := (.append 1 1 false), xs := [.t 26, .t 27], al := some [[1, 3], [18], [20], [28], [32], [37], [42], [46], [901, 3]] },
  o3 29 (.faddr 2) [.t 5],
  { dst := some 30, k := (.load none), xs := [.t 29], av := [[27], [28], [1, 3], [18], [20], [32], [37], [42], [46], [901, 3]] },
  o3 31 (.callf 49) [.t 30],
  o3 32 (.append 1 1 false) [.t 28, .t 31],
  o3 33 (.faddr 1) [.t 3],
  { dst := none, k := (.store 1), xs := [.t 33, .t 32] }]
def F12o28 : List Ao := [
  o3 34 (.faddr 1) [.t 3],
  o3 35 (.load none) [.t 34],
  o3 36 (.bslice (.int .u8 0) 1 [0]) [.c (.d (.int .u8 1))],
  o3 37 (.append 1 1 false) [.t 35, .t 36],
  o3 38 (.faddr 1) [.t 3],
  { dst := none, k := (.store 1), xs := [.t 38, .t 37] }]
def F12c29 : Ac := (.exit 1)
def F12c27 : Ac := (.seq (.ops F12o28) F12c29)
def F12c24 : Ac := (.cond (.t 24) (.seq (.ops F12o26) F12c27) .skip)
def F12o31 : List Ao := [
  o3 39 (.faddr 1) [.t 3],
  { dst := some 40, k := (.load none), xs := [.t 39], av := [[41]] },
  o3 41 (.bslice (.int .u8 0) 1 [0]) [.c (.d (.int .u8 98))],
  { dst := some 42, k := (.append 1 1 false), xs := [.t 40, .t 41], al := some [[1, 3], [18], [20], [28], [32], [37], [42], [46], [901, 3]] },
  o3 43 (.faddr 2) [.t 5],
  { dst := some 44, k := (.load none), xs := [.t 43], av := [[41], [42], [1, 3], [18], [20], [28], [32], [37], [46], [901, 3]] },
  o3 45 (.callf 49) [.t 44],
  o3 46 (.append 1 1 false) [.t 42, .t 45],
  o3 47 (.faddr 1) [.t 3],
  { dst := none, k := (.store 1), xs := [.t 47, .t 46] }]
def F12c31 : Ac := (.ops F12o31)
def F12c21 : Ac := (.seq (.seq (.ops F12o23) F12c24) F12c31)
def F12c19 : Ac := (.seq (.ops F12o20) F12c21)
def F12o32 : List Ao := [
  o3 48 (.bin .add) [.t 9, .c (.d (.int .i64 1))],
  o3 9 .mv [.t 48]]
def F12c32 : Ac := (.ops F12o32)
def F12c15 : Ac := (.seq (.block 1 (.seq (.ops F12o18) F12c19)) F12c32)
def F12c11 : Ac := (.seq (.cond (.t 10) .skip (.exit 0)) F12c15)
def F12l8 : Ac := (.seq (.ops F12o10) F12c11)
def F12c7 : Ac := (.block 0 (.loop (.seq (.gh []) (.seq (.keep [2, 3, 7, 8, 9] [[2], [3], [901, 3]]) F12l8))))
def F12o34 : List Ao := [
  o3 49 (.load (some 2)) [.t 3],
  { dst := none, k := (.store 2), xs := [.t 2, .t 49] }]
def F12c35 : Ac := (.seq (.gh [.frzB [2] 1]) .ret)
def F12b33 : Ac := (.seq (.ops F12o34) F12c35)
def F12c33 : Ac := (.seq (.gh []) (.seq (.keep [2, 3] [[2], [3], [901, 3]]) F12b33))
def F12b4 : Ac := (.seq (.seq (.ops F12o6) F12c7) F12c33)
def F12c4 : Ac := (.seq (.gh [.ownB [3] 1 [901, 3] 1]) (.seq (.keep [0, 2, 3] [[2], [3], [901, 3]]) F12b4))
def F12c2 : Ac := (.seq (.ops F12o3) F12c4)
def F12c0 : Ac := (.seq (.ops F12o1) F12c2)
/-- hansom/pubs.Communal -/
def F12 : Fn := { np := 1, pb := [], rs := [.c 2 (some 2)], body := F12c0 }
def F13o1 : List Ao := [
  o3 2 .mv [.c (.nils)],
  o3 3 .mv [.c (.d (.int .i64 0))]]
def F13o3 : List Ao := [
  o3 9 .mv [.t 0],
  o3 10 (.callf 50) [.t 9],
  o3 4 .mv [.t 10]]
def F13o5 : List Ao := [
  o3 5 .mv [.c (.nils)]]
def F13o11 : List Ao := [
  o3 11 .mv [.t 4],
  o3 12 (.callf 51) [.t 11],
  o3 13 (.bin .gtr) [.t 12, .c (.d (.int .i64 0))]]
def F13c12 : Ac := (.cond (.t 13) .skip (.exit 0))
def F13o17 : List Ao := [
  o3 14 .mv [.t 4],
  o3 15 (.callf 52) [.t 14],
  o3 16 (.build [.d (.str []), .d (.int .i64 0), .d (.int .u32 0)] [(0, 1)]) [.t 15],
  o3 6 (.alloc [.d (.str []), .d (.int .i64 0), .d (.int .u32 0)]) [],
  { dst := none, k := (.store 3), xs := [.t 6, .t 16] }]
def F13o19 : List Ao := [
  o3 17 .mv [.t 4],
  o3 18 (.callf 53) [.t 17]]
def F13o21 : List Ao := [
  o3 19 .mv [.t 4],
  o3 20 (.callf 54) [.t 19],
  o3 21 (.toInt .i64) [.t 20],
  o3 22 (.faddr 1) [.t 6],
  { dst := none, k := (.store 1), xs := [.t 22, .t 21] }]
def F13o23 : List Ao := [
  o3 23 .mv [.t 4],
  o3 24 (.callf 55) [.t 23],
  o3 25 (.toInt .u64) [.t 24],
  o3 7 .mv [.t 25]]
def F13o26 : List Ao := [
  o3 26 (.faddr 1) [.t 6],
  o3 27 (.load none) [.t 26]]
def F13o29 : List Ao := [
  o3 31 (.bin .eql) [.t 27, .c (.d (.int .i64 97))],
  o3 30 .mv [.t 31]]
def F13o31 : List Ao := [
  o3 32 .mv [.t 7],
  o3 33 .mv [.t 4],
  o3 34 (.callf 55) [.t 33],
  o3 35 (.toInt .u64) [.t 34],
  o3 36 (.bin .mul) [.t 32, .t 35],
  o3 7 .mv [.t 36]]
def F13o33 : List Ao := [
  o3 38 (.bin .eql) [.t 27, .c (.d (.int .i64 98))],
  o3 37 .mv [.t 38]]
def F13o36 : List Ao := [
  o3 28 .mv [.t 4],
  o3 29 (.callf 56) [.t 28, .c (.d (.int .i64 3))]]
def F13c34 : Ac := (.cond (.t 37) .skip (.ops F13o36))
def F13c30 : Ac := (.cond (.t 30) (.ops F13o31) (.seq (.ops F13o33) F13c34))
def F13c27 : Ac := (.block 2 (.seq (.ops F13o29) F13c30))
def F13o39 : List Ao := [
  o3 39 .mv [.t 7],
  o3 40 (.bin .gtr) [.t 39, .c (.d (.int .u64 1048576))]]
def F13o41 : List Ao := [
  o3 41 .mv [.t 4],
  o3 42 (.callf 56) [.t 41, .c (.d (.int .i64 8))]]
def F13c40 : Ac := (.cond (.t 40) (.ops F13o41) .skip)
def F13o44 : List Ao := [
  o3 43 .mv [.t 7],
  o3 44 (.toInt .u32) [.t 43],
  o3 45 (.faddr 2) [.t 6],
  { dst := none, k := (.store 1), xs := [.t 45, .t 44] }]
def F13o45 : List Ao := [
  o3 46 .mv [.t 5],
  o3 47 (.load (some 3)) [.t 6],
  o3 48 (.bslice (.agg [.str [], .int .i64 0, .int .u32 0]) 1 [0]) [.t 47],
  o3 49 (.append 3 32 false) [.t 46, .t 48],
  o3 5 .mv [.t 49]]
def F13c45 : Ac := (.ops F13o45)
def F13c43 : Ac := (.seq (.ops F13o44) F13c45)
def F13c37 : Ac := (.seq (.seq (.ops F13o39) F13c40) F13c43)
def F13c24 : Ac := (.seq (.seq (.ops F13o26) F13c27) F13c37)
def F13c22 : Ac := (.seq (.ops F13o23) F13c24)
def F13c20 : Ac := (.seq (.ops F13o21) F13c22)
def F13c18 : Ac := (.seq (.ops F13o19) F13c20)
def F13c15 : Ac := (.block 1 (.seq (.ops F13o17) F13c18))
def F13l8 : Ac := (.seq (.seq (.ops F13o11) F13c12) F13c15)
def F13o48 : List Ao := [
  o3 50 .mv [.t 4],
  o3 51 (.callf 57) [.t 50],
  o3 8 .mv [.t 51]]
def F13o50 : List Ao := [
  o3 52 .mv [.t 8],
  o3 53 (.bin .neq) [.t 52, .c (.d (.int .i64 0))]]
def F13o53 : List Ao := [
  o3 54 .mv [.t 8],
  o3 2 .mv [.c (.nils)],
  o3 3 .mv [.t 54]]
def F13c54 : Ac := (.seq (.gh [.frz 2]) .ret)
def F13c51 : Ac := (.cond (.t 53) (.seq (.ops F13o53) F13c54) .skip)
def F13c49 : Ac := (.seq (.ops F13o50) F13c51)
def F13o57 : List Ao := [
  o3 55 .mv [.t 5],
  o3 2 .mv [.t 55],
  o3 3 .mv [.c (.d (.int .i64 0))]]
def F13c58 : Ac := (.seq (.gh [.frz 2]) .ret)
def F13c56 : Ac := (.seq (.ops F13o57) F13c58)
def F13b46 : Ac := (.seq (.seq (.ops F13o48) F13c49) F13c56)
def F13c46 : Ac := (.seq (.gh []) (.seq (.keep [4, 5] [[5], [10]]) F13b46))
def F13b6 : Ac := (.seq (.block 0 (.loop (.seq (.gh []) (.seq (.keep [4, 5] [[5], [10]]) F13l8)))) F13c46)
def F13c6 : Ac := (.seq (.gh [.own 5 [5] 3]) (.seq (.keep [4, 5] [[5], [10]]) F13b6))
def F13c4 : Ac := (.seq (.ops F13o5) F13c6)
def F13c2 : Ac := (.seq (.ops F13o3) F13c4)
def F13c0 : Ac := (.seq (.ops F13o1) F13c2)
/-- hansom/pubs.Made -/
def F13 : Fn := { np := 1, pb := [], rs := [.t 2, .t 3], body := F13c0 }
def F14o1 : List Ao := [
  o3 2 .mv [.c (.d (.str []))]]
def F14o3 : List Ao := [
  o3 3 .mv [.c (.d (.str []))]]
def F14o6 : List Ao := [
  o3 4 .mv [.c (.d (.int .i64 0))]]
def F14o11 : List Ao := [
  o3 5 .mv [.t 4],
  o3 6 .mv [.t 0],
  o3 7 .lenL [.t 6],
  o3 8 (.bin .lss) [.t 5, .t 7]]
def F14c12 : Ac := (.cond (.t 8) .skip (.exit 0))
def F14o18 : List Ao := [
  o3 11 .mv [.t 3],
  o3 12 .mv [.t 0],
  o3 13 .mv [.t 4],
  o3 14 (.iaddrS 3) [.t 12, .t 13],
  o3 15 (.faddr 0) [.t 14],
  o3 16 (.load none) [.t 15],
  o3 17 (.callf 15) [.t 16],
  o3 18 (.bin .add) [.t 17, .c (.d (.str [0]))],
  o3 19 (.bin .add) [.t 11, .t 18],
  o3 3 .mv [.t 19]]
def F14o20 : List Ao := [
  o3 20 .mv [.t 0],
  o3 21 .mv [.t 4],
  o3 22 (.iaddrS 3) [.t 20, .t 21],
  o3 23 (.faddr 1) [.t 22],
  o3 24 (.load none) [.t 23],
  o3 25 (.bin .eql) [.t 24, .c (.d (.int .i64 97))]]
def F14o22 : List Ao := [
  o3 26 .mv [.t 3],
  o3 27 .mv [.t 0],
  o3 28 .mv [.t 4],
  o3 29 (.iaddrS 3) [.t 27, .t 28],
  o3 30 (.faddr 2) [.t 29],
  o3 31 (.load none) [.t 30],
  o3 32 (.callf 16) [.t 31],
  o3 33 (.bin .add) [.c (.d (.str [97])), .t 32],
  o3 34 (.bin .add) [.t 33, .c (.d (.str [1]))],
  o3 35 (.bin .add) [.t 26, .t 34],
  o3 3 .mv [.t 35]]
def F14o23 : List Ao := [
  o3 36 .mv [.t 3],
  o3 37 .mv [.t 0],
  o3 38 .mv [.t 4],
  o3 39 (.iaddrS 3) [.t 37, .t 38],
  o3 40 (.faddr 2) [.t 39],
  o3 41 (.load none) [.t 40],
  o3 42 (.callf 16) [.t 41],
  o3 43 (.bin .add) [.c (.d (.str [98])), .t 42],
  o3 44 (.bin .add) [.t 36, .t 43],
  o3 3 .mv [.t 44]]
def F14c21 : Ac := (.cond (.t 25) (.ops F14o22) (.ops F14o23))
def F14c19 : Ac := (.seq (.ops F14o20) F14c21)
def F14o24 : List Ao := [
  o3 9 .mv [.t 4],
  o3 10 (.bin .add) [.t 9, .c (.d (.int .i64 1))],
  o3 4 .mv [.t 10]]
def F14c24 : Ac := (.ops F14o24)
def F14c15 : Ac := (.seq (.block 1 (.seq (.ops F14o18) F14c19)) F14c24)
def F14l8 : Ac := (.seq (.seq (.ops F14o11) F14c12) F14c15)
def F14c7 : Ac := (.block 0 (.loop (.seq (.gh []) (.seq (.keep [0, 3, 4] []) F14l8))))
def F14o26 : List Ao := [
  o3 45 .mv [.t 3],
  o3 2 .mv [.t 45]]
def F14c27 : Ac := .ret
def F14b25 : Ac := (.seq (.ops F14o26) F14c27)
def F14c25 : Ac := (.seq (.gh []) (.seq (.keep [3] []) F14b25))
def F14c4 : Ac := (.seq (.seq (.ops F14o6) F14c7) F14c25)
def F14c2 : Ac := (.seq (.ops F14o3) F14c4)
def F14c0 : Ac := (.seq (.ops F14o1) F14c2)
/-- hansom/hansomref21.Communal -/
def F14 : Fn := { np := 1, pb := [], rs := [.t 2], body := F14c0 }
def F15o1 : List Ao := [
  o3 2 .mv [.c (.d (.str []))]]
def F15o4 : List Ao := [
  o3 3 .mv [.t 0],
  o3 4 .lenS [.t 3],
  o3 5 (.bin .gtr) [.t 4, .c (.d (.int .i64 255))]]
def F15o6 : List Ao := [
  o3 6 .mv [.t 0],
  o3 7 (.substr false true) [.t 6, .c (.d (.int .i64 255))],
  o3 0 .mv [.t 7]]
def F15c5 : Ac := (.cond (.t 5) (.ops F15o6) .skip)
def F15o9 : List Ao := [
  o3 8 .mv [.t 0],
  o3 9 .lenS [.t 8],
  o3 10 (.toInt .u8) [.t 9],
  o3 11 (.bslice (.int .u8 0) 1 [0]) [.t 10],
  o3 12 .bytesStr [.t 11],
  o3 13 .mv [.t 0],
  o3 14 (.bin .add) [.t 12, .t 13],
  o3 2 .mv [.t 14]]
def F15c10 : Ac := .ret
def F15c8 : Ac := (.seq (.ops F15o9) F15c10)
def F15c2 : Ac := (.seq (.seq (.ops F15o4) F15c5) F15c8)
def F15c0 : Ac := (.seq (.ops F15o1) F15c2)
/-- hansom/hansomref18.Name -/
def F15 : Fn := { np := 1, pb := [], rs := [.t 2], body := F15c0 }
def F16o1 : List Ao := [
  o3 2 .mv [.c (.d (.str []))]]
def F16o3 : List Ao := [
  o3 4 .mv [.t 0],
  o3 5 (.toInt .u64) [.t 4],
  o3 3 .mv [.t 5]]
def F16o6 : List Ao := [
  o3 6 .mv [.t 0],
  o3 7 (.bin .leq) [.t 6, .c (.d (.int .u32 128))]]
def F16o9 : List Ao := [
  o3 8 .mv [.t 3],
  o3 9 (.callf 58) [.t 8, .c (.d (.int .i64 1))],
  o3 2 .mv [.t 9]]
def F16c10 : Ac := .ret
def F16c7 : Ac := (.cond (.t 7) (.seq (.ops F16o9) F16c10) .skip)
def F16o14 : List Ao := [
  o3 10 .mv [.t 0],
  o3 11 (.bin .lss) [.t 10, .c (.d (.int .u32 65536))]]
def F16o17 : List Ao := [
  o3 12 .mv [.t 3],
  o3 13 (.callf 58) [.t 12, .c (.d (.int .i64 2))],
  o3 14 (.bin .add) [.c (.d (.str [129])), .t 13],
  o3 2 .mv [.t 14]]
def F16c18 : Ac := .ret
def F16c15 : Ac := (.cond (.t 11) (.seq (.ops F16o17) F16c18) .skip)
def F16o22 : List Ao := [
  o3 15 .mv [.t 0],
  o3 16 (.bin .lss) [.t 15, .c (.d (.int .u32 16777216))]]
def F16o25 : List Ao := [
  o3 17 .mv [.t 3],
  o3 18 (.callf 58) [.t 17, .c (.d (.int .i64 3))],
  o3 19 (.bin .add) [.c (.d (.str [132])), .t 18],
  o3 2 .mv [.t 19]]
def F16c26 : Ac := .ret
def F16c23 : Ac := (.cond (.t 16) (.seq (.ops F16o25) F16c26) .skip)
def F16o29 : List Ao := [
  o3 20 .mv [.t 3],
  o3 21 (.callf 58) [.t 20, .c (.d (.int .i64 4))],
  o3 22 (.bin .add) [.c (.d (.str [136])), .t 21],
  o3 2 .mv [.t 22]]
def F16c30 : Ac := .ret
def F16c28 : Ac := (.seq (.ops F16o29) F16c30)
def F16c20 : Ac := (.seq (.seq (.ops F16o22) F16c23) F16c28)
def F16c12 : Ac := (.seq (.seq (.ops F16o14) F16c15) F16c20)
def F16c4 : Ac := (.seq (.seq (.ops F16o6) F16c7) F16c12)
def F16c2 : Ac := (.seq (.ops F16o3) F16c4)
def F16c0 : Ac := (.seq (.ops F16o1) F16c2)
/-- hansom/hansomref18.Long -/
def F16 : Fn := { np := 1, pb := [], rs := [.t 2], body := F16c0 }
def F17o1 : List Ao := [
  o3 0 .mv [.c (.d (.bool false))]]
def F17o3 : List Ao := [
  o3 4 (.build [.d (.int .i64 0), .d (.int .i64 0), .d (.int .u16 0), .d (.str []), .d (.int .u16 0)] [(0, 1), (1, 1), (3, 1), (4, 1)]) [.c (.d (.int .i64 1)), .c (.d (.int .i64 2)), .c (.d (.str [65])), .c (.d (.int .u16 7))],
  o3 5 (.bslice (.agg [.int .i64 0, .int .i64 0, .int .u16 0, .str [], .int .u16 0]) 1 [0]) [.t 4],
  o3 6 (.callf 60) [.t 5],
  o3 7 (.field 1 none) [.t 6],
  o3 8 (.callf 59) [.t 7],
  o3 3 .mv [.t 8],
  o3 9 (.extract 0) [.t 3],
  o3 10 (.extract 1) [.t 3],
  o3 1 .mv [.t 9],
  o3 2 .mv [.t 10]]
def F17o5 : List Ao := [
  o3 11 .mv [.t 2],
  o3 12 (.bin .eql) [.t 11, .c (.d (.int .i64 0))],
  o3 13 .mv [.t 12],
  { dst := some 14, k := .mv, xs := [.t 1], g := some (13, true) },
  { dst := some 15, k := .lenL, xs := [.t 14], g := some (13, true) },
  { dst := some 16, k := (.bin .eql), xs := [.t 15, .c (.d (.int .i64 1))], g := some (13, true) },
  o3 17 .pick [.t 13, .t 16, .c (.d (.bool false))],
  o3 18 .mv [.t 17],
  { dst := some 19, k := .mv, xs := [.t 1], g := some (18, true) },
  { dst := some 20, k := (.iaddrS 5), xs := [.t 19, .c (.d (.int .i64 0))], g := some (18, true) },
  { dst := some 21, k := (.faddr 3), xs := [.t 20], g := some (18, true) },
  { dst := some 22, k := (.load none), xs := [.t 21], g := some (18, true) },
  { dst := some 23, k := (.bin .eql), xs := [.t 22, .c (.d (.str [65]))], g := some (18, true) },
  o3 24 .pick [.t 18, .t 23, .c (.d (.bool false))],
  o3 25 .mv [.t 24],
  { dst := some 26, k := .mv, xs := [.t 1], g := some (25, true) },
  { dst := some 27, k := (.iaddrS 5), xs := [.t 26, .c (.d (.int .i64 0))], g := some (25, true) },
  { dst := some 28, k := (.faddr 4), xs := [.t 27], g := some (25, true) },
  { dst := some 29, k := (.load none), xs := [.t 28], g := some (25, true) },
  { dst := some 30, k := (.bin .eql), xs := [.t 29, .c (.d (.int .u16 7))], g := some (25, true) },
  o3 31 .pick [.t 25, .t 30, .c (.d (.bool false))],
  o3 32 .mv [.t 31],
  { dst := some 33, k := .mv, xs := [.t 1], g := some (32, true) },
  { dst := some 34, k := (.iaddrS 5), xs := [.t 33, .c (.d (.int .i64 0))], g := some (32, true) },
  { dst := some 35, k := (.faddr 1), xs := [.t 34], g := some (32, true) },
  { dst := some 36, k := (.load none), xs := [.t 35], g := some (32, true) },
  { dst := some 37, k := (.bin .eql), xs := [.t 36, .c (.d (.int .i64 2))], g := some (32, true) },
  o3 38 .pick [.t 32, .t 37, .c (.d (.bool false))],
  o3 0 .mv [.t 38]]
def F17c6 : Ac := .ret
def F17c4 : Ac := (.seq (.ops F17o5) F17c6)
def F17c2 : Ac := (.seq (.ops F17o3) F17c4)
def F17c0 : Ac := (.seq (.ops F17o1) F17c2)
/-- hansom/hansomlaw22.awake -/
def F17 : Fn := { np := 0, pb := [], rs := [.t 0], body := F17c0 }
def F48o1 : List Ao := [
  o3 2 .mv [.c (.nils)]]
def F48o3 : List Ao := [
  o3 3 .mv [.t 0],
  o3 4 .mv [.t 0],
  o3 5 .lenS [.t 4],
  o3 6 .mn [.t 5, .c (.d (.int .i64 255))],
  o3 7 (.substr false true) [.t 3, .t 6],
  o3 0 .mv [.t 7]]
def F48o5 : List Ao := [
  o3 8 .mv [.t 0],
  o3 9 .lenS [.t 8],
  o3 10 (.toInt .u8) [.t 9],
  o3 11 (.bslice (.int .u8 0) 1 [0]) [.t 10],
  o3 12 .mv [.t 0],
  o3 13 (.append 1 1 true) [.t 11, .t 12],
  o3 2 .mv [.t 13]]
def F48c6 : Ac := (.seq (.gh [.frz 2]) .ret)
def F48c4 : Ac := (.seq (.ops F48o5) F48c6)
def F48c2 : Ac := (.seq (.ops F48o3) F48c4)
def F48c0 : Ac := (.seq (.ops F48o1) F48c2)
/-- hansom/index.Name -/
def F48 : Fn := { np := 1, pb := [], rs := [.t 2], body := F48c0 }
def F49o1 : List Ao := [
  o3 2 .mv [.c (.nils)]]
def F49o5 : List Ao := [
  o3 4 .mv [.t 0],
  o3 5 (.bin .leq) [.t 4, .c (.d (.int .u32 128))],
  o3 3 .mv [.t 5]]
def F49o8 : List Ao := [
  o3 6 .mv [.t 0],
  o3 7 (.toInt .u8) [.t 6],
  o3 8 (.bslice (.int .u8 0) 1 [0]) [.t 7],
  o3 2 .mv [.t 8]]
def F49c9 : Ac := (.seq (.gh [.frz 2]) .ret)
def F49o11 : List Ao := [
  o3 10 .mv [.t 0],
  o3 11 (.bin .lss) [.t 10, .c (.d (.int .u32 65536))],
  o3 9 .mv [.t 11]]
def F49o14 : List Ao := [
  o3 12 (.bslice (.int .u8 0) 1 [0]) [.c (.d (.int .u8 129))],
  o3 13 .mv [.t 0],
  o3 14 (.toInt .u16) [.t 13],
  o3 15 (.callf 62) [.t 14],
  o3 16 (.append 1 1 false) [.t 12, .t 15],
  o3 2 .mv [.t 16]]
def F49c15 : Ac := (.seq (.gh [.frz 2]) .ret)
def F49o17 : List Ao := [
  o3 18 .mv [.t 0],
  o3 19 (.bin .lss) [.t 18, .c (.d (.int .u32 16777216))],
  o3 17 .mv [.t 19]]
def F49o20 : List Ao := [
  o3 20 (.bslice (.int .u8 0) 1 [0]) [.c (.d (.int .u8 132))],
  o3 21 .mv [.t 0],
  o3 22 (.callf 98) [.t 21],
  o3 23 (.subsl 1 false true false) [.t 22, .c (.d (.int .i64 3))],
  o3 24 (.append 1 1 false) [.t 20, .t 23],
  o3 2 .mv [.t 24]]
def F49c21 : Ac := (.seq (.gh [.frz 2]) .ret)
def F49c18 : Ac := (.cond (.t 17) (.seq (.ops F49o20) F49c21) .skip)
def F49c12 : Ac := (.cond (.t 9) (.seq (.ops F49o14) F49c15) (.seq (.ops F49o17) F49c18))
def F49c6 : Ac := (.cond (.t 3) (.seq (.ops F49o8) F49c9) (.seq (.ops F49o11) F49c12))
def F49o24 : List Ao := [
  o3 25 (.bslice (.int .u8 0) 1 [0]) [.c (.d (.int .u8 136))],
  o3 26 .mv [.t 0],
  o3 27 (.callf 98) [.t 26],
  o3 28 (.append 1 1 false) [.t 25, .t 27],
  o3 2 .mv [.t 28]]
def F49c25 : Ac := (.seq (.gh [.frz 2]) .ret)
def F49c23 : Ac := (.seq (.ops F49o24) F49c25)
def F49c2 : Ac := (.seq (.block 0 (.seq (.ops F49o5) F49c6)) F49c23)
def F49c0 : Ac := (.seq (.ops F49o1) F49c2)
/-- hansom/index.Long -/
def F49 : Fn := { np := 1, pb := [], rs := [.t 2], body := F49c0 }
def F50o1 : List Ao := [
  o3 2 .mv [.c (.nilp)]]
def F50o3 : List Ao := [
  o3 3 .mv [.t 0],
  o3 4 (.append 1 1 false) [.c (.nils), .t 3],
  o3 5 (.build [.nils, .d (.int .i64 0)] [(0, 1)]) [.t 4],
  o3 6 (.box 2) [.t 5],
  o3 2 .mv [.t 6]]
def F50c4 : Ac := (.seq (.gh [.frzB [6] 0]) .ret)
def F50c2 : Ac := (.seq (.ops F50o3) F50c4)
def F50c0 : Ac := (.seq (.ops F50o1) F50c2)
/-- hansom/index.From -/
def F50 : Fn := { np := 1, pb := [], rs := [.t 2], body := F50c0 }
def F51o1 : List Ao := [
  o3 2 .mv [.c (.d (.int .i64 0))]]
def F51o4 : List Ao := [
  o3 3 .mv [.t 0],
  o3 4 (.eqp false) [.t 3, .c (.nilp)]]
def F51o7 : List Ao := [
  o3 2 .mv [.c (.d (.int .i64 0))]]
def F51c8 : Ac := .ret
def F51c5 : Ac := (.cond (.t 4) (.seq (.ops F51o7) F51c8) .skip)
def F51o11 : List Ao := [
  o3 5 .mv [.t 0],
  o3 6 .nilchk [.t 5],
  o3 7 (.faddr 0) [.t 6],
  o3 8 (.load none) [.t 7],
  o3 9 .lenL [.t 8],
  o3 2 .mv [.t 9]]
def F51c12 : Ac := .ret
def F51c10 : Ac := (.seq (.ops F51o11) F51c12)
def F51c2 : Ac := (.seq (.seq (.ops F51o4) F51c5) F51c10)
def F51c0 : Ac := (.seq (.ops F51o1) F51c2)
/-- (*hansom/index.Source).Left -/
def F51 : Fn := { np := 1, pb := [[0]], rs := [.t 2], body := F51c0 }
def F52o1 : List Ao := [
  o3 2 .mv [.c (.d (.str []))]]
def F52o3 : List Ao := [
  o3 3 .mv [.t 0],
  o3 4 .mv [.t 0],
  o3 5 (.callf 54) [.t 4],
  o3 6 (.toInt .i64) [.t 5],
  o3 7 (.callf 99) [.t 3, .t 6],
  o3 8 .bytesStr [.t 7],
  o3 2 .mv [.t 8]]
def F52c4 : Ac := .ret
def F52c2 : Ac := (.seq (.ops F52o3) F52c4)
def F52c0 : Ac := (.seq (.ops F52o1) F52c2)
/-- (*hansom/index.Source).Name -/
def F52 : Fn := { np := 1, pb := [[0]], rs := [.t 2], body := F52c0 }
def F53o1 : List Ao := [
  o3 2 .mv [.c (.d (.int .i64 0))]]
def F53o3 : List Ao := [
  o3 5 .mv [.t 0],
  o3 6 (.callf 54) [.t 5],
  o3 7 (.toInt .i64) [.t 6],
  o3 3 .mv [.t 7]]
def F53o6 : List Ao := [
  o3 8 .mv [.t 3],
  o3 9 (.bin .lss) [.t 8, .c (.d (.int .i64 128))]]
def F53o9 : List Ao := [
  o3 10 .mv [.t 3],
  o3 2 .mv [.t 10]]
def F53c10 : Ac := .ret
def F53c7 : Ac := (.cond (.t 9) (.seq (.ops F53o9) F53c10) .skip)
def F53o13 : List Ao := [
  o3 11 .mv [.t 3],
  o3 12 (.bin .and) [.t 11, .c (.d (.int .i64 127))],
  o3 13 (.bin .shl) [.t 12, .c (.d (.int .u64 8))],
  o3 14 .mv [.t 0],
  o3 15 (.callf 54) [.t 14],
  o3 16 (.toInt .i64) [.t 15],
  o3 17 (.bin .or) [.t 13, .t 16],
  o3 4 .mv [.t 17]]
def F53o16 : List Ao := [
  o3 18 .mv [.t 0],
  o3 19 (.callf 57) [.t 18],
  o3 20 (.bin .neq) [.t 19, .c (.d (.int .i64 0))]]
def F53o19 : List Ao := [
  o3 2 .mv [.c (.d (.int .i64 0))]]
def F53c20 : Ac := .ret
def F53c17 : Ac := (.cond (.t 20) (.seq (.ops F53o19) F53c20) .skip)
def F53o23 : List Ao := [
  o3 21 .mv [.t 4],
  o3 2 .mv [.t 21]]
def F53c24 : Ac := .ret
def F53c22 : Ac := (.seq (.ops F53o23) F53c24)
def F53c14 : Ac := (.seq (.seq (.ops F53o16) F53c17) F53c22)
def F53c12 : Ac := (.seq (.ops F53o13) F53c14)
def F53c4 : Ac := (.seq (.seq (.ops F53o6) F53c7) F53c12)
def F53c2 : Ac := (.seq (.ops F53o3) F53c4)
def F53c0 : Ac := (.seq (.ops F53o1) F53c2)
/-- (*hansom/index.Source).Index -/
def F53 : Fn := { np := 1, pb := [[0]], rs := [.t 2], body := F53c0 }
def F54o1 : List Ao := [
  o3 2 .mv [.c (.d (.int .u8 0))]]
def F54o4 : List Ao := [
  o3 4 .mv [.t 0],
  o3 5 (.callf 99) [.t 4, .c (.d (.int .i64 1))],
  o3 3 .mv [.t 5]]
def F54o6 : List Ao := [
  o3 6 .mv [.t 3],
  o3 7 .lenL [.t 6],
  o3 8 (.bin .eql) [.t 7, .c (.d (.int .i64 1))]]
def F54o9 : List Ao := [
  o3 9 .mv [.t 3],
  o3 10 (.iaddrS 1) [.t 9, .c (.d (.int .i64 0))],
  o3 11 (.load none) [.t 10],
  o3 2 .mv [.t 11]]
def F54c10 : Ac := .ret
def F54c7 : Ac := (.cond (.t 8) (.seq (.ops F54o9) F54c10) .skip)
def F54c5 : Ac := (.seq (.ops F54o6) F54c7)
def F54o13 : List Ao := [
  o3 2 .mv [.c (.d (.int .u8 0))]]
def F54c14 : Ac := .ret
def F54c12 : Ac := (.seq (.ops F54o13) F54c14)
def F54c2 : Ac := (.seq (.seq (.ops F54o4) F54c5) F54c12)
def F54c0 : Ac := (.seq (.ops F54o1) F54c2)
/-- (*hansom/index.Source).Byte -/
def F54 : Fn := { np := 1, pb := [[0]], rs := [.t 2], body := F54c0 }
def F55o1 : List Ao := [
  o3 2 .mv [.c (.d (.int .u32 0))]]
def F55o3 : List Ao := [
  o3 8 .mv [.t 0],
  o3 9 (.callf 54) [.t 8],
  o3 3 .mv [.t 9]]
def F55o5 : List Ao := [
  { dst := some 10, k := .mv, xs := [.c .top] },
  { dst := some 11, k := .mv, xs := [.c .top] },
  { dst := some 12, k := .mv, xs := [.t 3] },
  { dst := some 13, k := .lkp [(129, 2), (132, 3), (136, 4)] .u8 .i64, xs := [.t 12] },
  { dst := some 4, k := .mv, xs := [.t 13] }]
def F55o9 : List Ao := [
  o3 15 .mv [.t 3],
  o3 16 (.bin .leq) [.t 15, .c (.d (.int .u8 128))],
  o3 14 .mv [.t 16]]
def F55o12 : List Ao := [
  o3 17 .mv [.t 3],
  o3 18 (.toInt .u32) [.t 17],
  o3 2 .mv [.t 18]]
def F55c13 : Ac := .ret
def F55o15 : List Ao := [
  o3 20 .mv [.t 4],
  o3 21 (.bin .eql) [.t 20, .c (.d (.int .i64 0))],
  o3 19 .mv [.t 21]]
def F55o18 : List Ao := [
  o3 22 .mv [.t 0],
  o3 23 (.callf 56) [.t 22, .c (.d (.int .i64 3))]]
def F55o20 : List Ao := [
  o3 2 .mv [.c (.d (.int .u32 0))]]
def F55c21 : Ac := .ret
def F55c19 : Ac := (.seq (.ops F55o20) F55c21)
def F55c16 : Ac := (.cond (.t 19) (.seq (.ops F55o18) F55c19) .skip)
def F55c10 : Ac := (.cond (.t 14) (.seq (.ops F55o12) F55c13) (.seq (.ops F55o15) F55c16))
def F55o24 : List Ao := [
  o3 5 .mv [.c (.d (.int .u32 0))]]
def F55o27 : List Ao := [
  o3 24 .mv [.t 0],
  o3 25 .mv [.t 4],
  o3 26 (.callf 99) [.t 24, .t 25],
  o3 27 .lenL [.t 26],
  o3 28 .mv [.c (.d (.int .i64 0))]]
def F55o31 : List Ao := [
  o3 29 (.bin .lss) [.t 28, .t 27]]
def F55o39 : List Ao := [
  o3 30 .mv [.t 28],
  o3 31 (.iaddrS 1) [.t 26, .t 28],
  o3 32 (.load none) [.t 31],
  o3 6 .mv [.t 30],
  o3 7 .mv [.t 32]]
def F55o40 : List Ao := [
  o3 33 .mv [.t 5],
  o3 34 .mv [.t 7],
  o3 35 (.toInt .u32) [.t 34],
  o3 36 .mv [.t 6],
  o3 37 (.bin .mul) [.c (.d (.int .i64 8)), .t 36],
  o3 38 (.bin .shl) [.t 35, .t 37],
  o3 39 (.bin .or) [.t 33, .t 38],
  o3 5 .mv [.t 39]]
def F55c40 : Ac := (.ops F55o40)
def F55o41 : List Ao := [
  o3 40 (.bin .add) [.t 28, .c (.d (.int .i64 1))],
  o3 28 .mv [.t 40]]
def F55c41 : Ac := (.ops F55o41)
def F55c36 : Ac := (.seq (.block 2 (.seq (.ops F55o39) F55c40)) F55c41)
def F55c32 : Ac := (.seq (.cond (.t 29) .skip (.exit 1)) F55c36)
def F55l29 : Ac := (.seq (.ops F55o31) F55c32)
def F55c28 : Ac := (.block 1 (.loop (.seq (.gh []) (.seq (.keep [5, 26, 27, 28] [[0]]) F55l29))))
def F55o43 : List Ao := [
  o3 41 .mv [.t 5],
  o3 2 .mv [.t 41]]
def F55c44 : Ac := .ret
def F55b42 : Ac := (.seq (.ops F55o43) F55c44)
def F55c42 : Ac := (.seq (.gh []) (.seq (.keep [5] [[0]]) F55b42))
def F55c25 : Ac := (.seq (.seq (.ops F55o27) F55c28) F55c42)
def F55c23 : Ac := (.seq (.ops F55o24) F55c25)
def F55c6 : Ac := (.seq (.block 0 (.seq (.ops F55o9) F55c10)) F55c23)
def F55c4 : Ac := (.seq (.ops F55o5) F55c6)
def F55c2 : Ac := (.seq (.ops F55o3) F55c4)
def F55c0 : Ac := (.seq (.ops F55o1) F55c2)
/-- (*hansom/index.Source).Long -/
def F55 : Fn := { np := 1, pb := [[0]], rs := [.t 2], body := F55c0 }
def F56o1 : List Ao := [
  o3 4 .mv [.t 0],
  o3 5 (.eqp true) [.t 4, .c (.nilp)],
  o3 6 .mv [.t 5],
  { dst := some 7, k := .mv, xs := [.t 0], g := some (6, true) },
  { dst := some 8, k := .nilchk, xs := [.t 7], g := some (6, true) },
  { dst := some 9, k := (.faddr 1), xs := [.t 8], g := some (6, true) },
  { dst := some 10, k := (.load none), xs := [.t 9], g := some (6, true) },
  { dst := some 11, k := (.bin .eql), xs := [.t 10, .c (.d (.int .i64 0))], g := some (6, true) },
  o3 12 .pick [.t 6, .t 11, .c (.d (.bool false))],
  o3 13 .mv [.t 12],
  { dst := some 14, k := .mv, xs := [.t 1], g := some (13, true) },
  { dst := some 15, k := (.bin .neq), xs := [.t 14, .c (.d (.int .i64 0))], g := some (13, true) },
  o3 16 .pick [.t 13, .t 15, .c (.d (.bool false))]]
def F56o3 : List Ao := [
  o3 17 .mv [.t 0],
  o3 18 .mv [.t 0],
  o3 19 .mv [.t 1],
  o3 20 .nilchk [.t 17],
  o3 21 (.faddr 1) [.t 20],
  { dst := none, k := (.store 1), xs := [.t 21, .t 19] },
  o3 22 .nilchk [.t 18],
  o3 23 (.faddr 0) [.t 22],
  { dst := none, k := (.store 1), xs := [.t 23, .c (.nils)] }]
def F56c2 : Ac := (.cond (.t 16) (.ops F56o3) .skip)
def F56c0 : Ac := (.seq (.ops F56o1) F56c2)
/-- (*hansom/index.Source).Wrong -/
def F56 : Fn := { np := 2, pb := [[0]], rs := [], body := (.seq F56c0 (.gh [.frzB [0] 0])) }
def F57o1 : List Ao := [
  o3 2 .mv [.c (.d (.int .i64 0))]]
def F57o4 : List Ao := [
  o3 3 .mv [.t 0],
  o3 4 (.eqp false) [.t 3, .c (.nilp)]]
def F57o7 : List Ao := [
  o3 2 .mv [.c (.d (.int .i64 1))]]
def F57c8 : Ac := .ret
def F57c5 : Ac := (.cond (.t 4) (.seq (.ops F57o7) F57c8) .skip)
def F57o11 : List Ao := [
  o3 5 .mv [.t 0],
  o3 6 .nilchk [.t 5],
  o3 7 (.faddr 1) [.t 6],
  o3 8 (.load none) [.t 7],
  o3 2 .mv [.t 8]]
def F57c12 : Ac := .ret
def F57c10 : Ac := (.seq (.ops F57o11) F57c12)
def F57c2 : Ac := (.seq (.seq (.ops F57o4) F57c5) F57c10)
def F57c0 : Ac := (.seq (.ops F57o1) F57c2)
/-- (*hansom/index.Source).Err -/
def F57 : Fn := { np := 1, pb := [[0]], rs := [.t 2], body := F57c0 }
def F58o1 : List Ao := [
  o3 4 .mv [.c (.d (.str []))]]
def F58o3 : List Ao := [
  o3 5 .mv [.c (.d (.str []))]]
def F58o6 : List Ao := [
  o3 6 .mv [.c (.d (.int .i64 0))]]
def F58o11 : List Ao := [
  o3 7 .mv [.t 6],
  o3 8 .mv [.t 1],
  o3 9 (.bin .lss) [.t 7, .t 8]]
def F58c12 : Ac := (.cond (.t 9) .skip (.exit 0))
def F58o18 : List Ao := [
  o3 12 .mv [.t 5],
  o3 13 .mv [.t 0],
  o3 14 (.bin .rem) [.t 13, .c (.d (.int .u64 256))],
  o3 15 (.toInt .u8) [.t 14],
  o3 16 (.bslice (.int .u8 0) 1 [0]) [.t 15],
  o3 17 .bytesStr [.t 16],
  o3 18 (.bin .add) [.t 12, .t 17],
  o3 5 .mv [.t 18]]
def F58o19 : List Ao := [
  o3 19 .mv [.t 0],
  o3 20 (.bin .quo) [.t 19, .c (.d (.int .u64 256))],
  o3 0 .mv [.t 20]]
def F58c19 : Ac := (.ops F58o19)
def F58o20 : List Ao := [
  o3 10 .mv [.t 6],
  o3 11 (.bin .add) [.t 10, .c (.d (.int .i64 1))],
  o3 6 .mv [.t 11]]
def F58c20 : Ac := (.ops F58o20)
def F58c15 : Ac := (.seq (.block 1 (.seq (.ops F58o18) F58c19)) F58c20)
def F58l8 : Ac := (.seq (.seq (.ops F58o11) F58c12) F58c15)
def F58c7 : Ac := (.block 0 (.loop (.seq (.gh []) (.seq (.keep [0, 1, 5, 6] []) F58l8))))
def F58o22 : List Ao := [
  o3 21 .mv [.t 5],
  o3 4 .mv [.t 21]]
def F58c23 : Ac := .ret
def F58b21 : Ac := (.seq (.ops F58o22) F58c23)
def F58c21 : Ac := (.seq (.gh []) (.seq (.keep [5] []) F58b21))
def F58c4 : Ac := (.seq (.seq (.ops F58o6) F58c7) F58c21)
def F58c2 : Ac := (.seq (.ops F58o3) F58c4)
def F58c0 : Ac := (.seq (.ops F58o1) F58c2)
/-- hansom/hansomref18.Bytes -/
def F58 : Fn := { np := 2, pb := [], rs := [.t 4], body := F58c0 }
def F59o1 : List Ao := [
  o3 2 .mv [.c (.nils)],
  o3 3 .mv [.c (.d (.int .i64 0))]]
def F59o3 : List Ao := [
  o3 9 .mv [.t 0],
  o3 10 (.callf 50) [.t 9],
  o3 4 .mv [.t 10]]
def F59o5 : List Ao := [
  o3 11 .mv [.t 4],
  o3 12 (.callf 53) [.t 11],
  o3 13 .mv [.t 4],
  o3 14 (.callf 53) [.t 13],
  o3 15 (.build [.d (.int .i64 0), .d (.int .i64 0), .d (.int .u16 0), .d (.str []), .d (.int .u16 0)] [(0, 1), (1, 1)]) [.t 12, .t 14],
  o3 5 (.alloc [.d (.int .i64 0), .d (.int .i64 0), .d (.int .u16 0), .d (.str []), .d (.int .u16 0)]) [],
  { dst := none, k := (.store 5), xs := [.t 5, .t 15] }]
def F59o8 : List Ao := [
  o3 16 (.faddr 1) [.t 5],
  o3 17 (.load none) [.t 16],
  o3 18 (.bin .eql) [.t 17, .c (.d (.int .i64 0))]]
def F59o10 : List Ao := [
  o3 19 .mv [.t 4],
  o3 20 (.callf 64) [.t 19],
  o3 21 (.faddr 2) [.t 5],
  { dst := none, k := (.store 1), xs := [.t 21, .t 20] }]
def F59c9 : Ac := (.cond (.t 18) (.ops F59o10) .skip)
def F59o13 : List Ao := [
  o3 6 .mv [.c (.nils)]]
def F59o19 : List Ao := [
  o3 22 .mv [.t 4],
  o3 23 (.callf 51) [.t 22],
  o3 24 (.bin .gtr) [.t 23, .c (.d (.int .i64 0))]]
def F59c20 : Ac := (.cond (.t 24) .skip (.exit 0))
def F59o25 : List Ao := [
  o3 25 (.load (some 5)) [.t 5],
  o3 7 (.alloc [.d (.int .i64 0), .d (.int .i64 0), .d (.int .u16 0), .d (.str []), .d (.int .u16 0)]) [],
  { dst := none, k := (.store 5), xs := [.t 7, .t 25] }]
def F59o27 : List Ao := [
  o3 26 .mv [.t 4],
  o3 27 (.callf 52) [.t 26],
  o3 28 .mv [.t 4],
  o3 29 (.callf 64) [.t 28],
  o3 30 (.faddr 3) [.t 7],
  { dst := none, k := (.store 1), xs := [.t 30, .t 27] },
  o3 31 (.faddr 4) [.t 7],
  { dst := none, k := (.store 1), xs := [.t 31, .t 29] }]
def F59o29 : List Ao := [
  o3 32 .mv [.t 4],
  o3 33 (.callf 53) [.t 32]]
def F59o30 : List Ao := [
  o3 34 .mv [.t 6],
  o3 35 (.load (some 5)) [.t 7],
  o3 36 (.bslice (.agg [.int .i64 0, .int .i64 0, .int .u16 0, .str [], .int .u16 0]) 1 [0]) [.t 35],
  o3 37 (.append 5 48 false) [.t 34, .t 36],
  o3 6 .mv [.t 37]]
def F59c30 : Ac := (.ops F59o30)
def F59c28 : Ac := (.seq (.ops F59o29) F59c30)
def F59c26 : Ac := (.seq (.ops F59o27) F59c28)
def F59c23 : Ac := (.block 1 (.seq (.ops F59o25) F59c26))
def F59l16 : Ac := (.seq (.seq (.ops F59o19) F59c20) F59c23)
def F59o33 : List Ao := [
  o3 38 .mv [.t 4],
  o3 39 (.callf 57) [.t 38],
  o3 8 .mv [.t 39]]
def F59o35 : List Ao := [
  o3 40 .mv [.t 8],
  o3 41 (.bin .neq) [.t 40, .c (.d (.int .i64 0))]]
def F59o38 : List Ao := [
  o3 42 .mv [.t 8],
  o3 2 .mv [.c (.nils)],
  o3 3 .mv [.t 42]]
def F59c39 : Ac := (.seq (.gh [.frz 2]) .ret)
def F59c36 : Ac := (.cond (.t 41) (.seq (.ops F59o38) F59c39) .skip)
def F59c34 : Ac := (.seq (.ops F59o35) F59c36)
def F59o42 : List Ao := [
  o3 43 .mv [.t 6],
  o3 2 .mv [.t 43],
  o3 3 .mv [.c (.d (.int .i64 0))]]
def F59c43 : Ac := (.seq (.gh [.frz 2]) .ret)
def F59c41 : Ac := (.seq (.ops F59o42) F59c43)
def F59b31 : Ac := (.seq (.seq (.ops F59o33) F59c34) F59c41)
def F59c31 : Ac := (.seq (.gh []) (.seq (.keep [4, 6] [[6], [10]]) F59b31))
def F59b14 : Ac := (.seq (.block 0 (.loop (.seq (.gh []) (.seq (.keep [4, 5, 6] [[5], [6], [10]]) F59l16)))) F59c31)
def F59c14 : Ac := (.seq (.gh [.own 6 [6] 5]) (.seq (.keep [4, 5, 6] [[5], [6], [10]]) F59b14))
def F59b12 : Ac := (.seq (.ops F59o13) F59c14)
def F59c12 : Ac := (.seq (.gh []) (.seq (.keep [4, 5] [[5], [10]]) F59b12))
def F59c6 : Ac := (.seq (.seq (.ops F59o8) F59c9) F59c12)
def F59c4 : Ac := (.seq (.ops F59o5) F59c6)
def F59c2 : Ac := (.seq (.ops F59o3) F59c4)
def F59c0 : Ac := (.seq (.ops F59o1) F59c2)
/-- hansom/pubs.Given -/
def F59 : Fn := { np := 1, pb := [], rs := [.t 2, .t 3], body := F59c0 }
def F60o1 : List Ao := [
  o3 2 (.alloc [.d (.int .u8 0), .nils]) []]
def F60o3 : List Ao := [
  o3 6 (.build [.d (.int .u8 0), .nils] [(0, 1)]) [.c (.d (.int .u8 144))],
  o3 3 (.alloc [.d (.int .u8 0), .nils]) [],
  { dst := none, k := (.store 2), xs := [.t 3, .t 6] }]
def F60o6 : List Ao := [
  o3 7 .mv [.t 0],
  o3 8 .lenL [.t 7],
  o3 9 .mv [.c (.d (.int .i64 0))]]
def F60o10 : List Ao := [
  o3 10 (.bin .lss) [.t 9, .t 8]]
def F60o18 : List Ao := [
  o3 11 .mv [.t 9],
  o3 12 (.iaddrS 5) [.t 7, .t 9],
  o3 13 (.load (some 5)) [.t 12],
  o3 5 (.alloc [.d (.int .i64 0), .d (.int .i64 0), .d (.int .u16 0), .d (.str []), .d (.int .u16 0)]) [],
  o3 4 .mv [.t 11],
  { dst := none, k := (.store 5), xs := [.t 5, .t 13] }]
def F60o21 : List Ao := [
  o3 14 .mv [.t 4],
  o3 15 (.bin .eql) [.t 14, .c (.d (.int .i64 0))]]
def F60o24 : List Ao := [
  o3 16 (.faddr 0) [.t 5],
  o3 17 (.load none) [.t 16],
  { dst := some 18, k := (.callf 61), xs := [.t 17], al := some [] },
  o3 19 (.faddr 1) [.t 5],
  { dst := some 20, k := (.load none), xs := [.t 19], av := [[18]] },
  o3 21 (.callf 61) [.t 20],
  o3 22 (.append 1 1 false) [.t 18, .t 21],
  o3 23 (.faddr 1) [.t 3],
  { dst := none, k := (.store 1), xs := [.t 23, .t 22] }]
def F60o26 : List Ao := [
  o3 24 (.faddr 1) [.t 5],
  o3 25 (.load none) [.t 24],
  o3 26 (.bin .eql) [.t 25, .c (.d (.int .i64 0))]]
def F60o28 : List Ao := [
  o3 27 (.faddr 1) [.t 3],
  { dst := some 28, k := (.load none), xs := [.t 27], av := [[31]] },
  o3 29 (.faddr 2) [.t 5],
  o3 30 (.load none) [.t 29],
  { dst := some 31, k := (.callf 62), xs := [.t 30], al := some [] },
  o3 32 (.append 1 1 false) [.t 28, .t 31],
  o3 33 (.faddr 1) [.t 3],
  { dst := none, k := (.store 1), xs := [.t 33, .t 32] }]
def F60c27 : Ac := (.cond (.t 26) (.ops F60o28) .skip)
def F60c25 : Ac := (.seq (.ops F60o26) F60c27)
def F60c22 : Ac := (.cond (.t 15) (.seq (.ops F60o24) F60c25) .skip)
def F60o32 : List Ao := [
  o3 34 (.faddr 1) [.t 3],
  { dst := some 35, k := (.load none), xs := [.t 34], av := [[38]] },
  o3 36 (.faddr 3) [.t 5],
  o3 37 (.load none) [.t 36],
  { dst := some 38, k := (.callf 48), xs := [.t 37], al := some [] },
  o3 39 (.append 1 1 false) [.t 35, .t 38],
  o3 40 (.faddr 1) [.t 3],
  { dst := none, k := (.store 1), xs := [.t 40, .t 39] }]
def F60o33 : List Ao := [
  o3 41 (.faddr 1) [.t 3],
  { dst := some 42, k := (.load none), xs := [.t 41], av := [[45], [47]] },
  o3 43 (.faddr 4) [.t 5],
  { dst := some 44, k := (.load none), xs := [.t 43], av := [[47]] },
  { dst := some 45, k := (.callf 62), xs := [.t 44], av := [[47]], al := some [] },
  { dst := some 46, k := (.append 1 1 false), xs := [.t 42, .t 45], av := [[47]], al := some [[1, 3], [18], [22], [32], [39], [46], [48], [901, 3], [951, 3]] },
  { dst := some 47, k := (.bslice (.int .u8 0) 1 [0]), xs := [.c (.d (.int .u8 0))], av := [[45], [46], [1, 3], [18], [22], [32], [39], [48], [901, 3], [951, 3]] },
  o3 48 (.append 1 1 false) [.t 46, .t 47],
  o3 49 (.faddr 1) [.t 3],
  { dst := none, k := (.store 1), xs := [.t 49, .t 48] }]
def F60c33 : Ac := (.ops F60o33)
def F60b31 : Ac := (.seq (.ops F60o32) F60c33)
def F60c31 : Ac := (.seq (.gh [.mvB [3] 1 [951, 3]]) (.seq (.keep [2, 3, 5, 7, 8, 9] [[2], [3], [5], [951, 3]]) F60b31))
def F60c19 : Ac := (.seq (.seq (.ops F60o21) F60c22) F60c31)
def F60o34 : List Ao := [
  o3 50 (.bin .add) [.t 9, .c (.d (.int .i64 1))],
  o3 9 .mv [.t 50]]
def F60c34 : Ac := (.ops F60o34)
def F60c15 : Ac := (.seq (.block 1 (.seq (.ops F60o18) F60c19)) F60c34)
def F60c11 : Ac := (.seq (.cond (.t 10) .skip (.exit 0)) F60c15)
def F60l8 : Ac := (.seq (.ops F60o10) F60c11)
def F60c7 : Ac := (.block 0 (.loop (.seq (.gh [.mvB [3] 1 [951, 3]]) (.seq (.keep [2, 3, 7, 8, 9] [[2], [3], [951, 3]]) F60l8))))
def F60o36 : List Ao := [
  o3 51 (.load (some 2)) [.t 3],
  { dst := none, k := (.store 2), xs := [.t 2, .t 51] }]
def F60c37 : Ac := (.seq (.gh [.frzB [2] 1]) .ret)
def F60b35 : Ac := (.seq (.ops F60o36) F60c37)
def F60c35 : Ac := (.seq (.gh [.mvB [3] 1 [951, 3]]) (.seq (.keep [2, 3] [[2], [3], [951, 3]]) F60b35))
def F60b4 : Ac := (.seq (.seq (.ops F60o6) F60c7) F60c35)
def F60c4 : Ac := (.seq (.gh [.ownB [3] 1 [901, 3] 1]) (.seq (.keep [0, 2, 3] [[2], [3], [901, 3]]) F60b4))
def F60c2 : Ac := (.seq (.ops F60o3) F60c4)
def F60c0 : Ac := (.seq (.ops F60o1) F60c2)
/-- hansom/pubs.Publics -/
def F60 : Fn := { np := 1, pb := [], rs := [.c 2 (some 2)], body := F60c0 }
def F61o1 : List Ao := [
  o3 2 .mv [.c (.nils)]]
def F61o5 : List Ao := [
  o3 4 .mv [.t 0],
  o3 5 (.bin .lss) [.t 4, .c (.d (.int .i64 0))],
  o3 6 .mv [.t 5],
  { dst := some 7, k := .mv, xs := [.t 0], g := some (6, false) },
  { dst := some 8, k := (.bin .gtr), xs := [.t 7, .c (.d (.int .i64 32767))], g := some (6, false) },
  o3 9 .pick [.t 6, .c (.d (.bool true)), .t 8],
  o3 3 .mv [.t 9]]
def F61o8 : List Ao := [
  o3 10 (.bslice (.int .u8 0) 1 [0]) [.c (.d (.int .u8 0))],
  o3 2 .mv [.t 10]]
def F61c9 : Ac := .ret
def F61o11 : List Ao := [
  o3 12 .mv [.t 0],
  o3 13 (.bin .lss) [.t 12, .c (.d (.int .i64 128))],
  o3 11 .mv [.t 13]]
def F61o14 : List Ao := [
  o3 14 .mv [.t 0],
  o3 15 (.toInt .u8) [.t 14],
  o3 16 (.bslice (.int .u8 0) 1 [0]) [.t 15],
  o3 2 .mv [.t 16]]
def F61c15 : Ac := .ret
def F61c12 : Ac := (.cond (.t 11) (.seq (.ops F61o14) F61c15) .skip)
def F61c6 : Ac := (.cond (.t 3) (.seq (.ops F61o8) F61c9) (.seq (.ops F61o11) F61c12))
def F61o18 : List Ao := [
  o3 17 .mv [.t 0],
  o3 18 (.bin .shr) [.t 17, .c (.d (.int .u64 8))],
  o3 19 (.toInt .u8) [.t 18],
  o3 20 (.bin .or) [.t 19, .c (.d (.int .u8 128))],
  o3 21 .mv [.t 0],
  o3 22 (.toInt .u8) [.t 21],
  o3 23 (.bslice (.int .u8 0) 2 [0, 1]) [.t 20, .t 22],
  o3 2 .mv [.t 23]]
def F61c19 : Ac := .ret
def F61c17 : Ac := (.seq (.ops F61o18) F61c19)
def F61c2 : Ac := (.seq (.block 0 (.seq (.ops F61o5) F61c6)) F61c17)
def F61c0 : Ac := (.seq (.ops F61o1) F61c2)
/-- hansom/index.Put -/
def F61 : Fn := { np := 1, pb := [], rs := [.t 2], body := F61c0 }
def F62o1 : List Ao := [
  o3 2 .mv [.c (.nils)]]
def F62o3 : List Ao := [
  o3 3 .mv [.t 0],
  o3 4 (.callf 100) [.t 3],
  o3 5 .mv [.t 0],
  o3 6 (.callf 101) [.t 5],
  o3 7 (.bslice (.int .u8 0) 2 [0, 1]) [.t 4, .t 6],
  o3 2 .mv [.t 7]]
def F62c4 : Ac := .ret
def F62c2 : Ac := (.seq (.ops F62o3) F62c4)
def F62c0 : Ac := (.seq (.ops F62o1) F62c2)
/-- hansom/index.Two -/
def F62 : Fn := { np := 1, pb := [], rs := [.t 2], body := F62c0 }
def F64o1 : List Ao := [
  o3 2 .mv [.c (.d (.int .u16 0))]]
def F64o4 : List Ao := [
  o3 4 .mv [.t 0],
  o3 5 (.callf 99) [.t 4, .c (.d (.int .i64 2))],
  o3 3 .mv [.t 5]]
def F64o6 : List Ao := [
  o3 6 .mv [.t 3],
  o3 7 .lenL [.t 6],
  o3 8 (.bin .eql) [.t 7, .c (.d (.int .i64 2))]]
def F64o9 : List Ao := [
  o3 9 .mv [.t 3],
  o3 10 (.iaddrS 1) [.t 9, .c (.d (.int .i64 0))],
  o3 11 (.load none) [.t 10],
  o3 12 .mv [.t 3],
  o3 13 (.iaddrS 1) [.t 12, .c (.d (.int .i64 1))],
  o3 14 (.load none) [.t 13],
  o3 15 (.callf 102) [.t 11, .t 14],
  o3 2 .mv [.t 15]]
def F64c10 : Ac := .ret
def F64c7 : Ac := (.cond (.t 8) (.seq (.ops F64o9) F64c10) .skip)
def F64c5 : Ac := (.seq (.ops F64o6) F64c7)
def F64o13 : List Ao := [
  o3 2 .mv [.c (.d (.int .u16 0))]]
def F64c14 : Ac := .ret
def F64c12 : Ac := (.seq (.ops F64o13) F64c14)
def F64c2 : Ac := (.seq (.seq (.ops F64o4) F64c5) F64c12)
def F64c0 : Ac := (.seq (.ops F64o1) F64c2)
/-- (*hansom/index.Source).Word -/
def F64 : Fn := { np := 1, pb := [[0]], rs := [.t 2], body := F64c0 }
def F98o1 : List Ao := [
  o3 2 .mv [.c (.nils)]]
def F98o3 : List Ao := [
  o3 3 .mv [.t 0],
  o3 4 (.toInt .u16) [.t 3],
  o3 5 (.callf 62) [.t 4],
  o3 6 .mv [.t 0],
  o3 7 (.bin .shr) [.t 6, .c (.d (.int .u64 16))],
  o3 8 (.toInt .u16) [.t 7],
  o3 9 (.callf 62) [.t 8],
  o3 10 (.append 1 1 false) [.t 5, .t 9],
  o3 2 .mv [.t 10]]
def F98c4 : Ac := (.seq (.gh [.frz 2]) .ret)
def F98c2 : Ac := (.seq (.ops F98o3) F98c4)
def F98c0 : Ac := (.seq (.ops F98o1) F98c2)
/-- hansom/index.Four -/
def F98 : Fn := { np := 1, pb := [], rs := [.t 2], body := F98c0 }
def F99o1 : List Ao := [
  o3 4 .mv [.c (.nils)]]
def F99o4 : List Ao := [
  o3 6 .mv [.t 0],
  o3 7 (.eqp false) [.t 6, .c (.nilp)]]
def F99o7 : List Ao := [
  o3 4 .mv [.c (.nils)]]
def F99c8 : Ac := .ret
def F99c5 : Ac := (.cond (.t 7) (.seq (.ops F99o7) F99c8) .skip)
def F99o12 : List Ao := [
  o3 8 .mv [.t 1],
  o3 9 (.bin .lss) [.t 8, .c (.d (.int .i64 0))],
  o3 10 .mv [.t 9],
  { dst := some 11, k := .mv, xs := [.t 1], g := some (10, false) },
  { dst := some 12, k := .mv, xs := [.t 0], g := some (10, false) },
  { dst := some 13, k := .nilchk, xs := [.t 12], g := some (10, false) },
  { dst := some 14, k := (.faddr 0), xs := [.t 13], g := some (10, false) },
  { dst := some 15, k := (.load none), xs := [.t 14], g := some (10, false) },
  { dst := some 16, k := .lenL, xs := [.t 15], g := some (10, false) },
  { dst := some 17, k := (.bin .gtr), xs := [.t 11, .t 16], g := some (10, false) },
  o3 18 .pick [.t 10, .c (.d (.bool true)), .t 17]]
def F99o15 : List Ao := [
  o3 19 .mv [.t 0],
  o3 20 (.callf 56) [.t 19, .c (.d (.int .i64 2))]]
def F99o17 : List Ao := [
  o3 4 .mv [.c (.nils)]]
def F99c18 : Ac := (.seq (.gh [.frz 4]) .ret)
def F99c16 : Ac := (.seq (.ops F99o17) F99c18)
def F99c13 : Ac := (.cond (.t 18) (.seq (.ops F99o15) F99c16) .skip)
def F99o21 : List Ao := [
  o3 21 .mv [.t 0],
  o3 22 .nilchk [.t 21],
  o3 23 (.faddr 0) [.t 22],
  o3 24 (.load none) [.t 23],
  o3 25 .mv [.t 1],
  o3 26 .mv [.t 1],
  o3 27 (.subsl 1 false true true) [.t 24, .t 25, .t 26],
  o3 5 .mv [.t 27]]
def F99o23 : List Ao := [
  o3 28 .mv [.t 0],
  o3 29 .mv [.t 0],
  o3 30 .nilchk [.t 29],
  o3 31 (.faddr 0) [.t 30],
  o3 32 (.load none) [.t 31],
  o3 33 .mv [.t 1],
  o3 34 (.subsl 1 true false false) [.t 32, .t 33],
  o3 35 .nilchk [.t 28],
  o3 36 (.faddr 0) [.t 35],
  { dst := none, k := (.store 1), xs := [.t 36, .t 34] }]
def F99o25 : List Ao := [
  o3 37 .mv [.t 5],
  o3 4 .mv [.t 37]]
def F99c26 : Ac := .ret
def F99c24 : Ac := (.seq (.ops F99o25) F99c26)
def F99c22 : Ac := (.seq (.ops F99o23) F99c24)
def F99c20 : Ac := (.seq (.ops F99o21) F99c22)
def F99c10 : Ac := (.seq (.seq (.ops F99o12) F99c13) F99c20)
def F99c2 : Ac := (.seq (.seq (.ops F99o4) F99c5) F99c10)
def F99c0 : Ac := (.seq (.ops F99o1) F99c2)
/-- (*hansom/index.Source).Take -/
def F99 : Fn := { np := 2, pb := [[0]], rs := [.t 4], body := F99c0 }
def F100o1 : List Ao := [
  o3 2 .mv [.c (.d (.int .u8 0))]]
def F100o3 : List Ao := [
  o3 3 .mv [.t 0],
  o3 4 (.toInt .u8) [.t 3],
  o3 2 .mv [.t 4]]
def F100c4 : Ac := .ret
def F100c2 : Ac := (.seq (.ops F100o3) F100c4)
def F100c0 : Ac := (.seq (.ops F100o1) F100c2)
/-- hansom/bits.Low -/
def F100 : Fn := { np := 1, pb := [], rs := [.t 2], body := F100c0 }
def F101o1 : List Ao := [
  o3 2 .mv [.c (.d (.int .u8 0))]]
def F101o3 : List Ao := [
  o3 3 .mv [.t 0],
  o3 4 (.bin .shr) [.t 3, .c (.d (.int .u64 8))],
  o3 5 (.toInt .u8) [.t 4],
  o3 2 .mv [.t 5]]
def F101c4 : Ac := .ret
def F101c2 : Ac := (.seq (.ops F101o3) F101c4)
def F101c0 : Ac := (.seq (.ops F101o1) F101c2)
/-- hansom/bits.High -/
def F101 : Fn := { np := 1, pb := [], rs := [.t 2], body := F101c0 }
def F102o1 : List Ao := [
  o3 4 .mv [.c (.d (.int .u16 0))]]
def F102o3 : List Ao := [
  o3 5 .mv [.t 0],
  o3 6 (.toInt .u16) [.t 5],
  o3 7 .mv [.t 1],
  o3 8 (.toInt .u16) [.t 7],
  o3 9 (.bin .shl) [.t 8, .c (.d (.int .u64 8))],
  o3 10 (.bin .or) [.t 6, .t 9],
  o3 4 .mv [.t 10]]
def F102c4 : Ac := .ret
def F102c2 : Ac := (.seq (.ops F102o3) F102c4)
def F102c0 : Ac := (.seq (.ops F102o1) F102c2)
/-- hansom/bits.Word -/
def F102 : Fn := { np := 2, pb := [], rs := [.t 4], body := F102c0 }
def tab1 : Nat → Option Fn
  | 3 => some F3
  | 12 => some F12
  | 13 => some F13
  | 14 => some F14
  | 15 => some F15
  | 16 => some F16
  | 17 => some F17
  | 48 => some F48
  | 49 => some F49
  | 50 => some F50
  | 51 => some F51
  | 52 => some F52
  | 53 => some F53
  | 54 => some F54
  | 55 => some F55
  | 56 => some F56
  | 57 => some F57
  | 58 => some F58
  | 59 => some F59
  | 60 => some F60
  | 61 => some F61
  | 62 => some F62
  | 64 => some F64
  | 98 => some F98
  | 99 => some F99
  | 100 => some F100
  | 101 => some F101
  | 102 => some F102
  | _ => none
noncomputable def L : Cs := lim tab1 (fun _ _ => none)

theorem no_globals : GOk (fun _ _ => none) (fun _ => none) := fun n a h => by cases h
theorem ok3 : FnOk (fun _ _ => none) Try.prog 3 F3 := compF_spec no_globals Try.func3 (by kernel_rfl)
theorem ok12 : FnOk (fun _ _ => none) Try.prog 12 F12 := compF_spec no_globals Try.func12 (by kernel_rfl)
theorem ok13 : FnOk (fun _ _ => none) Try.prog 13 F13 := compF_spec no_globals Try.func13 (by kernel_rfl)
theorem ok14 : FnOk (fun _ _ => none) Try.prog 14 F14 := compF_spec no_globals Try.func14 (by kernel_rfl)
theorem ok15 : FnOk (fun _ _ => none) Try.prog 15 F15 := compF_spec no_globals Try.func15 (by kernel_rfl)
theorem ok16 : FnOk (fun _ _ => none) Try.prog 16 F16 := compF_spec no_globals Try.func16 (by kernel_rfl)
theorem ok17 : FnOk (fun _ _ => none) Try.prog 17 F17 := compF_spec no_globals Try.func17 (by kernel_rfl)
theorem ok48 : FnOk (fun _ _ => none) Try.prog 48 F48 := compF_spec no_globals Try.func48 (by kernel_rfl)
theorem ok49 : FnOk (fun _ _ => none) Try.prog 49 F49 := compF_spec no_globals Try.func49 (by kernel_rfl)
theorem ok50 : FnOk (fun _ _ => none) Try.prog 50 F50 := compF_spec no_globals Try.func50 (by kernel_rfl)
theorem ok51 : FnOk (fun _ _ => none) Try.prog 51 F51 := compF_spec no_globals Try.func51 (by kernel_rfl)
theorem ok52 : FnOk (fun _ _ => none) Try.prog 52 F52 := compF_spec no_globals Try.func52 (by kernel_rfl)
theorem ok53 : FnOk (fun _ _ => none) Try.prog 53 F53 := compF_spec no_globals Try.func53 (by kernel_rfl)
theorem ok54 : FnOk (fun _ _ => none) Try.prog 54 F54 := compF_spec no_globals Try.func54 (by kernel_rfl)
theorem ok55 : FnOk (fun _ _ => none) Try.prog 55 F55 := compF_spec no_globals Try.func55 (by kernel_rfl)
theorem ok56 : FnOk (fun _ _ => none) Try.prog 56 F56 := compF_spec no_globals Try.func56 (by kernel_rfl)
theorem ok57 : FnOk (fun _ _ => none) Try.prog 57 F57 := compF_spec no_globals Try.func57 (by kernel_rfl)
theorem ok58 : FnOk (fun _ _ => none) Try.prog 58 F58 := compF_spec no_globals Try.func58 (by kernel_rfl)
theorem ok59 : FnOk (fun _ _ => none) Try.prog 59 F59 := compF_spec no_globals Try.func59 (by kernel_rfl)
theorem ok60 : FnOk (fun _ _ => none) Try.prog 60 F60 := compF_spec no_globals Try.func60 (by kernel_rfl)
theorem ok61 : FnOk (fun _ _ => none) Try.prog 61 F61 := compF_spec no_globals Try.func61 (by kernel_rfl)
theorem ok62 : FnOk (fun _ _ => none) Try.prog 62 F62 := compF_spec no_globals Try.func62 (by kernel_rfl)
theorem ok64 : FnOk (fun _ _ => none) Try.prog 64 F64 := compF_spec no_globals Try.func64 (by kernel_rfl)
theorem ok98 : FnOk (fun _ _ => none) Try.prog 98 F98 := compF_spec no_globals Try.func98 (by kernel_rfl)
theorem ok99 : FnOk (fun _ _ => none) Try.prog 99 F99 := compF_spec no_globals Try.func99 (by kernel_rfl)
theorem ok100 : FnOk (fun _ _ => none) Try.prog 100 F100 := compF_spec no_globals Try.func100 (by kernel_rfl)
theorem ok101 : FnOk (fun _ _ => none) Try.prog 101 F101 := compF_spec no_globals Try.func101 (by kernel_rfl)
theorem ok102 : FnOk (fun _ _ => none) Try.prog 102 F102 := compF_spec no_globals Try.func102 (by kernel_rfl)
theorem tab1_ok : ∀ f fn, tab1 f = some fn → FnOk (fun _ _ => none) Try.prog f fn := by
  intro f fn h
  unfold tab1 at h
  split at h <;> cases h
  · exact ok3
  · exact ok12
  · exact ok13
  · exact ok14
  · exact ok15
  · exact ok16
  · exact ok17
  · exact ok48
  · exact ok49
  · exact ok50
  · exact ok51
  · exact ok52
  · exact ok53
  · exact ok54
  · exact ok55
  · exact ok56
  · exact ok57
  · exact ok58
  · exact ok59
  · exact ok60
  · exact ok61
  · exact ok62
  · exact ok64
  · exact ok98
  · exact ok99
  · exact ok100
  · exact ok101
  · exact ok102
theorem meets1 (f : Nat) : Meets (fun _ _ => none) Try.prog f (L f) := lim_meets tab1_ok (fun f _ m w args vs bs _ _ _ _ _ r a h => by cases h) f

end Go.Es.Pmd
