/- The code of the functions that the law SizePlays reaches, as the interpreter reads it. No condition. -/
import Derived.Test.YtbogbgbpahonoaaEsD
import Derived.Test.YtbogbgbpahonoaaChecked
import Derived.KernelRfl
set_option linter.unusedVariables false
set_option linter.unusedSimpArgs false
set_option maxRecDepth 100000
set_option maxHeartbeats 4000000
namespace Go.Es.Spl
open Go.Proofs
def F3o1 : List Ao := [
  { dst := some 4, k := .mv, xs := [.c (.d (.bool false))] }]
def F3o3 : List Ao := [
  { dst := some 19, k := .mv, xs := [.t 0] },
  { dst := some 20, k := (.bin .and), xs := [.t 19, .c (.d (.int .i64 15))] },
  { dst := some 21, k := .mx, xs := [.t 20, .c (.d (.int .i64 0))] },
  { dst := some 22, k := .mn, xs := [.t 21, .c (.d (.int .i64 600))] },
  { dst := some 5, k := .mv, xs := [.t 22] }]
def F3o5 : List Ao := [
  { dst := some 23, k := .mv, xs := [.t 5] },
  { dst := some 24, k := (.callf 15), xs := [.t 23], av := [[26]], al := some [] },
  { dst := some 25, k := .mv, xs := [.t 5] },
  { dst := some 26, k := (.mkslice (.bool false) 1), xs := [.t 25, .t 25], av := [[24]] },
  { dst := some 6, k := .mv, xs := [.t 24] },
  { dst := some 7, k := .mv, xs := [.t 26] },
  { dst := some 8, k := .mv, xs := [.c (.d (.bool false))] },
  { dst := some 9, k := .mv, xs := [.c (.d (.int .i64 0))] }]
def F3o8 : List Ao := [
  { dst := some 10, k := .mv, xs := [.c (.d (.int .i64 0))] }]
def F3o13 : List Ao := [
  { dst := some 27, k := .mv, xs := [.t 10] },
  { dst := some 28, k := .mv, xs := [.t 1] },
  { dst := some 29, k := .lenL, xs := [.t 28] },
  { dst := some 30, k := (.bin .lss), xs := [.t 27, .t 29] },
  { dst := some 31, k := .mv, xs := [.t 30] },
  { dst := some 32, k := .mv, xs := [.t 10], g := some (31, true) },
  { dst := some 33, k := (.bin .lss), xs := [.t 32, .c (.d (.int .i64 80))], g := some (31, true) },
  { dst := some 34, k := .pick, xs := [.t 31, .t 33, .c (.d (.bool false))] }]
def F3c14 : Ac := (.cond (.t 34) .skip (.exit 0))
def F3o21 : List Ao := [
  { dst := some 37, k := .mv, xs := [.t 1] },
  { dst := some 38, k := .mv, xs := [.t 10] },
  { dst := some 39, k := (.iaddrS 1), xs := [.t 37, .t 38] },
  { dst := some 40, k := (.load none), xs := [.t 39] },
  { dst := some 41, k := (.bin .and), xs := [.t 40, .c (.d (.int .i64 3))] },
  { dst := some 42, k := (.bin .eql), xs := [.t 41, .c (.d (.int .i64 3))] }]
def F3o24 : List Ao := [
  { dst := some 44, k := .mv, xs := [.t 6] },
  { dst := some 45, k := (.callf 16), xs := [.t 44] },
  { dst := some 43, k := .mv, xs := [.t 45] },
  { dst := some 46, k := (.extract 0), xs := [.t 43] },
  { dst := some 47, k := (.extract 1), xs := [.t 43] },
  { dst := some 11, k := .mv, xs := [.t 46] },
  { dst := some 12, k := .mv, xs := [.t 47] }]
def F3o27 : List Ao := [
  { dst := some 48, k := .mv, xs := [.t 9] },
  { dst := some 49, k := (.bin .geq), xs := [.t 48, .c (.d (.int .i64 30))] }]
def F3o31 : List Ao := [
  { dst := some 50, k := .mv, xs := [.t 12] },
  { dst := some 51, k := (.bin .neq), xs := [.t 50, .c (.d (.int .i64 360))] },
  { dst := some 52, k := .mv, xs := [.t 51] },
  { dst := some 53, k := .mv, xs := [.t 11], g := some (52, false) },
  { dst := some 54, k := .pick, xs := [.t 52, .c (.d (.bool true)), .t 53] }]
def F3o34 : List Ao := [
  { dst := some 4, k := .mv, xs := [.c (.d (.bool false))] }]
def F3c35 : Ac := .ret
def F3c32 : Ac := (.cond (.t 54) (.seq (.ops F3o34) F3c35) .skip)
def F3c37 : Ac := (.exit 1)
def F3c28 : Ac := (.cond (.t 49) (.seq (.seq (.ops F3o31) F3c32) F3c37) .skip)
def F3o41 : List Ao := [
  { dst := some 55, k := .mv, xs := [.t 12] },
  { dst := some 56, k := (.bin .neq), xs := [.t 55, .c (.d (.int .i64 0))] },
  { dst := some 57, k := .mv, xs := [.t 56] },
  { dst := some 58, k := .mv, xs := [.t 11], g := some (57, false) },
  { dst := some 59, k := .mv, xs := [.t 8], g := some (57, false) },
  { dst := some 60, k := (.eqb true), xs := [.t 58, .t 59], g := some (57, false) },
  { dst := some 61, k := .pick, xs := [.t 57, .c (.d (.bool true)), .t 60] }]
def F3o44 : List Ao := [
  { dst := some 4, k := .mv, xs := [.c (.d (.bool false))] }]
def F3c45 : Ac := .ret
def F3c42 : Ac := (.cond (.t 61) (.seq (.ops F3o44) F3c45) .skip)
def F3o48 : List Ao := [
  { dst := some 8, k := .mv, xs := [.c (.d (.bool false))] }]
def F3o50 : List Ao := [
  { dst := some 62, k := .mv, xs := [.t 9] },
  { dst := some 63, k := (.bin .add), xs := [.t 62, .c (.d (.int .i64 1))] },
  { dst := some 9, k := .mv, xs := [.t 63] }]
def F3c51 : Ac := (.exit 1)
def F3c49 : Ac := (.seq (.ops F3o50) F3c51)
def F3c47 : Ac := (.seq (.ops F3o48) F3c49)
def F3c39 : Ac := (.seq (.seq (.ops F3o41) F3c42) F3c47)
def F3c25 : Ac := (.seq (.seq (.ops F3o27) F3c28) F3c39)
def F3c22 : Ac := (.cond (.t 42) (.seq (.ops F3o24) F3c25) .skip)
def F3o54 : List Ao := [
  { dst := some 64, k := .mv, xs := [.t 1] },
  { dst := some 65, k := .mv, xs := [.t 10] },
  { dst := some 66, k := (.iaddrS 1), xs := [.t 64, .t 65] },
  { dst := some 67, k := (.load none), xs := [.t 66] },
  { dst := some 68, k := (.bin .shr), xs := [.t 67, .c (.d (.int .u64 2))] },
  { dst := some 13, k := .mv, xs := [.t 68] }]
def F3o57 : List Ao := [
  { dst := some 69, k := .mv, xs := [.t 10] },
  { dst := some 70, k := (.bin .and), xs := [.t 69, .c (.d (.int .i64 7))] },
  { dst := some 71, k := (.bin .gtr), xs := [.t 70, .c (.d (.int .i64 0))] }]
def F3o59 : List Ao := [
  { dst := some 72, k := .mv, xs := [.t 1] },
  { dst := some 73, k := .mv, xs := [.t 10] },
  { dst := some 74, k := (.iaddrS 1), xs := [.t 72, .t 73] },
  { dst := some 75, k := (.load none), xs := [.t 74] },
  { dst := some 76, k := (.bin .shr), xs := [.t 75, .c (.d (.int .u64 2))] },
  { dst := some 77, k := (.bin .and), xs := [.t 76, .c (.d (.int .i64 15))] },
  { dst := some 13, k := .mv, xs := [.t 77] }]
def F3c58 : Ac := (.cond (.t 71) (.ops F3o59) .skip)
def F3o62 : List Ao := [
  { dst := some 78, k := .mv, xs := [.t 13] },
  { dst := some 79, k := (.bin .geq), xs := [.t 78, .c (.d (.int .i64 0))] },
  { dst := some 80, k := .mv, xs := [.t 79] },
  { dst := some 81, k := .mv, xs := [.t 13], g := some (80, true) },
  { dst := some 82, k := .mv, xs := [.t 5], g := some (80, true) },
  { dst := some 83, k := (.bin .lss), xs := [.t 81, .t 82], g := some (80, true) },
  { dst := some 84, k := .pick, xs := [.t 80, .t 83, .c (.d (.bool false))] },
  { dst := some 14, k := .mv, xs := [.t 84] }]
def F3o64 : List Ao := [
  { dst := some 15, k := .mv, xs := [.c (.d (.bool false))] }]
def F3o67 : List Ao := [
  { dst := some 16, k := .mv, xs := [.c (.d (.int .i64 0))] }]
def F3o72 : List Ao := [
  { dst := some 85, k := .mv, xs := [.t 16] },
  { dst := some 86, k := .mv, xs := [.t 5] },
  { dst := some 87, k := (.bin .lss), xs := [.t 85, .t 86] }]
def F3c73 : Ac := (.cond (.t 87) .skip (.exit 2))
def F3o78 : List Ao := [
  { dst := some 90, k := .mv, xs := [.t 15] },
  { dst := some 91, k := .mv, xs := [.t 90] },
  { dst := some 92, k := .mv, xs := [.t 16], g := some (91, false) },
  { dst := some 93, k := .mv, xs := [.t 13], g := some (91, false) },
  { dst := some 94, k := (.bin .eql), xs := [.t 92, .t 93], g := some (91, false) },
  { dst := some 95, k := .mv, xs := [.t 94], g := some (91, false) },
  { dst := some 96, k := .mv, xs := [.t 7], g := some (95, true) },
  { dst := some 97, k := .mv, xs := [.t 16], g := some (95, true) },
  { dst := some 98, k := (.iaddrS 1), xs := [.t 96, .t 97], g := some (95, true) },
  { dst := some 99, k := (.load none), xs := [.t 98], g := some (95, true) },
  { dst := some 100, k := (.un .not), xs := [.t 99], g := some (95, true) },
  { dst := some 101, k := .pick, xs := [.t 95, .t 100, .c (.d (.bool false))], g := some (91, false) },
  { dst := some 102, k := .pick, xs := [.t 91, .c (.d (.bool true)), .t 101] },
  { dst := some 15, k := .mv, xs := [.t 102] }]
def F3o79 : List Ao := [
  { dst := some 88, k := .mv, xs := [.t 16] },
  { dst := some 89, k := (.bin .add), xs := [.t 88, .c (.d (.int .i64 1))] },
  { dst := some 16, k := .mv, xs := [.t 89] }]
def F3c79 : Ac := (.ops F3o79)
def F3c76 : Ac := (.seq (.block 3 (.ops F3o78)) F3c79)
def F3l69 : Ac := (.seq (.seq (.ops F3o72) F3c73) F3c76)
def F3b68 : Ac := (.block 2 (.loop (.seq (.gh []) (.seq (.keep [1, 5, 6, 7, 8, 9, 10, 13, 14, 15, 16] [[24], [0, 24], [26]]) F3l69))))
def F3c68 : Ac := (.seq (.gh []) (.seq (.keep [1, 5, 6, 7, 8, 9, 10, 13, 14, 15, 16] [[24], [0, 24], [26]]) F3b68))
def F3o82 : List Ao := [
  { dst := some 103, k := .mv, xs := [.t 6] },
  { dst := some 104, k := .mv, xs := [.t 13] },
  { dst := some 105, k := (.callf 17), xs := [.t 103, .t 104] },
  { dst := some 106, k := .mv, xs := [.t 15] },
  { dst := some 107, k := (.eqb true), xs := [.t 105, .t 106] }]
def F3o85 : List Ao := [
  { dst := some 4, k := .mv, xs := [.c (.d (.bool false))] }]
def F3c86 : Ac := .ret
def F3c83 : Ac := (.cond (.t 107) (.seq (.ops F3o85) F3c86) .skip)
def F3o90 : List Ao := [
  { dst := some 108, k := .mv, xs := [.t 15] }]
def F3o92 : List Ao := [
  { dst := some 109, k := .mv, xs := [.t 7] },
  { dst := some 110, k := .mv, xs := [.t 13] },
  { dst := some 111, k := (.iaddrS 1), xs := [.t 109, .t 110] },
  { dst := none, k := (.store 1), xs := [.t 111, .c (.d (.bool true))] },
  { dst := some 8, k := .mv, xs := [.c (.d (.bool true))] }]
def F3c91 : Ac := (.cond (.t 108) (.ops F3o92) .skip)
def F3o95 : List Ao := [
  { dst := some 17, k := .mv, xs := [.c (.d (.int .i64 0))] }]
def F3o98 : List Ao := [
  { dst := some 18, k := .mv, xs := [.c (.d (.int .i64 0))] }]
def F3o103 : List Ao := [
  { dst := some 112, k := .mv, xs := [.t 18] },
  { dst := some 113, k := .mv, xs := [.t 5] },
  { dst := some 114, k := (.bin .lss), xs := [.t 112, .t 113] }]
def F3c104 : Ac := (.cond (.t 114) .skip (.exit 4))
def F3o111 : List Ao := [
  { dst := some 117, k := .mv, xs := [.t 6] },
  { dst := some 118, k := .mv, xs := [.t 18] },
  { dst := some 119, k := (.callf 18), xs := [.t 117, .t 118], al := some [[0, 24], [24]] },
  { dst := some 120, k := .mv, xs := [.t 7] },
  { dst := some 121, k := .mv, xs := [.t 18] },
  { dst := some 122, k := (.iaddrS 1), xs := [.t 120, .t 121] },
  { dst := some 123, k := (.load none), xs := [.t 122], av := [[119], [0, 24], [24]] },
  { dst := some 124, k := (.eqb true), xs := [.t 119, .t 123] }]
def F3o114 : List Ao := [
  { dst := some 4, k := .mv, xs := [.c (.d (.bool false))] }]
def F3c115 : Ac := .ret
def F3c112 : Ac := (.cond (.t 124) (.seq (.ops F3o114) F3c115) .skip)
def F3o118 : List Ao := [
  { dst := some 125, k := .mv, xs := [.t 7] },
  { dst := some 126, k := .mv, xs := [.t 18] },
  { dst := some 127, k := (.iaddrS 1), xs := [.t 125, .t 126] },
  { dst := some 128, k := (.load none), xs := [.t 127] }]
def F3o120 : List Ao := [
  { dst := some 129, k := .mv, xs := [.t 17] },
  { dst := some 130, k := (.bin .add), xs := [.t 129, .c (.d (.int .i64 1))] },
  { dst := some 17, k := .mv, xs := [.t 130] }]
def F3c119 : Ac := (.cond (.t 128) (.ops F3o120) .skip)
def F3c117 : Ac := (.seq (.ops F3o118) F3c119)
def F3o122 : List Ao := [
  { dst := some 115, k := .mv, xs := [.t 18] },
  { dst := some 116, k := (.bin .add), xs := [.t 115, .c (.d (.int .i64 1))] },
  { dst := some 18, k := .mv, xs := [.t 116] }]
def F3c122 : Ac := (.ops F3o122)
def F3c107 : Ac := (.seq (.block 5 (.seq (.seq (.ops F3o111) F3c112) F3c117)) F3c122)
def F3l100 : Ac := (.seq (.seq (.ops F3o103) F3c104) F3c107)
def F3b99 : Ac := (.block 4 (.loop (.seq (.gh []) (.seq (.keep [1, 5, 6, 7, 8, 9, 10, 13, 14, 17, 18] [[24], [0, 24], [26]]) F3l100))))
def F3c99 : Ac := (.seq (.gh []) (.seq (.keep [1, 5, 6, 7, 8, 9, 10, 13, 14, 17, 18] [[24], [0, 24], [26]]) F3b99))
def F3o124 : List Ao := [
  { dst := some 131, k := .mv, xs := [.t 6] },
  { dst := some 132, k := (.callf 19), xs := [.t 131] },
  { dst := some 133, k := .mv, xs := [.t 17] },
  { dst := some 134, k := (.bin .neq), xs := [.t 132, .t 133] },
  { dst := some 135, k := .mv, xs := [.t 134] },
  { dst := some 136, k := .mv, xs := [.t 6], g := some (135, false) },
  { dst := some 137, k := (.callf 20), xs := [.t 136], g := some (135, false) },
  { dst := some 138, k := .mv, xs := [.t 9], g := some (135, false) },
  { dst := some 139, k := (.bin .neq), xs := [.t 137, .t 138], g := some (135, false) },
  { dst := some 140, k := .pick, xs := [.t 135, .c (.d (.bool true)), .t 139] },
  { dst := some 141, k := .mv, xs := [.t 140] },
  { dst := some 142, k := .mv, xs := [.t 6], g := some (141, false) },
  { dst := some 143, k := .mv, xs := [.t 13], g := some (141, false) },
  { dst := some 144, k := (.callf 18), xs := [.t 142, .t 143], g := some (141, false) },
  { dst := some 145, k := .mv, xs := [.t 14], g := some (141, false) },
  { dst := some 146, k := (.eqb true), xs := [.t 144, .t 145], g := some (141, false) },
  { dst := some 147, k := .mv, xs := [.t 146], g := some (141, false) },
  { dst := some 148, k := .mv, xs := [.t 14], g := some (147, true) },
  { dst := some 149, k := (.un .not), xs := [.t 148], g := some (147, true) },
  { dst := some 150, k := .pick, xs := [.t 147, .t 149, .c (.d (.bool false))], g := some (141, false) },
  { dst := some 151, k := .pick, xs := [.t 141, .c (.d (.bool true)), .t 150] }]
def F3o127 : List Ao := [
  { dst := some 4, k := .mv, xs := [.c (.d (.bool false))] }]
def F3c128 : Ac := .ret
def F3c125 : Ac := (.cond (.t 151) (.seq (.ops F3o127) F3c128) .skip)
def F3b123 : Ac := (.seq (.ops F3o124) F3c125)
def F3c123 : Ac := (.seq (.gh []) (.seq (.keep [1, 5, 6, 7, 8, 9, 10, 13, 14, 17] [[24], [0, 24], [26]]) F3b123))
def F3b96 : Ac := (.seq (.seq (.ops F3o98) F3c99) F3c123)
def F3c96 : Ac := (.seq (.gh []) (.seq (.keep [1, 5, 6, 7, 8, 9, 10, 13, 14, 17] [[24], [0, 24], [26]]) F3b96))
def F3b94 : Ac := (.seq (.ops F3o95) F3c96)
def F3c94 : Ac := (.seq (.gh []) (.seq (.keep [1, 5, 6, 7, 8, 9, 10, 13, 14] [[24], [0, 24], [26]]) F3b94))
def F3b88 : Ac := (.seq (.seq (.ops F3o90) F3c91) F3c94)
def F3c88 : Ac := (.seq (.gh []) (.seq (.keep [1, 5, 6, 7, 8, 9, 10, 13, 14, 15] [[24], [0, 24], [26]]) F3b88))
def F3b80 : Ac := (.seq (.seq (.ops F3o82) F3c83) F3c88)
def F3c80 : Ac := (.seq (.gh []) (.seq (.keep [1, 5, 6, 7, 8, 9, 10, 13, 14, 15] [[24], [0, 24], [26]]) F3b80))
def F3b65 : Ac := (.seq (.seq (.ops F3o67) F3c68) F3c80)
def F3c65 : Ac := (.seq (.gh []) (.seq (.keep [1, 5, 6, 7, 8, 9, 10, 13, 14, 15] [[24], [0, 24], [26]]) F3b65))
def F3b63 : Ac := (.seq (.ops F3o64) F3c65)
def F3c63 : Ac := (.seq (.gh []) (.seq (.keep [1, 5, 6, 7, 8, 9, 10, 13, 14] [[24], [0, 24], [26]]) F3b63))
def F3b61 : Ac := (.seq (.ops F3o62) F3c63)
def F3c61 : Ac := (.seq (.gh []) (.seq (.keep [1, 5, 6, 7, 8, 9, 10, 13] [[24], [0, 24], [26]]) F3b61))
def F3c55 : Ac := (.seq (.seq (.ops F3o57) F3c58) F3c61)
def F3c53 : Ac := (.seq (.ops F3o54) F3c55)
def F3o130 : List Ao := [
  { dst := some 35, k := .mv, xs := [.t 10] },
  { dst := some 36, k := (.bin .add), xs := [.t 35, .c (.d (.int .i64 1))] },
  { dst := some 10, k := .mv, xs := [.t 36] }]
def F3c130 : Ac := (.ops F3o130)
def F3c17 : Ac := (.seq (.block 1 (.seq (.seq (.ops F3o21) F3c22) F3c53)) F3c130)
def F3l10 : Ac := (.seq (.seq (.ops F3o13) F3c14) F3c17)
def F3c9 : Ac := (.block 0 (.loop (.seq (.gh []) (.seq (.keep [1, 5, 6, 7, 8, 9, 10] [[24], [0, 24], [26]]) F3l10))))
def F3o132 : List Ao := [
  { dst := some 152, k := (.callf 21), xs := [] },
  { dst := some 4, k := .mv, xs := [.t 152] }]
def F3c133 : Ac := .ret
def F3b131 : Ac := (.seq (.ops F3o132) F3c133)
def F3c131 : Ac := (.seq (.gh []) (.seq (.keep [] []) F3b131))
def F3c6 : Ac := (.seq (.seq (.ops F3o8) F3c9) F3c131)
def F3c4 : Ac := (.seq (.ops F3o5) F3c6)
def F3c2 : Ac := (.seq (.ops F3o3) F3c4)
def F3c0 : Ac := (.seq (.ops F3o1) F3c2)
/-- hansom/hansomlaw36.SizePlays -/
def F3 : Fn := { np := 2, pb := [], rs := [.t 4], body := F3c0 }
def F15o1 : List Ao := [
  { dst := some 2, k := .mv, xs := [.c (.nilp)] }]
def F15o3 : List Ao := [
  { dst := some 3, k := .mv, xs := [.t 0] },
  { dst := some 4, k := .mx, xs := [.t 3, .c (.d (.int .i64 0))] },
  { dst := some 5, k := .mn, xs := [.t 4, .c (.d (.int .i64 600))] },
  { dst := some 6, k := (.mkslice (.bool false) 1), xs := [.t 5, .t 5] },
  { dst := some 7, k := (.build [.nils, .d (.bool false), .d (.int .i64 0)] [(0, 1)]), xs := [.t 6] },
  { dst := some 8, k := (.box 3), xs := [.t 7] },
  { dst := some 2, k := .mv, xs := [.t 8] }]
def F15c4 : Ac := .ret
def F15c2 : Ac := (.seq (.ops F15o3) F15c4)
def F15c0 : Ac := (.seq (.ops F15o1) F15c2)
/-- hansom/size.New -/
def F15 : Fn := { np := 1, pb := [], rs := [.t 2], body := F15c0 }
def F16o1 : List Ao := [
  { dst := some 2, k := .mv, xs := [.c (.d (.bool false))] },
  { dst := some 3, k := .mv, xs := [.c (.d (.int .i64 0))] }]
def F16o4 : List Ao := [
  { dst := some 5, k := .mv, xs := [.t 0] },
  { dst := some 6, k := (.eqp false), xs := [.t 5, .c (.nilp)] },
  { dst := some 7, k := .mv, xs := [.t 6] },
  { dst := some 8, k := .mv, xs := [.t 0], g := some (7, false) },
  { dst := some 9, k := .nilchk, xs := [.t 8], g := some (7, false) },
  { dst := some 10, k := (.faddr 2), xs := [.t 9], g := some (7, false) },
  { dst := some 11, k := (.load none), xs := [.t 10], g := some (7, false) },
  { dst := some 12, k := (.bin .geq), xs := [.t 11, .c (.d (.int .i64 30))], g := some (7, false) },
  { dst := some 13, k := .pick, xs := [.t 7, .c (.d (.bool true)), .t 12] }]
def F16o7 : List Ao := [
  { dst := some 2, k := .mv, xs := [.c (.d (.bool false))] },
  { dst := some 3, k := .mv, xs := [.c (.d (.int .i64 360))] }]
def F16c8 : Ac := .ret
def F16c5 : Ac := (.cond (.t 13) (.seq (.ops F16o7) F16c8) .skip)
def F16o11 : List Ao := [
  { dst := some 14, k := .mv, xs := [.t 0] },
  { dst := some 15, k := .nilchk, xs := [.t 14] },
  { dst := some 16, k := (.faddr 1), xs := [.t 15] },
  { dst := some 17, k := (.load none), xs := [.t 16] },
  { dst := some 4, k := .mv, xs := [.t 17] }]
def F16o13 : List Ao := [
  { dst := some 18, k := .mv, xs := [.t 0] },
  { dst := some 19, k := .nilchk, xs := [.t 18] },
  { dst := some 20, k := (.faddr 1), xs := [.t 19] },
  { dst := none, k := (.store 1), xs := [.t 20, .c (.d (.bool false))] }]
def F16o15 : List Ao := [
  { dst := some 21, k := .mv, xs := [.t 0] },
  { dst := some 22, k := .nilchk, xs := [.t 21] },
  { dst := some 23, k := (.faddr 2), xs := [.t 22] },
  { dst := some 24, k := (.load none), xs := [.t 23] },
  { dst := some 25, k := (.bin .add), xs := [.t 24, .c (.d (.int .i64 1))] },
  { dst := some 26, k := .nilchk, xs := [.t 21] },
  { dst := some 27, k := (.faddr 2), xs := [.t 26] },
  { dst := none, k := (.store 1), xs := [.t 27, .t 25] }]
def F16o17 : List Ao := [
  { dst := some 28, k := .mv, xs := [.t 4] },
  { dst := some 2, k := .mv, xs := [.t 28] },
  { dst := some 3, k := .mv, xs := [.c (.d (.int .i64 0))] }]
def F16c18 : Ac := .ret
def F16c16 : Ac := (.seq (.ops F16o17) F16c18)
def F16c14 : Ac := (.seq (.ops F16o15) F16c16)
def F16c12 : Ac := (.seq (.ops F16o13) F16c14)
def F16c10 : Ac := (.seq (.ops F16o11) F16c12)
def F16c2 : Ac := (.seq (.seq (.ops F16o4) F16c5) F16c10)
def F16c0 : Ac := (.seq (.ops F16o1) F16c2)
/-- (*hansom/size.Sizes).Next -/
def F16 : Fn := { np := 1, pb := [[0]], rs := [.t 2, .t 3], body := F16c0 }
def F17o1 : List Ao := [
  { dst := some 4, k := .mv, xs := [.c (.d (.bool false))] }]
def F17o4 : List Ao := [
  { dst := some 5, k := .mv, xs := [.t 0] },
  { dst := some 6, k := (.eqp false), xs := [.t 5, .c (.nilp)] },
  { dst := some 7, k := .mv, xs := [.t 6] },
  { dst := some 8, k := .mv, xs := [.t 1], g := some (7, false) },
  { dst := some 9, k := (.bin .lss), xs := [.t 8, .c (.d (.int .i64 0))], g := some (7, false) },
  { dst := some 10, k := .pick, xs := [.t 7, .c (.d (.bool true)), .t 9] },
  { dst := some 11, k := .mv, xs := [.t 10] },
  { dst := some 12, k := .mv, xs := [.t 1], g := some (11, false) },
  { dst := some 13, k := .mv, xs := [.t 0], g := some (11, false) },
  { dst := some 14, k := .nilchk, xs := [.t 13], g := some (11, false) },
  { dst := some 15, k := (.faddr 0), xs := [.t 14], g := some (11, false) },
  { dst := some 16, k := (.load none), xs := [.t 15], g := some (11, false) },
  { dst := some 17, k := .lenL, xs := [.t 16], g := some (11, false) },
  { dst := some 18, k := (.bin .geq), xs := [.t 12, .t 17], g := some (11, false) },
  { dst := some 19, k := .pick, xs := [.t 11, .c (.d (.bool true)), .t 18] },
  { dst := some 20, k := .mv, xs := [.t 19] },
  { dst := some 21, k := .mv, xs := [.t 0], g := some (20, false) },
  { dst := some 22, k := .nilchk, xs := [.t 21], g := some (20, false) },
  { dst := some 23, k := (.faddr 0), xs := [.t 22], g := some (20, false) },
  { dst := some 24, k := (.load none), xs := [.t 23], g := some (20, false) },
  { dst := some 25, k := .mv, xs := [.t 1], g := some (20, false) },
  { dst := some 26, k := (.iaddrS 1), xs := [.t 24, .t 25], g := some (20, false) },
  { dst := some 27, k := (.load none), xs := [.t 26], g := some (20, false) },
  { dst := some 28, k := .pick, xs := [.t 20, .c (.d (.bool true)), .t 27] }]
def F17o7 : List Ao := [
  { dst := some 4, k := .mv, xs := [.c (.d (.bool false))] }]
def F17c8 : Ac := .ret
def F17c5 : Ac := (.cond (.t 28) (.seq (.ops F17o7) F17c8) .skip)
def F17o11 : List Ao := [
  { dst := some 29, k := .mv, xs := [.t 0] },
  { dst := some 30, k := .nilchk, xs := [.t 29] },
  { dst := some 31, k := (.faddr 0), xs := [.t 30] },
  { dst := some 32, k := (.load none), xs := [.t 31] },
  { dst := some 33, k := .mv, xs := [.t 1] },
  { dst := some 34, k := .mv, xs := [.t 0] },
  { dst := some 35, k := (.iaddrS 1), xs := [.t 32, .t 33] },
  { dst := none, k := (.store 1), xs := [.t 35, .c (.d (.bool true))] },
  { dst := some 36, k := .nilchk, xs := [.t 34] },
  { dst := some 37, k := (.faddr 1), xs := [.t 36] },
  { dst := none, k := (.store 1), xs := [.t 37, .c (.d (.bool true))] }]
def F17o13 : List Ao := [
  { dst := some 4, k := .mv, xs := [.c (.d (.bool true))] }]
def F17c14 : Ac := .ret
def F17c12 : Ac := (.seq (.ops F17o13) F17c14)
def F17c10 : Ac := (.seq (.ops F17o11) F17c12)
def F17c2 : Ac := (.seq (.seq (.ops F17o4) F17c5) F17c10)
def F17c0 : Ac := (.seq (.ops F17o1) F17c2)
/-- (*hansom/size.Sizes).Grow -/
def F17 : Fn := { np := 2, pb := [[0]], rs := [.t 4], body := F17c0 }
def F18o1 : List Ao := [
  { dst := some 4, k := .mv, xs := [.c (.d (.bool false))] }]
def F18o3 : List Ao := [
  { dst := some 5, k := .mv, xs := [.t 0] },
  { dst := some 6, k := (.eqp true), xs := [.t 5, .c (.nilp)] },
  { dst := some 7, k := .mv, xs := [.t 6] },
  { dst := some 8, k := .mv, xs := [.t 1], g := some (7, true) },
  { dst := some 9, k := (.bin .geq), xs := [.t 8, .c (.d (.int .i64 0))], g := some (7, true) },
  { dst := some 10, k := .pick, xs := [.t 7, .t 9, .c (.d (.bool false))] },
  { dst := some 11, k := .mv, xs := [.t 10] },
  { dst := some 12, k := .mv, xs := [.t 1], g := some (11, true) },
  { dst := some 13, k := .mv, xs := [.t 0], g := some (11, true) },
  { dst := some 14, k := .nilchk, xs := [.t 13], g := some (11, true) },
  { dst := some 15, k := (.faddr 0), xs := [.t 14], g := some (11, true) },
  { dst := some 16, k := (.load none), xs := [.t 15], g := some (11, true) },
  { dst := some 17, k := .lenL, xs := [.t 16], g := some (11, true) },
  { dst := some 18, k := (.bin .lss), xs := [.t 12, .t 17], g := some (11, true) },
  { dst := some 19, k := .pick, xs := [.t 11, .t 18, .c (.d (.bool false))] },
  { dst := some 20, k := .mv, xs := [.t 19] },
  { dst := some 21, k := .mv, xs := [.t 0], g := some (20, true) },
  { dst := some 22, k := .nilchk, xs := [.t 21], g := some (20, true) },
  { dst := some 23, k := (.faddr 0), xs := [.t 22], g := some (20, true) },
  { dst := some 24, k := (.load none), xs := [.t 23], g := some (20, true) },
  { dst := some 25, k := .mv, xs := [.t 1], g := some (20, true) },
  { dst := some 26, k := (.iaddrS 1), xs := [.t 24, .t 25], g := some (20, true) },
  { dst := some 27, k := (.load none), xs := [.t 26], g := some (20, true) },
  { dst := some 28, k := .pick, xs := [.t 20, .t 27, .c (.d (.bool false))] },
  { dst := some 4, k := .mv, xs := [.t 28] }]
def F18c4 : Ac := .ret
def F18c2 : Ac := (.seq (.ops F18o3) F18c4)
def F18c0 : Ac := (.seq (.ops F18o1) F18c2)
/-- (*hansom/size.Sizes).Long -/
def F18 : Fn := { np := 2, pb := [[0]], rs := [.t 4], body := F18c0 }
def F19o1 : List Ao := [
  { dst := some 2, k := .mv, xs := [.c (.d (.int .i64 0))] }]
def F19o3 : List Ao := [
  { dst := some 3, k := .mv, xs := [.c (.d (.int .i64 0))] }]
def F19o6 : List Ao := [
  { dst := some 4, k := .mv, xs := [.c (.d (.int .i64 0))] }]
def F19o11 : List Ao := [
  { dst := some 5, k := .mv, xs := [.t 0] },
  { dst := some 6, k := (.eqp true), xs := [.t 5, .c (.nilp)] },
  { dst := some 7, k := .mv, xs := [.t 6] },
  { dst := some 8, k := .mv, xs := [.t 4], g := some (7, true) },
  { dst := some 9, k := .mv, xs := [.t 0], g := some (7, true) },
  { dst := some 10, k := .nilchk, xs := [.t 9], g := some (7, true) },
  { dst := some 11, k := (.faddr 0), xs := [.t 10], g := some (7, true) },
  { dst := some 12, k := (.load none), xs := [.t 11], g := some (7, true) },
  { dst := some 13, k := .lenL, xs := [.t 12], g := some (7, true) },
  { dst := some 14, k := (.bin .lss), xs := [.t 8, .t 13], g := some (7, true) },
  { dst := some 15, k := .pick, xs := [.t 7, .t 14, .c (.d (.bool false))] }]
def F19c12 : Ac := (.cond (.t 15) .skip (.exit 0))
def F19o18 : List Ao := [
  { dst := some 18, k := .mv, xs := [.t 0] },
  { dst := some 19, k := .nilchk, xs := [.t 18] },
  { dst := some 20, k := (.faddr 0), xs := [.t 19] },
  { dst := some 21, k := (.load none), xs := [.t 20] },
  { dst := some 22, k := .mv, xs := [.t 4] },
  { dst := some 23, k := (.iaddrS 1), xs := [.t 21, .t 22] },
  { dst := some 24, k := (.load none), xs := [.t 23] }]
def F19o20 : List Ao := [
  { dst := some 25, k := .mv, xs := [.t 3] },
  { dst := some 26, k := (.bin .add), xs := [.t 25, .c (.d (.int .i64 1))] },
  { dst := some 3, k := .mv, xs := [.t 26] }]
def F19c19 : Ac := (.cond (.t 24) (.ops F19o20) .skip)
def F19o22 : List Ao := [
  { dst := some 16, k := .mv, xs := [.t 4] },
  { dst := some 17, k := (.bin .add), xs := [.t 16, .c (.d (.int .i64 1))] },
  { dst := some 4, k := .mv, xs := [.t 17] }]
def F19c22 : Ac := (.ops F19o22)
def F19c15 : Ac := (.seq (.block 1 (.seq (.ops F19o18) F19c19)) F19c22)
def F19l8 : Ac := (.seq (.seq (.ops F19o11) F19c12) F19c15)
def F19c7 : Ac := (.block 0 (.loop (.seq (.gh []) (.seq (.keep [0, 3, 4] [[0], [0, 0]]) F19l8))))
def F19o24 : List Ao := [
  { dst := some 27, k := .mv, xs := [.t 3] },
  { dst := some 2, k := .mv, xs := [.t 27] }]
def F19c25 : Ac := .ret
def F19b23 : Ac := (.seq (.ops F19o24) F19c25)
def F19c23 : Ac := (.seq (.gh []) (.seq (.keep [3] [[0], [0, 0]]) F19b23))
def F19c4 : Ac := (.seq (.seq (.ops F19o6) F19c7) F19c23)
def F19c2 : Ac := (.seq (.ops F19o3) F19c4)
def F19c0 : Ac := (.seq (.ops F19o1) F19c2)
/-- (*hansom/size.Sizes).Count -/
def F19 : Fn := { np := 1, pb := [[0]], rs := [.t 2], body := F19c0 }
def F20o1 : List Ao := [
  { dst := some 2, k := .mv, xs := [.c (.d (.int .i64 0))] }]
def F20o4 : List Ao := [
  { dst := some 3, k := .mv, xs := [.t 0] },
  { dst := some 4, k := (.eqp false), xs := [.t 3, .c (.nilp)] }]
def F20o7 : List Ao := [
  { dst := some 2, k := .mv, xs := [.c (.d (.int .i64 0))] }]
def F20c8 : Ac := .ret
def F20c5 : Ac := (.cond (.t 4) (.seq (.ops F20o7) F20c8) .skip)
def F20o11 : List Ao := [
  { dst := some 5, k := .mv, xs := [.t 0] },
  { dst := some 6, k := .nilchk, xs := [.t 5] },
  { dst := some 7, k := (.faddr 2), xs := [.t 6] },
  { dst := some 8, k := (.load none), xs := [.t 7] },
  { dst := some 2, k := .mv, xs := [.t 8] }]
def F20c12 : Ac := .ret
def F20c10 : Ac := (.seq (.ops F20o11) F20c12)
def F20c2 : Ac := (.seq (.seq (.ops F20o4) F20c5) F20c10)
def F20c0 : Ac := (.seq (.ops F20o1) F20c2)
/-- (*hansom/size.Sizes).Pass -/
def F20 : Fn := { np := 1, pb := [[0]], rs := [.t 2], body := F20c0 }
def F21o1 : List Ao := [
  { dst := some 0, k := .mv, xs := [.c (.d (.bool false))] }]
def F21o3 : List Ao := [
  { dst := some 4, k := (.callf 15), xs := [.c (.d (.int .i64 2))] },
  { dst := some 1, k := .mv, xs := [.t 4] }]
def F21o5 : List Ao := [
  { dst := some 6, k := .mv, xs := [.t 1] },
  { dst := some 7, k := (.callf 16), xs := [.t 6] },
  { dst := some 5, k := .mv, xs := [.t 7] },
  { dst := some 8, k := (.extract 0), xs := [.t 5] },
  { dst := some 9, k := (.extract 1), xs := [.t 5] },
  { dst := some 2, k := .mv, xs := [.t 8] },
  { dst := some 3, k := .mv, xs := [.t 9] }]
def F21o7 : List Ao := [
  { dst := some 10, k := .mv, xs := [.t 1] },
  { dst := some 11, k := (.callf 17), xs := [.t 10, .c (.d (.int .i64 1))] },
  { dst := some 12, k := .mv, xs := [.t 11] },
  { dst := some 13, k := .mv, xs := [.t 1], g := some (12, true) },
  { dst := some 14, k := (.callf 17), xs := [.t 13, .c (.d (.int .i64 1))], g := some (12, true) },
  { dst := some 15, k := (.un .not), xs := [.t 14], g := some (12, true) },
  { dst := some 16, k := .pick, xs := [.t 12, .t 15, .c (.d (.bool false))] },
  { dst := some 17, k := .mv, xs := [.t 16] },
  { dst := some 18, k := .mv, xs := [.t 1], g := some (17, true) },
  { dst := some 19, k := (.callf 18), xs := [.t 18, .c (.d (.int .i64 1))], g := some (17, true) },
  { dst := some 20, k := .pick, xs := [.t 17, .t 19, .c (.d (.bool false))] },
  { dst := some 21, k := .mv, xs := [.t 20] },
  { dst := some 22, k := .mv, xs := [.t 1], g := some (21, true) },
  { dst := some 23, k := (.callf 18), xs := [.t 22, .c (.d (.int .i64 0))], g := some (21, true) },
  { dst := some 24, k := (.un .not), xs := [.t 23], g := some (21, true) },
  { dst := some 25, k := .pick, xs := [.t 21, .t 24, .c (.d (.bool false))] },
  { dst := some 26, k := .mv, xs := [.t 25] },
  { dst := some 27, k := .mv, xs := [.t 1], g := some (26, true) },
  { dst := some 28, k := (.callf 19), xs := [.t 27], g := some (26, true) },
  { dst := some 29, k := (.bin .eql), xs := [.t 28, .c (.d (.int .i64 1))], g := some (26, true) },
  { dst := some 30, k := .pick, xs := [.t 26, .t 29, .c (.d (.bool false))] },
  { dst := some 31, k := .mv, xs := [.t 30] },
  { dst := some 32, k := .mv, xs := [.t 2], g := some (31, true) },
  { dst := some 33, k := (.un .not), xs := [.t 32], g := some (31, true) },
  { dst := some 34, k := .pick, xs := [.t 31, .t 33, .c (.d (.bool false))] },
  { dst := some 35, k := .mv, xs := [.t 34] },
  { dst := some 36, k := .mv, xs := [.t 3], g := some (35, true) },
  { dst := some 37, k := (.bin .eql), xs := [.t 36, .c (.d (.int .i64 0))], g := some (35, true) },
  { dst := some 38, k := .pick, xs := [.t 35, .t 37, .c (.d (.bool false))] },
  { dst := some 39, k := .mv, xs := [.t 38] },
  { dst := some 40, k := .mv, xs := [.t 1], g := some (39, true) },
  { dst := some 41, k := (.callf 20), xs := [.t 40], g := some (39, true) },
  { dst := some 42, k := (.bin .eql), xs := [.t 41, .c (.d (.int .i64 1))], g := some (39, true) },
  { dst := some 43, k := .pick, xs := [.t 39, .t 42, .c (.d (.bool false))] },
  { dst := some 0, k := .mv, xs := [.t 43] }]
def F21c8 : Ac := .ret
def F21c6 : Ac := (.seq (.ops F21o7) F21c8)
def F21c4 : Ac := (.seq (.ops F21o5) F21c6)
def F21c2 : Ac := (.seq (.ops F21o3) F21c4)
def F21c0 : Ac := (.seq (.ops F21o1) F21c2)
/-- hansom/hansomlaw36.awake -/
def F21 : Fn := { np := 0, pb := [], rs := [.t 0], body := F21c0 }
def tab1 : Nat → Option Fn
  | 3 => some F3
  | 15 => some F15
  | 16 => some F16
  | 17 => some F17
  | 18 => some F18
  | 19 => some F19
  | 20 => some F20
  | 21 => some F21
  | _ => none
noncomputable def L : Cs := lim tab1 (fun _ _ => none)

theorem no_globals : GOk (fun _ _ => none) (fun _ => none) := fun n a h => by cases h
theorem ok3 : FnOk (fun _ _ => none) Try.prog 3 F3 := compF_spec no_globals Try.func3 (by kernel_rfl)
theorem ok15 : FnOk (fun _ _ => none) Try.prog 15 F15 := compF_spec no_globals Try.func15 (by kernel_rfl)
theorem ok16 : FnOk (fun _ _ => none) Try.prog 16 F16 := compF_spec no_globals Try.func16 (by kernel_rfl)
theorem ok17 : FnOk (fun _ _ => none) Try.prog 17 F17 := compF_spec no_globals Try.func17 (by kernel_rfl)
theorem ok18 : FnOk (fun _ _ => none) Try.prog 18 F18 := compF_spec no_globals Try.func18 (by kernel_rfl)
theorem ok19 : FnOk (fun _ _ => none) Try.prog 19 F19 := compF_spec no_globals Try.func19 (by kernel_rfl)
theorem ok20 : FnOk (fun _ _ => none) Try.prog 20 F20 := compF_spec no_globals Try.func20 (by kernel_rfl)
theorem ok21 : FnOk (fun _ _ => none) Try.prog 21 F21 := compF_spec no_globals Try.func21 (by kernel_rfl)
theorem tab1_ok : ∀ f fn, tab1 f = some fn → FnOk (fun _ _ => none) Try.prog f fn := by
  intro f fn h
  unfold tab1 at h
  split at h <;> cases h
  · exact ok3
  · exact ok15
  · exact ok16
  · exact ok17
  · exact ok18
  · exact ok19
  · exact ok20
  · exact ok21
theorem meets1 (f : Nat) : Meets (fun _ _ => none) Try.prog f (L f) := lim_meets tab1_ok (fun f _ m w args vs bs _ _ _ _ _ r a h => by cases h) f

end Go.Es.Spl
