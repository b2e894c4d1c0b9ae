/- The code of the functions that the statement LayPlaces, LayMost reaches, as the interpreter reads it. No condition. -/
import Derived.Test.YtbogbgbpahonoaaEsD
import Derived.Test.YtbogbgbpahonoaaChecked
import Derived.KernelRfl
set_option linter.unusedVariables false
set_option linter.unusedSimpArgs false
set_option maxRecDepth 100000
set_option maxHeartbeats 4000000
namespace Go.Es.Lay
open Go.Proofs
def F10o1 : List Ao := [
  { dst := some 2, k := .mv, xs := [.c (.d (.bool false))] }]
def F10o3 : List Ao := [
  { dst := some 17, k := .mv, xs := [.t 0] },
  { dst := some 18, k := (.callf 40), xs := [.t 17] },
  { dst := some 3, k := .mv, xs := [.t 18] }]
def F10o5 : List Ao := [
  { dst := some 19, k := .mv, xs := [.t 3] },
  { dst := some 20, k := (.callf 41), xs := [.t 19] },
  { dst := some 4, k := .mv, xs := [.t 20] }]
def F10o7 : List Ao := [
  { dst := some 22, k := .mv, xs := [.t 3] },
  { dst := some 23, k := (.callf 42), xs := [.t 22] },
  { dst := some 21, k := .mv, xs := [.t 23] },
  { dst := some 24, k := (.extract 0), xs := [.t 21] },
  { dst := some 25, k := (.extract 1), xs := [.t 21] },
  { dst := some 5, k := (.alloc [.nils, .nils, .nils, .d (.int .i64 0)]), xs := [] },
  { dst := none, k := (.store 4), xs := [.t 5, .t 24] },
  { dst := some 6, k := .mv, xs := [.t 25] }]
def F10o10 : List Ao := [
  { dst := some 26, k := .mv, xs := [.t 4] },
  { dst := some 27, k := .lenL, xs := [.t 26] },
  { dst := some 28, k := .mv, xs := [.t 3] },
  { dst := some 29, k := .lenL, xs := [.t 28] },
  { dst := some 30, k := (.bin .neq), xs := [.t 27, .t 29] },
  { dst := some 31, k := .mv, xs := [.t 30] },
  { dst := some 32, k := .mv, xs := [.t 6], g := some (31, false) },
  { dst := some 33, k := (.bin .neq), xs := [.t 32, .c (.d (.int .i64 0))], g := some (31, false) },
  { dst := some 34, k := .pick, xs := [.t 31, .c (.d (.bool true)), .t 33] },
  { dst := some 35, k := .mv, xs := [.t 34] },
  { dst := some 36, k := (.faddr 0), xs := [.t 5], g := some (35, false) },
  { dst := some 37, k := (.load none), xs := [.t 36], g := some (35, false) },
  { dst := some 38, k := .lenL, xs := [.t 37], g := some (35, false) },
  { dst := some 39, k := .mv, xs := [.t 3], g := some (35, false) },
  { dst := some 40, k := .lenL, xs := [.t 39], g := some (35, false) },
  { dst := some 41, k := (.bin .neq), xs := [.t 38, .t 40], g := some (35, false) },
  { dst := some 42, k := .pick, xs := [.t 35, .c (.d (.bool true)), .t 41] },
  { dst := some 43, k := .mv, xs := [.t 42] },
  { dst := some 44, k := (.faddr 1), xs := [.t 5], g := some (43, false) },
  { dst := some 45, k := (.load none), xs := [.t 44], g := some (43, false) },
  { dst := some 46, k := .lenL, xs := [.t 45], g := some (43, false) },
  { dst := some 47, k := .mv, xs := [.t 3], g := some (43, false) },
  { dst := some 48, k := .lenL, xs := [.t 47], g := some (43, false) },
  { dst := some 49, k := (.bin .neq), xs := [.t 46, .t 48], g := some (43, false) },
  { dst := some 50, k := .pick, xs := [.t 43, .c (.d (.bool true)), .t 49] }]
def F10o13 : List Ao := [
  { dst := some 2, k := .mv, xs := [.c (.d (.bool false))] }]
def F10c14 : Ac := .ret
def F10c11 : Ac := (.cond (.t 50) (.seq (.ops F10o13) F10c14) .skip)
def F10o17 : List Ao := [
  { dst := some 51, k := (.build [.d (.bool false), .d (.bool false), .d (.bool false), .d (.bool false), .d (.bool false), .d (.bool false), .d (.bool false), .d (.bool false)] []), xs := [] },
  { dst := some 7, k := (.alloc [.d (.bool false), .d (.bool false), .d (.bool false), .d (.bool false), .d (.bool false), .d (.bool false), .d (.bool false), .d (.bool false)]), xs := [] },
  { dst := none, k := (.store 8), xs := [.t 7, .t 51] },
  { dst := some 8, k := .mv, xs := [.c (.d (.int .i64 0))] },
  { dst := some 9, k := .mv, xs := [.c (.d (.int .i64 (-1)))] }]
def F10o19 : List Ao := [
  { dst := some 52, k := (.build [.d (.int .i64 0), .d (.int .i64 0), .d (.int .i64 0)] [(0, 1), (1, 1), (2, 1)]), xs := [.c (.d (.int .i64 9)), .c (.d (.int .i64 9)), .c (.d (.int .i64 9))] },
  { dst := some 10, k := (.alloc [.d (.int .i64 0), .d (.int .i64 0), .d (.int .i64 0)]), xs := [] },
  { dst := none, k := (.store 3), xs := [.t 10, .t 52] }]
def F10o22 : List Ao := [
  { dst := some 53, k := .mv, xs := [.t 3] },
  { dst := some 54, k := .lenL, xs := [.t 53] },
  { dst := some 55, k := (.bin .sub), xs := [.t 54, .c (.d (.int .i64 1))] },
  { dst := some 11, k := .mv, xs := [.t 55] }]
def F10o27 : List Ao := [
  { dst := some 56, k := .mv, xs := [.t 11] },
  { dst := some 57, k := (.bin .geq), xs := [.t 56, .c (.d (.int .i64 0))] }]
def F10c28 : Ac := (.cond (.t 57) .skip (.exit 0))
def F10o34 : List Ao := [
  { dst := some 60, k := .mv, xs := [.t 3] },
  { dst := some 61, k := .mv, xs := [.t 11] },
  { dst := some 62, k := (.iaddrS 8), xs := [.t 60, .t 61] },
  { dst := some 63, k := (.faddr 1), xs := [.t 62] },
  { dst := some 64, k := (.load none), xs := [.t 63] },
  { dst := some 65, k := .indexS, xs := [.t 64, .c (.d (.int .i64 0))] },
  { dst := some 66, k := (.bin .sub), xs := [.t 65, .c (.d (.int .u8 65))] },
  { dst := some 67, k := (.toInt .i64), xs := [.t 66] },
  { dst := some 68, k := (.bin .rem), xs := [.t 67, .c (.d (.int .i64 3))] },
  { dst := some 69, k := .mv, xs := [.t 11] },
  { dst := some 70, k := (.iaddrA 3 1), xs := [.t 10, .t 68] },
  { dst := none, k := (.store 1), xs := [.t 70, .t 69] }]
def F10o36 : List Ao := [
  { dst := some 71, k := .mv, xs := [.t 3] },
  { dst := some 72, k := .mv, xs := [.t 11] },
  { dst := some 73, k := (.iaddrS 8), xs := [.t 71, .t 72] },
  { dst := some 74, k := (.faddr 3), xs := [.t 73] },
  { dst := some 75, k := (.load none), xs := [.t 74] },
  { dst := some 76, k := (.bin .eql), xs := [.t 75, .c (.d (.int .i64 5))] },
  { dst := some 77, k := .mv, xs := [.t 76] },
  { dst := some 78, k := .mv, xs := [.t 3], g := some (77, true) },
  { dst := some 79, k := .mv, xs := [.t 11], g := some (77, true) },
  { dst := some 80, k := (.iaddrS 8), xs := [.t 78, .t 79], g := some (77, true) },
  { dst := some 81, k := (.faddr 6), xs := [.t 80], g := some (77, true) },
  { dst := some 82, k := (.load none), xs := [.t 81], g := some (77, true) },
  { dst := some 83, k := (.bin .gtr), xs := [.t 82, .c (.d (.int .i64 0))], g := some (77, true) },
  { dst := some 84, k := .pick, xs := [.t 77, .t 83, .c (.d (.bool false))] }]
def F10o38 : List Ao := [
  { dst := some 85, k := .mv, xs := [.t 11] },
  { dst := some 9, k := .mv, xs := [.t 85] }]
def F10c37 : Ac := (.cond (.t 84) (.ops F10o38) .skip)
def F10c35 : Ac := (.seq (.ops F10o36) F10c37)
def F10o40 : List Ao := [
  { dst := some 58, k := .mv, xs := [.t 11] },
  { dst := some 59, k := (.bin .sub), xs := [.t 58, .c (.d (.int .i64 1))] },
  { dst := some 11, k := .mv, xs := [.t 59] }]
def F10c40 : Ac := (.ops F10o40)
def F10c31 : Ac := (.seq (.block 1 (.seq (.ops F10o34) F10c35)) F10c40)
def F10l24 : Ac := (.seq (.seq (.ops F10o27) F10c28) F10c31)
def F10c23 : Ac := (.block 0 (.loop (.seq (.gh []) (.seq (.keep [3, 4, 5, 7, 8, 9, 10, 11] [[5], [7], [10]]) F10l24))))
def F10o43 : List Ao := [
  { dst := some 12, k := .mv, xs := [.c (.d (.int .i64 0))] }]
def F10o48 : List Ao := [
  { dst := some 86, k := .mv, xs := [.t 12] },
  { dst := some 87, k := .mv, xs := [.t 4] },
  { dst := some 88, k := .lenL, xs := [.t 87] },
  { dst := some 89, k := (.bin .lss), xs := [.t 86, .t 88] }]
def F10c49 : Ac := (.cond (.t 89) .skip (.exit 2))
def F10o55 : List Ao := [
  { dst := some 92, k := .mv, xs := [.t 4] },
  { dst := some 93, k := .mv, xs := [.t 12] },
  { dst := some 94, k := (.iaddrS 1), xs := [.t 92, .t 93] },
  { dst := some 95, k := (.load none), xs := [.t 94] },
  { dst := some 13, k := .mv, xs := [.t 95] }]
def F10o58 : List Ao := [
  { dst := some 96, k := .mv, xs := [.t 13] },
  { dst := some 97, k := (.bin .lss), xs := [.t 96, .c (.d (.int .i64 0))] },
  { dst := some 98, k := .mv, xs := [.t 97] },
  { dst := some 99, k := .mv, xs := [.t 13], g := some (98, false) },
  { dst := some 100, k := .mv, xs := [.t 3], g := some (98, false) },
  { dst := some 101, k := .lenL, xs := [.t 100], g := some (98, false) },
  { dst := some 102, k := (.bin .geq), xs := [.t 99, .t 101], g := some (98, false) },
  { dst := some 103, k := .pick, xs := [.t 98, .c (.d (.bool true)), .t 102] },
  { dst := some 104, k := .mv, xs := [.t 103] },
  { dst := some 105, k := .mv, xs := [.t 13], g := some (104, false) },
  { dst := some 106, k := (.bin .and), xs := [.t 105, .c (.d (.int .i64 7))], g := some (104, false) },
  { dst := some 107, k := (.iaddrA 8 1), xs := [.t 7, .t 106], g := some (104, false) },
  { dst := some 108, k := (.load none), xs := [.t 107], g := some (104, false) },
  { dst := some 109, k := .pick, xs := [.t 104, .c (.d (.bool true)), .t 108] }]
def F10o61 : List Ao := [
  { dst := some 2, k := .mv, xs := [.c (.d (.bool false))] }]
def F10c62 : Ac := .ret
def F10c59 : Ac := (.cond (.t 109) (.seq (.ops F10o61) F10c62) .skip)
def F10o65 : List Ao := [
  { dst := some 110, k := .mv, xs := [.t 13] },
  { dst := some 111, k := (.bin .and), xs := [.t 110, .c (.d (.int .i64 7))] },
  { dst := some 112, k := (.iaddrA 8 1), xs := [.t 7, .t 111] },
  { dst := none, k := (.store 1), xs := [.t 112, .c (.d (.bool true))] }]
def F10o68 : List Ao := [
  { dst := some 113, k := .mv, xs := [.t 12] },
  { dst := some 114, k := (.bin .gtr), xs := [.t 113, .c (.d (.int .i64 0))] }]
def F10o71 : List Ao := [
  { dst := some 115, k := .mv, xs := [.t 4] },
  { dst := some 116, k := .mv, xs := [.t 12] },
  { dst := some 117, k := (.bin .sub), xs := [.t 116, .c (.d (.int .i64 1))] },
  { dst := some 118, k := (.iaddrS 1), xs := [.t 115, .t 117] },
  { dst := some 119, k := (.load none), xs := [.t 118] },
  { dst := some 14, k := .mv, xs := [.t 119] }]
def F10o73 : List Ao := [
  { dst := some 120, k := .mv, xs := [.t 3] },
  { dst := some 121, k := .mv, xs := [.t 14] },
  { dst := some 122, k := (.iaddrS 8), xs := [.t 120, .t 121] },
  { dst := some 123, k := (.faddr 1), xs := [.t 122] },
  { dst := some 124, k := (.load none), xs := [.t 123] },
  { dst := some 125, k := .indexS, xs := [.t 124, .c (.d (.int .i64 0))] },
  { dst := some 126, k := (.bin .sub), xs := [.t 125, .c (.d (.int .u8 65))] },
  { dst := some 127, k := (.toInt .i64), xs := [.t 126] },
  { dst := some 128, k := (.bin .rem), xs := [.t 127, .c (.d (.int .i64 3))] },
  { dst := some 129, k := (.iaddrA 3 1), xs := [.t 10, .t 128] },
  { dst := some 130, k := (.load none), xs := [.t 129] },
  { dst := some 131, k := .mv, xs := [.t 3] },
  { dst := some 132, k := .mv, xs := [.t 13] },
  { dst := some 133, k := (.iaddrS 8), xs := [.t 131, .t 132] },
  { dst := some 134, k := (.faddr 1), xs := [.t 133] },
  { dst := some 135, k := (.load none), xs := [.t 134] },
  { dst := some 136, k := .indexS, xs := [.t 135, .c (.d (.int .i64 0))] },
  { dst := some 137, k := (.bin .sub), xs := [.t 136, .c (.d (.int .u8 65))] },
  { dst := some 138, k := (.toInt .i64), xs := [.t 137] },
  { dst := some 139, k := (.bin .rem), xs := [.t 138, .c (.d (.int .i64 3))] },
  { dst := some 140, k := (.iaddrA 3 1), xs := [.t 10, .t 139] },
  { dst := some 141, k := (.load none), xs := [.t 140] },
  { dst := some 15, k := .mv, xs := [.t 130] },
  { dst := some 16, k := .mv, xs := [.t 141] }]
def F10o75 : List Ao := [
  { dst := some 142, k := .mv, xs := [.t 15] },
  { dst := some 143, k := .mv, xs := [.t 16] },
  { dst := some 144, k := (.bin .gtr), xs := [.t 142, .t 143] },
  { dst := some 145, k := .mv, xs := [.t 144] },
  { dst := some 146, k := .mv, xs := [.t 15], g := some (145, false) },
  { dst := some 147, k := .mv, xs := [.t 16], g := some (145, false) },
  { dst := some 148, k := (.bin .eql), xs := [.t 146, .t 147], g := some (145, false) },
  { dst := some 149, k := .mv, xs := [.t 148], g := some (145, false) },
  { dst := some 150, k := .mv, xs := [.t 14], g := some (149, true) },
  { dst := some 151, k := .mv, xs := [.t 13], g := some (149, true) },
  { dst := some 152, k := (.bin .geq), xs := [.t 150, .t 151], g := some (149, true) },
  { dst := some 153, k := .pick, xs := [.t 149, .t 152, .c (.d (.bool false))], g := some (145, false) },
  { dst := some 154, k := .pick, xs := [.t 145, .c (.d (.bool true)), .t 153] }]
def F10o78 : List Ao := [
  { dst := some 2, k := .mv, xs := [.c (.d (.bool false))] }]
def F10c79 : Ac := .ret
def F10c76 : Ac := (.cond (.t 154) (.seq (.ops F10o78) F10c79) .skip)
def F10c74 : Ac := (.seq (.ops F10o75) F10c76)
def F10c72 : Ac := (.seq (.ops F10o73) F10c74)
def F10c69 : Ac := (.cond (.t 114) (.seq (.ops F10o71) F10c72) .skip)
def F10o84 : List Ao := [
  { dst := some 155, k := .mv, xs := [.t 3] },
  { dst := some 156, k := .mv, xs := [.t 13] },
  { dst := some 157, k := (.iaddrS 8), xs := [.t 155, .t 156] },
  { dst := some 158, k := (.faddr 2), xs := [.t 157] },
  { dst := some 159, k := (.load none), xs := [.t 158] },
  { dst := some 160, k := (.bin .eql), xs := [.t 159, .c (.d (.int .i64 0))] }]
def F10o88 : List Ao := [
  { dst := some 161, k := (.faddr 1), xs := [.t 5] },
  { dst := some 162, k := (.load none), xs := [.t 161] },
  { dst := some 163, k := .mv, xs := [.t 13] },
  { dst := some 164, k := (.iaddrS 1), xs := [.t 162, .t 163] },
  { dst := some 165, k := (.load none), xs := [.t 164] },
  { dst := some 166, k := (.un .not), xs := [.t 165] },
  { dst := some 167, k := .mv, xs := [.t 166] },
  { dst := some 168, k := (.faddr 0), xs := [.t 5], g := some (167, false) },
  { dst := some 169, k := (.load none), xs := [.t 168], g := some (167, false) },
  { dst := some 170, k := .mv, xs := [.t 13], g := some (167, false) },
  { dst := some 171, k := (.iaddrS 1), xs := [.t 169, .t 170], g := some (167, false) },
  { dst := some 172, k := (.load none), xs := [.t 171], g := some (167, false) },
  { dst := some 173, k := .mv, xs := [.t 3], g := some (167, false) },
  { dst := some 174, k := .mv, xs := [.t 13], g := some (167, false) },
  { dst := some 175, k := (.iaddrS 8), xs := [.t 173, .t 174], g := some (167, false) },
  { dst := some 176, k := (.faddr 4), xs := [.t 175], g := some (167, false) },
  { dst := some 177, k := (.load none), xs := [.t 176], g := some (167, false) },
  { dst := some 178, k := (.toInt .i64), xs := [.t 177], g := some (167, false) },
  { dst := some 179, k := (.bin .mul), xs := [.t 178, .c (.d (.int .i64 16))], g := some (167, false) },
  { dst := some 180, k := .mv, xs := [.t 3], g := some (167, false) },
  { dst := some 181, k := .mv, xs := [.t 13], g := some (167, false) },
  { dst := some 182, k := (.iaddrS 8), xs := [.t 180, .t 181], g := some (167, false) },
  { dst := some 183, k := (.faddr 5), xs := [.t 182], g := some (167, false) },
  { dst := some 184, k := (.load none), xs := [.t 183], g := some (167, false) },
  { dst := some 185, k := (.toInt .i64), xs := [.t 184], g := some (167, false) },
  { dst := some 186, k := (.bin .add), xs := [.t 179, .t 185], g := some (167, false) },
  { dst := some 187, k := (.bin .neq), xs := [.t 172, .t 186], g := some (167, false) },
  { dst := some 188, k := .pick, xs := [.t 167, .c (.d (.bool true)), .t 187] }]
def F10o91 : List Ao := [
  { dst := some 2, k := .mv, xs := [.c (.d (.bool false))] }]
def F10c92 : Ac := .ret
def F10c89 : Ac := (.cond (.t 188) (.seq (.ops F10o91) F10c92) .skip)
def F10c94 : Ac := (.exit 3)
def F10c85 : Ac := (.cond (.t 160) (.seq (.seq (.ops F10o88) F10c89) F10c94) .skip)
def F10o97 : List Ao := [
  { dst := some 189, k := .mv, xs := [.t 8] },
  { dst := some 190, k := (.bslice (.int .i64 0) 5 [0, 1, 2, 3, 4]), xs := [.c (.d (.int .i64 1)), .c (.d (.int .i64 1)), .c (.d (.int .i64 2)), .c (.d (.int .i64 16)), .c (.d (.int .i64 256))] },
  { dst := some 191, k := .mv, xs := [.t 3] },
  { dst := some 192, k := .mv, xs := [.t 13] },
  { dst := some 193, k := (.iaddrS 8), xs := [.t 191, .t 192] },
  { dst := some 194, k := (.faddr 2), xs := [.t 193] },
  { dst := some 195, k := (.load none), xs := [.t 194] },
  { dst := some 196, k := (.iaddrS 1), xs := [.t 190, .t 195] },
  { dst := some 197, k := (.load none), xs := [.t 196] },
  { dst := some 198, k := (.callf 43), xs := [.t 189, .t 197] },
  { dst := some 8, k := .mv, xs := [.t 198] }]
def F10o100 : List Ao := [
  { dst := some 199, k := (.faddr 1), xs := [.t 5] },
  { dst := some 200, k := (.load none), xs := [.t 199] },
  { dst := some 201, k := .mv, xs := [.t 13] },
  { dst := some 202, k := (.iaddrS 1), xs := [.t 200, .t 201] },
  { dst := some 203, k := (.load none), xs := [.t 202] },
  { dst := some 204, k := .mv, xs := [.t 203] },
  { dst := some 205, k := (.faddr 0), xs := [.t 5], g := some (204, false) },
  { dst := some 206, k := (.load none), xs := [.t 205], g := some (204, false) },
  { dst := some 207, k := .mv, xs := [.t 13], g := some (204, false) },
  { dst := some 208, k := (.iaddrS 1), xs := [.t 206, .t 207], g := some (204, false) },
  { dst := some 209, k := (.load none), xs := [.t 208], g := some (204, false) },
  { dst := some 210, k := .mv, xs := [.t 8], g := some (204, false) },
  { dst := some 211, k := (.bin .neq), xs := [.t 209, .t 210], g := some (204, false) },
  { dst := some 212, k := .pick, xs := [.t 204, .c (.d (.bool true)), .t 211] },
  { dst := some 213, k := .mv, xs := [.t 212] },
  { dst := some 214, k := (.load (some 4)), xs := [.t 5], g := some (213, false) },
  { dst := some 215, k := .mv, xs := [.t 13], g := some (213, false) },
  { dst := some 216, k := (.callf 44), xs := [.t 214, .t 215], g := some (213, false) },
  { dst := some 217, k := .mv, xs := [.t 8], g := some (213, false) },
  { dst := some 218, k := (.bin .quo), xs := [.t 217, .c (.d (.int .i64 16))], g := some (213, false) },
  { dst := some 219, k := (.bin .neq), xs := [.t 216, .t 218], g := some (213, false) },
  { dst := some 220, k := .pick, xs := [.t 213, .c (.d (.bool true)), .t 219] }]
def F10o103 : List Ao := [
  { dst := some 2, k := .mv, xs := [.c (.d (.bool false))] }]
def F10c104 : Ac := .ret
def F10c101 : Ac := (.cond (.t 220) (.seq (.ops F10o103) F10c104) .skip)
def F10o106 : List Ao := [
  { dst := some 221, k := .mv, xs := [.t 8] },
  { dst := some 222, k := .mv, xs := [.t 3] },
  { dst := some 223, k := .mv, xs := [.t 13] },
  { dst := some 224, k := (.iaddrS 8), xs := [.t 222, .t 223] },
  { dst := some 225, k := (.faddr 6), xs := [.t 224] },
  { dst := some 226, k := (.load none), xs := [.t 225] },
  { dst := some 227, k := (.bin .add), xs := [.t 221, .t 226] },
  { dst := some 8, k := .mv, xs := [.t 227] }]
def F10c106 : Ac := (.ops F10o106)
def F10c98 : Ac := (.seq (.seq (.ops F10o100) F10c101) F10c106)
def F10c96 : Ac := (.seq (.ops F10o97) F10c98)
def F10b82 : Ac := (.seq (.seq (.ops F10o84) F10c85) F10c96)
def F10c82 : Ac := (.seq (.gh []) (.seq (.keep [3, 4, 5, 7, 8, 9, 10, 12, 13] [[5], [7], [10]]) F10b82))
def F10c66 : Ac := (.seq (.seq (.ops F10o68) F10c69) F10c82)
def F10c64 : Ac := (.seq (.ops F10o65) F10c66)
def F10c56 : Ac := (.seq (.seq (.ops F10o58) F10c59) F10c64)
def F10o107 : List Ao := [
  { dst := some 90, k := .mv, xs := [.t 12] },
  { dst := some 91, k := (.bin .add), xs := [.t 90, .c (.d (.int .i64 1))] },
  { dst := some 12, k := .mv, xs := [.t 91] }]
def F10c107 : Ac := (.ops F10o107)
def F10c52 : Ac := (.seq (.block 3 (.seq (.ops F10o55) F10c56)) F10c107)
def F10l45 : Ac := (.seq (.seq (.ops F10o48) F10c49) F10c52)
def F10c44 : Ac := (.block 2 (.loop (.seq (.gh []) (.seq (.keep [3, 4, 5, 7, 8, 9, 10, 12] [[5], [7], [10]]) F10l45))))
def F10o109 : List Ao := [
  { dst := some 228, k := (.callf 45), xs := [] },
  { dst := some 229, k := .mv, xs := [.t 228] },
  { dst := some 230, k := (.faddr 3), xs := [.t 5], g := some (229, true) },
  { dst := some 231, k := (.load none), xs := [.t 230], g := some (229, true) },
  { dst := some 232, k := .mv, xs := [.t 8], g := some (229, true) },
  { dst := some 233, k := (.bin .eql), xs := [.t 231, .t 232], g := some (229, true) },
  { dst := some 234, k := .pick, xs := [.t 229, .t 233, .c (.d (.bool false))] },
  { dst := some 235, k := .mv, xs := [.t 234] },
  { dst := some 236, k := .mv, xs := [.t 3], g := some (235, true) },
  { dst := some 237, k := (.callf 46), xs := [.t 236], g := some (235, true) },
  { dst := some 238, k := .mv, xs := [.t 9], g := some (235, true) },
  { dst := some 239, k := (.bin .eql), xs := [.t 237, .t 238], g := some (235, true) },
  { dst := some 240, k := .pick, xs := [.t 235, .t 239, .c (.d (.bool false))] },
  { dst := some 241, k := .mv, xs := [.t 240] },
  { dst := some 242, k := (.load (some 4)), xs := [.t 5], g := some (241, true) },
  { dst := some 243, k := (.callf 44), xs := [.t 242, .c (.d (.int .i64 (-1)))], g := some (241, true) },
  { dst := some 244, k := (.bin .eql), xs := [.t 243, .c (.d (.int .i64 0))], g := some (241, true) },
  { dst := some 245, k := .pick, xs := [.t 241, .t 244, .c (.d (.bool false))] },
  { dst := some 246, k := .mv, xs := [.t 245] },
  { dst := some 247, k := (.load (some 4)), xs := [.t 5], g := some (246, true) },
  { dst := some 248, k := .mv, xs := [.t 3], g := some (246, true) },
  { dst := some 249, k := .lenL, xs := [.t 248], g := some (246, true) },
  { dst := some 250, k := (.callf 44), xs := [.t 247, .t 249], g := some (246, true) },
  { dst := some 251, k := (.bin .eql), xs := [.t 250, .c (.d (.int .i64 0))], g := some (246, true) },
  { dst := some 252, k := .pick, xs := [.t 246, .t 251, .c (.d (.bool false))] },
  { dst := some 2, k := .mv, xs := [.t 252] }]
def F10c110 : Ac := .ret
def F10b108 : Ac := (.seq (.ops F10o109) F10c110)
def F10c108 : Ac := (.seq (.gh []) (.seq (.keep [3, 5, 8, 9] [[5]]) F10b108))
def F10b41 : Ac := (.seq (.seq (.ops F10o43) F10c44) F10c108)
def F10c41 : Ac := (.seq (.gh []) (.seq (.keep [3, 4, 5, 7, 8, 9, 10] [[5], [7], [10]]) F10b41))
def F10c20 : Ac := (.seq (.seq (.ops F10o22) F10c23) F10c41)
def F10c18 : Ac := (.seq (.ops F10o19) F10c20)
def F10c16 : Ac := (.seq (.ops F10o17) F10c18)
def F10c8 : Ac := (.seq (.seq (.ops F10o10) F10c11) F10c16)
def F10c6 : Ac := (.seq (.ops F10o7) F10c8)
def F10c4 : Ac := (.seq (.ops F10o5) F10c6)
def F10c2 : Ac := (.seq (.ops F10o3) F10c4)
def F10c0 : Ac := (.seq (.ops F10o1) F10c2)
/-- hansom/hansomlaw41.LayPlaces -/
def F10 : Fn := { np := 1, pb := [], rs := [.t 2], body := F10c0 }
def F11o1 : List Ao := [
  { dst := some 2, k := .mv, xs := [.c (.d (.bool false))] }]
def F11o3 : List Ao := [
  { dst := some 10, k := .mv, xs := [.t 0] },
  { dst := some 11, k := (.bin .and), xs := [.t 10, .c (.d (.int .i64 3))] },
  { dst := some 12, k := (.bin .add), xs := [.c (.d (.int .i64 8)), .t 11] },
  { dst := some 3, k := .mv, xs := [.t 12] }]
def F11o5 : List Ao := [
  { dst := some 13, k := (.bslice (.agg [.str [], .str [], .int .i64 0, .int .i64 0, .int .u16 0, .int .u8 0, .int .i64 0, .sl []]) 0 []), xs := [] },
  { dst := some 4, k := .mv, xs := [.t 13] }]
def F11o8 : List Ao := [
  { dst := some 5, k := .mv, xs := [.c (.d (.int .i64 0))] }]
def F11o13 : List Ao := [
  { dst := some 14, k := .mv, xs := [.t 5] },
  { dst := some 15, k := .mv, xs := [.t 3] },
  { dst := some 16, k := (.bin .lss), xs := [.t 14, .t 15] }]
def F11c14 : Ac := (.cond (.t 16) .skip (.exit 0))
def F11o19 : List Ao := [
  { dst := some 19, k := .mv, xs := [.t 4] },
  { dst := some 20, k := (.build [.d (.str []), .d (.str []), .d (.int .i64 0), .d (.int .i64 0), .d (.int .u16 0), .d (.int .u8 0), .d (.int .i64 0), .nils] [(2, 1), (6, 1)]), xs := [.c (.d (.int .i64 3)), .c (.d (.int .i64 65536))] },
  { dst := some 21, k := (.bslice (.agg [.str [], .str [], .int .i64 0, .int .i64 0, .int .u16 0, .int .u8 0, .int .i64 0, .sl []]) 1 [0]), xs := [.t 20] },
  { dst := some 22, k := (.append 8 88 false), xs := [.t 19, .t 21] },
  { dst := some 4, k := .mv, xs := [.t 22] }]
def F11o20 : List Ao := [
  { dst := some 17, k := .mv, xs := [.t 5] },
  { dst := some 18, k := (.bin .add), xs := [.t 17, .c (.d (.int .i64 1))] },
  { dst := some 5, k := .mv, xs := [.t 18] }]
def F11c20 : Ac := (.ops F11o20)
def F11c17 : Ac := (.seq (.block 1 (.ops F11o19)) F11c20)
def F11l10 : Ac := (.seq (.seq (.ops F11o13) F11c14) F11c17)
def F11c9 : Ac := (.block 0 (.loop (.seq (.gh []) (.seq (.keep [0, 3, 4, 5] [[13]]) F11l10))))
def F11o22 : List Ao := [
  { dst := some 23, k := .mv, xs := [.t 0] },
  { dst := some 24, k := (.bin .shr), xs := [.t 23, .c (.d (.int .u64 2))] },
  { dst := some 25, k := (.bin .and), xs := [.t 24, .c (.d (.int .i64 65535))] },
  { dst := some 6, k := .mv, xs := [.t 25] }]
def F11o24 : List Ao := [
  { dst := some 26, k := .mv, xs := [.t 4] },
  { dst := some 27, k := .mv, xs := [.t 6] },
  { dst := some 28, k := (.build [.d (.str []), .d (.str []), .d (.int .i64 0), .d (.int .i64 0), .d (.int .u16 0), .d (.int .u8 0), .d (.int .i64 0), .nils] [(2, 1), (6, 1)]), xs := [.c (.d (.int .i64 1)), .t 27] },
  { dst := some 29, k := (.bslice (.agg [.str [], .str [], .int .i64 0, .int .i64 0, .int .u16 0, .int .u8 0, .int .i64 0, .sl []]) 1 [0]), xs := [.t 28] },
  { dst := some 30, k := (.append 8 88 false), xs := [.t 26, .t 29] },
  { dst := some 4, k := .mv, xs := [.t 30] }]
def F11o26 : List Ao := [
  { dst := some 32, k := .mv, xs := [.t 4] },
  { dst := some 33, k := (.callf 42), xs := [.t 32] },
  { dst := some 31, k := .mv, xs := [.t 33] },
  { dst := some 34, k := (.extract 0), xs := [.t 31] },
  { dst := some 35, k := (.extract 1), xs := [.t 31] },
  { dst := some 7, k := (.alloc [.nils, .nils, .nils, .d (.int .i64 0)]), xs := [] },
  { dst := none, k := (.store 4), xs := [.t 7, .t 34] },
  { dst := some 8, k := .mv, xs := [.t 35] }]
def F11o28 : List Ao := [
  { dst := some 36, k := .mv, xs := [.t 3] },
  { dst := some 37, k := (.bin .mul), xs := [.t 36, .c (.d (.int .i64 65536))] },
  { dst := some 38, k := .mv, xs := [.t 6] },
  { dst := some 39, k := (.bin .add), xs := [.t 37, .t 38] },
  { dst := some 9, k := .mv, xs := [.t 39] }]
def F11o30 : List Ao := [
  { dst := some 40, k := (.callf 45), xs := [] },
  { dst := some 41, k := .mv, xs := [.t 40] },
  { dst := some 42, k := .mv, xs := [.t 8], g := some (41, true) },
  { dst := some 43, k := (.bin .eql), xs := [.t 42, .c (.d (.int .i64 0))], g := some (41, true) },
  { dst := some 44, k := .mv, xs := [.t 9], g := some (41, true) },
  { dst := some 45, k := (.bin .leq), xs := [.t 44, .c (.d (.int .i64 655360))], g := some (41, true) },
  { dst := some 46, k := (.eqb false), xs := [.t 43, .t 45], g := some (41, true) },
  { dst := some 47, k := .pick, xs := [.t 41, .t 46, .c (.d (.bool false))] },
  { dst := some 48, k := .mv, xs := [.t 47] },
  { dst := some 49, k := .mv, xs := [.t 8], g := some (48, true) },
  { dst := some 50, k := (.bin .eql), xs := [.t 49, .c (.d (.int .i64 0))], g := some (48, true) },
  { dst := some 51, k := .mv, xs := [.t 50], g := some (48, true) },
  { dst := some 52, k := (.faddr 3), xs := [.t 7], g := some (51, true) },
  { dst := some 53, k := (.load none), xs := [.t 52], g := some (51, true) },
  { dst := some 54, k := .mv, xs := [.t 9], g := some (51, true) },
  { dst := some 55, k := (.bin .eql), xs := [.t 53, .t 54], g := some (51, true) },
  { dst := some 56, k := .pick, xs := [.t 51, .t 55, .c (.d (.bool false))], g := some (48, true) },
  { dst := some 57, k := .mv, xs := [.t 56], g := some (48, true) },
  { dst := some 58, k := .mv, xs := [.t 8], g := some (57, false) },
  { dst := some 59, k := (.bin .eql), xs := [.t 58, .c (.d (.int .i64 8))], g := some (57, false) },
  { dst := some 60, k := .mv, xs := [.t 59], g := some (57, false) },
  { dst := some 61, k := (.faddr 0), xs := [.t 7], g := some (60, true) },
  { dst := some 62, k := (.load none), xs := [.t 61], g := some (60, true) },
  { dst := some 63, k := .lenL, xs := [.t 62], g := some (60, true) },
  { dst := some 64, k := (.bin .eql), xs := [.t 63, .c (.d (.int .i64 0))], g := some (60, true) },
  { dst := some 65, k := .pick, xs := [.t 60, .t 64, .c (.d (.bool false))], g := some (57, false) },
  { dst := some 66, k := .pick, xs := [.t 57, .c (.d (.bool true)), .t 65], g := some (48, true) },
  { dst := some 67, k := .pick, xs := [.t 48, .t 66, .c (.d (.bool false))] },
  { dst := some 2, k := .mv, xs := [.t 67] }]
def F11c31 : Ac := .ret
def F11c29 : Ac := (.seq (.ops F11o30) F11c31)
def F11c27 : Ac := (.seq (.ops F11o28) F11c29)
def F11c25 : Ac := (.seq (.ops F11o26) F11c27)
def F11c23 : Ac := (.seq (.ops F11o24) F11c25)
def F11b21 : Ac := (.seq (.ops F11o22) F11c23)
def F11c21 : Ac := (.seq (.gh []) (.seq (.keep [0, 3, 4] [[13]]) F11b21))
def F11c6 : Ac := (.seq (.seq (.ops F11o8) F11c9) F11c21)
def F11c4 : Ac := (.seq (.ops F11o5) F11c6)
def F11c2 : Ac := (.seq (.ops F11o3) F11c4)
def F11c0 : Ac := (.seq (.ops F11o1) F11c2)
/-- hansom/hansomlaw41.LayMost -/
def F11 : Fn := { np := 1, pb := [], rs := [.t 2], body := F11c0 }
def F40o1 : List Ao := [
  { dst := some 2, k := .mv, xs := [.c (.nils)] }]
def F40o3 : List Ao := [
  { dst := some 6, k := (.bslice (.agg [.str [], .str [], .int .i64 0, .int .i64 0, .int .u16 0, .int .u8 0, .int .i64 0, .sl []]) 0 []), xs := [] },
  { dst := some 3, k := .mv, xs := [.t 6] }]
def F40o6 : List Ao := [
  { dst := some 4, k := .mv, xs := [.c (.d (.int .i64 0))] }]
def F40o11 : List Ao := [
  { dst := some 7, k := .mv, xs := [.t 4] },
  { dst := some 8, k := .mv, xs := [.t 0] },
  { dst := some 9, k := .lenL, xs := [.t 8] },
  { dst := some 10, k := (.bin .lss), xs := [.t 7, .t 9] },
  { dst := some 11, k := .mv, xs := [.t 10] },
  { dst := some 12, k := .mv, xs := [.t 4], g := some (11, true) },
  { dst := some 13, k := (.bin .lss), xs := [.t 12, .c (.d (.int .i64 8))], g := some (11, true) },
  { dst := some 14, k := .pick, xs := [.t 11, .t 13, .c (.d (.bool false))] }]
def F40c12 : Ac := (.cond (.t 14) .skip (.exit 0))
def F40o18 : List Ao := [
  { dst := some 17, k := (.bslice (.str []) 3 [0, 1, 2]), xs := [.c (.d (.str [65])), .c (.d (.str [66])), .c (.d (.str [67]))], av := [[35], [5]] },
  { dst := some 18, k := .mv, xs := [.t 0] },
  { dst := some 19, k := .mv, xs := [.t 4] },
  { dst := some 20, k := (.iaddrS 8), xs := [.t 18, .t 19] },
  { dst := some 21, k := (.faddr 2), xs := [.t 20] },
  { dst := some 22, k := (.load none), xs := [.t 21], av := [[17], [35], [5]] },
  { dst := some 23, k := (.bin .shr), xs := [.t 22, .c (.d (.int .u64 3))] },
  { dst := some 24, k := (.bin .and), xs := [.t 23, .c (.d (.int .i64 255))] },
  { dst := some 25, k := (.bin .rem), xs := [.t 24, .c (.d (.int .i64 3))] },
  { dst := some 26, k := (.iaddrS 1), xs := [.t 17, .t 25] },
  { dst := some 27, k := (.load none), xs := [.t 26], av := [[35], [5]] },
  { dst := some 28, k := .mv, xs := [.t 0] },
  { dst := some 29, k := .mv, xs := [.t 4] },
  { dst := some 30, k := (.iaddrS 8), xs := [.t 28, .t 29] },
  { dst := some 31, k := (.faddr 2), xs := [.t 30] },
  { dst := some 32, k := (.load none), xs := [.t 31], av := [[17], [35], [5]] },
  { dst := some 33, k := (.bin .and), xs := [.t 32, .c (.d (.int .i64 7))] },
  { dst := some 34, k := (.bin .rem), xs := [.t 33, .c (.d (.int .i64 5))] },
  { dst := some 35, k := (.bslice (.int .i64 0) 4 [0, 1, 2, 3]), xs := [.c (.d (.int .i64 0)), .c (.d (.int .i64 2)), .c (.d (.int .i64 5)), .c (.d (.int .i64 6))], av := [[17], [5]] },
  { dst := some 36, k := .mv, xs := [.t 0] },
  { dst := some 37, k := .mv, xs := [.t 4] },
  { dst := some 38, k := (.iaddrS 8), xs := [.t 36, .t 37] },
  { dst := some 39, k := (.faddr 3), xs := [.t 38] },
  { dst := some 40, k := (.load none), xs := [.t 39], av := [[17], [35], [5]] },
  { dst := some 41, k := (.bin .and), xs := [.t 40, .c (.d (.int .i64 3))] },
  { dst := some 42, k := (.iaddrS 1), xs := [.t 35, .t 41] },
  { dst := some 43, k := (.load none), xs := [.t 42], av := [[17], [5]] },
  { dst := some 44, k := .mv, xs := [.t 0] },
  { dst := some 45, k := .mv, xs := [.t 4] },
  { dst := some 46, k := (.iaddrS 8), xs := [.t 44, .t 45] },
  { dst := some 47, k := (.faddr 6), xs := [.t 46] },
  { dst := some 48, k := (.load none), xs := [.t 47], av := [[17], [35], [5]] },
  { dst := some 49, k := (.bin .and), xs := [.t 48, .c (.d (.int .i64 4095))] },
  { dst := some 50, k := (.build [.d (.str []), .d (.str []), .d (.int .i64 0), .d (.int .i64 0), .d (.int .u16 0), .d (.int .u8 0), .d (.int .i64 0), .nils] [(1, 1), (2, 1), (3, 1), (6, 1)]), xs := [.t 27, .t 34, .t 43, .t 49] },
  { dst := some 5, k := (.alloc [.d (.str []), .d (.str []), .d (.int .i64 0), .d (.int .i64 0), .d (.int .u16 0), .d (.int .u8 0), .d (.int .i64 0), .nils]), xs := [], av := [[17], [35]] },
  { dst := none, k := (.store 8), xs := [.t 5, .t 50] }]
def F40o21 : List Ao := [
  { dst := some 51, k := .mv, xs := [.t 0] },
  { dst := some 52, k := .mv, xs := [.t 4] },
  { dst := some 53, k := (.iaddrS 8), xs := [.t 51, .t 52] },
  { dst := some 54, k := (.faddr 6), xs := [.t 53] },
  { dst := some 55, k := (.load none), xs := [.t 54] },
  { dst := some 56, k := (.bin .shr), xs := [.t 55, .c (.d (.int .u64 12))] },
  { dst := some 57, k := (.bin .and), xs := [.t 56, .c (.d (.int .i64 7))] },
  { dst := some 58, k := (.bin .eql), xs := [.t 57, .c (.d (.int .i64 0))] }]
def F40o23 : List Ao := [
  { dst := some 59, k := .mv, xs := [.t 0] },
  { dst := some 60, k := .mv, xs := [.t 4] },
  { dst := some 61, k := (.iaddrS 8), xs := [.t 59, .t 60] },
  { dst := some 62, k := (.faddr 6), xs := [.t 61] },
  { dst := some 63, k := (.load none), xs := [.t 62] },
  { dst := some 64, k := (.bin .and), xs := [.t 63, .c (.d (.int .i64 131071))] },
  { dst := some 65, k := (.bin .rem), xs := [.t 64, .c (.d (.int .i64 65537))] },
  { dst := some 66, k := (.faddr 6), xs := [.t 5] },
  { dst := none, k := (.store 1), xs := [.t 66, .t 65] }]
def F40c22 : Ac := (.cond (.t 58) (.ops F40o23) .skip)
def F40o27 : List Ao := [
  { dst := some 67, k := (.faddr 2), xs := [.t 5] },
  { dst := some 68, k := (.load none), xs := [.t 67] },
  { dst := some 69, k := (.bin .eql), xs := [.t 68, .c (.d (.int .i64 0))] }]
def F40o29 : List Ao := [
  { dst := some 70, k := .mv, xs := [.t 0] },
  { dst := some 71, k := .mv, xs := [.t 4] },
  { dst := some 72, k := (.iaddrS 8), xs := [.t 70, .t 71] },
  { dst := some 73, k := (.faddr 4), xs := [.t 72] },
  { dst := some 74, k := (.load none), xs := [.t 73] },
  { dst := some 75, k := .mv, xs := [.t 0] },
  { dst := some 76, k := .mv, xs := [.t 4] },
  { dst := some 77, k := (.iaddrS 8), xs := [.t 75, .t 76] },
  { dst := some 78, k := (.faddr 5), xs := [.t 77] },
  { dst := some 79, k := (.load none), xs := [.t 78], av := [[5]] },
  { dst := some 80, k := (.faddr 4), xs := [.t 5] },
  { dst := none, k := (.store 1), xs := [.t 80, .t 74], al := some [[5]] },
  { dst := some 81, k := (.faddr 5), xs := [.t 5] },
  { dst := none, k := (.store 1), xs := [.t 81, .t 79] }]
def F40c28 : Ac := (.cond (.t 69) (.ops F40o29) .skip)
def F40o31 : List Ao := [
  { dst := some 82, k := .mv, xs := [.t 3] },
  { dst := some 83, k := (.load (some 8)), xs := [.t 5] },
  { dst := some 84, k := (.bslice (.agg [.str [], .str [], .int .i64 0, .int .i64 0, .int .u16 0, .int .u8 0, .int .i64 0, .sl []]) 1 [0]), xs := [.t 83] },
  { dst := some 85, k := (.append 8 88 false), xs := [.t 82, .t 84] },
  { dst := some 3, k := .mv, xs := [.t 85] }]
def F40c31 : Ac := (.ops F40o31)
def F40b25 : Ac := (.seq (.seq (.ops F40o27) F40c28) F40c31)
def F40c25 : Ac := (.seq (.gh []) (.seq (.keep [0, 3, 4, 5] [[6], [5]]) F40b25))
def F40c19 : Ac := (.seq (.seq (.ops F40o21) F40c22) F40c25)
def F40o32 : List Ao := [
  { dst := some 15, k := .mv, xs := [.t 4] },
  { dst := some 16, k := (.bin .add), xs := [.t 15, .c (.d (.int .i64 1))] },
  { dst := some 4, k := .mv, xs := [.t 16] }]
def F40c32 : Ac := (.ops F40o32)
def F40c15 : Ac := (.seq (.block 1 (.seq (.ops F40o18) F40c19)) F40c32)
def F40l8 : Ac := (.seq (.seq (.ops F40o11) F40c12) F40c15)
def F40c7 : Ac := (.block 0 (.loop (.seq (.gh []) (.seq (.keep [0, 3, 4] [[6]]) F40l8))))
def F40o34 : List Ao := [
  { dst := some 86, k := .mv, xs := [.t 3] },
  { dst := some 2, k := .mv, xs := [.t 86] }]
def F40c35 : Ac := (.seq (.gh [.frz 2]) .ret)
def F40b33 : Ac := (.seq (.ops F40o34) F40c35)
def F40c33 : Ac := (.seq (.gh []) (.seq (.keep [3] [[6]]) F40b33))
def F40c4 : Ac := (.seq (.seq (.ops F40o6) F40c7) F40c33)
def F40c2 : Ac := (.seq (.ops F40o3) F40c4)
def F40c0 : Ac := (.seq (.ops F40o1) F40c2)
/-- hansom/hansomlaw41.near -/
def F40 : Fn := { np := 1, pb := [], rs := [.t 2], body := F40c0 }
def F41o1 : List Ao := [
  { dst := some 2, k := .mv, xs := [.c (.nils)] }]
def F41o3 : List Ao := [
  { dst := some 3, k := .mv, xs := [.c (.nils)] }]
def F41o6 : List Ao := [
  { dst := some 6, k := .mv, xs := [.t 0] },
  { dst := some 7, k := .lenL, xs := [.t 6] },
  { dst := some 8, k := .mv, xs := [.c (.d (.int .i64 0))] }]
def F41o10 : List Ao := [
  { dst := some 9, k := (.bin .lss), xs := [.t 8, .t 7] }]
def F41o18 : List Ao := [
  { dst := some 10, k := .mv, xs := [.t 8] },
  { dst := some 4, k := .mv, xs := [.t 10] }]
def F41o20 : List Ao := [
  { dst := some 11, k := .mv, xs := [.t 0] },
  { dst := some 12, k := .lenL, xs := [.t 11] },
  { dst := some 13, k := .mv, xs := [.c (.d (.int .i64 0))] }]
def F41o24 : List Ao := [
  { dst := some 14, k := (.bin .lss), xs := [.t 13, .t 12] }]
def F41o32 : List Ao := [
  { dst := some 15, k := .mv, xs := [.t 13] },
  { dst := some 5, k := .mv, xs := [.t 15] }]
def F41o34 : List Ao := [
  { dst := some 16, k := .mv, xs := [.t 0] },
  { dst := some 17, k := .mv, xs := [.t 5] },
  { dst := some 18, k := (.iaddrS 8), xs := [.t 16, .t 17] },
  { dst := some 19, k := (.faddr 1), xs := [.t 18] },
  { dst := some 20, k := (.load none), xs := [.t 19] },
  { dst := some 21, k := .mv, xs := [.t 0] },
  { dst := some 22, k := .mv, xs := [.t 4] },
  { dst := some 23, k := (.iaddrS 8), xs := [.t 21, .t 22] },
  { dst := some 24, k := (.faddr 1), xs := [.t 23] },
  { dst := some 25, k := (.load none), xs := [.t 24] },
  { dst := some 26, k := (.bin .eql), xs := [.t 20, .t 25] },
  { dst := some 27, k := .mv, xs := [.t 26] },
  { dst := some 28, k := .mv, xs := [.t 3], g := some (27, true) },
  { dst := some 29, k := .mv, xs := [.t 5], g := some (27, true) },
  { dst := some 30, k := (.callf 68), xs := [.t 28, .t 29], g := some (27, true) },
  { dst := some 31, k := (.un .not), xs := [.t 30], g := some (27, true) },
  { dst := some 32, k := .pick, xs := [.t 27, .t 31, .c (.d (.bool false))] }]
def F41o36 : List Ao := [
  { dst := some 33, k := .mv, xs := [.t 3] },
  { dst := some 34, k := .mv, xs := [.t 5] },
  { dst := some 35, k := (.bslice (.int .i64 0) 1 [0]), xs := [.t 34] },
  { dst := some 36, k := (.append 1 8 false), xs := [.t 33, .t 35] },
  { dst := some 3, k := .mv, xs := [.t 36] }]
def F41c35 : Ac := (.cond (.t 32) (.ops F41o36) .skip)
def F41c33 : Ac := (.seq (.ops F41o34) F41c35)
def F41o38 : List Ao := [
  { dst := some 37, k := (.bin .add), xs := [.t 13, .c (.d (.int .i64 1))] },
  { dst := some 13, k := .mv, xs := [.t 37] }]
def F41c38 : Ac := (.ops F41o38)
def F41c29 : Ac := (.seq (.block 3 (.seq (.ops F41o32) F41c33)) F41c38)
def F41c25 : Ac := (.seq (.cond (.t 14) .skip (.exit 2)) F41c29)
def F41l22 : Ac := (.seq (.ops F41o24) F41c25)
def F41c21 : Ac := (.block 2 (.loop (.seq (.gh []) (.seq (.keep [0, 3, 4, 7, 8, 12, 13] [[3]]) F41l22))))
def F41c19 : Ac := (.seq (.ops F41o20) F41c21)
def F41o39 : List Ao := [
  { dst := some 38, k := (.bin .add), xs := [.t 8, .c (.d (.int .i64 1))] },
  { dst := some 8, k := .mv, xs := [.t 38] }]
def F41b39 : Ac := (.ops F41o39)
def F41c39 : Ac := (.seq (.gh []) (.seq (.keep [0, 3, 7, 8] [[3]]) F41b39))
def F41c15 : Ac := (.seq (.block 1 (.seq (.ops F41o18) F41c19)) F41c39)
def F41c11 : Ac := (.seq (.cond (.t 9) .skip (.exit 0)) F41c15)
def F41l8 : Ac := (.seq (.ops F41o10) F41c11)
def F41c7 : Ac := (.block 0 (.loop (.seq (.gh []) (.seq (.keep [0, 3, 7, 8] [[3]]) F41l8))))
def F41o41 : List Ao := [
  { dst := some 39, k := .mv, xs := [.t 3] },
  { dst := some 2, k := .mv, xs := [.t 39] }]
def F41c42 : Ac := (.seq (.gh [.frz 2]) .ret)
def F41b40 : Ac := (.seq (.ops F41o41) F41c42)
def F41c40 : Ac := (.seq (.gh []) (.seq (.keep [3] [[3]]) F41b40))
def F41b4 : Ac := (.seq (.seq (.ops F41o6) F41c7) F41c40)
def F41c4 : Ac := (.seq (.gh [.own 3 [3] 1]) (.seq (.keep [0, 3] [[3]]) F41b4))
def F41c2 : Ac := (.seq (.ops F41o3) F41c4)
def F41c0 : Ac := (.seq (.ops F41o1) F41c2)
/-- hansom/lay.Order -/
def F41 : Fn := { np := 1, pb := [], rs := [.t 2], body := F41c0 }
def F42o1 : List Ao := [
  { dst := some 2, k := (.alloc [.nils, .nils, .nils, .d (.int .i64 0)]), xs := [] },
  { dst := some 3, k := .mv, xs := [.c (.d (.int .i64 0))] }]
def F42o3 : List Ao := [
  { dst := some 8, k := .mv, xs := [.t 0] },
  { dst := some 9, k := .lenL, xs := [.t 8] },
  { dst := some 10, k := (.mkslice (.int .i64 0) 8), xs := [.t 9, .t 9], av := [[13], [4]] },
  { dst := some 11, k := .mv, xs := [.t 0] },
  { dst := some 12, k := .lenL, xs := [.t 11] },
  { dst := some 13, k := (.mkslice (.bool false) 1), xs := [.t 12, .t 12], av := [[10], [4]] },
  { dst := some 14, k := (.build [.nils, .nils, .nils, .d (.int .i64 0)] [(0, 1), (1, 1)]), xs := [.t 10, .t 13] },
  { dst := some 4, k := (.alloc [.nils, .nils, .nils, .d (.int .i64 0)]), xs := [], av := [[10], [13]] },
  { dst := none, k := (.store 4), xs := [.t 4, .t 14] }]
def F42o6 : List Ao := [
  { dst := some 15, k := .mv, xs := [.t 0] },
  { dst := some 16, k := (.callf 41), xs := [.t 15] },
  { dst := some 17, k := .lenL, xs := [.t 16] },
  { dst := some 18, k := .mv, xs := [.c (.d (.int .i64 0))] }]
def F42o10 : List Ao := [
  { dst := some 19, k := (.bin .lss), xs := [.t 18, .t 17] }]
def F42o18 : List Ao := [
  { dst := some 20, k := (.iaddrS 1), xs := [.t 16, .t 18] },
  { dst := some 21, k := (.load none), xs := [.t 20] },
  { dst := some 6, k := .mv, xs := [.t 21] }]
def F42o20 : List Ao := [
  { dst := some 22, k := .mv, xs := [.t 0] },
  { dst := some 23, k := .mv, xs := [.t 6] },
  { dst := some 24, k := (.iaddrS 8), xs := [.t 22, .t 23] },
  { dst := some 25, k := (.load (some 8)), xs := [.t 24] },
  { dst := some 7, k := (.alloc [.d (.str []), .d (.str []), .d (.int .i64 0), .d (.int .i64 0), .d (.int .u16 0), .d (.int .u8 0), .d (.int .i64 0), .nils]), xs := [] },
  { dst := none, k := (.store 8), xs := [.t 7, .t 25] }]
def F42o23 : List Ao := [
  { dst := some 26, k := (.faddr 2), xs := [.t 7] },
  { dst := some 27, k := (.load none), xs := [.t 26] },
  { dst := some 28, k := (.bin .eql), xs := [.t 27, .c (.d (.int .i64 0))] }]
def F42o26 : List Ao := [
  { dst := some 29, k := (.faddr 0), xs := [.t 4] },
  { dst := some 30, k := (.load none), xs := [.t 29] },
  { dst := some 31, k := .mv, xs := [.t 6] },
  { dst := some 32, k := (.faddr 1), xs := [.t 4] },
  { dst := some 33, k := (.load none), xs := [.t 32], av := [[10], [13]] },
  { dst := some 34, k := .mv, xs := [.t 6] },
  { dst := some 35, k := (.faddr 4), xs := [.t 7] },
  { dst := some 36, k := (.load none), xs := [.t 35] },
  { dst := some 37, k := (.toInt .i64), xs := [.t 36] },
  { dst := some 38, k := (.bin .shl), xs := [.t 37, .c (.d (.int .u64 4))] },
  { dst := some 39, k := (.faddr 5), xs := [.t 7] },
  { dst := some 40, k := (.load none), xs := [.t 39] },
  { dst := some 41, k := (.toInt .i64), xs := [.t 40] },
  { dst := some 42, k := (.bin .add), xs := [.t 38, .t 41] },
  { dst := some 43, k := (.iaddrS 1), xs := [.t 30, .t 31] },
  { dst := none, k := (.store 1), xs := [.t 43, .t 42], al := some [[10], [13]] },
  { dst := some 44, k := (.iaddrS 1), xs := [.t 33, .t 34] },
  { dst := none, k := (.store 1), xs := [.t 44, .c (.d (.bool true))] }]
def F42c27 : Ac := (.exit 1)
def F42c24 : Ac := (.cond (.t 28) (.seq (.ops F42o26) F42c27) .skip)
def F42o30 : List Ao := [
  { dst := some 45, k := (.faddr 0), xs := [.t 4] },
  { dst := some 46, k := (.load none), xs := [.t 45], av := [[52], [53]] },
  { dst := some 47, k := .mv, xs := [.t 6] },
  { dst := some 48, k := (.faddr 3), xs := [.t 4] },
  { dst := some 49, k := (.load none), xs := [.t 48], av := [[52]] },
  { dst := some 50, k := (.faddr 2), xs := [.t 7] },
  { dst := some 51, k := (.load none), xs := [.t 50] },
  { dst := some 52, k := (.callf 70), xs := [.t 51], al := some [] },
  { dst := some 53, k := (.callf 69), xs := [.t 49, .t 52], al := some [] },
  { dst := some 54, k := (.iaddrS 1), xs := [.t 46, .t 47] },
  { dst := none, k := (.store 1), xs := [.t 54, .t 53] }]
def F42o32 : List Ao := [
  { dst := some 55, k := (.faddr 0), xs := [.t 4] },
  { dst := some 56, k := (.load none), xs := [.t 55] },
  { dst := some 57, k := .mv, xs := [.t 6] },
  { dst := some 58, k := (.iaddrS 1), xs := [.t 56, .t 57] },
  { dst := some 59, k := (.load none), xs := [.t 58] },
  { dst := some 60, k := (.faddr 6), xs := [.t 7] },
  { dst := some 61, k := (.load none), xs := [.t 60] },
  { dst := some 62, k := (.bin .add), xs := [.t 59, .t 61] },
  { dst := some 63, k := (.faddr 3), xs := [.t 4] },
  { dst := none, k := (.store 1), xs := [.t 63, .t 62] }]
def F42o34 : List Ao := [
  { dst := some 64, k := (.faddr 3), xs := [.t 4] },
  { dst := some 65, k := (.load none), xs := [.t 64] },
  { dst := some 66, k := (.bin .gtr), xs := [.t 65, .c (.d (.int .i64 655360))] }]
def F42o37 : List Ao := [
  { dst := some 67, k := (.build [.nils, .nils, .nils, .d (.int .i64 0)] []), xs := [] },
  { dst := none, k := (.store 4), xs := [.t 2, .t 67] },
  { dst := some 3, k := .mv, xs := [.c (.d (.int .i64 8))] }]
def F42c38 : Ac := (.seq (.gh [.frzB [2] 0, .frzB [2] 1, .frzB [2] 2]) .ret)
def F42c35 : Ac := (.cond (.t 66) (.seq (.ops F42o37) F42c38) .skip)
def F42c33 : Ac := (.seq (.ops F42o34) F42c35)
def F42c31 : Ac := (.seq (.ops F42o32) F42c33)
def F42c29 : Ac := (.seq (.ops F42o30) F42c31)
def F42c21 : Ac := (.seq (.seq (.ops F42o23) F42c24) F42c29)
def F42c19 : Ac := (.seq (.ops F42o20) F42c21)
def F42o40 : List Ao := [
  { dst := some 68, k := (.bin .add), xs := [.t 18, .c (.d (.int .i64 1))] },
  { dst := some 18, k := .mv, xs := [.t 68] }]
def F42c40 : Ac := (.ops F42o40)
def F42c15 : Ac := (.seq (.block 1 (.seq (.ops F42o18) F42c19)) F42c40)
def F42c11 : Ac := (.seq (.cond (.t 19) .skip (.exit 0)) F42c15)
def F42l8 : Ac := (.seq (.ops F42o10) F42c11)
def F42c7 : Ac := (.block 0 (.loop (.seq (.gh []) (.seq (.keep [0, 2, 4, 16, 17, 18] [[2], [4], [10], [13]]) F42l8))))
def F42o42 : List Ao := [
  { dst := some 69, k := (.load (some 4)), xs := [.t 4] },
  { dst := none, k := (.store 4), xs := [.t 2, .t 69] },
  { dst := some 3, k := .mv, xs := [.c (.d (.int .i64 0))] }]
def F42c43 : Ac := (.seq (.gh [.frzB [2] 0, .frzB [2] 1, .frzB [2] 2]) .ret)
def F42b41 : Ac := (.seq (.ops F42o42) F42c43)
def F42c41 : Ac := (.seq (.gh []) (.seq (.keep [2, 4] [[2], [4], [10], [13]]) F42b41))
def F42c4 : Ac := (.seq (.seq (.ops F42o6) F42c7) F42c41)
def F42c2 : Ac := (.seq (.ops F42o3) F42c4)
def F42c0 : Ac := (.seq (.ops F42o1) F42c2)
/-- hansom/lay.Place -/
def F42 : Fn := { np := 1, pb := [], rs := [.c 2 (some 4), .t 3], body := F42c0 }
def F43o1 : List Ao := [
  { dst := some 4, k := .mv, xs := [.c (.d (.int .i64 0))] }]
def F43o3 : List Ao := [
  { dst := some 5, k := .mv, xs := [.c (.d (.bool false))] }]
def F43o6 : List Ao := [
  { dst := some 6, k := .mv, xs := [.c (.d (.int .i64 1))] }]
def F43o11 : List Ao := [
  { dst := some 7, k := .mv, xs := [.t 6] },
  { dst := some 8, k := (.bin .leq), xs := [.t 7, .c (.d (.int .i64 4096))] }]
def F43c12 : Ac := (.cond (.t 8) .skip (.exit 0))
def F43o17 : List Ao := [
  { dst := some 11, k := .mv, xs := [.t 5] },
  { dst := some 12, k := .mv, xs := [.t 11] },
  { dst := some 13, k := .mv, xs := [.t 1], g := some (12, false) },
  { dst := some 14, k := .mv, xs := [.t 6], g := some (12, false) },
  { dst := some 15, k := (.bin .eql), xs := [.t 13, .t 14], g := some (12, false) },
  { dst := some 16, k := .pick, xs := [.t 12, .c (.d (.bool true)), .t 15] },
  { dst := some 5, k := .mv, xs := [.t 16] }]
def F43o18 : List Ao := [
  { dst := some 9, k := .mv, xs := [.t 6] },
  { dst := some 10, k := (.bin .mul), xs := [.t 9, .c (.d (.int .i64 2))] },
  { dst := some 6, k := .mv, xs := [.t 10] }]
def F43c18 : Ac := (.ops F43o18)
def F43c15 : Ac := (.seq (.block 1 (.ops F43o17)) F43c18)
def F43l8 : Ac := (.seq (.seq (.ops F43o11) F43c12) F43c15)
def F43c7 : Ac := (.block 0 (.loop (.seq (.gh []) (.seq (.keep [0, 1, 5, 6] []) F43l8))))
def F43o21 : List Ao := [
  { dst := some 17, k := .mv, xs := [.t 5] },
  { dst := some 18, k := (.un .not), xs := [.t 17] }]
def F43o23 : List Ao := [
  { dst := some 1, k := .mv, xs := [.c (.d (.int .i64 1))] }]
def F43c22 : Ac := (.cond (.t 18) (.ops F43o23) .skip)
def F43o27 : List Ao := [
  { dst := some 19, k := .mv, xs := [.t 0] },
  { dst := some 20, k := (.bin .lss), xs := [.t 19, .c (.d (.int .i64 0))] }]
def F43o29 : List Ao := [
  { dst := some 0, k := .mv, xs := [.c (.d (.int .i64 0))] }]
def F43c28 : Ac := (.cond (.t 20) (.ops F43o29) .skip)
def F43o33 : List Ao := [
  { dst := some 21, k := .mv, xs := [.t 0] },
  { dst := some 22, k := (.bin .gtr), xs := [.t 21, .c (.d (.int .i64 16777216))] }]
def F43o35 : List Ao := [
  { dst := some 0, k := .mv, xs := [.c (.d (.int .i64 16777216))] }]
def F43c34 : Ac := (.cond (.t 22) (.ops F43o35) .skip)
def F43o38 : List Ao := [
  { dst := some 23, k := .mv, xs := [.t 0] },
  { dst := some 24, k := .mv, xs := [.t 1] },
  { dst := some 25, k := (.bin .add), xs := [.t 23, .t 24] },
  { dst := some 26, k := (.bin .sub), xs := [.t 25, .c (.d (.int .i64 1))] },
  { dst := some 27, k := .mv, xs := [.t 1] },
  { dst := some 28, k := (.bin .quo), xs := [.t 26, .t 27] },
  { dst := some 29, k := .mv, xs := [.t 1] },
  { dst := some 30, k := (.bin .mul), xs := [.t 28, .t 29] },
  { dst := some 4, k := .mv, xs := [.t 30] }]
def F43c39 : Ac := .ret
def F43c37 : Ac := (.seq (.ops F43o38) F43c39)
def F43c31 : Ac := (.seq (.seq (.ops F43o33) F43c34) F43c37)
def F43b25 : Ac := (.seq (.seq (.ops F43o27) F43c28) F43c31)
def F43c25 : Ac := (.seq (.gh []) (.seq (.keep [0, 1] []) F43b25))
def F43b19 : Ac := (.seq (.seq (.ops F43o21) F43c22) F43c25)
def F43c19 : Ac := (.seq (.gh []) (.seq (.keep [0, 1, 5] []) F43b19))
def F43c4 : Ac := (.seq (.seq (.ops F43o6) F43c7) F43c19)
def F43c2 : Ac := (.seq (.ops F43o3) F43c4)
def F43c0 : Ac := (.seq (.ops F43o1) F43c2)
/-- hansom/hansomref01.Up -/
def F43 : Fn := { np := 2, pb := [], rs := [.t 4], body := F43c0 }
def F44o1 : List Ao := [
  { dst := some 2, k := (.box 4), xs := [.t 0] },
  { dst := some 4, k := .mv, xs := [.c (.d (.int .i64 0))] }]
def F44o4 : List Ao := [
  { dst := some 5, k := .mv, xs := [.t 1] },
  { dst := some 6, k := (.bin .lss), xs := [.t 5, .c (.d (.int .i64 0))] },
  { dst := some 7, k := .mv, xs := [.t 6] },
  { dst := some 8, k := .mv, xs := [.t 1], g := some (7, false) },
  { dst := some 9, k := (.faddr 0), xs := [.t 2], g := some (7, false) },
  { dst := some 10, k := (.load none), xs := [.t 9], g := some (7, false) },
  { dst := some 11, k := .lenL, xs := [.t 10], g := some (7, false) },
  { dst := some 12, k := (.bin .geq), xs := [.t 8, .t 11], g := some (7, false) },
  { dst := some 13, k := .pick, xs := [.t 7, .c (.d (.bool true)), .t 12] }]
def F44o7 : List Ao := [
  { dst := some 4, k := .mv, xs := [.c (.d (.int .i64 0))] }]
def F44c8 : Ac := .ret
def F44c5 : Ac := (.cond (.t 13) (.seq (.ops F44o7) F44c8) .skip)
def F44o11 : List Ao := [
  { dst := some 14, k := (.faddr 0), xs := [.t 2] },
  { dst := some 15, k := (.load none), xs := [.t 14] },
  { dst := some 16, k := .mv, xs := [.t 1] },
  { dst := some 17, k := (.iaddrS 1), xs := [.t 15, .t 16] },
  { dst := some 18, k := (.load none), xs := [.t 17] },
  { dst := some 19, k := (.bin .shr), xs := [.t 18, .c (.d (.int .u64 4))] },
  { dst := some 4, k := .mv, xs := [.t 19] }]
def F44c12 : Ac := .ret
def F44c10 : Ac := (.seq (.ops F44o11) F44c12)
def F44c2 : Ac := (.seq (.seq (.ops F44o4) F44c5) F44c10)
def F44c0 : Ac := (.seq (.ops F44o1) F44c2)
/-- hansom/lay.Para -/
def F44 : Fn := { np := 2, pb := [], rs := [.t 4], body := F44c0 }
def F45o1 : List Ao := [
  { dst := some 0, k := .mv, xs := [.c (.d (.bool false))] }]
def F45o3 : List Ao := [
  { dst := some 4, k := (.build [.d (.str []), .d (.str []), .d (.int .i64 0), .d (.int .i64 0), .d (.int .u16 0), .d (.int .u8 0), .d (.int .i64 0), .nils] [(2, 1), (6, 1)]), xs := [.c (.d (.int .i64 3)), .c (.d (.int .i64 20))] },
  { dst := some 5, k := (.build [.d (.str []), .d (.str []), .d (.int .i64 0), .d (.int .i64 0), .d (.int .u16 0), .d (.int .u8 0), .d (.int .i64 0), .nils] [(2, 1), (6, 1)]), xs := [.c (.d (.int .i64 3)), .c (.d (.int .i64 20))] },
  { dst := some 6, k := (.bslice (.agg [.str [], .str [], .int .i64 0, .int .i64 0, .int .u16 0, .int .u8 0, .int .i64 0, .sl []]) 2 [0, 1]), xs := [.t 4, .t 5] },
  { dst := some 7, k := (.callf 42), xs := [.t 6] },
  { dst := some 3, k := .mv, xs := [.t 7] },
  { dst := some 8, k := (.extract 0), xs := [.t 3] },
  { dst := some 9, k := (.extract 1), xs := [.t 3] },
  { dst := some 1, k := (.alloc [.nils, .nils, .nils, .d (.int .i64 0)]), xs := [] },
  { dst := none, k := (.store 4), xs := [.t 1, .t 8] },
  { dst := some 2, k := .mv, xs := [.t 9] }]
def F45o5 : List Ao := [
  { dst := some 10, k := .mv, xs := [.t 2] },
  { dst := some 11, k := (.bin .eql), xs := [.t 10, .c (.d (.int .i64 0))] },
  { dst := some 12, k := .mv, xs := [.t 11] },
  { dst := some 13, k := (.faddr 0), xs := [.t 1], g := some (12, true) },
  { dst := some 14, k := (.load none), xs := [.t 13], g := some (12, true) },
  { dst := some 15, k := .lenL, xs := [.t 14], g := some (12, true) },
  { dst := some 16, k := (.bin .eql), xs := [.t 15, .c (.d (.int .i64 2))], g := some (12, true) },
  { dst := some 17, k := .pick, xs := [.t 12, .t 16, .c (.d (.bool false))] },
  { dst := some 18, k := .mv, xs := [.t 17] },
  { dst := some 19, k := (.faddr 0), xs := [.t 1], g := some (18, true) },
  { dst := some 20, k := (.load none), xs := [.t 19], g := some (18, true) },
  { dst := some 21, k := (.iaddrS 1), xs := [.t 20, .c (.d (.int .i64 1))], g := some (18, true) },
  { dst := some 22, k := (.load none), xs := [.t 21], g := some (18, true) },
  { dst := some 23, k := (.bin .eql), xs := [.t 22, .c (.d (.int .i64 32))], g := some (18, true) },
  { dst := some 24, k := .pick, xs := [.t 18, .t 23, .c (.d (.bool false))] },
  { dst := some 25, k := .mv, xs := [.t 24] },
  { dst := some 26, k := (.faddr 3), xs := [.t 1], g := some (25, true) },
  { dst := some 27, k := (.load none), xs := [.t 26], g := some (25, true) },
  { dst := some 28, k := (.bin .eql), xs := [.t 27, .c (.d (.int .i64 52))], g := some (25, true) },
  { dst := some 29, k := .pick, xs := [.t 25, .t 28, .c (.d (.bool false))] },
  { dst := some 30, k := .mv, xs := [.t 29] },
  { dst := some 31, k := (.load (some 4)), xs := [.t 1], g := some (30, true) },
  { dst := some 32, k := (.callf 44), xs := [.t 31, .c (.d (.int .i64 1))], g := some (30, true) },
  { dst := some 33, k := (.bin .eql), xs := [.t 32, .c (.d (.int .i64 2))], g := some (30, true) },
  { dst := some 34, k := .pick, xs := [.t 30, .t 33, .c (.d (.bool false))] },
  { dst := some 35, k := .mv, xs := [.t 34] },
  { dst := some 36, k := (.build [.d (.str []), .d (.str []), .d (.int .i64 0), .d (.int .i64 0), .d (.int .u16 0), .d (.int .u8 0), .d (.int .i64 0), .nils] [(3, 1), (6, 1)]), xs := [.c (.d (.int .i64 5)), .c (.d (.int .i64 1))], g := some (35, true) },
  { dst := some 37, k := (.bslice (.agg [.str [], .str [], .int .i64 0, .int .i64 0, .int .u16 0, .int .u8 0, .int .i64 0, .sl []]) 1 [0]), xs := [.t 36], g := some (35, true) },
  { dst := some 38, k := (.callf 46), xs := [.t 37], g := some (35, true) },
  { dst := some 39, k := (.bin .eql), xs := [.t 38, .c (.d (.int .i64 0))], g := some (35, true) },
  { dst := some 40, k := .pick, xs := [.t 35, .t 39, .c (.d (.bool false))] },
  { dst := some 0, k := .mv, xs := [.t 40] }]
def F45c6 : Ac := .ret
def F45c4 : Ac := (.seq (.ops F45o5) F45c6)
def F45c2 : Ac := (.seq (.ops F45o3) F45c4)
def F45c0 : Ac := (.seq (.ops F45o1) F45c2)
/-- hansom/hansomlaw41.awake -/
def F45 : Fn := { np := 0, pb := [], rs := [.t 0], body := F45c0 }
def F46o1 : List Ao := [
  { dst := some 2, k := .mv, xs := [.c (.d (.int .i64 0))] }]
def F46o3 : List Ao := [
  { dst := some 3, k := .mv, xs := [.t 0] },
  { dst := some 4, k := (.callf 71), xs := [.t 3, .c (.fn 72 [])] },
  { dst := some 2, k := .mv, xs := [.t 4] }]
def F46c4 : Ac := .ret
def F46c2 : Ac := (.seq (.ops F46o3) F46c4)
def F46c0 : Ac := (.seq (.ops F46o1) F46c2)
/-- hansom/lay.Stack -/
def F46 : Fn := { np := 1, pb := [], rs := [.t 2], body := F46c0 }
def F68o1 : List Ao := [
  { dst := some 4, k := .mv, xs := [.c (.d (.bool false))] }]
def F68o3 : List Ao := [
  { dst := some 5, k := .mv, xs := [.t 0] },
  { dst := some 6, k := .mv, xs := [.t 1] },
  { dst := some 7, k := (.callf 80), xs := [.t 5, .t 6] },
  { dst := some 8, k := (.bin .geq), xs := [.t 7, .c (.d (.int .i64 0))] },
  { dst := some 4, k := .mv, xs := [.t 8] }]
def F68c4 : Ac := .ret
def F68c2 : Ac := (.seq (.ops F68o3) F68c4)
def F68c0 : Ac := (.seq (.ops F68o1) F68c2)
/-- slices.Contains[[]int,int] -/
def F68 : Fn := { np := 2, pb := [], rs := [.t 4], body := F68c0 }
def F69o1 : List Ao := [
  { dst := some 4, k := .mv, xs := [.c (.d (.int .i64 0))] }]
def F69o4 : List Ao := [
  { dst := some 5, k := .mv, xs := [.t 1] },
  { dst := some 6, k := (.bin .lss), xs := [.t 5, .c (.d (.int .i64 1))] },
  { dst := some 7, k := .mv, xs := [.t 6] },
  { dst := some 8, k := .mv, xs := [.t 1], g := some (7, false) },
  { dst := some 9, k := (.bin .gtr), xs := [.t 8, .c (.d (.int .i64 4096))], g := some (7, false) },
  { dst := some 10, k := .pick, xs := [.t 7, .c (.d (.bool true)), .t 9] },
  { dst := some 11, k := .mv, xs := [.t 10] },
  { dst := some 12, k := .mv, xs := [.t 1], g := some (11, false) },
  { dst := some 13, k := .mv, xs := [.t 1], g := some (11, false) },
  { dst := some 14, k := (.bin .sub), xs := [.t 13, .c (.d (.int .i64 1))], g := some (11, false) },
  { dst := some 15, k := (.bin .and), xs := [.t 12, .t 14], g := some (11, false) },
  { dst := some 16, k := (.bin .neq), xs := [.t 15, .c (.d (.int .i64 0))], g := some (11, false) },
  { dst := some 17, k := .pick, xs := [.t 11, .c (.d (.bool true)), .t 16] }]
def F69o6 : List Ao := [
  { dst := some 1, k := .mv, xs := [.c (.d (.int .i64 1))] }]
def F69c5 : Ac := (.cond (.t 17) (.ops F69o6) .skip)
def F69o9 : List Ao := [
  { dst := some 18, k := .mv, xs := [.t 0] },
  { dst := some 19, k := .mx, xs := [.t 18, .c (.d (.int .i64 0))] },
  { dst := some 20, k := .mn, xs := [.t 19, .c (.d (.int .i64 16777216))] },
  { dst := some 0, k := .mv, xs := [.t 20] }]
def F69o11 : List Ao := [
  { dst := some 21, k := .mv, xs := [.t 0] },
  { dst := some 22, k := .mv, xs := [.t 1] },
  { dst := some 23, k := (.bin .add), xs := [.t 21, .t 22] },
  { dst := some 24, k := (.bin .sub), xs := [.t 23, .c (.d (.int .i64 1))] },
  { dst := some 25, k := .mv, xs := [.t 1] },
  { dst := some 26, k := (.bin .sub), xs := [.t 25, .c (.d (.int .i64 1))] },
  { dst := some 27, k := (.bin .andNot), xs := [.t 24, .t 26] },
  { dst := some 4, k := .mv, xs := [.t 27] }]
def F69c12 : Ac := .ret
def F69c10 : Ac := (.seq (.ops F69o11) F69c12)
def F69c8 : Ac := (.seq (.ops F69o9) F69c10)
def F69c2 : Ac := (.seq (.seq (.ops F69o4) F69c5) F69c8)
def F69c0 : Ac := (.seq (.ops F69o1) F69c2)
/-- hansom/bits.Up -/
def F69 : Fn := { np := 2, pb := [], rs := [.t 4], body := F69c0 }
def F70o1 : List Ao := [
  { dst := some 2, k := .mv, xs := [.c (.d (.int .i64 0))] }]
def F70o4 : List Ao := [
  { dst := some 3, k := .mv, xs := [.t 0] }]
def F70o7 : List Ao := [
  { dst := some 5, k := (.bin .eql), xs := [.t 3, .c (.d (.int .i64 2))] },
  { dst := some 4, k := .mv, xs := [.t 5] }]
def F70o10 : List Ao := [
  { dst := some 2, k := .mv, xs := [.c (.d (.int .i64 2))] }]
def F70c11 : Ac := .ret
def F70o13 : List Ao := [
  { dst := some 7, k := (.bin .eql), xs := [.t 3, .c (.d (.int .i64 3))] },
  { dst := some 6, k := .mv, xs := [.t 7] }]
def F70o16 : List Ao := [
  { dst := some 2, k := .mv, xs := [.c (.d (.int .i64 16))] }]
def F70c17 : Ac := .ret
def F70o19 : List Ao := [
  { dst := some 9, k := (.bin .eql), xs := [.t 3, .c (.d (.int .i64 4))] },
  { dst := some 8, k := .mv, xs := [.t 9] }]
def F70o22 : List Ao := [
  { dst := some 2, k := .mv, xs := [.c (.d (.int .i64 256))] }]
def F70c23 : Ac := .ret
def F70c20 : Ac := (.cond (.t 8) (.seq (.ops F70o22) F70c23) .skip)
def F70c14 : Ac := (.cond (.t 6) (.seq (.ops F70o16) F70c17) (.seq (.ops F70o19) F70c20))
def F70c8 : Ac := (.cond (.t 4) (.seq (.ops F70o10) F70c11) (.seq (.ops F70o13) F70c14))
def F70c5 : Ac := (.block 0 (.seq (.ops F70o7) F70c8))
def F70o26 : List Ao := [
  { dst := some 2, k := .mv, xs := [.c (.d (.int .i64 1))] }]
def F70c27 : Ac := .ret
def F70c25 : Ac := (.seq (.ops F70o26) F70c27)
def F70c2 : Ac := (.seq (.seq (.ops F70o4) F70c5) F70c25)
def F70c0 : Ac := (.seq (.ops F70o1) F70c2)
/-- hansom/segs.Step -/
def F70 : Fn := { np := 1, pb := [], rs := [.t 2], body := F70c0 }
def F71o1 : List Ao := [
  { dst := some 4, k := .mv, xs := [.c (.d (.int .i64 0))] }]
def F71o4 : List Ao := [
  { dst := some 6, k := .mv, xs := [.t 0] },
  { dst := some 7, k := .lenL, xs := [.t 6] },
  { dst := some 8, k := .mv, xs := [.c (.d (.int .i64 0))] }]
def F71o8 : List Ao := [
  { dst := some 9, k := (.bin .lss), xs := [.t 8, .t 7] }]
def F71o16 : List Ao := [
  { dst := some 10, k := .mv, xs := [.t 8] },
  { dst := some 5, k := .mv, xs := [.t 10] }]
def F71o18 : List Ao := [
  { dst := some 11, k := .mv, xs := [.t 1] },
  { dst := some 12, k := .mv, xs := [.t 0] },
  { dst := some 13, k := .mv, xs := [.t 5] },
  { dst := some 14, k := (.iaddrS 8), xs := [.t 12, .t 13] },
  { dst := some 15, k := (.load (some 8)), xs := [.t 14] },
  { dst := some 16, k := .callv, xs := [.t 11, .t 15] }]
def F71o21 : List Ao := [
  { dst := some 17, k := .mv, xs := [.t 5] },
  { dst := some 4, k := .mv, xs := [.t 17] }]
def F71c22 : Ac := .ret
def F71c19 : Ac := (.cond (.t 16) (.seq (.ops F71o21) F71c22) .skip)
def F71c17 : Ac := (.seq (.ops F71o18) F71c19)
def F71o24 : List Ao := [
  { dst := some 18, k := (.bin .add), xs := [.t 8, .c (.d (.int .i64 1))] },
  { dst := some 8, k := .mv, xs := [.t 18] }]
def F71c24 : Ac := (.ops F71o24)
def F71c13 : Ac := (.seq (.block 1 (.seq (.ops F71o16) F71c17)) F71c24)
def F71c9 : Ac := (.seq (.cond (.t 9) .skip (.exit 0)) F71c13)
def F71l6 : Ac := (.seq (.ops F71o8) F71c9)
def F71c5 : Ac := (.block 0 (.loop (.seq (.gh []) (.seq (.keep [0, 1, 7, 8] []) F71l6))))
def F71o26 : List Ao := [
  { dst := some 4, k := .mv, xs := [.c (.d (.int .i64 (-1)))] }]
def F71c27 : Ac := .ret
def F71b25 : Ac := (.seq (.ops F71o26) F71c27)
def F71c25 : Ac := (.seq (.gh []) (.seq (.keep [] []) F71b25))
def F71c2 : Ac := (.seq (.seq (.ops F71o4) F71c5) F71c25)
def F71c0 : Ac := (.seq (.ops F71o1) F71c2)
/-- slices.IndexFunc[[]hansom/api.Comb,hansom/api.Comb] -/
def F71 : Fn := { np := 2, pb := [], rs := [.t 4], body := F71c0 }
def F72o1 : List Ao := [
  { dst := some 1, k := (.box 8), xs := [.t 0] },
  { dst := some 2, k := .mv, xs := [.c (.d (.bool false))] }]
def F72o3 : List Ao := [
  { dst := some 3, k := (.faddr 3), xs := [.t 1] },
  { dst := some 4, k := (.load none), xs := [.t 3] },
  { dst := some 5, k := (.bin .eql), xs := [.t 4, .c (.d (.int .i64 5))] },
  { dst := some 6, k := .mv, xs := [.t 5] },
  { dst := some 7, k := (.faddr 6), xs := [.t 1], g := some (6, true) },
  { dst := some 8, k := (.load none), xs := [.t 7], g := some (6, true) },
  { dst := some 9, k := (.bin .gtr), xs := [.t 8, .c (.d (.int .i64 0))], g := some (6, true) },
  { dst := some 10, k := .pick, xs := [.t 6, .t 9, .c (.d (.bool false))] },
  { dst := some 2, k := .mv, xs := [.t 10] }]
def F72c4 : Ac := .ret
def F72c2 : Ac := (.seq (.ops F72o3) F72c4)
def F72c0 : Ac := (.seq (.ops F72o1) F72c2)
/-- hansom/lay.Stack$1 -/
def F72 : Fn := { np := 1, pb := [], rs := [.t 2], body := F72c0 }
def F80o1 : List Ao := [
  { dst := some 4, k := .mv, xs := [.c (.d (.int .i64 0))] }]
def F80o4 : List Ao := [
  { dst := some 6, k := .mv, xs := [.t 0] },
  { dst := some 7, k := .lenL, xs := [.t 6] },
  { dst := some 8, k := .mv, xs := [.c (.d (.int .i64 0))] }]
def F80o8 : List Ao := [
  { dst := some 9, k := (.bin .lss), xs := [.t 8, .t 7] }]
def F80o16 : List Ao := [
  { dst := some 10, k := .mv, xs := [.t 8] },
  { dst := some 5, k := .mv, xs := [.t 10] }]
def F80o18 : List Ao := [
  { dst := some 11, k := .mv, xs := [.t 1] },
  { dst := some 12, k := .mv, xs := [.t 0] },
  { dst := some 13, k := .mv, xs := [.t 5] },
  { dst := some 14, k := (.iaddrS 1), xs := [.t 12, .t 13] },
  { dst := some 15, k := (.load none), xs := [.t 14] },
  { dst := some 16, k := (.bin .eql), xs := [.t 11, .t 15] }]
def F80o21 : List Ao := [
  { dst := some 17, k := .mv, xs := [.t 5] },
  { dst := some 4, k := .mv, xs := [.t 17] }]
def F80c22 : Ac := .ret
def F80c19 : Ac := (.cond (.t 16) (.seq (.ops F80o21) F80c22) .skip)
def F80c17 : Ac := (.seq (.ops F80o18) F80c19)
def F80o24 : List Ao := [
  { dst := some 18, k := (.bin .add), xs := [.t 8, .c (.d (.int .i64 1))] },
  { dst := some 8, k := .mv, xs := [.t 18] }]
def F80c24 : Ac := (.ops F80o24)
def F80c13 : Ac := (.seq (.block 1 (.seq (.ops F80o16) F80c17)) F80c24)
def F80c9 : Ac := (.seq (.cond (.t 9) .skip (.exit 0)) F80c13)
def F80l6 : Ac := (.seq (.ops F80o8) F80c9)
def F80c5 : Ac := (.block 0 (.loop (.seq (.gh []) (.seq (.keep [0, 1, 7, 8] []) F80l6))))
def F80o26 : List Ao := [
  { dst := some 4, k := .mv, xs := [.c (.d (.int .i64 (-1)))] }]
def F80c27 : Ac := .ret
def F80b25 : Ac := (.seq (.ops F80o26) F80c27)
def F80c25 : Ac := (.seq (.gh []) (.seq (.keep [] []) F80b25))
def F80c2 : Ac := (.seq (.seq (.ops F80o4) F80c5) F80c25)
def F80c0 : Ac := (.seq (.ops F80o1) F80c2)
/-- slices.Index[[]int,int] -/
def F80 : Fn := { np := 2, pb := [], rs := [.t 4], body := F80c0 }
def tab1 : Nat → Option Fn
  | 10 => some F10
  | 11 => some F11
  | 40 => some F40
  | 41 => some F41
  | 42 => some F42
  | 43 => some F43
  | 44 => some F44
  | 45 => some F45
  | 46 => some F46
  | 68 => some F68
  | 69 => some F69
  | 70 => some F70
  | 71 => some F71
  | 72 => some F72
  | 80 => some F80
  | _ => none
noncomputable def L : Cs := lim tab1 (fun _ _ => none)

theorem no_globals : GOk (fun _ _ => none) (fun _ => none) := fun n a h => by cases h
theorem ok10 : FnOk (fun _ _ => none) Try.prog 10 F10 := compF_spec no_globals Try.func10 (by kernel_rfl)
theorem ok11 : FnOk (fun _ _ => none) Try.prog 11 F11 := compF_spec no_globals Try.func11 (by kernel_rfl)
theorem ok40 : FnOk (fun _ _ => none) Try.prog 40 F40 := compF_spec no_globals Try.func40 (by kernel_rfl)
theorem ok41 : FnOk (fun _ _ => none) Try.prog 41 F41 := compF_spec no_globals Try.func41 (by kernel_rfl)
theorem ok42 : FnOk (fun _ _ => none) Try.prog 42 F42 := compF_spec no_globals Try.func42 (by kernel_rfl)
theorem ok43 : FnOk (fun _ _ => none) Try.prog 43 F43 := compF_spec no_globals Try.func43 (by kernel_rfl)
theorem ok44 : FnOk (fun _ _ => none) Try.prog 44 F44 := compF_spec no_globals Try.func44 (by kernel_rfl)
theorem ok45 : FnOk (fun _ _ => none) Try.prog 45 F45 := compF_spec no_globals Try.func45 (by kernel_rfl)
theorem ok46 : FnOk (fun _ _ => none) Try.prog 46 F46 := compF_spec no_globals Try.func46 (by kernel_rfl)
theorem ok68 : FnOk (fun _ _ => none) Try.prog 68 F68 := compF_spec no_globals Try.func68 (by kernel_rfl)
theorem ok69 : FnOk (fun _ _ => none) Try.prog 69 F69 := compF_spec no_globals Try.func69 (by kernel_rfl)
theorem ok70 : FnOk (fun _ _ => none) Try.prog 70 F70 := compF_spec no_globals Try.func70 (by kernel_rfl)
theorem ok71 : FnOk (fun _ _ => none) Try.prog 71 F71 := compF_spec no_globals Try.func71 (by kernel_rfl)
theorem ok72 : FnOk (fun _ _ => none) Try.prog 72 F72 := compF_spec no_globals Try.func72 (by kernel_rfl)
theorem ok80 : FnOk (fun _ _ => none) Try.prog 80 F80 := compF_spec no_globals Try.func80 (by kernel_rfl)
theorem tab1_ok : ∀ f fn, tab1 f = some fn → FnOk (fun _ _ => none) Try.prog f fn := by
  intro f fn h
  unfold tab1 at h
  split at h <;> cases h
  · exact ok10
  · exact ok11
  · exact ok40
  · exact ok41
  · exact ok42
  · exact ok43
  · exact ok44
  · exact ok45
  · exact ok46
  · exact ok68
  · exact ok69
  · exact ok70
  · exact ok71
  · exact ok72
  · exact ok80
theorem meets1 (f : Nat) : Meets (fun _ _ => none) Try.prog f (L f) := lim_meets tab1_ok (fun f _ m w args vs bs _ _ _ _ _ r a h => by cases h) f

end Go.Es.Lay
