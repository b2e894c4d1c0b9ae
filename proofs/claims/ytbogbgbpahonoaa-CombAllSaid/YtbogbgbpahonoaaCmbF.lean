/- The code of the functions that the statement CombAdds, CombAll reaches, as the interpreter reads it. No condition. -/
import Derived.Test.YtbogbgbpahonoaaEsD
import Derived.Test.YtbogbgbpahonoaaChecked
import Derived.KernelRfl
set_option linter.unusedVariables false
set_option linter.unusedSimpArgs false
set_option maxRecDepth 100000
set_option maxHeartbeats 4000000
namespace Go.Es.Cmb
open Go.Proofs
def F13o1 : List Ao := [
  { dst := some 4, k := .mv, xs := [.c (.d (.bool false))] }]
def F13o3 : List Ao := [
  { dst := some 27, k := (.bslice (.agg [.str [], .str [], .int .i64 0, .int .i64 0, .int .u16 0, .int .u8 0, .int .i64 0, .sl []]) 0 []), xs := [] },
  { dst := some 28, k := (.bslice (.agg [.int .i64 0, .int .i64 0, .int .u16 0, .int .u8 0, .int .i64 0, .int .i64 0, .int .i64 0, .int .i64 0]) 0 []), xs := [] },
  { dst := some 5, k := .mv, xs := [.t 27] },
  { dst := some 6, k := .mv, xs := [.t 28] }]
def F13o6 : List Ao := [
  { dst := some 7, k := .mv, xs := [.c (.d (.int .i64 0))] }]
def F13o11 : List Ao := [
  { dst := some 29, k := .mv, xs := [.t 7] },
  { dst := some 30, k := .mv, xs := [.t 0] },
  { dst := some 31, k := .lenL, xs := [.t 30] },
  { dst := some 32, k := (.bin .lss), xs := [.t 29, .t 31] },
  { dst := some 33, k := .mv, xs := [.t 32] },
  { dst := some 34, k := .mv, xs := [.t 7], g := some (33, true) },
  { dst := some 35, k := (.bin .lss), xs := [.t 34, .c (.d (.int .i64 10))], g := some (33, true) },
  { dst := some 36, k := .pick, xs := [.t 33, .t 35, .c (.d (.bool false))] }]
def F13c12 : Ac := (.cond (.t 36) .skip (.exit 0))
def F13o18 : List Ao := [
  { dst := some 39, k := .mv, xs := [.t 0] },
  { dst := some 40, k := .mv, xs := [.t 7] },
  { dst := some 41, k := (.iaddrS 8), xs := [.t 39, .t 40] },
  { dst := some 42, k := (.load (some 8)), xs := [.t 41] },
  { dst := some 43, k := (.callf 49), xs := [.t 42] },
  { dst := some 8, k := (.alloc [.d (.int .i64 0), .d (.int .i64 0), .d (.int .u16 0), .d (.int .u8 0), .d (.int .i64 0), .d (.int .i64 0), .d (.int .i64 0), .d (.int .i64 0)]), xs := [] },
  { dst := none, k := (.store 8), xs := [.t 8, .t 43] },
  { dst := some 9, k := .mv, xs := [.c (.d (.int .i64 0))] }]
def F13o21 : List Ao := [
  { dst := some 44, k := .mv, xs := [.t 7] },
  { dst := some 45, k := .mv, xs := [.t 1] },
  { dst := some 46, k := .lenL, xs := [.t 45] },
  { dst := some 47, k := (.bin .lss), xs := [.t 44, .t 46] }]
def F13o23 : List Ao := [
  { dst := some 48, k := .mv, xs := [.t 1] },
  { dst := some 49, k := .mv, xs := [.t 7] },
  { dst := some 50, k := (.iaddrS 1), xs := [.t 48, .t 49] },
  { dst := some 51, k := (.load none), xs := [.t 50] },
  { dst := some 52, k := (.bin .and), xs := [.t 51, .c (.d (.int .i64 3))] },
  { dst := some 9, k := .mv, xs := [.t 52] }]
def F13c22 : Ac := (.cond (.t 47) (.ops F13o23) .skip)
def F13o26 : List Ao := [
  { dst := some 53, k := (.bslice (.str []) 2 [0, 1]), xs := [.c (.d (.str [65])), .c (.d (.str [66]))], av := [[58]] },
  { dst := some 54, k := .mv, xs := [.t 9] },
  { dst := some 55, k := (.bin .and), xs := [.t 54, .c (.d (.int .i64 1))] },
  { dst := some 56, k := (.iaddrS 1), xs := [.t 53, .t 55] },
  { dst := some 57, k := (.load none), xs := [.t 56], av := [[58]] },
  { dst := some 58, k := (.bslice (.str []) 2 [0, 1]), xs := [.c (.d (.str [88])), .c (.d (.str [89]))], av := [[53]] },
  { dst := some 59, k := .mv, xs := [.t 9] },
  { dst := some 60, k := (.bin .shr), xs := [.t 59, .c (.d (.int .u64 1))] },
  { dst := some 61, k := (.iaddrS 1), xs := [.t 58, .t 60] },
  { dst := some 62, k := (.load none), xs := [.t 61], av := [[53]] },
  { dst := some 10, k := .mv, xs := [.t 57] },
  { dst := some 11, k := .mv, xs := [.t 62] }]
def F13o28 : List Ao := [
  { dst := some 12, k := .mv, xs := [.c (.d (.int .i64 (-1)))] }]
def F13o31 : List Ao := [
  { dst := some 13, k := .mv, xs := [.c (.d (.int .i64 0))] }]
def F13o36 : List Ao := [
  { dst := some 63, k := .mv, xs := [.t 13] },
  { dst := some 64, k := .mv, xs := [.t 5] },
  { dst := some 65, k := .lenL, xs := [.t 64] },
  { dst := some 66, k := (.bin .lss), xs := [.t 63, .t 65] }]
def F13c37 : Ac := (.cond (.t 66) .skip (.exit 2))
def F13o43 : List Ao := [
  { dst := some 69, k := .mv, xs := [.t 12] },
  { dst := some 70, k := (.bin .lss), xs := [.t 69, .c (.d (.int .i64 0))] },
  { dst := some 71, k := .mv, xs := [.t 70] },
  { dst := some 72, k := (.faddr 0), xs := [.t 8], g := some (71, true) },
  { dst := some 73, k := (.load none), xs := [.t 72], g := some (71, true) },
  { dst := some 74, k := (.bin .neq), xs := [.t 73, .c (.d (.int .i64 0))], g := some (71, true) },
  { dst := some 75, k := .pick, xs := [.t 71, .t 74, .c (.d (.bool false))] },
  { dst := some 76, k := .mv, xs := [.t 75] },
  { dst := some 77, k := .mv, xs := [.t 5], g := some (76, true) },
  { dst := some 78, k := .mv, xs := [.t 13], g := some (76, true) },
  { dst := some 79, k := (.iaddrS 8), xs := [.t 77, .t 78], g := some (76, true) },
  { dst := some 80, k := (.faddr 2), xs := [.t 79], g := some (76, true) },
  { dst := some 81, k := (.load none), xs := [.t 80], g := some (76, true) },
  { dst := some 82, k := (.bin .neq), xs := [.t 81, .c (.d (.int .i64 0))], g := some (76, true) },
  { dst := some 83, k := .pick, xs := [.t 76, .t 82, .c (.d (.bool false))] },
  { dst := some 84, k := .mv, xs := [.t 83] },
  { dst := some 85, k := (.faddr 1), xs := [.t 8], g := some (84, true) },
  { dst := some 86, k := (.load none), xs := [.t 85], g := some (84, true) },
  { dst := some 87, k := (.bin .neq), xs := [.t 86, .c (.d (.int .i64 0))], g := some (84, true) },
  { dst := some 88, k := .pick, xs := [.t 84, .t 87, .c (.d (.bool false))] },
  { dst := some 89, k := .mv, xs := [.t 88] },
  { dst := some 90, k := .mv, xs := [.t 5], g := some (89, true) },
  { dst := some 91, k := .mv, xs := [.t 13], g := some (89, true) },
  { dst := some 92, k := (.iaddrS 8), xs := [.t 90, .t 91], g := some (89, true) },
  { dst := some 93, k := (.faddr 3), xs := [.t 92], g := some (89, true) },
  { dst := some 94, k := (.load none), xs := [.t 93], g := some (89, true) },
  { dst := some 95, k := (.faddr 1), xs := [.t 8], g := some (89, true) },
  { dst := some 96, k := (.load none), xs := [.t 95], g := some (89, true) },
  { dst := some 97, k := (.bin .eql), xs := [.t 94, .t 96], g := some (89, true) },
  { dst := some 98, k := .pick, xs := [.t 89, .t 97, .c (.d (.bool false))] },
  { dst := some 99, k := .mv, xs := [.t 98] },
  { dst := some 100, k := .mv, xs := [.t 5], g := some (99, true) },
  { dst := some 101, k := .mv, xs := [.t 13], g := some (99, true) },
  { dst := some 102, k := (.iaddrS 8), xs := [.t 100, .t 101], g := some (99, true) },
  { dst := some 103, k := (.faddr 0), xs := [.t 102], g := some (99, true) },
  { dst := some 104, k := (.load none), xs := [.t 103], g := some (99, true) },
  { dst := some 105, k := .mv, xs := [.t 10], g := some (99, true) },
  { dst := some 106, k := (.bin .eql), xs := [.t 104, .t 105], g := some (99, true) },
  { dst := some 107, k := .pick, xs := [.t 99, .t 106, .c (.d (.bool false))] },
  { dst := some 108, k := .mv, xs := [.t 107] },
  { dst := some 109, k := .mv, xs := [.t 5], g := some (108, true) },
  { dst := some 110, k := .mv, xs := [.t 13], g := some (108, true) },
  { dst := some 111, k := (.iaddrS 8), xs := [.t 109, .t 110], g := some (108, true) },
  { dst := some 112, k := (.faddr 1), xs := [.t 111], g := some (108, true) },
  { dst := some 113, k := (.load none), xs := [.t 112], g := some (108, true) },
  { dst := some 114, k := .mv, xs := [.t 11], g := some (108, true) },
  { dst := some 115, k := (.bin .eql), xs := [.t 113, .t 114], g := some (108, true) },
  { dst := some 116, k := .pick, xs := [.t 108, .t 115, .c (.d (.bool false))] }]
def F13o45 : List Ao := [
  { dst := some 117, k := .mv, xs := [.t 13] },
  { dst := some 12, k := .mv, xs := [.t 117] }]
def F13c44 : Ac := (.cond (.t 116) (.ops F13o45) .skip)
def F13o47 : List Ao := [
  { dst := some 67, k := .mv, xs := [.t 13] },
  { dst := some 68, k := (.bin .add), xs := [.t 67, .c (.d (.int .i64 1))] },
  { dst := some 13, k := .mv, xs := [.t 68] }]
def F13c47 : Ac := (.ops F13o47)
def F13c40 : Ac := (.seq (.block 3 (.seq (.ops F13o43) F13c44)) F13c47)
def F13l33 : Ac := (.seq (.seq (.ops F13o36) F13c37) F13c40)
def F13c32 : Ac := (.block 2 (.loop (.seq (.gh []) (.seq (.keep [0, 1, 5, 6, 7, 8, 10, 11, 12, 13] [[8], [28]]) F13l33))))
def F13o49 : List Ao := [
  { dst := some 14, k := .mv, xs := [.c (.d (.int .i64 0))] }]
def F13o52 : List Ao := [
  { dst := some 118, k := .mv, xs := [.t 12] },
  { dst := some 119, k := (.bin .geq), xs := [.t 118, .c (.d (.int .i64 0))] },
  { dst := some 120, k := .mv, xs := [.t 119] },
  { dst := some 121, k := (.faddr 1), xs := [.t 8], g := some (120, true) },
  { dst := some 122, k := (.load none), xs := [.t 121], g := some (120, true) },
  { dst := some 123, k := (.bin .neq), xs := [.t 122, .c (.d (.int .i64 6))], g := some (120, true) },
  { dst := some 124, k := .pick, xs := [.t 120, .t 123, .c (.d (.bool false))] }]
def F13o54 : List Ao := [
  { dst := some 125, k := .mv, xs := [.t 5] },
  { dst := some 126, k := .mv, xs := [.t 12] },
  { dst := some 127, k := (.iaddrS 8), xs := [.t 125, .t 126] },
  { dst := some 128, k := (.faddr 6), xs := [.t 127] },
  { dst := some 129, k := (.load none), xs := [.t 128], av := [[132]] },
  { dst := some 130, k := (.faddr 0), xs := [.t 8] },
  { dst := some 131, k := (.load none), xs := [.t 130] },
  { dst := some 132, k := (.callf 50), xs := [.t 131], al := some [] },
  { dst := some 133, k := (.callf 43), xs := [.t 129, .t 132] },
  { dst := some 14, k := .mv, xs := [.t 133] }]
def F13c53 : Ac := (.cond (.t 124) (.ops F13o54) .skip)
def F13o57 : List Ao := [
  { dst := some 135, k := .mv, xs := [.t 5] },
  { dst := some 136, k := .mv, xs := [.t 10] },
  { dst := some 137, k := .mv, xs := [.t 11] },
  { dst := some 138, k := (.load (some 8)), xs := [.t 8] },
  { dst := some 139, k := .mv, xs := [.t 7] },
  { dst := some 140, k := (.bin .add), xs := [.t 139, .c (.d (.int .i64 1))] },
  { dst := some 141, k := (.callf 51), xs := [.t 135, .t 136, .t 137, .t 138, .c (.d (.int .i64 7)), .t 140] },
  { dst := some 134, k := .mv, xs := [.t 141] },
  { dst := some 142, k := (.extract 0), xs := [.t 134] },
  { dst := some 143, k := (.extract 1), xs := [.t 134] },
  { dst := some 15, k := .mv, xs := [.t 142] },
  { dst := some 16, k := .mv, xs := [.t 143] }]
def F13o60 : List Ao := [
  { dst := some 144, k := .mv, xs := [.t 12] },
  { dst := some 145, k := (.bin .geq), xs := [.t 144, .c (.d (.int .i64 0))] },
  { dst := some 146, k := .mv, xs := [.t 145] },
  { dst := some 147, k := .mv, xs := [.t 14], g := some (146, true) },
  { dst := some 148, k := (.faddr 4), xs := [.t 8], g := some (146, true) },
  { dst := some 149, k := (.load none), xs := [.t 148], g := some (146, true) },
  { dst := some 150, k := (.bin .add), xs := [.t 147, .t 149], g := some (146, true) },
  { dst := some 151, k := (.bin .gtr), xs := [.t 150, .c (.d (.int .i64 65536))], g := some (146, true) },
  { dst := some 152, k := .pick, xs := [.t 146, .t 151, .c (.d (.bool false))] }]
def F13o64 : List Ao := [
  { dst := some 153, k := .mv, xs := [.t 16] },
  { dst := some 154, k := (.bin .neq), xs := [.t 153, .c (.d (.int .i64 8))] },
  { dst := some 155, k := .mv, xs := [.t 154] },
  { dst := some 156, k := .mv, xs := [.t 15], g := some (155, false) },
  { dst := some 157, k := .lenL, xs := [.t 156], g := some (155, false) },
  { dst := some 158, k := (.bin .neq), xs := [.t 157, .c (.d (.int .i64 0))], g := some (155, false) },
  { dst := some 159, k := .pick, xs := [.t 155, .c (.d (.bool true)), .t 158] }]
def F13o67 : List Ao := [
  { dst := some 4, k := .mv, xs := [.c (.d (.bool false))] }]
def F13c68 : Ac := .ret
def F13c65 : Ac := (.cond (.t 159) (.seq (.ops F13o67) F13c68) .skip)
def F13c70 : Ac := (.exit 1)
def F13c61 : Ac := (.cond (.t 152) (.seq (.seq (.ops F13o64) F13c65) F13c70) .skip)
def F13o74 : List Ao := [
  { dst := some 160, k := .mv, xs := [.t 16] },
  { dst := some 161, k := (.bin .neq), xs := [.t 160, .c (.d (.int .i64 0))] },
  { dst := some 162, k := .mv, xs := [.t 161] },
  { dst := some 163, k := .mv, xs := [.t 12], g := some (162, false) },
  { dst := some 164, k := (.bin .lss), xs := [.t 163, .c (.d (.int .i64 0))], g := some (162, false) },
  { dst := some 165, k := .mv, xs := [.t 164], g := some (162, false) },
  { dst := some 166, k := .mv, xs := [.t 15], g := some (165, true) },
  { dst := some 167, k := .lenL, xs := [.t 166], g := some (165, true) },
  { dst := some 168, k := .mv, xs := [.t 5], g := some (165, true) },
  { dst := some 169, k := .lenL, xs := [.t 168], g := some (165, true) },
  { dst := some 170, k := (.bin .add), xs := [.t 169, .c (.d (.int .i64 1))], g := some (165, true) },
  { dst := some 171, k := (.bin .neq), xs := [.t 167, .t 170], g := some (165, true) },
  { dst := some 172, k := .pick, xs := [.t 165, .t 171, .c (.d (.bool false))], g := some (162, false) },
  { dst := some 173, k := .pick, xs := [.t 162, .c (.d (.bool true)), .t 172] },
  { dst := some 174, k := .mv, xs := [.t 173] },
  { dst := some 175, k := .mv, xs := [.t 12], g := some (174, false) },
  { dst := some 176, k := (.bin .geq), xs := [.t 175, .c (.d (.int .i64 0))], g := some (174, false) },
  { dst := some 177, k := .mv, xs := [.t 176], g := some (174, false) },
  { dst := some 178, k := .mv, xs := [.t 15], g := some (177, true) },
  { dst := some 179, k := .lenL, xs := [.t 178], g := some (177, true) },
  { dst := some 180, k := .mv, xs := [.t 5], g := some (177, true) },
  { dst := some 181, k := .lenL, xs := [.t 180], g := some (177, true) },
  { dst := some 182, k := (.bin .neq), xs := [.t 179, .t 181], g := some (177, true) },
  { dst := some 183, k := .pick, xs := [.t 177, .t 182, .c (.d (.bool false))], g := some (174, false) },
  { dst := some 184, k := .pick, xs := [.t 174, .c (.d (.bool true)), .t 183] }]
def F13o77 : List Ao := [
  { dst := some 4, k := .mv, xs := [.c (.d (.bool false))] }]
def F13c78 : Ac := .ret
def F13c75 : Ac := (.cond (.t 184) (.seq (.ops F13o77) F13c78) .skip)
def F13o81 : List Ao := [
  { dst := some 185, k := .mv, xs := [.t 12] },
  { dst := some 17, k := .mv, xs := [.t 185] }]
def F13o84 : List Ao := [
  { dst := some 186, k := .mv, xs := [.t 12] },
  { dst := some 187, k := (.bin .lss), xs := [.t 186, .c (.d (.int .i64 0))] }]
def F13o86 : List Ao := [
  { dst := some 188, k := .mv, xs := [.t 5] },
  { dst := some 189, k := .lenL, xs := [.t 188] },
  { dst := some 17, k := .mv, xs := [.t 189] }]
def F13c85 : Ac := (.cond (.t 187) (.ops F13o86) .skip)
def F13o90 : List Ao := [
  { dst := some 190, k := .mv, xs := [.t 17] },
  { dst := some 191, k := .mv, xs := [.t 15] },
  { dst := some 192, k := .lenL, xs := [.t 191] },
  { dst := some 193, k := (.bin .geq), xs := [.t 190, .t 192] }]
def F13o93 : List Ao := [
  { dst := some 4, k := .mv, xs := [.c (.d (.bool false))] }]
def F13c94 : Ac := .ret
def F13c91 : Ac := (.cond (.t 193) (.seq (.ops F13o93) F13c94) .skip)
def F13o97 : List Ao := [
  { dst := some 194, k := .mv, xs := [.t 15] },
  { dst := some 195, k := .mv, xs := [.t 17] },
  { dst := some 196, k := (.iaddrS 8), xs := [.t 194, .t 195] },
  { dst := some 197, k := (.load (some 8)), xs := [.t 196] },
  { dst := some 18, k := (.alloc [.d (.str []), .d (.str []), .d (.int .i64 0), .d (.int .i64 0), .d (.int .u16 0), .d (.int .u8 0), .d (.int .i64 0), .nils]), xs := [] },
  { dst := none, k := (.store 8), xs := [.t 18, .t 197] }]
def F13o99 : List Ao := [
  { dst := some 198, k := (.faddr 0), xs := [.t 8] },
  { dst := some 199, k := (.load none), xs := [.t 198] },
  { dst := some 19, k := .mv, xs := [.c (.d (.int .i64 0))] },
  { dst := some 20, k := .mv, xs := [.t 199] }]
def F13o102 : List Ao := [
  { dst := some 200, k := .mv, xs := [.t 12] },
  { dst := some 201, k := (.bin .geq), xs := [.t 200, .c (.d (.int .i64 0))] }]
def F13o105 : List Ao := [
  { dst := some 202, k := .mv, xs := [.t 5] },
  { dst := some 203, k := .mv, xs := [.t 12] },
  { dst := some 204, k := (.iaddrS 8), xs := [.t 202, .t 203] },
  { dst := some 205, k := (.faddr 6), xs := [.t 204] },
  { dst := some 206, k := (.load none), xs := [.t 205] },
  { dst := some 19, k := .mv, xs := [.t 206] }]
def F13o107 : List Ao := [
  { dst := some 207, k := .mv, xs := [.t 5] },
  { dst := some 208, k := .mv, xs := [.t 12] },
  { dst := some 209, k := (.iaddrS 8), xs := [.t 207, .t 208] },
  { dst := some 210, k := (.faddr 2), xs := [.t 209] },
  { dst := some 211, k := (.load none), xs := [.t 210] },
  { dst := some 212, k := (.callf 50), xs := [.t 211], al := some [] },
  { dst := some 213, k := (.faddr 0), xs := [.t 8] },
  { dst := some 214, k := (.load none), xs := [.t 213], av := [[212]] },
  { dst := some 215, k := (.callf 50), xs := [.t 214] },
  { dst := some 216, k := (.bin .geq), xs := [.t 212, .t 215] }]
def F13o109 : List Ao := [
  { dst := some 217, k := .mv, xs := [.t 5] },
  { dst := some 218, k := .mv, xs := [.t 12] },
  { dst := some 219, k := (.iaddrS 8), xs := [.t 217, .t 218] },
  { dst := some 220, k := (.faddr 2), xs := [.t 219] },
  { dst := some 221, k := (.load none), xs := [.t 220] },
  { dst := some 20, k := .mv, xs := [.t 221] }]
def F13c108 : Ac := (.cond (.t 216) (.ops F13o109) .skip)
def F13c106 : Ac := (.seq (.ops F13o107) F13c108)
def F13c103 : Ac := (.cond (.t 201) (.seq (.ops F13o105) F13c106) .skip)
def F13o113 : List Ao := [
  { dst := some 223, k := .mv, xs := [.t 15] },
  { dst := some 224, k := .mv, xs := [.t 7] },
  { dst := some 225, k := (.bin .add), xs := [.t 224, .c (.d (.int .i64 1))] },
  { dst := some 226, k := (.callf 52), xs := [.t 223, .c (.d (.int .i64 7)), .t 225] },
  { dst := some 222, k := .mv, xs := [.t 226] },
  { dst := some 227, k := (.extract 0), xs := [.t 222] },
  { dst := some 228, k := (.extract 1), xs := [.t 222] },
  { dst := some 229, k := (.extract 2), xs := [.t 222] },
  { dst := some 21, k := .mv, xs := [.t 227] },
  { dst := some 22, k := .mv, xs := [.t 228] },
  { dst := some 23, k := .mv, xs := [.t 229] }]
def F13o116 : List Ao := [
  { dst := some 230, k := (.faddr 0), xs := [.t 18] },
  { dst := some 231, k := (.load none), xs := [.t 230] },
  { dst := some 232, k := .mv, xs := [.t 10] },
  { dst := some 233, k := (.bin .neq), xs := [.t 231, .t 232] },
  { dst := some 234, k := .mv, xs := [.t 233] },
  { dst := some 235, k := (.faddr 1), xs := [.t 18], g := some (234, false) },
  { dst := some 236, k := (.load none), xs := [.t 235], g := some (234, false) },
  { dst := some 237, k := .mv, xs := [.t 11], g := some (234, false) },
  { dst := some 238, k := (.bin .neq), xs := [.t 236, .t 237], g := some (234, false) },
  { dst := some 239, k := .pick, xs := [.t 234, .c (.d (.bool true)), .t 238] },
  { dst := some 240, k := .mv, xs := [.t 239] },
  { dst := some 241, k := (.faddr 3), xs := [.t 18], g := some (240, false) },
  { dst := some 242, k := (.load none), xs := [.t 241], g := some (240, false) },
  { dst := some 243, k := (.faddr 1), xs := [.t 8], g := some (240, false) },
  { dst := some 244, k := (.load none), xs := [.t 243], g := some (240, false) },
  { dst := some 245, k := (.bin .neq), xs := [.t 242, .t 244], g := some (240, false) },
  { dst := some 246, k := .pick, xs := [.t 240, .c (.d (.bool true)), .t 245] },
  { dst := some 247, k := .mv, xs := [.t 246] },
  { dst := some 248, k := (.faddr 2), xs := [.t 18], g := some (247, false) },
  { dst := some 249, k := (.load none), xs := [.t 248], g := some (247, false) },
  { dst := some 250, k := (.callf 50), xs := [.t 249], g := some (247, false) },
  { dst := some 251, k := .mv, xs := [.t 20], g := some (247, false) },
  { dst := some 252, k := (.callf 50), xs := [.t 251], g := some (247, false) },
  { dst := some 253, k := (.bin .neq), xs := [.t 250, .t 252], g := some (247, false) },
  { dst := some 254, k := .pick, xs := [.t 247, .c (.d (.bool true)), .t 253] },
  { dst := some 255, k := .mv, xs := [.t 254] },
  { dst := some 256, k := (.faddr 6), xs := [.t 18], g := some (255, false) },
  { dst := some 257, k := (.load none), xs := [.t 256], g := some (255, false) },
  { dst := some 258, k := .mv, xs := [.t 19], g := some (255, false) },
  { dst := some 259, k := .mv, xs := [.t 14], g := some (255, false) },
  { dst := some 260, k := (.faddr 4), xs := [.t 8], g := some (255, false) },
  { dst := some 261, k := (.load none), xs := [.t 260], g := some (255, false) },
  { dst := some 262, k := (.bin .add), xs := [.t 259, .t 261], g := some (255, false) },
  { dst := some 263, k := .mx, xs := [.t 258, .t 262], g := some (255, false) },
  { dst := some 264, k := (.bin .neq), xs := [.t 257, .t 263], g := some (255, false) },
  { dst := some 265, k := .pick, xs := [.t 255, .c (.d (.bool true)), .t 264] },
  { dst := some 266, k := .mv, xs := [.t 265] },
  { dst := some 267, k := .mv, xs := [.t 23], g := some (266, false) },
  { dst := some 268, k := (.un .not), xs := [.t 267], g := some (266, false) },
  { dst := some 269, k := .pick, xs := [.t 266, .c (.d (.bool true)), .t 268] },
  { dst := some 270, k := .mv, xs := [.t 269] },
  { dst := some 271, k := .mv, xs := [.t 21], g := some (270, false) },
  { dst := some 272, k := .mv, xs := [.t 17], g := some (270, false) },
  { dst := some 273, k := (.bin .neq), xs := [.t 271, .t 272], g := some (270, false) },
  { dst := some 274, k := .pick, xs := [.t 270, .c (.d (.bool true)), .t 273] },
  { dst := some 275, k := .mv, xs := [.t 274] },
  { dst := some 276, k := .mv, xs := [.t 22], g := some (275, false) },
  { dst := some 277, k := .mv, xs := [.t 14], g := some (275, false) },
  { dst := some 278, k := (.bin .neq), xs := [.t 276, .t 277], g := some (275, false) },
  { dst := some 279, k := .pick, xs := [.t 275, .c (.d (.bool true)), .t 278] },
  { dst := some 280, k := .mv, xs := [.t 279] },
  { dst := some 281, k := (.faddr 4), xs := [.t 18], g := some (280, false) },
  { dst := some 282, k := (.load none), xs := [.t 281], g := some (280, false) },
  { dst := some 283, k := (.faddr 2), xs := [.t 8], g := some (280, false) },
  { dst := some 284, k := (.load none), xs := [.t 283], g := some (280, false) },
  { dst := some 285, k := (.bin .neq), xs := [.t 282, .t 284], g := some (280, false) },
  { dst := some 286, k := .pick, xs := [.t 280, .c (.d (.bool true)), .t 285] },
  { dst := some 287, k := .mv, xs := [.t 286] },
  { dst := some 288, k := (.faddr 5), xs := [.t 18], g := some (287, false) },
  { dst := some 289, k := (.load none), xs := [.t 288], g := some (287, false) },
  { dst := some 290, k := (.faddr 3), xs := [.t 8], g := some (287, false) },
  { dst := some 291, k := (.load none), xs := [.t 290], g := some (287, false) },
  { dst := some 292, k := (.bin .neq), xs := [.t 289, .t 291], g := some (287, false) },
  { dst := some 293, k := .pick, xs := [.t 287, .c (.d (.bool true)), .t 292] }]
def F13o119 : List Ao := [
  { dst := some 4, k := .mv, xs := [.c (.d (.bool false))] }]
def F13c120 : Ac := .ret
def F13c117 : Ac := (.cond (.t 293) (.seq (.ops F13o119) F13c120) .skip)
def F13o122 : List Ao := [
  { dst := some 294, k := .mv, xs := [.t 15] },
  { dst := some 295, k := .mv, xs := [.t 6] },
  { dst := some 296, k := (.load (some 8)), xs := [.t 8] },
  { dst := some 297, k := (.bslice (.agg [.int .i64 0, .int .i64 0, .int .u16 0, .int .u8 0, .int .i64 0, .int .i64 0, .int .i64 0, .int .i64 0]) 1 [0]), xs := [.t 296] },
  { dst := some 298, k := (.append 8 56 false), xs := [.t 295, .t 297] },
  { dst := some 5, k := .mv, xs := [.t 294] },
  { dst := some 6, k := .mv, xs := [.t 298] }]
def F13c122 : Ac := (.ops F13o122)
def F13c114 : Ac := (.seq (.seq (.ops F13o116) F13c117) F13c122)
def F13b112 : Ac := (.seq (.ops F13o113) F13c114)
def F13c112 : Ac := (.seq (.gh []) (.seq (.keep [0, 1, 6, 7, 8, 10, 11, 14, 15, 17, 18, 19, 20] [[8], [18], [28]]) F13b112))
def F13c100 : Ac := (.seq (.seq (.ops F13o102) F13c103) F13c112)
def F13c98 : Ac := (.seq (.ops F13o99) F13c100)
def F13c96 : Ac := (.seq (.ops F13o97) F13c98)
def F13b88 : Ac := (.seq (.seq (.ops F13o90) F13c91) F13c96)
def F13c88 : Ac := (.seq (.gh []) (.seq (.keep [0, 1, 5, 6, 7, 8, 10, 11, 12, 14, 15, 17] [[8], [28]]) F13b88))
def F13c82 : Ac := (.seq (.seq (.ops F13o84) F13c85) F13c88)
def F13b80 : Ac := (.seq (.ops F13o81) F13c82)
def F13c80 : Ac := (.seq (.gh []) (.seq (.keep [0, 1, 5, 6, 7, 8, 10, 11, 12, 14, 15] [[8], [28]]) F13b80))
def F13b72 : Ac := (.seq (.seq (.ops F13o74) F13c75) F13c80)
def F13c72 : Ac := (.seq (.gh []) (.seq (.keep [0, 1, 5, 6, 7, 8, 10, 11, 12, 14, 15, 16] [[8], [28]]) F13b72))
def F13c58 : Ac := (.seq (.seq (.ops F13o60) F13c61) F13c72)
def F13b56 : Ac := (.seq (.ops F13o57) F13c58)
def F13c56 : Ac := (.seq (.gh []) (.seq (.keep [0, 1, 5, 6, 7, 8, 10, 11, 12, 14] [[8], [28]]) F13b56))
def F13c50 : Ac := (.seq (.seq (.ops F13o52) F13c53) F13c56)
def F13b48 : Ac := (.seq (.ops F13o49) F13c50)
def F13c48 : Ac := (.seq (.gh []) (.seq (.keep [0, 1, 5, 6, 7, 8, 10, 11, 12] [[8], [28]]) F13b48))
def F13c29 : Ac := (.seq (.seq (.ops F13o31) F13c32) F13c48)
def F13c27 : Ac := (.seq (.ops F13o28) F13c29)
def F13b25 : Ac := (.seq (.ops F13o26) F13c27)
def F13c25 : Ac := (.seq (.gh []) (.seq (.keep [0, 1, 5, 6, 7, 8, 9] [[8], [28]]) F13b25))
def F13c19 : Ac := (.seq (.seq (.ops F13o21) F13c22) F13c25)
def F13o123 : List Ao := [
  { dst := some 37, k := .mv, xs := [.t 7] },
  { dst := some 38, k := (.bin .add), xs := [.t 37, .c (.d (.int .i64 1))] },
  { dst := some 7, k := .mv, xs := [.t 38] }]
def F13c123 : Ac := (.ops F13o123)
def F13c15 : Ac := (.seq (.block 1 (.seq (.ops F13o18) F13c19)) F13c123)
def F13l8 : Ac := (.seq (.seq (.ops F13o11) F13c12) F13c15)
def F13c7 : Ac := (.block 0 (.loop (.seq (.gh [.frz 5]) (.seq (.keep [0, 1, 5, 6, 7] [[28]]) F13l8))))
def F13o125 : List Ao := [
  { dst := some 300, k := .mv, xs := [.t 5] },
  { dst := some 301, k := (.callf 52), xs := [.t 300, .c (.d (.int .i64 8)), .c (.d (.int .i64 1))] },
  { dst := some 299, k := .mv, xs := [.t 301] },
  { dst := some 302, k := (.extract 0), xs := [.t 299] },
  { dst := some 303, k := (.extract 1), xs := [.t 299] },
  { dst := some 304, k := (.extract 2), xs := [.t 299] },
  { dst := some 24, k := .mv, xs := [.t 302] },
  { dst := some 25, k := .mv, xs := [.t 303] },
  { dst := some 26, k := .mv, xs := [.t 304] }]
def F13o127 : List Ao := [
  { dst := some 305, k := (.callf 53), xs := [] },
  { dst := some 306, k := .mv, xs := [.t 305] },
  { dst := some 307, k := .mv, xs := [.t 26], g := some (306, true) },
  { dst := some 308, k := (.un .not), xs := [.t 307], g := some (306, true) },
  { dst := some 309, k := .pick, xs := [.t 306, .t 308, .c (.d (.bool false))] },
  { dst := some 310, k := .mv, xs := [.t 309] },
  { dst := some 311, k := .mv, xs := [.t 6], g := some (310, true) },
  { dst := some 312, k := .lenL, xs := [.t 311], g := some (310, true) },
  { dst := some 313, k := .mv, xs := [.t 5], g := some (310, true) },
  { dst := some 314, k := .lenL, xs := [.t 313], g := some (310, true) },
  { dst := some 315, k := (.bin .geq), xs := [.t 312, .t 314], g := some (310, true) },
  { dst := some 316, k := .pick, xs := [.t 310, .t 315, .c (.d (.bool false))] },
  { dst := some 4, k := .mv, xs := [.t 316] }]
def F13c128 : Ac := .ret
def F13c126 : Ac := (.seq (.ops F13o127) F13c128)
def F13b124 : Ac := (.seq (.ops F13o125) F13c126)
def F13c124 : Ac := (.seq (.gh []) (.seq (.keep [5, 6] [[28]]) F13b124))
def F13c4 : Ac := (.seq (.seq (.ops F13o6) F13c7) F13c124)
def F13c2 : Ac := (.seq (.ops F13o3) F13c4)
def F13c0 : Ac := (.seq (.ops F13o1) F13c2)
/-- hansom/hansomlaw40.CombAdds -/
def F13 : Fn := { np := 2, pb := [], rs := [.t 4], body := F13c0 }
def F14o1 : List Ao := [
  { dst := some 4, k := .mv, xs := [.c (.d (.bool false))] }]
def F14o3 : List Ao := [
  { dst := some 29, k := (.bslice (.agg [.str [], .sl [], .sl [], .sl [], .sl [], .sl [], .sl [], .sl [], .bool false, .bool false, .int .i64 0, .int .i64 0, .bool false, .int .i64 0, .int .i64 0, .int .i64 0, .int .i64 0, .int .u16 0]) 0 []), xs := [] },
  { dst := some 5, k := .mv, xs := [.t 29] }]
def F14o6 : List Ao := [
  { dst := some 6, k := .mv, xs := [.c (.d (.int .i64 0))] }]
def F14o11 : List Ao := [
  { dst := some 30, k := .mv, xs := [.t 6] },
  { dst := some 31, k := .mv, xs := [.t 1] },
  { dst := some 32, k := (.bin .and), xs := [.t 31, .c (.d (.int .i64 3))] },
  { dst := some 33, k := (.bin .lss), xs := [.t 30, .t 32] }]
def F14c12 : Ac := (.cond (.t 33) .skip (.exit 0))
def F14o17 : List Ao := [
  { dst := some 36, k := .mv, xs := [.t 5] },
  { dst := some 37, k := (.bslice (.str []) 2 [0, 1]), xs := [.c (.d (.str [83])), .c (.d (.str [75]))] },
  { dst := some 38, k := .mv, xs := [.t 6] },
  { dst := some 39, k := (.bin .add), xs := [.c (.d (.int .i64 5)), .t 38] },
  { dst := some 40, k := (.build [.d (.int .i64 0), .d (.int .i64 0), .d (.int .u16 0), .d (.int .u8 0), .d (.int .i64 0), .d (.int .i64 0), .d (.int .i64 0), .d (.int .i64 0)] [(0, 1), (1, 1), (4, 1), (5, 1), (6, 1)]), xs := [.c (.d (.int .i64 1)), .c (.d (.int .i64 2)), .t 39, .c (.d (.int .i64 1)), .c (.d (.int .i64 2))] },
  { dst := some 41, k := (.build [.d (.int .i64 0), .d (.int .i64 0), .d (.int .u16 0), .d (.int .u8 0), .d (.int .i64 0), .d (.int .i64 0), .d (.int .i64 0), .d (.int .i64 0)] [(0, 1), (4, 1), (5, 1)]), xs := [.c (.d (.int .i64 3)), .c (.d (.int .i64 9)), .c (.d (.int .i64 2))] },
  { dst := some 42, k := (.bslice (.agg [.int .i64 0, .int .i64 0, .int .u16 0, .int .u8 0, .int .i64 0, .int .i64 0, .int .i64 0, .int .i64 0]) 2 [0, 1]), xs := [.t 40, .t 41] },
  { dst := some 43, k := (.build [.d (.str []), .nils, .nils, .nils, .nils, .nils, .nils, .nils, .d (.bool false), .d (.bool false), .d (.int .i64 0), .d (.int .i64 0), .d (.bool false), .d (.int .i64 0), .d (.int .i64 0), .d (.int .i64 0), .d (.int .i64 0), .d (.int .u16 0)] [(2, 1), (3, 1)]), xs := [.t 37, .t 42] },
  { dst := some 44, k := (.bslice (.agg [.str [], .sl [], .sl [], .sl [], .sl [], .sl [], .sl [], .sl [], .bool false, .bool false, .int .i64 0, .int .i64 0, .bool false, .int .i64 0, .int .i64 0, .int .i64 0, .int .i64 0, .int .u16 0]) 1 [0]), xs := [.t 43] },
  { dst := some 45, k := (.append 18 256 false), xs := [.t 36, .t 44] },
  { dst := some 5, k := .mv, xs := [.t 45] }]
def F14o18 : List Ao := [
  { dst := some 34, k := .mv, xs := [.t 6] },
  { dst := some 35, k := (.bin .add), xs := [.t 34, .c (.d (.int .i64 1))] },
  { dst := some 6, k := .mv, xs := [.t 35] }]
def F14c18 : Ac := (.ops F14o18)
def F14c15 : Ac := (.seq (.block 1 (.ops F14o17)) F14c18)
def F14l8 : Ac := (.seq (.seq (.ops F14o11) F14c12) F14c15)
def F14c7 : Ac := (.block 0 (.loop (.seq (.gh []) (.seq (.keep [0, 1, 5, 6] [[29]]) F14l8))))
def F14o20 : List Ao := [
  { dst := some 46, k := (.bslice (.agg [.str [], .int .i64 0, .int .u32 0]) 0 []), xs := [] },
  { dst := some 7, k := .mv, xs := [.t 46] }]
def F14o22 : List Ao := [
  { dst := some 8, k := .mv, xs := [.c (.d (.int .i64 0))] },
  { dst := some 9, k := .mv, xs := [.c (.d (.int .i64 0))] }]
def F14o25 : List Ao := [
  { dst := some 10, k := .mv, xs := [.c (.d (.int .i64 0))] }]
def F14o30 : List Ao := [
  { dst := some 47, k := .mv, xs := [.t 10] },
  { dst := some 48, k := .mv, xs := [.t 0] },
  { dst := some 49, k := .lenL, xs := [.t 48] },
  { dst := some 50, k := (.bin .lss), xs := [.t 47, .t 49] },
  { dst := some 51, k := .mv, xs := [.t 50] },
  { dst := some 52, k := .mv, xs := [.t 10], g := some (51, true) },
  { dst := some 53, k := (.bin .lss), xs := [.t 52, .c (.d (.int .i64 6))], g := some (51, true) },
  { dst := some 54, k := .pick, xs := [.t 51, .t 53, .c (.d (.bool false))] }]
def F14c31 : Ac := (.cond (.t 54) .skip (.exit 2))
def F14o37 : List Ao := [
  { dst := some 57, k := .mv, xs := [.t 0] },
  { dst := some 58, k := .mv, xs := [.t 10] },
  { dst := some 59, k := (.iaddrS 3), xs := [.t 57, .t 58] },
  { dst := some 60, k := (.faddr 1), xs := [.t 59] },
  { dst := some 61, k := (.load none), xs := [.t 60], av := [[11]] },
  { dst := some 62, k := (.bin .and), xs := [.t 61, .c (.d (.int .i64 1))] },
  { dst := some 63, k := (.bin .add), xs := [.c (.d (.int .i64 97)), .t 62] },
  { dst := some 64, k := .mv, xs := [.t 0] },
  { dst := some 65, k := .mv, xs := [.t 10] },
  { dst := some 66, k := (.iaddrS 3), xs := [.t 64, .t 65] },
  { dst := some 67, k := (.faddr 2), xs := [.t 66] },
  { dst := some 68, k := (.load none), xs := [.t 67], av := [[11]] },
  { dst := some 69, k := (.bin .and), xs := [.t 68, .c (.d (.int .u32 255))] },
  { dst := some 70, k := (.build [.d (.str []), .d (.int .i64 0), .d (.int .u32 0)] [(0, 1), (1, 1), (2, 1)]), xs := [.c (.d (.str [69])), .t 63, .t 69] },
  { dst := some 11, k := (.alloc [.d (.str []), .d (.int .i64 0), .d (.int .u32 0)]), xs := [] },
  { dst := none, k := (.store 3), xs := [.t 11, .t 70] }]
def F14o40 : List Ao := [
  { dst := some 71, k := (.faddr 1), xs := [.t 11] },
  { dst := some 72, k := (.load none), xs := [.t 71] },
  { dst := some 73, k := (.bin .eql), xs := [.t 72, .c (.d (.int .i64 98))] }]
def F14o42 : List Ao := [
  { dst := some 74, k := .mv, xs := [.t 8] },
  { dst := some 75, k := (.bin .add), xs := [.t 74, .c (.d (.int .i64 1))] },
  { dst := some 8, k := .mv, xs := [.t 75] }]
def F14o43 : List Ao := [
  { dst := some 76, k := .mv, xs := [.t 9] },
  { dst := some 77, k := (.bin .add), xs := [.t 76, .c (.d (.int .i64 1))] },
  { dst := some 9, k := .mv, xs := [.t 77] }]
def F14c41 : Ac := (.cond (.t 73) (.ops F14o42) (.ops F14o43))
def F14o44 : List Ao := [
  { dst := some 78, k := .mv, xs := [.t 7] },
  { dst := some 79, k := (.load (some 3)), xs := [.t 11] },
  { dst := some 80, k := (.bslice (.agg [.str [], .int .i64 0, .int .u32 0]) 1 [0]), xs := [.t 79] },
  { dst := some 81, k := (.append 3 32 false), xs := [.t 78, .t 80] },
  { dst := some 7, k := .mv, xs := [.t 81] }]
def F14c44 : Ac := (.ops F14o44)
def F14c38 : Ac := (.seq (.seq (.ops F14o40) F14c41) F14c44)
def F14o45 : List Ao := [
  { dst := some 55, k := .mv, xs := [.t 10] },
  { dst := some 56, k := (.bin .add), xs := [.t 55, .c (.d (.int .i64 1))] },
  { dst := some 10, k := .mv, xs := [.t 56] }]
def F14c45 : Ac := (.ops F14o45)
def F14c34 : Ac := (.seq (.block 3 (.seq (.ops F14o37) F14c38)) F14c45)
def F14l27 : Ac := (.seq (.seq (.ops F14o30) F14c31) F14c34)
def F14c26 : Ac := (.block 2 (.loop (.seq (.gh []) (.seq (.keep [0, 1, 5, 7, 8, 9, 10] [[29], [46]]) F14l27))))
def F14o47 : List Ao := [
  { dst := some 83, k := .mv, xs := [.t 5] },
  { dst := some 84, k := .mv, xs := [.t 7] },
  { dst := some 85, k := (.callf 54), xs := [.t 83, .t 84] },
  { dst := some 82, k := .mv, xs := [.t 85] },
  { dst := some 86, k := (.extract 0), xs := [.t 82] },
  { dst := some 87, k := (.extract 1), xs := [.t 82] },
  { dst := some 12, k := .mv, xs := [.t 86] },
  { dst := some 13, k := .mv, xs := [.t 87] }]
def F14o49 : List Ao := [
  { dst := some 88, k := .mv, xs := [.t 9] },
  { dst := some 14, k := .mv, xs := [.t 88] }]
def F14o52 : List Ao := [
  { dst := some 89, k := .mv, xs := [.t 8] },
  { dst := some 90, k := (.bin .gtr), xs := [.t 89, .c (.d (.int .i64 0))] }]
def F14o54 : List Ao := [
  { dst := some 91, k := .mv, xs := [.t 14] },
  { dst := some 92, k := (.bin .add), xs := [.t 91, .c (.d (.int .i64 1))] },
  { dst := some 14, k := .mv, xs := [.t 92] }]
def F14c53 : Ac := (.cond (.t 90) (.ops F14o54) .skip)
def F14o58 : List Ao := [
  { dst := some 93, k := .mv, xs := [.t 5] },
  { dst := some 94, k := .lenL, xs := [.t 93] },
  { dst := some 95, k := (.bin .gtr), xs := [.t 94, .c (.d (.int .i64 0))] }]
def F14o60 : List Ao := [
  { dst := some 96, k := .mv, xs := [.t 14] },
  { dst := some 97, k := .mv, xs := [.t 5] },
  { dst := some 98, k := .lenL, xs := [.t 97] },
  { dst := some 99, k := (.bin .add), xs := [.c (.d (.int .i64 1)), .t 98] },
  { dst := some 100, k := (.bin .add), xs := [.t 96, .t 99] },
  { dst := some 14, k := .mv, xs := [.t 100] }]
def F14c59 : Ac := (.cond (.t 95) (.ops F14o60) .skip)
def F14o64 : List Ao := [
  { dst := some 101, k := .mv, xs := [.t 13] },
  { dst := some 102, k := (.bin .neq), xs := [.t 101, .c (.d (.int .i64 0))] },
  { dst := some 103, k := .mv, xs := [.t 102] },
  { dst := some 104, k := .mv, xs := [.t 12], g := some (103, false) },
  { dst := some 105, k := .lenL, xs := [.t 104], g := some (103, false) },
  { dst := some 106, k := .mv, xs := [.t 14], g := some (103, false) },
  { dst := some 107, k := (.bin .neq), xs := [.t 105, .t 106], g := some (103, false) },
  { dst := some 108, k := .pick, xs := [.t 103, .c (.d (.bool true)), .t 107] }]
def F14o67 : List Ao := [
  { dst := some 4, k := .mv, xs := [.c (.d (.bool false))] }]
def F14c68 : Ac := .ret
def F14c65 : Ac := (.cond (.t 108) (.seq (.ops F14o67) F14c68) .skip)
def F14o71 : List Ao := [
  { dst := some 15, k := .mv, xs := [.c (.d (.int .i64 0))] }]
def F14o74 : List Ao := [
  { dst := some 16, k := .mv, xs := [.c (.d (.int .i64 0))] }]
def F14o79 : List Ao := [
  { dst := some 109, k := .mv, xs := [.t 16] },
  { dst := some 110, k := .mv, xs := [.t 5] },
  { dst := some 111, k := .lenL, xs := [.t 110] },
  { dst := some 112, k := (.bin .lss), xs := [.t 109, .t 111] }]
def F14c80 : Ac := (.cond (.t 112) .skip (.exit 4))
def F14o86 : List Ao := [
  { dst := some 116, k := .mv, xs := [.t 12] },
  { dst := some 117, k := .mv, xs := [.t 16] },
  { dst := some 118, k := (.callf 52), xs := [.t 116, .t 117, .c (.d (.int .i64 1))] },
  { dst := some 115, k := .mv, xs := [.t 118] },
  { dst := some 119, k := (.extract 0), xs := [.t 115] },
  { dst := some 120, k := (.extract 1), xs := [.t 115] },
  { dst := some 121, k := (.extract 2), xs := [.t 115] },
  { dst := some 17, k := .mv, xs := [.t 119] },
  { dst := some 18, k := .mv, xs := [.t 120] },
  { dst := some 19, k := .mv, xs := [.t 121] }]
def F14o88 : List Ao := [
  { dst := some 123, k := .mv, xs := [.t 12] },
  { dst := some 124, k := .mv, xs := [.t 16] },
  { dst := some 125, k := (.callf 52), xs := [.t 123, .t 124, .c (.d (.int .i64 2))] },
  { dst := some 122, k := .mv, xs := [.t 125] },
  { dst := some 126, k := (.extract 0), xs := [.t 122] },
  { dst := some 127, k := (.extract 1), xs := [.t 122] },
  { dst := some 128, k := (.extract 2), xs := [.t 122] },
  { dst := some 20, k := .mv, xs := [.t 126] },
  { dst := some 21, k := .mv, xs := [.t 127] },
  { dst := some 22, k := .mv, xs := [.t 128] }]
def F14o91 : List Ao := [
  { dst := some 129, k := .mv, xs := [.t 19] },
  { dst := some 130, k := (.un .not), xs := [.t 129] },
  { dst := some 131, k := .mv, xs := [.t 130] },
  { dst := some 132, k := .mv, xs := [.t 22], g := some (131, false) },
  { dst := some 133, k := (.un .not), xs := [.t 132], g := some (131, false) },
  { dst := some 134, k := .pick, xs := [.t 131, .c (.d (.bool true)), .t 133] },
  { dst := some 135, k := .mv, xs := [.t 134] },
  { dst := some 136, k := .mv, xs := [.t 17], g := some (135, false) },
  { dst := some 137, k := (.bin .neq), xs := [.t 136, .c (.d (.int .i64 0))], g := some (135, false) },
  { dst := some 138, k := .pick, xs := [.t 135, .c (.d (.bool true)), .t 137] },
  { dst := some 139, k := .mv, xs := [.t 138] },
  { dst := some 140, k := .mv, xs := [.t 18], g := some (139, false) },
  { dst := some 141, k := .mv, xs := [.t 15], g := some (139, false) },
  { dst := some 142, k := (.bin .neq), xs := [.t 140, .t 141], g := some (139, false) },
  { dst := some 143, k := .pick, xs := [.t 139, .c (.d (.bool true)), .t 142] },
  { dst := some 144, k := .mv, xs := [.t 143] },
  { dst := some 145, k := .mv, xs := [.t 21], g := some (144, false) },
  { dst := some 146, k := (.bin .neq), xs := [.t 145, .c (.d (.int .i64 0))], g := some (144, false) },
  { dst := some 147, k := .pick, xs := [.t 144, .c (.d (.bool true)), .t 146] },
  { dst := some 148, k := .mv, xs := [.t 147] },
  { dst := some 149, k := .mv, xs := [.t 12], g := some (148, false) },
  { dst := some 150, k := .mv, xs := [.t 20], g := some (148, false) },
  { dst := some 151, k := (.iaddrS 8), xs := [.t 149, .t 150], g := some (148, false) },
  { dst := some 152, k := (.faddr 0), xs := [.t 151], g := some (148, false) },
  { dst := some 153, k := (.load none), xs := [.t 152], g := some (148, false) },
  { dst := some 154, k := (.bin .neq), xs := [.t 153, .c (.d (.str [75]))], g := some (148, false) },
  { dst := some 155, k := .pick, xs := [.t 148, .c (.d (.bool true)), .t 154] },
  { dst := some 156, k := .mv, xs := [.t 155] },
  { dst := some 157, k := .mv, xs := [.t 12], g := some (156, false) },
  { dst := some 158, k := .mv, xs := [.t 20], g := some (156, false) },
  { dst := some 159, k := (.iaddrS 8), xs := [.t 157, .t 158], g := some (156, false) },
  { dst := some 160, k := (.faddr 1), xs := [.t 159], g := some (156, false) },
  { dst := some 161, k := (.load none), xs := [.t 160], g := some (156, false) },
  { dst := some 162, k := (.bin .neq), xs := [.t 161, .c (.d (.str []))], g := some (156, false) },
  { dst := some 163, k := .pick, xs := [.t 156, .c (.d (.bool true)), .t 162] }]
def F14o94 : List Ao := [
  { dst := some 4, k := .mv, xs := [.c (.d (.bool false))] }]
def F14c95 : Ac := .ret
def F14c92 : Ac := (.cond (.t 163) (.seq (.ops F14o94) F14c95) .skip)
def F14o97 : List Ao := [
  { dst := some 164, k := .mv, xs := [.t 15] },
  { dst := some 165, k := .mv, xs := [.t 16] },
  { dst := some 166, k := (.bin .add), xs := [.c (.d (.int .i64 5)), .t 165] },
  { dst := some 167, k := (.bin .add), xs := [.t 164, .t 166] },
  { dst := some 15, k := .mv, xs := [.t 167] }]
def F14c97 : Ac := (.ops F14o97)
def F14c89 : Ac := (.seq (.seq (.ops F14o91) F14c92) F14c97)
def F14c87 : Ac := (.seq (.ops F14o88) F14c89)
def F14o98 : List Ao := [
  { dst := some 113, k := .mv, xs := [.t 16] },
  { dst := some 114, k := (.bin .add), xs := [.t 113, .c (.d (.int .i64 1))] },
  { dst := some 16, k := .mv, xs := [.t 114] }]
def F14c98 : Ac := (.ops F14o98)
def F14c83 : Ac := (.seq (.block 5 (.seq (.ops F14o86) F14c87)) F14c98)
def F14l76 : Ac := (.seq (.seq (.ops F14o79) F14c80) F14c83)
def F14c75 : Ac := (.block 4 (.loop (.seq (.gh []) (.seq (.keep [1, 5, 7, 12, 15, 16] [[29], [46]]) F14l76))))
def F14o101 : List Ao := [
  { dst := some 23, k := .mv, xs := [.c (.d (.int .i64 0))] }]
def F14o106 : List Ao := [
  { dst := some 168, k := .mv, xs := [.t 23] },
  { dst := some 169, k := .mv, xs := [.t 7] },
  { dst := some 170, k := .lenL, xs := [.t 169] },
  { dst := some 171, k := (.bin .lss), xs := [.t 168, .t 170] }]
def F14c107 : Ac := (.cond (.t 171) .skip (.exit 6))
def F14o113 : List Ao := [
  { dst := some 175, k := .mv, xs := [.t 12] },
  { dst := some 176, k := .mv, xs := [.t 23] },
  { dst := some 177, k := (.callf 52), xs := [.t 175, .c (.d (.int .i64 (-1))), .t 176] },
  { dst := some 174, k := .mv, xs := [.t 177] },
  { dst := some 178, k := (.extract 0), xs := [.t 174] },
  { dst := some 179, k := (.extract 1), xs := [.t 174] },
  { dst := some 180, k := (.extract 2), xs := [.t 174] },
  { dst := some 24, k := .mv, xs := [.t 178] },
  { dst := some 25, k := .mv, xs := [.t 179] },
  { dst := some 26, k := .mv, xs := [.t 180] }]
def F14o115 : List Ao := [
  { dst := some 181, k := .mv, xs := [.t 26] },
  { dst := some 182, k := (.un .not), xs := [.t 181] },
  { dst := some 183, k := .mv, xs := [.t 182] },
  { dst := some 184, k := .mv, xs := [.t 25], g := some (183, false) },
  { dst := some 185, k := (.bin .rem), xs := [.t 184, .c (.d (.int .i64 2))], g := some (183, false) },
  { dst := some 186, k := (.bin .neq), xs := [.t 185, .c (.d (.int .i64 0))], g := some (183, false) },
  { dst := some 187, k := .pick, xs := [.t 183, .c (.d (.bool true)), .t 186] },
  { dst := some 188, k := .mv, xs := [.t 187] },
  { dst := some 189, k := .mv, xs := [.t 12], g := some (188, false) },
  { dst := some 190, k := .mv, xs := [.t 24], g := some (188, false) },
  { dst := some 191, k := (.iaddrS 8), xs := [.t 189, .t 190], g := some (188, false) },
  { dst := some 192, k := (.faddr 1), xs := [.t 191], g := some (188, false) },
  { dst := some 193, k := (.load none), xs := [.t 192], g := some (188, false) },
  { dst := some 194, k := (.bin .eql), xs := [.t 193, .c (.d (.str [66, 83, 83]))], g := some (188, false) },
  { dst := some 195, k := .mv, xs := [.t 7], g := some (188, false) },
  { dst := some 196, k := .mv, xs := [.t 23], g := some (188, false) },
  { dst := some 197, k := (.iaddrS 3), xs := [.t 195, .t 196], g := some (188, false) },
  { dst := some 198, k := (.faddr 1), xs := [.t 197], g := some (188, false) },
  { dst := some 199, k := (.load none), xs := [.t 198], g := some (188, false) },
  { dst := some 200, k := (.bin .eql), xs := [.t 199, .c (.d (.int .i64 98))], g := some (188, false) },
  { dst := some 201, k := (.eqb true), xs := [.t 194, .t 200], g := some (188, false) },
  { dst := some 202, k := .pick, xs := [.t 188, .c (.d (.bool true)), .t 201] },
  { dst := some 203, k := .mv, xs := [.t 202] },
  { dst := some 204, k := .mv, xs := [.t 12], g := some (203, false) },
  { dst := some 205, k := .mv, xs := [.t 24], g := some (203, false) },
  { dst := some 206, k := (.iaddrS 8), xs := [.t 204, .t 205], g := some (203, false) },
  { dst := some 207, k := (.faddr 6), xs := [.t 206], g := some (203, false) },
  { dst := some 208, k := (.load none), xs := [.t 207], g := some (203, false) },
  { dst := some 209, k := .mv, xs := [.t 25], g := some (203, false) },
  { dst := some 210, k := .mv, xs := [.t 7], g := some (203, false) },
  { dst := some 211, k := .mv, xs := [.t 23], g := some (203, false) },
  { dst := some 212, k := (.iaddrS 3), xs := [.t 210, .t 211], g := some (203, false) },
  { dst := some 213, k := (.faddr 2), xs := [.t 212], g := some (203, false) },
  { dst := some 214, k := (.load none), xs := [.t 213], g := some (203, false) },
  { dst := some 215, k := (.toInt .i64), xs := [.t 214], g := some (203, false) },
  { dst := some 216, k := (.bin .add), xs := [.t 209, .t 215], g := some (203, false) },
  { dst := some 217, k := (.bin .lss), xs := [.t 208, .t 216], g := some (203, false) },
  { dst := some 218, k := .pick, xs := [.t 203, .c (.d (.bool true)), .t 217] }]
def F14o118 : List Ao := [
  { dst := some 4, k := .mv, xs := [.c (.d (.bool false))] }]
def F14c119 : Ac := .ret
def F14c116 : Ac := (.cond (.t 218) (.seq (.ops F14o118) F14c119) .skip)
def F14c114 : Ac := (.seq (.ops F14o115) F14c116)
def F14o121 : List Ao := [
  { dst := some 172, k := .mv, xs := [.t 23] },
  { dst := some 173, k := (.bin .add), xs := [.t 172, .c (.d (.int .i64 1))] },
  { dst := some 23, k := .mv, xs := [.t 173] }]
def F14c121 : Ac := (.ops F14o121)
def F14c110 : Ac := (.seq (.block 7 (.seq (.ops F14o113) F14c114)) F14c121)
def F14l103 : Ac := (.seq (.seq (.ops F14o106) F14c107) F14c110)
def F14c102 : Ac := (.block 6 (.loop (.seq (.gh []) (.seq (.keep [1, 7, 12, 23] [[46]]) F14l103))))
def F14o123 : List Ao := [
  { dst := some 220, k := .mv, xs := [.t 1] },
  { dst := some 221, k := (.bin .and), xs := [.t 220, .c (.d (.int .i64 7))] },
  { dst := some 222, k := (.bin .add), xs := [.c (.d (.int .i64 65536)), .t 221] },
  { dst := some 223, k := (.toInt .u32), xs := [.t 222] },
  { dst := some 224, k := (.build [.d (.str []), .d (.int .i64 0), .d (.int .u32 0)] [(1, 1), (2, 1)]), xs := [.c (.d (.int .i64 97)), .t 223] },
  { dst := some 225, k := (.bslice (.agg [.str [], .int .i64 0, .int .u32 0]) 1 [0]), xs := [.t 224] },
  { dst := some 226, k := (.callf 54), xs := [.c (.nils), .t 225] },
  { dst := some 219, k := .mv, xs := [.t 226] },
  { dst := some 227, k := (.extract 0), xs := [.t 219] },
  { dst := some 228, k := (.extract 1), xs := [.t 219] },
  { dst := some 27, k := .mv, xs := [.t 227] },
  { dst := some 28, k := .mv, xs := [.t 228] }]
def F14o125 : List Ao := [
  { dst := some 229, k := (.callf 53), xs := [] },
  { dst := some 230, k := .mv, xs := [.t 229] },
  { dst := some 231, k := .mv, xs := [.t 28], g := some (230, true) },
  { dst := some 232, k := (.bin .eql), xs := [.t 231, .c (.d (.int .i64 0))], g := some (230, true) },
  { dst := some 233, k := .mv, xs := [.t 1], g := some (230, true) },
  { dst := some 234, k := (.bin .and), xs := [.t 233, .c (.d (.int .i64 7))], g := some (230, true) },
  { dst := some 235, k := (.bin .eql), xs := [.t 234, .c (.d (.int .i64 0))], g := some (230, true) },
  { dst := some 236, k := (.eqb false), xs := [.t 232, .t 235], g := some (230, true) },
  { dst := some 237, k := .pick, xs := [.t 230, .t 236, .c (.d (.bool false))] },
  { dst := some 238, k := .mv, xs := [.t 237] },
  { dst := some 239, k := .mv, xs := [.t 28], g := some (238, true) },
  { dst := some 240, k := (.bin .eql), xs := [.t 239, .c (.d (.int .i64 0))], g := some (238, true) },
  { dst := some 241, k := .mv, xs := [.t 240], g := some (238, true) },
  { dst := some 242, k := .mv, xs := [.t 28], g := some (241, false) },
  { dst := some 243, k := (.bin .eql), xs := [.t 242, .c (.d (.int .i64 8))], g := some (241, false) },
  { dst := some 244, k := .pick, xs := [.t 241, .c (.d (.bool true)), .t 243], g := some (238, true) },
  { dst := some 245, k := .pick, xs := [.t 238, .t 244, .c (.d (.bool false))] },
  { dst := some 4, k := .mv, xs := [.t 245] }]
def F14c126 : Ac := .ret
def F14c124 : Ac := (.seq (.ops F14o125) F14c126)
def F14b122 : Ac := (.seq (.ops F14o123) F14c124)
def F14c122 : Ac := (.seq (.gh []) (.seq (.keep [1] []) F14b122))
def F14b99 : Ac := (.seq (.seq (.ops F14o101) F14c102) F14c122)
def F14c99 : Ac := (.seq (.gh []) (.seq (.keep [1, 7, 12] [[46]]) F14b99))
def F14c72 : Ac := (.seq (.seq (.ops F14o74) F14c75) F14c99)
def F14c70 : Ac := (.seq (.ops F14o71) F14c72)
def F14b62 : Ac := (.seq (.seq (.ops F14o64) F14c65) F14c70)
def F14c62 : Ac := (.seq (.gh []) (.seq (.keep [1, 5, 7, 12, 13, 14] [[29], [46]]) F14b62))
def F14b56 : Ac := (.seq (.seq (.ops F14o58) F14c59) F14c62)
def F14c56 : Ac := (.seq (.gh []) (.seq (.keep [1, 5, 7, 12, 13, 14] [[29], [46]]) F14b56))
def F14c50 : Ac := (.seq (.seq (.ops F14o52) F14c53) F14c56)
def F14c48 : Ac := (.seq (.ops F14o49) F14c50)
def F14b46 : Ac := (.seq (.ops F14o47) F14c48)
def F14c46 : Ac := (.seq (.gh []) (.seq (.keep [1, 5, 7, 8, 9] [[29], [46]]) F14b46))
def F14c23 : Ac := (.seq (.seq (.ops F14o25) F14c26) F14c46)
def F14c21 : Ac := (.seq (.ops F14o22) F14c23)
def F14b19 : Ac := (.seq (.ops F14o20) F14c21)
def F14c19 : Ac := (.seq (.gh []) (.seq (.keep [0, 1, 5] [[29]]) F14b19))
def F14c4 : Ac := (.seq (.seq (.ops F14o6) F14c7) F14c19)
def F14c2 : Ac := (.seq (.ops F14o3) F14c4)
def F14c0 : Ac := (.seq (.ops F14o1) F14c2)
/-- hansom/hansomlaw40.CombAll -/
def F14 : Fn := { np := 2, pb := [], rs := [.t 4], body := F14c0 }
def F43o1 : List Ao := [
  { dst := some 4, k := .mv, xs := [.c (.d (.int .i64 0))] }]
def F43o3 : List Ao := [
  { dst := some 5, k := .mv, xs := [.c (.d (.bool false))] }]
def F43o6 : List Ao := [
  { dst := some 6, k := .mv, xs := [.c (.d (.int .i64 1))] }]
def F43o11 : List Ao := [
  { dst := some 7, k := .mv, xs := [.t 6] },
  { dst := some 8, k := (.bin .leq), xs := [.t 7, .c (.d (.int .i64 4096))] }]
def F43c12 : Ac := (.cond (.t 8) .skip (.exit 0))
def F43o17 : List Ao := [
  { dst := some 11, k := .mv, xs := [.t 5] },
  { dst := some 12, k := .mv, xs := [.t 11] },
  { dst := some 13, k := .mv, xs := [.t 1], g := some (12, false) },
  { dst := some 14, k := .mv, xs := [.t 6], g := some (12, false) },
  { dst := some 15, k := (.bin .eql), xs := [.t 13, .t 14], g := some (12, false) },
  { dst := some 16, k := .pick, xs := [.t 12, .c (.d (.bool true)), .t 15] },
  { dst := some 5, k := .mv, xs := [.t 16] }]
def F43o18 : List Ao := [
  { dst := some 9, k := .mv, xs := [.t 6] },
  { dst := some 10, k := (.bin .mul), xs := [.t 9, .c (.d (.int .i64 2))] },
  { dst := some 6, k := .mv, xs := [.t 10] }]
def F43c18 : Ac := (.ops F43o18)
def F43c15 : Ac := (.seq (.block 1 (.ops F43o17)) F43c18)
def F43l8 : Ac := (.seq (.seq (.ops F43o11) F43c12) F43c15)
def F43c7 : Ac := (.block 0 (.loop (.seq (.gh []) (.seq (.keep [0, 1, 5, 6] []) F43l8))))
def F43o21 : List Ao := [
  { dst := some 17, k := .mv, xs := [.t 5] },
  { dst := some 18, k := (.un .not), xs := [.t 17] }]
def F43o23 : List Ao := [
  { dst := some 1, k := .mv, xs := [.c (.d (.int .i64 1))] }]
def F43c22 : Ac := (.cond (.t 18) (.ops F43o23) .skip)
def F43o27 : List Ao := [
  { dst := some 19, k := .mv, xs := [.t 0] },
  { dst := some 20, k := (.bin .lss), xs := [.t 19, .c (.d (.int .i64 0))] }]
def F43o29 : List Ao := [
  { dst := some 0, k := .mv, xs := [.c (.d (.int .i64 0))] }]
def F43c28 : Ac := (.cond (.t 20) (.ops F43o29) .skip)
def F43o33 : List Ao := [
  { dst := some 21, k := .mv, xs := [.t 0] },
  { dst := some 22, k := (.bin .gtr), xs := [.t 21, .c (.d (.int .i64 16777216))] }]
def F43o35 : List Ao := [
  { dst := some 0, k := .mv, xs := [.c (.d (.int .i64 16777216))] }]
def F43c34 : Ac := (.cond (.t 22) (.ops F43o35) .skip)
def F43o38 : List Ao := [
  { dst := some 23, k := .mv, xs := [.t 0] },
  { dst := some 24, k := .mv, xs := [.t 1] },
  { dst := some 25, k := (.bin .add), xs := [.t 23, .t 24] },
  { dst := some 26, k := (.bin .sub), xs := [.t 25, .c (.d (.int .i64 1))] },
  { dst := some 27, k := .mv, xs := [.t 1] },
  { dst := some 28, k := (.bin .quo), xs := [.t 26, .t 27] },
  { dst := some 29, k := .mv, xs := [.t 1] },
  { dst := some 30, k := (.bin .mul), xs := [.t 28, .t 29] },
  { dst := some 4, k := .mv, xs := [.t 30] }]
def F43c39 : Ac := .ret
def F43c37 : Ac := (.seq (.ops F43o38) F43c39)
def F43c31 : Ac := (.seq (.seq (.ops F43o33) F43c34) F43c37)
def F43b25 : Ac := (.seq (.seq (.ops F43o27) F43c28) F43c31)
def F43c25 : Ac := (.seq (.gh []) (.seq (.keep [0, 1] []) F43b25))
def F43b19 : Ac := (.seq (.seq (.ops F43o21) F43c22) F43c25)
def F43c19 : Ac := (.seq (.gh []) (.seq (.keep [0, 1, 5] []) F43b19))
def F43c4 : Ac := (.seq (.seq (.ops F43o6) F43c7) F43c19)
def F43c2 : Ac := (.seq (.ops F43o3) F43c4)
def F43c0 : Ac := (.seq (.ops F43o1) F43c2)
/-- hansom/hansomref01.Up -/
def F43 : Fn := { np := 2, pb := [], rs := [.t 4], body := F43c0 }
def F49o1 : List Ao := [
  { dst := some 1, k := (.box 8), xs := [.t 0] },
  { dst := some 2, k := (.alloc [.d (.int .i64 0), .d (.int .i64 0), .d (.int .u16 0), .d (.int .u8 0), .d (.int .i64 0), .d (.int .i64 0), .d (.int .i64 0), .d (.int .i64 0)]), xs := [] }]
def F49o3 : List Ao := [
  { dst := some 3, k := (.faddr 0), xs := [.t 1] },
  { dst := some 4, k := (.load none), xs := [.t 3], av := [[7]] },
  { dst := some 5, k := (.bin .and), xs := [.t 4, .c (.d (.int .i64 255))] },
  { dst := some 6, k := (.bin .rem), xs := [.t 5, .c (.d (.int .i64 5))] },
  { dst := some 7, k := (.bslice (.int .i64 0) 4 [0, 1, 2, 3]), xs := [.c (.d (.int .i64 0)), .c (.d (.int .i64 2)), .c (.d (.int .i64 5)), .c (.d (.int .i64 6))] },
  { dst := some 8, k := (.faddr 1), xs := [.t 1] },
  { dst := some 9, k := (.load none), xs := [.t 8], av := [[7]] },
  { dst := some 10, k := (.bin .and), xs := [.t 9, .c (.d (.int .i64 3))] },
  { dst := some 11, k := (.iaddrS 1), xs := [.t 7, .t 10] },
  { dst := some 12, k := (.load none), xs := [.t 11] },
  { dst := some 13, k := (.faddr 4), xs := [.t 1] },
  { dst := some 14, k := (.load none), xs := [.t 13], av := [[7]] },
  { dst := some 15, k := (.bin .and), xs := [.t 14, .c (.d (.int .i64 32767))] },
  { dst := some 16, k := (.build [.d (.int .i64 0), .d (.int .i64 0), .d (.int .u16 0), .d (.int .u8 0), .d (.int .i64 0), .d (.int .i64 0), .d (.int .i64 0), .d (.int .i64 0)] [(0, 1), (1, 1), (4, 1)]), xs := [.t 6, .t 12, .t 15] },
  { dst := none, k := (.store 8), xs := [.t 2, .t 16] }]
def F49o6 : List Ao := [
  { dst := some 17, k := (.faddr 4), xs := [.t 1] },
  { dst := some 18, k := (.load none), xs := [.t 17] },
  { dst := some 19, k := (.bin .shr), xs := [.t 18, .c (.d (.int .u64 15))] },
  { dst := some 20, k := (.bin .and), xs := [.t 19, .c (.d (.int .i64 7))] },
  { dst := some 21, k := (.bin .gtr), xs := [.t 20, .c (.d (.int .i64 0))] }]
def F49o8 : List Ao := [
  { dst := some 22, k := (.faddr 4), xs := [.t 1] },
  { dst := some 23, k := (.load none), xs := [.t 22] },
  { dst := some 24, k := (.bin .and), xs := [.t 23, .c (.d (.int .i64 63))] },
  { dst := some 25, k := (.faddr 4), xs := [.t 2] },
  { dst := none, k := (.store 1), xs := [.t 25, .t 24] }]
def F49c7 : Ac := (.cond (.t 21) (.ops F49o8) .skip)
def F49o12 : List Ao := [
  { dst := some 26, k := (.faddr 0), xs := [.t 2] },
  { dst := some 27, k := (.load none), xs := [.t 26] },
  { dst := some 28, k := (.bin .eql), xs := [.t 27, .c (.d (.int .i64 0))] }]
def F49o14 : List Ao := [
  { dst := some 29, k := (.faddr 2), xs := [.t 1] },
  { dst := some 30, k := (.load none), xs := [.t 29] },
  { dst := some 31, k := (.faddr 3), xs := [.t 1] },
  { dst := some 32, k := (.load none), xs := [.t 31], av := [[2]] },
  { dst := some 33, k := (.faddr 2), xs := [.t 2] },
  { dst := none, k := (.store 1), xs := [.t 33, .t 30], al := some [[2]] },
  { dst := some 34, k := (.faddr 3), xs := [.t 2] },
  { dst := none, k := (.store 1), xs := [.t 34, .t 32] }]
def F49c13 : Ac := (.cond (.t 28) (.ops F49o14) .skip)
def F49o17 : List Ao := [
  { dst := some 35, k := (.load (some 8)), xs := [.t 2] },
  { dst := none, k := (.store 8), xs := [.t 2, .t 35] }]
def F49c18 : Ac := .ret
def F49c16 : Ac := (.seq (.ops F49o17) F49c18)
def F49c10 : Ac := (.seq (.seq (.ops F49o12) F49c13) F49c16)
def F49c4 : Ac := (.seq (.seq (.ops F49o6) F49c7) F49c10)
def F49c2 : Ac := (.seq (.ops F49o3) F49c4)
def F49c0 : Ac := (.seq (.ops F49o1) F49c2)
/-- hansom/hansomlaw40.near -/
def F49 : Fn := { np := 1, pb := [], rs := [.c 2 (some 8)], body := F49c0 }
def F50o1 : List Ao := [
  { dst := some 2, k := .mv, xs := [.c (.d (.int .i64 0))] }]
def F50o3 : List Ao := [
  { dst := some 3, k := (.bslice (.int .i64 0) 5 [0, 1, 2, 3, 4]), xs := [.c (.d (.int .i64 1)), .c (.d (.int .i64 1)), .c (.d (.int .i64 2)), .c (.d (.int .i64 16)), .c (.d (.int .i64 256))] },
  { dst := some 4, k := .mv, xs := [.t 0] },
  { dst := some 5, k := (.iaddrS 1), xs := [.t 3, .t 4] },
  { dst := some 6, k := (.load none), xs := [.t 5] },
  { dst := some 2, k := .mv, xs := [.t 6] }]
def F50c4 : Ac := .ret
def F50c2 : Ac := (.seq (.ops F50o3) F50c4)
def F50c0 : Ac := (.seq (.ops F50o1) F50c2)
/-- hansom/hansomlaw40.step -/
def F50 : Fn := { np := 1, pb := [], rs := [.t 2], body := F50c0 }
def F51o1 : List Ao := [
  { dst := some 7, k := (.box 1), xs := [.t 1] },
  { dst := some 8, k := (.box 1), xs := [.t 2] },
  { dst := some 9, k := (.box 8), xs := [.t 3] },
  { dst := some 12, k := .mv, xs := [.c (.nils)] },
  { dst := some 13, k := .mv, xs := [.c (.d (.int .i64 0))] }]
def F51o3 : List Ao := [
  { dst := some 20, k := .mv, xs := [.t 4] },
  { dst := some 21, k := .mv, xs := [.t 5] },
  { dst := some 22, k := (.build [.d (.int .i64 0), .d (.int .i64 0), .d (.int .i64 0), .d (.int .i64 0)] [(0, 1), (1, 1)]), xs := [.t 20, .t 21] },
  { dst := some 14, k := (.alloc [.d (.int .i64 0), .d (.int .i64 0), .d (.int .i64 0), .d (.int .i64 0)]), xs := [] },
  { dst := none, k := (.store 4), xs := [.t 14, .t 22] }]
def F51o5 : List Ao := [
  { dst := some 23, k := .mv, xs := [.t 0] },
  { dst := some 24, k := (.callf 73), xs := [.t 23] },
  { dst := some 15, k := .mv, xs := [.t 24] }]
def F51o7 : List Ao := [
  { dst := some 25, k := .mv, xs := [.t 0] },
  { dst := some 26, k := (.mkfn 74), xs := [.t 7, .t 8, .t 9] },
  { dst := some 27, k := (.callf 71), xs := [.t 25, .t 26] },
  { dst := some 16, k := .mv, xs := [.t 27] }]
def F51o10 : List Ao := [
  { dst := some 28, k := .mv, xs := [.t 16] },
  { dst := some 29, k := (.bin .lss), xs := [.t 28, .c (.d (.int .i64 0))] }]
def F51o13 : List Ao := [
  { dst := some 30, k := (.load none), xs := [.t 7] },
  { dst := some 31, k := (.load none), xs := [.t 8] },
  { dst := some 32, k := (.faddr 0), xs := [.t 9] },
  { dst := some 33, k := (.load none), xs := [.t 32] },
  { dst := some 34, k := (.faddr 1), xs := [.t 9] },
  { dst := some 35, k := (.load none), xs := [.t 34] },
  { dst := some 36, k := (.faddr 2), xs := [.t 9] },
  { dst := some 37, k := (.load none), xs := [.t 36] },
  { dst := some 38, k := (.faddr 3), xs := [.t 9] },
  { dst := some 39, k := (.load none), xs := [.t 38] },
  { dst := some 40, k := (.build [.d (.str []), .d (.str []), .d (.int .i64 0), .d (.int .i64 0), .d (.int .u16 0), .d (.int .u8 0), .d (.int .i64 0), .nils] [(0, 1), (1, 1), (2, 1), (3, 1), (4, 1), (5, 1)]), xs := [.t 30, .t 31, .t 33, .t 35, .t 37, .t 39] },
  { dst := some 17, k := (.alloc [.d (.str []), .d (.str []), .d (.int .i64 0), .d (.int .i64 0), .d (.int .u16 0), .d (.int .u8 0), .d (.int .i64 0), .nils]), xs := [] },
  { dst := none, k := (.store 8), xs := [.t 17, .t 40] }]
def F51o14 : List Ao := [
  { dst := some 41, k := .mv, xs := [.t 15] },
  { dst := some 42, k := (.load (some 8)), xs := [.t 17] },
  { dst := some 43, k := (.bslice (.agg [.str [], .str [], .int .i64 0, .int .i64 0, .int .u16 0, .int .u8 0, .int .i64 0, .sl []]) 1 [0]), xs := [.t 42] },
  { dst := some 44, k := (.append 8 88 false), xs := [.t 41, .t 43] },
  { dst := some 45, k := .mv, xs := [.t 15] },
  { dst := some 46, k := .lenL, xs := [.t 45] },
  { dst := some 15, k := .mv, xs := [.t 44] },
  { dst := some 16, k := .mv, xs := [.t 46] }]
def F51c14 : Ac := (.ops F51o14)
def F51c11 : Ac := (.cond (.t 29) (.seq (.ops F51o13) F51c14) .skip)
def F51o17 : List Ao := [
  { dst := some 48, k := .mv, xs := [.t 15] },
  { dst := some 49, k := .mv, xs := [.t 16] },
  { dst := some 50, k := (.iaddrS 8), xs := [.t 48, .t 49] },
  { dst := some 51, k := (.load (some 8)), xs := [.t 50], av := [[18]] },
  { dst := some 52, k := (.load (some 8)), xs := [.t 9], av := [[18]] },
  { dst := some 53, k := (.load (some 4)), xs := [.t 14], av := [[18]] },
  { dst := some 54, k := (.callf 76), xs := [.t 51, .t 52, .t 53], av := [[18]], al := some [] },
  { dst := some 47, k := .mv, xs := [.t 54] },
  { dst := some 55, k := (.extract 0), xs := [.t 47] },
  { dst := some 56, k := (.extract 1), xs := [.t 47] },
  { dst := some 18, k := (.alloc [.d (.str []), .d (.str []), .d (.int .i64 0), .d (.int .i64 0), .d (.int .u16 0), .d (.int .u8 0), .d (.int .i64 0), .nils]), xs := [], av := [[54]] },
  { dst := none, k := (.store 8), xs := [.t 18, .t 55] },
  { dst := some 19, k := .mv, xs := [.t 56] }]
def F51o20 : List Ao := [
  { dst := some 57, k := .mv, xs := [.t 19] },
  { dst := some 58, k := (.un .not), xs := [.t 57] }]
def F51o23 : List Ao := [
  { dst := some 12, k := .mv, xs := [.c (.nils)] },
  { dst := some 13, k := .mv, xs := [.c (.d (.int .i64 8))] }]
def F51c24 : Ac := (.seq (.gh [.frz 12]) .ret)
def F51c21 : Ac := (.cond (.t 58) (.seq (.ops F51o23) F51c24) .skip)
def F51o27 : List Ao := [
  { dst := some 59, k := .mv, xs := [.t 15] },
  { dst := some 60, k := .mv, xs := [.t 16] },
  { dst := some 61, k := (.load (some 8)), xs := [.t 18] },
  { dst := some 62, k := (.iaddrS 8), xs := [.t 59, .t 60] },
  { dst := none, k := (.store 8), xs := [.t 62, .t 61] }]
def F51o29 : List Ao := [
  { dst := some 63, k := .mv, xs := [.t 15] },
  { dst := some 12, k := .mv, xs := [.t 63] },
  { dst := some 13, k := .mv, xs := [.c (.d (.int .i64 0))] }]
def F51c30 : Ac := (.seq (.gh [.frz 12]) .ret)
def F51c28 : Ac := (.seq (.ops F51o29) F51c30)
def F51c26 : Ac := (.seq (.ops F51o27) F51c28)
def F51c18 : Ac := (.seq (.seq (.ops F51o20) F51c21) F51c26)
def F51b16 : Ac := (.seq (.ops F51o17) F51c18)
def F51c16 : Ac := (.seq (.gh []) (.seq (.keep [9, 14, 15, 16] [[9], [14], [24]]) F51b16))
def F51c8 : Ac := (.seq (.seq (.ops F51o10) F51c11) F51c16)
def F51c6 : Ac := (.seq (.ops F51o7) F51c8)
def F51c4 : Ac := (.seq (.ops F51o5) F51c6)
def F51c2 : Ac := (.seq (.ops F51o3) F51c4)
def F51c0 : Ac := (.seq (.ops F51o1) F51c2)
/-- hansom/comb.Add -/
def F51 : Fn := { np := 6, pb := [], rs := [.t 12, .t 13], body := F51c0 }
def F52o1 : List Ao := [
  { dst := some 6, k := .mv, xs := [.c (.d (.int .i64 0))] },
  { dst := some 7, k := .mv, xs := [.c (.d (.int .i64 0))] },
  { dst := some 8, k := .mv, xs := [.c (.d (.bool false))] }]
def F52o4 : List Ao := [
  { dst := some 13, k := .mv, xs := [.t 0] },
  { dst := some 14, k := .lenL, xs := [.t 13] },
  { dst := some 15, k := .mv, xs := [.c (.d (.int .i64 0))] }]
def F52o8 : List Ao := [
  { dst := some 16, k := (.bin .lss), xs := [.t 15, .t 14] }]
def F52o16 : List Ao := [
  { dst := some 17, k := .mv, xs := [.t 15] },
  { dst := some 18, k := (.iaddrS 8), xs := [.t 13, .t 15] },
  { dst := some 19, k := (.load (some 8)), xs := [.t 18] },
  { dst := some 10, k := (.alloc [.d (.str []), .d (.str []), .d (.int .i64 0), .d (.int .i64 0), .d (.int .u16 0), .d (.int .u8 0), .d (.int .i64 0), .nils]), xs := [] },
  { dst := some 9, k := .mv, xs := [.t 17] },
  { dst := none, k := (.store 8), xs := [.t 10, .t 19] }]
def F52o18 : List Ao := [
  { dst := some 20, k := (.faddr 7), xs := [.t 10] },
  { dst := some 21, k := (.load none), xs := [.t 20] },
  { dst := some 22, k := .lenL, xs := [.t 21] },
  { dst := some 23, k := .mv, xs := [.c (.d (.int .i64 0))] }]
def F52o22 : List Ao := [
  { dst := some 24, k := (.bin .lss), xs := [.t 23, .t 22] }]
def F52o30 : List Ao := [
  { dst := some 25, k := (.iaddrS 4), xs := [.t 21, .t 23] },
  { dst := some 26, k := (.load (some 4)), xs := [.t 25] },
  { dst := some 12, k := (.alloc [.d (.int .i64 0), .d (.int .i64 0), .d (.int .i64 0), .d (.int .i64 0)]), xs := [] },
  { dst := none, k := (.store 4), xs := [.t 12, .t 26] }]
def F52o32 : List Ao := [
  { dst := some 27, k := (.faddr 0), xs := [.t 12] },
  { dst := some 28, k := (.load none), xs := [.t 27] },
  { dst := some 29, k := .mv, xs := [.t 1] },
  { dst := some 30, k := (.bin .eql), xs := [.t 28, .t 29] },
  { dst := some 31, k := .mv, xs := [.t 30] },
  { dst := some 32, k := (.faddr 1), xs := [.t 12], g := some (31, true) },
  { dst := some 33, k := (.load none), xs := [.t 32], g := some (31, true) },
  { dst := some 34, k := .mv, xs := [.t 2], g := some (31, true) },
  { dst := some 35, k := (.bin .eql), xs := [.t 33, .t 34], g := some (31, true) },
  { dst := some 36, k := .pick, xs := [.t 31, .t 35, .c (.d (.bool false))] }]
def F52o35 : List Ao := [
  { dst := some 37, k := .mv, xs := [.t 9] },
  { dst := some 38, k := (.faddr 2), xs := [.t 12] },
  { dst := some 39, k := (.load none), xs := [.t 38] },
  { dst := some 6, k := .mv, xs := [.t 37] },
  { dst := some 7, k := .mv, xs := [.t 39] },
  { dst := some 8, k := .mv, xs := [.c (.d (.bool true))] }]
def F52c36 : Ac := .ret
def F52c33 : Ac := (.cond (.t 36) (.seq (.ops F52o35) F52c36) .skip)
def F52c31 : Ac := (.seq (.ops F52o32) F52c33)
def F52o38 : List Ao := [
  { dst := some 40, k := (.bin .add), xs := [.t 23, .c (.d (.int .i64 1))] },
  { dst := some 23, k := .mv, xs := [.t 40] }]
def F52c38 : Ac := (.ops F52o38)
def F52c27 : Ac := (.seq (.block 3 (.seq (.ops F52o30) F52c31)) F52c38)
def F52c23 : Ac := (.seq (.cond (.t 24) .skip (.exit 2)) F52c27)
def F52l20 : Ac := (.seq (.ops F52o22) F52c23)
def F52c19 : Ac := (.block 2 (.loop (.seq (.gh []) (.seq (.keep [1, 2, 9, 13, 14, 15, 21, 22, 23] []) F52l20))))
def F52c17 : Ac := (.seq (.ops F52o18) F52c19)
def F52o39 : List Ao := [
  { dst := some 41, k := (.bin .add), xs := [.t 15, .c (.d (.int .i64 1))] },
  { dst := some 15, k := .mv, xs := [.t 41] }]
def F52b39 : Ac := (.ops F52o39)
def F52c39 : Ac := (.seq (.gh []) (.seq (.keep [1, 2, 13, 14, 15] []) F52b39))
def F52c13 : Ac := (.seq (.block 1 (.seq (.ops F52o16) F52c17)) F52c39)
def F52c9 : Ac := (.seq (.cond (.t 16) .skip (.exit 0)) F52c13)
def F52l6 : Ac := (.seq (.ops F52o8) F52c9)
def F52c5 : Ac := (.block 0 (.loop (.seq (.gh []) (.seq (.keep [1, 2, 13, 14, 15] []) F52l6))))
def F52o41 : List Ao := [
  { dst := some 6, k := .mv, xs := [.c (.d (.int .i64 0))] },
  { dst := some 7, k := .mv, xs := [.c (.d (.int .i64 0))] },
  { dst := some 8, k := .mv, xs := [.c (.d (.bool false))] }]
def F52c42 : Ac := .ret
def F52b40 : Ac := (.seq (.ops F52o41) F52c42)
def F52c40 : Ac := (.seq (.gh []) (.seq (.keep [] []) F52b40))
def F52c2 : Ac := (.seq (.seq (.ops F52o4) F52c5) F52c40)
def F52c0 : Ac := (.seq (.ops F52o1) F52c2)
/-- hansom/comb.Find -/
def F52 : Fn := { np := 3, pb := [], rs := [.t 6, .t 7, .t 8], body := F52c0 }
def F53o1 : List Ao := [
  { dst := some 0, k := .mv, xs := [.c (.d (.bool false))] }]
def F53o3 : List Ao := [
  { dst := some 9, k := (.build [.d (.int .i64 0), .d (.int .i64 0), .d (.int .u16 0), .d (.int .u8 0), .d (.int .i64 0), .d (.int .i64 0), .d (.int .i64 0), .d (.int .i64 0)] [(0, 1), (1, 1), (4, 1)]), xs := [.c (.d (.int .i64 2)), .c (.d (.int .i64 2)), .c (.d (.int .i64 3))] },
  { dst := some 10, k := (.callf 51), xs := [.c (.nils), .c (.d (.str [65])), .c (.d (.str [])), .t 9, .c (.d (.int .i64 0)), .c (.d (.int .i64 1))] },
  { dst := some 8, k := .mv, xs := [.t 10] },
  { dst := some 11, k := (.extract 0), xs := [.t 8] },
  { dst := some 12, k := (.extract 1), xs := [.t 8] },
  { dst := some 1, k := .mv, xs := [.t 11] },
  { dst := some 2, k := .mv, xs := [.t 12] }]
def F53o5 : List Ao := [
  { dst := some 14, k := .mv, xs := [.t 1] },
  { dst := some 15, k := (.build [.d (.int .i64 0), .d (.int .i64 0), .d (.int .u16 0), .d (.int .u8 0), .d (.int .i64 0), .d (.int .i64 0), .d (.int .i64 0), .d (.int .i64 0)] [(0, 1), (1, 1), (4, 1)]), xs := [.c (.d (.int .i64 2)), .c (.d (.int .i64 2)), .c (.d (.int .i64 3))] },
  { dst := some 16, k := (.callf 51), xs := [.t 14, .c (.d (.str [65])), .c (.d (.str [])), .t 15, .c (.d (.int .i64 1)), .c (.d (.int .i64 1))] },
  { dst := some 13, k := .mv, xs := [.t 16] },
  { dst := some 17, k := (.extract 0), xs := [.t 13] },
  { dst := some 18, k := (.extract 1), xs := [.t 13] },
  { dst := some 3, k := .mv, xs := [.t 17] },
  { dst := some 4, k := .mv, xs := [.t 18] }]
def F53o7 : List Ao := [
  { dst := some 20, k := .mv, xs := [.t 3] },
  { dst := some 21, k := (.callf 52), xs := [.t 20, .c (.d (.int .i64 1)), .c (.d (.int .i64 1))] },
  { dst := some 19, k := .mv, xs := [.t 21] },
  { dst := some 22, k := (.extract 0), xs := [.t 19] },
  { dst := some 23, k := (.extract 1), xs := [.t 19] },
  { dst := some 24, k := (.extract 2), xs := [.t 19] },
  { dst := some 5, k := .mv, xs := [.t 22] },
  { dst := some 6, k := .mv, xs := [.t 23] },
  { dst := some 7, k := .mv, xs := [.t 24] }]
def F53o9 : List Ao := [
  { dst := some 25, k := .mv, xs := [.t 2] },
  { dst := some 26, k := (.bin .eql), xs := [.t 25, .c (.d (.int .i64 0))] },
  { dst := some 27, k := .mv, xs := [.t 26] },
  { dst := some 28, k := .mv, xs := [.t 4], g := some (27, true) },
  { dst := some 29, k := (.bin .eql), xs := [.t 28, .c (.d (.int .i64 0))], g := some (27, true) },
  { dst := some 30, k := .pick, xs := [.t 27, .t 29, .c (.d (.bool false))] },
  { dst := some 31, k := .mv, xs := [.t 30] },
  { dst := some 32, k := .mv, xs := [.t 3], g := some (31, true) },
  { dst := some 33, k := .lenL, xs := [.t 32], g := some (31, true) },
  { dst := some 34, k := (.bin .eql), xs := [.t 33, .c (.d (.int .i64 1))], g := some (31, true) },
  { dst := some 35, k := .pick, xs := [.t 31, .t 34, .c (.d (.bool false))] },
  { dst := some 36, k := .mv, xs := [.t 35] },
  { dst := some 37, k := .mv, xs := [.t 3], g := some (36, true) },
  { dst := some 38, k := (.iaddrS 8), xs := [.t 37, .c (.d (.int .i64 0))], g := some (36, true) },
  { dst := some 39, k := (.faddr 6), xs := [.t 38], g := some (36, true) },
  { dst := some 40, k := (.load none), xs := [.t 39], g := some (36, true) },
  { dst := some 41, k := (.bin .eql), xs := [.t 40, .c (.d (.int .i64 7))], g := some (36, true) },
  { dst := some 42, k := .pick, xs := [.t 36, .t 41, .c (.d (.bool false))] },
  { dst := some 43, k := .mv, xs := [.t 42] },
  { dst := some 44, k := .mv, xs := [.t 7], g := some (43, true) },
  { dst := some 45, k := .pick, xs := [.t 43, .t 44, .c (.d (.bool false))] },
  { dst := some 46, k := .mv, xs := [.t 45] },
  { dst := some 47, k := .mv, xs := [.t 5], g := some (46, true) },
  { dst := some 48, k := (.bin .eql), xs := [.t 47, .c (.d (.int .i64 0))], g := some (46, true) },
  { dst := some 49, k := .pick, xs := [.t 46, .t 48, .c (.d (.bool false))] },
  { dst := some 50, k := .mv, xs := [.t 49] },
  { dst := some 51, k := .mv, xs := [.t 6], g := some (50, true) },
  { dst := some 52, k := (.bin .eql), xs := [.t 51, .c (.d (.int .i64 4))], g := some (50, true) },
  { dst := some 53, k := .pick, xs := [.t 50, .t 52, .c (.d (.bool false))] },
  { dst := some 0, k := .mv, xs := [.t 53] }]
def F53c10 : Ac := .ret
def F53c8 : Ac := (.seq (.ops F53o9) F53c10)
def F53c6 : Ac := (.seq (.ops F53o7) F53c8)
def F53c4 : Ac := (.seq (.ops F53o5) F53c6)
def F53c2 : Ac := (.seq (.ops F53o3) F53c4)
def F53c0 : Ac := (.seq (.ops F53o1) F53c2)
/-- hansom/hansomlaw40.awake -/
def F53 : Fn := { np := 0, pb := [], rs := [.t 0], body := F53c0 }
def F54o1 : List Ao := [
  { dst := some 4, k := .mv, xs := [.c (.nils)] },
  { dst := some 5, k := .mv, xs := [.c (.d (.int .i64 0))] }]
def F54o3 : List Ao := [
  { dst := some 6, k := .mv, xs := [.c (.nils)] }]
def F54o6 : List Ao := [
  { dst := some 12, k := .mv, xs := [.t 0] },
  { dst := some 13, k := .lenL, xs := [.t 12] },
  { dst := some 14, k := .mv, xs := [.c (.d (.int .i64 0))] }]
def F54o10 : List Ao := [
  { dst := some 15, k := (.bin .lss), xs := [.t 14, .t 13] }]
def F54o18 : List Ao := [
  { dst := some 16, k := .mv, xs := [.t 14] },
  { dst := some 17, k := (.iaddrS 18), xs := [.t 12, .t 14] },
  { dst := some 18, k := (.load (some 18)), xs := [.t 17] },
  { dst := some 8, k := (.alloc [.d (.str []), .nils, .nils, .nils, .nils, .nils, .nils, .nils, .d (.bool false), .d (.bool false), .d (.int .i64 0), .d (.int .i64 0), .d (.bool false), .d (.int .i64 0), .d (.int .i64 0), .d (.int .i64 0), .d (.int .i64 0), .d (.int .u16 0)]), xs := [] },
  { dst := some 7, k := .mv, xs := [.t 16] },
  { dst := none, k := (.store 18), xs := [.t 8, .t 18] }]
def F54o20 : List Ao := [
  { dst := some 19, k := (.faddr 3), xs := [.t 8] },
  { dst := some 20, k := (.load none), xs := [.t 19] },
  { dst := some 21, k := .lenL, xs := [.t 20] },
  { dst := some 22, k := .mv, xs := [.c (.d (.int .i64 0))] }]
def F54o24 : List Ao := [
  { dst := some 23, k := (.bin .lss), xs := [.t 22, .t 21] }]
def F54o32 : List Ao := [
  { dst := some 24, k := .mv, xs := [.t 22] },
  { dst := some 25, k := (.iaddrS 8), xs := [.t 20, .t 22] },
  { dst := some 26, k := (.load (some 8)), xs := [.t 25] },
  { dst := some 10, k := (.alloc [.d (.int .i64 0), .d (.int .i64 0), .d (.int .u16 0), .d (.int .u8 0), .d (.int .i64 0), .d (.int .i64 0), .d (.int .i64 0), .d (.int .i64 0)]), xs := [] },
  { dst := some 9, k := .mv, xs := [.t 24] },
  { dst := none, k := (.store 8), xs := [.t 10, .t 26] }]
def F54o34 : List Ao := [
  { dst := some 11, k := .mv, xs := [.c (.d (.int .i64 0))] }]
def F54o36 : List Ao := [
  { dst := some 28, k := .mv, xs := [.t 6] },
  { dst := some 29, k := (.load (some 18)), xs := [.t 8] },
  { dst := some 30, k := (.faddr 5), xs := [.t 10] },
  { dst := some 31, k := (.load none), xs := [.t 30] },
  { dst := some 32, k := (.callf 77), xs := [.t 29, .t 31], al := some [] },
  { dst := some 33, k := (.load (some 18)), xs := [.t 8], av := [[32]] },
  { dst := some 34, k := (.faddr 6), xs := [.t 10] },
  { dst := some 35, k := (.load none), xs := [.t 34], av := [[32]] },
  { dst := some 36, k := (.callf 77), xs := [.t 33, .t 35], al := some [] },
  { dst := some 37, k := (.load (some 8)), xs := [.t 10], av := [[32], [36]] },
  { dst := some 38, k := .mv, xs := [.t 7] },
  { dst := some 39, k := .mv, xs := [.t 9] },
  { dst := some 40, k := (.bin .add), xs := [.t 39, .c (.d (.int .i64 1))] },
  { dst := some 41, k := (.callf 51), xs := [.t 28, .t 32, .t 36, .t 37, .t 38, .t 40] },
  { dst := some 27, k := .mv, xs := [.t 41] },
  { dst := some 42, k := (.extract 0), xs := [.t 27] },
  { dst := some 43, k := (.extract 1), xs := [.t 27] },
  { dst := some 6, k := .mv, xs := [.t 42] },
  { dst := some 11, k := .mv, xs := [.t 43] }]
def F54o38 : List Ao := [
  { dst := some 44, k := .mv, xs := [.t 11] },
  { dst := some 45, k := (.bin .neq), xs := [.t 44, .c (.d (.int .i64 0))] }]
def F54o41 : List Ao := [
  { dst := some 46, k := .mv, xs := [.t 11] },
  { dst := some 4, k := .mv, xs := [.c (.nils)] },
  { dst := some 5, k := .mv, xs := [.t 46] }]
def F54c42 : Ac := (.seq (.gh [.frz 4]) .ret)
def F54c39 : Ac := (.cond (.t 45) (.seq (.ops F54o41) F54c42) .skip)
def F54c37 : Ac := (.seq (.ops F54o38) F54c39)
def F54c35 : Ac := (.seq (.ops F54o36) F54c37)
def F54c33 : Ac := (.seq (.ops F54o34) F54c35)
def F54o44 : List Ao := [
  { dst := some 47, k := (.bin .add), xs := [.t 22, .c (.d (.int .i64 1))] },
  { dst := some 22, k := .mv, xs := [.t 47] }]
def F54c44 : Ac := (.ops F54o44)
def F54c29 : Ac := (.seq (.block 3 (.seq (.ops F54o32) F54c33)) F54c44)
def F54c25 : Ac := (.seq (.cond (.t 23) .skip (.exit 2)) F54c29)
def F54l22 : Ac := (.seq (.ops F54o24) F54c25)
def F54c21 : Ac := (.block 2 (.loop (.seq (.gh []) (.seq (.keep [1, 6, 7, 8, 12, 13, 14, 20, 21, 22] [[8]]) F54l22))))
def F54c19 : Ac := (.seq (.ops F54o20) F54c21)
def F54o45 : List Ao := [
  { dst := some 48, k := (.bin .add), xs := [.t 14, .c (.d (.int .i64 1))] },
  { dst := some 14, k := .mv, xs := [.t 48] }]
def F54b45 : Ac := (.ops F54o45)
def F54c45 : Ac := (.seq (.gh []) (.seq (.keep [1, 6, 12, 13, 14] []) F54b45))
def F54c15 : Ac := (.seq (.block 1 (.seq (.ops F54o18) F54c19)) F54c45)
def F54c11 : Ac := (.seq (.cond (.t 15) .skip (.exit 0)) F54c15)
def F54l8 : Ac := (.seq (.ops F54o10) F54c11)
def F54c7 : Ac := (.block 0 (.loop (.seq (.gh [.frz 6]) (.seq (.keep [1, 6, 12, 13, 14] []) F54l8))))
def F54o47 : List Ao := [
  { dst := some 49, k := .mv, xs := [.t 6] },
  { dst := some 50, k := .mv, xs := [.t 1] },
  { dst := some 51, k := (.callf 78), xs := [.t 49, .t 50] },
  { dst := some 52, k := (.extract 0), xs := [.t 51] },
  { dst := some 53, k := (.extract 1), xs := [.t 51] },
  { dst := some 4, k := .mv, xs := [.t 52] },
  { dst := some 5, k := .mv, xs := [.t 53] }]
def F54c48 : Ac := .ret
def F54b46 : Ac := (.seq (.ops F54o47) F54c48)
def F54c46 : Ac := (.seq (.gh []) (.seq (.keep [1, 6] []) F54b46))
def F54c4 : Ac := (.seq (.seq (.ops F54o6) F54c7) F54c46)
def F54c2 : Ac := (.seq (.ops F54o3) F54c4)
def F54c0 : Ac := (.seq (.ops F54o1) F54c2)
/-- hansom/comb.All -/
def F54 : Fn := { np := 2, pb := [], rs := [.t 4, .t 5], body := F54c0 }
def F69o1 : List Ao := [
  { dst := some 4, k := .mv, xs := [.c (.d (.int .i64 0))] }]
def F69o4 : List Ao := [
  { dst := some 5, k := .mv, xs := [.t 1] },
  { dst := some 6, k := (.bin .lss), xs := [.t 5, .c (.d (.int .i64 1))] },
  { dst := some 7, k := .mv, xs := [.t 6] },
  { dst := some 8, k := .mv, xs := [.t 1], g := some (7, false) },
  { dst := some 9, k := (.bin .gtr), xs := [.t 8, .c (.d (.int .i64 4096))], g := some (7, false) },
  { dst := some 10, k := .pick, xs := [.t 7, .c (.d (.bool true)), .t 9] },
  { dst := some 11, k := .mv, xs := [.t 10] },
  { dst := some 12, k := .mv, xs := [.t 1], g := some (11, false) },
  { dst := some 13, k := .mv, xs := [.t 1], g := some (11, false) },
  { dst := some 14, k := (.bin .sub), xs := [.t 13, .c (.d (.int .i64 1))], g := some (11, false) },
  { dst := some 15, k := (.bin .and), xs := [.t 12, .t 14], g := some (11, false) },
  { dst := some 16, k := (.bin .neq), xs := [.t 15, .c (.d (.int .i64 0))], g := some (11, false) },
  { dst := some 17, k := .pick, xs := [.t 11, .c (.d (.bool true)), .t 16] }]
def F69o6 : List Ao := [
  { dst := some 1, k := .mv, xs := [.c (.d (.int .i64 1))] }]
def F69c5 : Ac := (.cond (.t 17) (.ops F69o6) .skip)
def F69o9 : List Ao := [
  { dst := some 18, k := .mv, xs := [.t 0] },
  { dst := some 19, k := .mx, xs := [.t 18, .c (.d (.int .i64 0))] },
  { dst := some 20, k := .mn, xs := [.t 19, .c (.d (.int .i64 16777216))] },
  { dst := some 0, k := .mv, xs := [.t 20] }]
def F69o11 : List Ao := [
  { dst := some 21, k := .mv, xs := [.t 0] },
  { dst := some 22, k := .mv, xs := [.t 1] },
  { dst := some 23, k := (.bin .add), xs := [.t 21, .t 22] },
  { dst := some 24, k := (.bin .sub), xs := [.t 23, .c (.d (.int .i64 1))] },
  { dst := some 25, k := .mv, xs := [.t 1] },
  { dst := some 26, k := (.bin .sub), xs := [.t 25, .c (.d (.int .i64 1))] },
  { dst := some 27, k := (.bin .andNot), xs := [.t 24, .t 26] },
  { dst := some 4, k := .mv, xs := [.t 27] }]
def F69c12 : Ac := .ret
def F69c10 : Ac := (.seq (.ops F69o11) F69c12)
def F69c8 : Ac := (.seq (.ops F69o9) F69c10)
def F69c2 : Ac := (.seq (.seq (.ops F69o4) F69c5) F69c8)
def F69c0 : Ac := (.seq (.ops F69o1) F69c2)
/-- hansom/bits.Up -/
def F69 : Fn := { np := 2, pb := [], rs := [.t 4], body := F69c0 }
def F70o1 : List Ao := [
  { dst := some 2, k := .mv, xs := [.c (.d (.int .i64 0))] }]
def F70o4 : List Ao := [
  { dst := some 3, k := .mv, xs := [.t 0] }]
def F70o7 : List Ao := [
  { dst := some 5, k := (.bin .eql), xs := [.t 3, .c (.d (.int .i64 2))] },
  { dst := some 4, k := .mv, xs := [.t 5] }]
def F70o10 : List Ao := [
  { dst := some 2, k := .mv, xs := [.c (.d (.int .i64 2))] }]
def F70c11 : Ac := .ret
def F70o13 : List Ao := [
  { dst := some 7, k := (.bin .eql), xs := [.t 3, .c (.d (.int .i64 3))] },
  { dst := some 6, k := .mv, xs := [.t 7] }]
def F70o16 : List Ao := [
  { dst := some 2, k := .mv, xs := [.c (.d (.int .i64 16))] }]
def F70c17 : Ac := .ret
def F70o19 : List Ao := [
  { dst := some 9, k := (.bin .eql), xs := [.t 3, .c (.d (.int .i64 4))] },
  { dst := some 8, k := .mv, xs := [.t 9] }]
def F70o22 : List Ao := [
  { dst := some 2, k := .mv, xs := [.c (.d (.int .i64 256))] }]
def F70c23 : Ac := .ret
def F70c20 : Ac := (.cond (.t 8) (.seq (.ops F70o22) F70c23) .skip)
def F70c14 : Ac := (.cond (.t 6) (.seq (.ops F70o16) F70c17) (.seq (.ops F70o19) F70c20))
def F70c8 : Ac := (.cond (.t 4) (.seq (.ops F70o10) F70c11) (.seq (.ops F70o13) F70c14))
def F70c5 : Ac := (.block 0 (.seq (.ops F70o7) F70c8))
def F70o26 : List Ao := [
  { dst := some 2, k := .mv, xs := [.c (.d (.int .i64 1))] }]
def F70c27 : Ac := .ret
def F70c25 : Ac := (.seq (.ops F70o26) F70c27)
def F70c2 : Ac := (.seq (.seq (.ops F70o4) F70c5) F70c25)
def F70c0 : Ac := (.seq (.ops F70o1) F70c2)
/-- hansom/segs.Step -/
def F70 : Fn := { np := 1, pb := [], rs := [.t 2], body := F70c0 }
def F71o1 : List Ao := [
  { dst := some 4, k := .mv, xs := [.c (.d (.int .i64 0))] }]
def F71o4 : List Ao := [
  { dst := some 6, k := .mv, xs := [.t 0] },
  { dst := some 7, k := .lenL, xs := [.t 6] },
  { dst := some 8, k := .mv, xs := [.c (.d (.int .i64 0))] }]
def F71o8 : List Ao := [
  { dst := some 9, k := (.bin .lss), xs := [.t 8, .t 7] }]
def F71o16 : List Ao := [
  { dst := some 10, k := .mv, xs := [.t 8] },
  { dst := some 5, k := .mv, xs := [.t 10] }]
def F71o18 : List Ao := [
  { dst := some 11, k := .mv, xs := [.t 1] },
  { dst := some 12, k := .mv, xs := [.t 0] },
  { dst := some 13, k := .mv, xs := [.t 5] },
  { dst := some 14, k := (.iaddrS 8), xs := [.t 12, .t 13] },
  { dst := some 15, k := (.load (some 8)), xs := [.t 14] },
  { dst := some 16, k := .callv, xs := [.t 11, .t 15] }]
def F71o21 : List Ao := [
  { dst := some 17, k := .mv, xs := [.t 5] },
  { dst := some 4, k := .mv, xs := [.t 17] }]
def F71c22 : Ac := .ret
def F71c19 : Ac := (.cond (.t 16) (.seq (.ops F71o21) F71c22) .skip)
def F71c17 : Ac := (.seq (.ops F71o18) F71c19)
def F71o24 : List Ao := [
  { dst := some 18, k := (.bin .add), xs := [.t 8, .c (.d (.int .i64 1))] },
  { dst := some 8, k := .mv, xs := [.t 18] }]
def F71c24 : Ac := (.ops F71o24)
def F71c13 : Ac := (.seq (.block 1 (.seq (.ops F71o16) F71c17)) F71c24)
def F71c9 : Ac := (.seq (.cond (.t 9) .skip (.exit 0)) F71c13)
def F71l6 : Ac := (.seq (.ops F71o8) F71c9)
def F71c5 : Ac := (.block 0 (.loop (.seq (.gh []) (.seq (.keep [0, 1, 7, 8] [[0, 1], [1, 1], [2, 1]]) F71l6))))
def F71o26 : List Ao := [
  { dst := some 4, k := .mv, xs := [.c (.d (.int .i64 (-1)))] }]
def F71c27 : Ac := .ret
def F71b25 : Ac := (.seq (.ops F71o26) F71c27)
def F71c25 : Ac := (.seq (.gh []) (.seq (.keep [] [[0, 1], [1, 1], [2, 1]]) F71b25))
def F71c2 : Ac := (.seq (.seq (.ops F71o4) F71c5) F71c25)
def F71c0 : Ac := (.seq (.ops F71o1) F71c2)
/-- slices.IndexFunc[[]hansom/api.Comb,hansom/api.Comb] -/
def F71 : Fn := { np := 2, pb := [[0, 1], [1, 1], [2, 1]], rs := [.t 4], body := F71c0 }
def F73o1 : List Ao := [
  { dst := some 2, k := .mv, xs := [.c (.nils)] }]
def F73o4 : List Ao := [
  { dst := some 3, k := .mv, xs := [.t 0] },
  { dst := some 4, k := (.nilS false), xs := [.t 3, .c (.nils)] }]
def F73o7 : List Ao := [
  { dst := some 2, k := .mv, xs := [.c (.nils)] }]
def F73c8 : Ac := (.seq (.gh [.own 2 [2] 8]) .ret)
def F73c5 : Ac := (.cond (.t 4) (.seq (.ops F73o7) F73c8) .skip)
def F73o11 : List Ao := [
  { dst := some 5, k := (.bslice (.agg [.str [], .str [], .int .i64 0, .int .i64 0, .int .u16 0, .int .u8 0, .int .i64 0, .sl []]) 0 []), xs := [] },
  { dst := some 6, k := .mv, xs := [.t 0] },
  { dst := some 7, k := (.append 8 88 false), xs := [.t 5, .t 6] },
  { dst := some 2, k := .mv, xs := [.t 7] }]
def F73c12 : Ac := .ret
def F73c10 : Ac := (.seq (.ops F73o11) F73c12)
def F73c2 : Ac := (.seq (.seq (.ops F73o4) F73c5) F73c10)
def F73c0 : Ac := (.seq (.ops F73o1) F73c2)
/-- slices.Clone[[]hansom/api.Comb,hansom/api.Comb] -/
def F73 : Fn := { np := 1, sp := true, pb := [], rs := [.t 2], body := F73c0 }
def F74o1 : List Ao := [
  { dst := some 4, k := (.box 8), xs := [.t 0] },
  { dst := some 5, k := .mv, xs := [.c (.d (.bool false))] }]
def F74o3 : List Ao := [
  { dst := some 6, k := (.load (some 8)), xs := [.t 4] },
  { dst := some 7, k := (.load none), xs := [.t 1] },
  { dst := some 8, k := (.load none), xs := [.t 2] },
  { dst := some 9, k := (.load (some 8)), xs := [.t 3] },
  { dst := some 10, k := (.callf 75), xs := [.t 6, .t 7, .t 8, .t 9] },
  { dst := some 5, k := .mv, xs := [.t 10] }]
def F74c4 : Ac := .ret
def F74c2 : Ac := (.seq (.ops F74o3) F74c4)
def F74c0 : Ac := (.seq (.ops F74o1) F74c2)
/-- hansom/comb.Add$1 -/
def F74 : Fn := { np := 4, pb := [[1], [2], [3]], rs := [.t 5], body := F74c0 }
def F75o1 : List Ao := [
  { dst := some 4, k := (.box 8), xs := [.t 0] },
  { dst := some 7, k := (.box 8), xs := [.t 3] },
  { dst := some 8, k := .mv, xs := [.c (.d (.bool false))] }]
def F75o3 : List Ao := [
  { dst := some 9, k := (.faddr 0), xs := [.t 7] },
  { dst := some 10, k := (.load none), xs := [.t 9] },
  { dst := some 11, k := (.bin .neq), xs := [.t 10, .c (.d (.int .i64 0))] },
  { dst := some 12, k := .mv, xs := [.t 11] },
  { dst := some 13, k := (.faddr 2), xs := [.t 4], g := some (12, true) },
  { dst := some 14, k := (.load none), xs := [.t 13], g := some (12, true) },
  { dst := some 15, k := (.bin .neq), xs := [.t 14, .c (.d (.int .i64 0))], g := some (12, true) },
  { dst := some 16, k := .pick, xs := [.t 12, .t 15, .c (.d (.bool false))] },
  { dst := some 17, k := .mv, xs := [.t 16] },
  { dst := some 18, k := (.faddr 1), xs := [.t 7], g := some (17, true) },
  { dst := some 19, k := (.load none), xs := [.t 18], g := some (17, true) },
  { dst := some 20, k := (.bin .neq), xs := [.t 19, .c (.d (.int .i64 0))], g := some (17, true) },
  { dst := some 21, k := .pick, xs := [.t 17, .t 20, .c (.d (.bool false))] },
  { dst := some 22, k := .mv, xs := [.t 21] },
  { dst := some 23, k := (.faddr 3), xs := [.t 4], g := some (22, true) },
  { dst := some 24, k := (.load none), xs := [.t 23], g := some (22, true) },
  { dst := some 25, k := (.faddr 1), xs := [.t 7], g := some (22, true) },
  { dst := some 26, k := (.load none), xs := [.t 25], g := some (22, true) },
  { dst := some 27, k := (.bin .eql), xs := [.t 24, .t 26], g := some (22, true) },
  { dst := some 28, k := .pick, xs := [.t 22, .t 27, .c (.d (.bool false))] },
  { dst := some 29, k := .mv, xs := [.t 28] },
  { dst := some 30, k := (.faddr 0), xs := [.t 4], g := some (29, true) },
  { dst := some 31, k := (.load none), xs := [.t 30], g := some (29, true) },
  { dst := some 32, k := .mv, xs := [.t 1], g := some (29, true) },
  { dst := some 33, k := (.bin .eql), xs := [.t 31, .t 32], g := some (29, true) },
  { dst := some 34, k := .pick, xs := [.t 29, .t 33, .c (.d (.bool false))] },
  { dst := some 35, k := .mv, xs := [.t 34] },
  { dst := some 36, k := (.faddr 1), xs := [.t 4], g := some (35, true) },
  { dst := some 37, k := (.load none), xs := [.t 36], g := some (35, true) },
  { dst := some 38, k := .mv, xs := [.t 2], g := some (35, true) },
  { dst := some 39, k := (.bin .eql), xs := [.t 37, .t 38], g := some (35, true) },
  { dst := some 40, k := .pick, xs := [.t 35, .t 39, .c (.d (.bool false))] },
  { dst := some 8, k := .mv, xs := [.t 40] }]
def F75c4 : Ac := .ret
def F75c2 : Ac := (.seq (.ops F75o3) F75c4)
def F75c0 : Ac := (.seq (.ops F75o1) F75c2)
/-- hansom/comb.joins -/
def F75 : Fn := { np := 4, pb := [], rs := [.t 8], body := F75c0 }
def F76o1 : List Ao := [
  { dst := some 3, k := (.box 8), xs := [.t 0] },
  { dst := some 4, k := (.box 8), xs := [.t 1] },
  { dst := some 5, k := (.box 4), xs := [.t 2] },
  { dst := some 6, k := (.alloc [.d (.str []), .d (.str []), .d (.int .i64 0), .d (.int .i64 0), .d (.int .u16 0), .d (.int .u8 0), .d (.int .i64 0), .nils]), xs := [] },
  { dst := some 7, k := .mv, xs := [.c (.d (.bool false))] }]
def F76o4 : List Ao := [
  { dst := some 8, k := (.faddr 1), xs := [.t 4] },
  { dst := some 9, k := (.load none), xs := [.t 8] },
  { dst := some 10, k := (.bin .neq), xs := [.t 9, .c (.d (.int .i64 6))] }]
def F76o6 : List Ao := [
  { dst := some 11, k := (.faddr 6), xs := [.t 3] },
  { dst := some 12, k := (.load none), xs := [.t 11], av := [[15]] },
  { dst := some 13, k := (.faddr 0), xs := [.t 4] },
  { dst := some 14, k := (.load none), xs := [.t 13] },
  { dst := some 15, k := (.callf 70), xs := [.t 14], al := some [] },
  { dst := some 16, k := (.callf 69), xs := [.t 12, .t 15] },
  { dst := some 17, k := (.faddr 2), xs := [.t 5] },
  { dst := none, k := (.store 1), xs := [.t 17, .t 16] }]
def F76c5 : Ac := (.cond (.t 10) (.ops F76o6) .skip)
def F76o10 : List Ao := [
  { dst := some 18, k := (.faddr 2), xs := [.t 5] },
  { dst := some 19, k := (.load none), xs := [.t 18] },
  { dst := some 20, k := (.faddr 4), xs := [.t 4] },
  { dst := some 21, k := (.load none), xs := [.t 20] },
  { dst := some 22, k := (.bin .sub), xs := [.c (.d (.int .i64 65536)), .t 21] },
  { dst := some 23, k := (.bin .gtr), xs := [.t 19, .t 22] }]
def F76o13 : List Ao := [
  { dst := some 24, k := (.load (some 8)), xs := [.t 3] },
  { dst := none, k := (.store 8), xs := [.t 6, .t 24] },
  { dst := some 7, k := .mv, xs := [.c (.d (.bool false))] }]
def F76c14 : Ac := .ret
def F76c11 : Ac := (.cond (.t 23) (.seq (.ops F76o13) F76c14) .skip)
def F76o18 : List Ao := [
  { dst := some 25, k := (.faddr 0), xs := [.t 4] },
  { dst := some 26, k := (.load none), xs := [.t 25] },
  { dst := some 27, k := (.callf 70), xs := [.t 26], al := some [] },
  { dst := some 28, k := (.faddr 2), xs := [.t 3] },
  { dst := some 29, k := (.load none), xs := [.t 28], av := [[27]] },
  { dst := some 30, k := (.callf 70), xs := [.t 29] },
  { dst := some 31, k := (.bin .gtr), xs := [.t 27, .t 30] }]
def F76o20 : List Ao := [
  { dst := some 32, k := (.faddr 0), xs := [.t 4] },
  { dst := some 33, k := (.load none), xs := [.t 32] },
  { dst := some 34, k := (.faddr 2), xs := [.t 3] },
  { dst := none, k := (.store 1), xs := [.t 34, .t 33] }]
def F76c19 : Ac := (.cond (.t 31) (.ops F76o20) .skip)
def F76o23 : List Ao := [
  { dst := some 35, k := (.faddr 4), xs := [.t 4] },
  { dst := some 36, k := (.load none), xs := [.t 35] },
  { dst := some 37, k := (.faddr 3), xs := [.t 5] },
  { dst := none, k := (.store 1), xs := [.t 37, .t 36] }]
def F76o25 : List Ao := [
  { dst := some 38, k := (.faddr 6), xs := [.t 3] },
  { dst := some 39, k := (.load none), xs := [.t 38] },
  { dst := some 40, k := (.faddr 2), xs := [.t 5] },
  { dst := some 41, k := (.load none), xs := [.t 40] },
  { dst := some 42, k := (.faddr 4), xs := [.t 4] },
  { dst := some 43, k := (.load none), xs := [.t 42] },
  { dst := some 44, k := (.bin .add), xs := [.t 41, .t 43] },
  { dst := some 45, k := .mx, xs := [.t 39, .t 44] },
  { dst := some 46, k := (.faddr 6), xs := [.t 3] },
  { dst := none, k := (.store 1), xs := [.t 46, .t 45] }]
def F76o27 : List Ao := [
  { dst := some 47, k := (.faddr 7), xs := [.t 3] },
  { dst := some 48, k := (.load none), xs := [.t 47], av := [[51]] },
  { dst := some 49, k := (.callf 81), xs := [.t 48], av := [[51]], al := some [] },
  { dst := some 50, k := (.load (some 4)), xs := [.t 5], av := [[49]] },
  { dst := some 51, k := (.bslice (.agg [.int .i64 0, .int .i64 0, .int .i64 0, .int .i64 0]) 1 [0]), xs := [.t 50], av := [[49]] },
  { dst := some 52, k := (.append 4 32 false), xs := [.t 49, .t 51] },
  { dst := some 53, k := (.faddr 7), xs := [.t 3] },
  { dst := none, k := (.store 1), xs := [.t 53, .t 52] }]
def F76o29 : List Ao := [
  { dst := some 54, k := (.load (some 8)), xs := [.t 3] },
  { dst := none, k := (.store 8), xs := [.t 6, .t 54] },
  { dst := some 7, k := .mv, xs := [.c (.d (.bool true))] }]
def F76c30 : Ac := (.seq (.gh [.frzB [6] 7]) .ret)
def F76c28 : Ac := (.seq (.ops F76o29) F76c30)
def F76c26 : Ac := (.seq (.ops F76o27) F76c28)
def F76c24 : Ac := (.seq (.ops F76o25) F76c26)
def F76b22 : Ac := (.seq (.ops F76o23) F76c24)
def F76c22 : Ac := (.seq (.gh []) (.seq (.keep [3, 4, 5, 6] [[3], [4], [5], [6]]) F76b22))
def F76c16 : Ac := (.seq (.seq (.ops F76o18) F76c19) F76c22)
def F76b8 : Ac := (.seq (.seq (.ops F76o10) F76c11) F76c16)
def F76c8 : Ac := (.seq (.gh []) (.seq (.keep [3, 4, 5, 6] [[3], [4], [5], [6]]) F76b8))
def F76c2 : Ac := (.seq (.seq (.ops F76o4) F76c5) F76c8)
def F76c0 : Ac := (.seq (.ops F76o1) F76c2)
/-- hansom/comb.put -/
def F76 : Fn := { np := 3, pb := [], rs := [.c 6 (some 8), .t 7], body := F76c0 }
def F77o1 : List Ao := [
  { dst := some 2, k := (.box 18), xs := [.t 0] },
  { dst := some 4, k := .mv, xs := [.c (.d (.str []))] }]
def F77o4 : List Ao := [
  { dst := some 5, k := .mv, xs := [.t 1] },
  { dst := some 6, k := (.faddr 2), xs := [.t 2] },
  { dst := some 7, k := (.load none), xs := [.t 6] },
  { dst := some 8, k := .lenL, xs := [.t 7] },
  { dst := some 9, k := (.callf 82), xs := [.t 5, .t 8] },
  { dst := some 10, k := (.un .not), xs := [.t 9] }]
def F77o7 : List Ao := [
  { dst := some 4, k := .mv, xs := [.c (.d (.str []))] }]
def F77c8 : Ac := .ret
def F77c5 : Ac := (.cond (.t 10) (.seq (.ops F77o7) F77c8) .skip)
def F77o11 : List Ao := [
  { dst := some 11, k := (.faddr 2), xs := [.t 2] },
  { dst := some 12, k := (.load none), xs := [.t 11] },
  { dst := some 13, k := .mv, xs := [.t 1] },
  { dst := some 14, k := (.bin .sub), xs := [.t 13, .c (.d (.int .i64 1))] },
  { dst := some 15, k := (.iaddrS 1), xs := [.t 12, .t 14] },
  { dst := some 16, k := (.load none), xs := [.t 15] },
  { dst := some 4, k := .mv, xs := [.t 16] }]
def F77c12 : Ac := .ret
def F77c10 : Ac := (.seq (.ops F77o11) F77c12)
def F77c2 : Ac := (.seq (.seq (.ops F77o4) F77c5) F77c10)
def F77c0 : Ac := (.seq (.ops F77o1) F77c2)
/-- hansom/omf.Name -/
def F77 : Fn := { np := 2, pb := [], rs := [.t 4], body := F77c0 }
def F78o1 : List Ao := [
  { dst := some 4, k := .mv, xs := [.c (.nils)] },
  { dst := some 5, k := .mv, xs := [.c (.d (.int .i64 0))] }]
def F78o4 : List Ao := [
  { dst := some 12, k := .mv, xs := [.t 1] },
  { dst := some 13, k := .lenL, xs := [.t 12] },
  { dst := some 14, k := .mv, xs := [.c (.d (.int .i64 0))] }]
def F78o8 : List Ao := [
  { dst := some 15, k := (.bin .lss), xs := [.t 14, .t 13] }]
def F78o16 : List Ao := [
  { dst := some 16, k := .mv, xs := [.t 14] },
  { dst := some 17, k := (.iaddrS 3), xs := [.t 12, .t 14] },
  { dst := some 18, k := (.load (some 3)), xs := [.t 17] },
  { dst := some 7, k := (.alloc [.d (.str []), .d (.int .i64 0), .d (.int .u32 0)]), xs := [] },
  { dst := some 6, k := .mv, xs := [.t 16] },
  { dst := none, k := (.store 3), xs := [.t 7, .t 18] }]
def F78o18 : List Ao := [
  { dst := some 19, k := (.faddr 2), xs := [.t 7] },
  { dst := some 20, k := (.load none), xs := [.t 19] },
  { dst := some 21, k := (.toInt .i64), xs := [.t 20] },
  { dst := some 22, k := (.build [.d (.int .i64 0), .d (.int .i64 0), .d (.int .u16 0), .d (.int .u8 0), .d (.int .i64 0), .d (.int .i64 0), .d (.int .i64 0), .d (.int .i64 0)] [(0, 1), (1, 1), (4, 1)]), xs := [.c (.d (.int .i64 2)), .c (.d (.int .i64 2)), .t 21] },
  { dst := some 8, k := (.alloc [.d (.int .i64 0), .d (.int .i64 0), .d (.int .u16 0), .d (.int .u8 0), .d (.int .i64 0), .d (.int .i64 0), .d (.int .i64 0), .d (.int .i64 0)]), xs := [] },
  { dst := none, k := (.store 8), xs := [.t 8, .t 22] }]
def F78o20 : List Ao := [
  { dst := some 9, k := .mv, xs := [.c (.d (.str [67, 95, 67, 79, 77, 77, 79, 78]))] },
  { dst := some 10, k := .mv, xs := [.c (.d (.str [66, 83, 83]))] }]
def F78o23 : List Ao := [
  { dst := some 23, k := (.faddr 1), xs := [.t 7] },
  { dst := some 24, k := (.load none), xs := [.t 23] },
  { dst := some 25, k := (.bin .eql), xs := [.t 24, .c (.d (.int .i64 97))] }]
def F78o26 : List Ao := [
  { dst := some 26, k := (.faddr 0), xs := [.t 8] },
  { dst := none, k := (.store 1), xs := [.t 26, .c (.d (.int .i64 3))] },
  { dst := some 27, k := (.faddr 1), xs := [.t 8] },
  { dst := none, k := (.store 1), xs := [.t 27, .c (.d (.int .i64 0))] }]
def F78o27 : List Ao := [
  { dst := some 9, k := .mv, xs := [.c (.d (.str [70, 65, 82, 95, 67, 79, 77, 77, 79, 78]))] },
  { dst := some 10, k := .mv, xs := [.c (.d (.str [70, 65, 82, 95, 66, 83, 83]))] }]
def F78c27 : Ac := (.ops F78o27)
def F78c24 : Ac := (.cond (.t 25) (.seq (.ops F78o26) F78c27) .skip)
def F78o31 : List Ao := [
  { dst := some 28, k := (.faddr 4), xs := [.t 8] },
  { dst := some 29, k := (.load none), xs := [.t 28] },
  { dst := some 30, k := (.bin .gtr), xs := [.t 29, .c (.d (.int .i64 65536))] }]
def F78o34 : List Ao := [
  { dst := some 4, k := .mv, xs := [.c (.nils)] },
  { dst := some 5, k := .mv, xs := [.c (.d (.int .i64 8))] }]
def F78c35 : Ac := (.seq (.gh [.frz 4]) .ret)
def F78c32 : Ac := (.cond (.t 30) (.seq (.ops F78o34) F78c35) .skip)
def F78o38 : List Ao := [
  { dst := some 11, k := .mv, xs := [.c (.d (.int .i64 0))] }]
def F78o40 : List Ao := [
  { dst := some 32, k := .mv, xs := [.t 0] },
  { dst := some 33, k := .mv, xs := [.t 9] },
  { dst := some 34, k := .mv, xs := [.t 10] },
  { dst := some 35, k := (.load (some 8)), xs := [.t 8] },
  { dst := some 36, k := .mv, xs := [.t 6] },
  { dst := some 37, k := (.callf 51), xs := [.t 32, .t 33, .t 34, .t 35, .c (.d (.int .i64 (-1))), .t 36] },
  { dst := some 31, k := .mv, xs := [.t 37] },
  { dst := some 38, k := (.extract 0), xs := [.t 31] },
  { dst := some 39, k := (.extract 1), xs := [.t 31] },
  { dst := some 0, k := .mv, xs := [.t 38] },
  { dst := some 11, k := .mv, xs := [.t 39] }]
def F78o42 : List Ao := [
  { dst := some 40, k := .mv, xs := [.t 11] },
  { dst := some 41, k := (.bin .neq), xs := [.t 40, .c (.d (.int .i64 0))] }]
def F78o45 : List Ao := [
  { dst := some 42, k := .mv, xs := [.t 11] },
  { dst := some 4, k := .mv, xs := [.c (.nils)] },
  { dst := some 5, k := .mv, xs := [.t 42] }]
def F78c46 : Ac := (.seq (.gh [.frz 4]) .ret)
def F78c43 : Ac := (.cond (.t 41) (.seq (.ops F78o45) F78c46) .skip)
def F78c41 : Ac := (.seq (.ops F78o42) F78c43)
def F78c39 : Ac := (.seq (.ops F78o40) F78c41)
def F78c37 : Ac := (.seq (.ops F78o38) F78c39)
def F78b29 : Ac := (.seq (.seq (.ops F78o31) F78c32) F78c37)
def F78c29 : Ac := (.seq (.gh []) (.seq (.keep [0, 6, 8, 9, 10, 12, 13, 14] [[8]]) F78b29))
def F78c21 : Ac := (.seq (.seq (.ops F78o23) F78c24) F78c29)
def F78c19 : Ac := (.seq (.ops F78o20) F78c21)
def F78c17 : Ac := (.seq (.ops F78o18) F78c19)
def F78o48 : List Ao := [
  { dst := some 43, k := (.bin .add), xs := [.t 14, .c (.d (.int .i64 1))] },
  { dst := some 14, k := .mv, xs := [.t 43] }]
def F78c48 : Ac := (.ops F78o48)
def F78c13 : Ac := (.seq (.block 1 (.seq (.ops F78o16) F78c17)) F78c48)
def F78c9 : Ac := (.seq (.cond (.t 15) .skip (.exit 0)) F78c13)
def F78l6 : Ac := (.seq (.ops F78o8) F78c9)
def F78c5 : Ac := (.block 0 (.loop (.seq (.gh []) (.seq (.keep [0, 12, 13, 14] []) F78l6))))
def F78o50 : List Ao := [
  { dst := some 44, k := .mv, xs := [.t 0] },
  { dst := some 4, k := .mv, xs := [.t 44] },
  { dst := some 5, k := .mv, xs := [.c (.d (.int .i64 0))] }]
def F78c51 : Ac := .ret
def F78b49 : Ac := (.seq (.ops F78o50) F78c51)
def F78c49 : Ac := (.seq (.gh []) (.seq (.keep [0] []) F78b49))
def F78c2 : Ac := (.seq (.seq (.ops F78o4) F78c5) F78c49)
def F78c0 : Ac := (.seq (.ops F78o1) F78c2)
/-- hansom/comb.made -/
def F78 : Fn := { np := 2, pb := [], rs := [.t 4, .t 5], body := F78c0 }
def F81o1 : List Ao := [
  { dst := some 2, k := .mv, xs := [.c (.nils)] }]
def F81o4 : List Ao := [
  { dst := some 3, k := .mv, xs := [.t 0] },
  { dst := some 4, k := (.nilS false), xs := [.t 3, .c (.nils)] }]
def F81o7 : List Ao := [
  { dst := some 2, k := .mv, xs := [.c (.nils)] }]
def F81c8 : Ac := (.seq (.gh [.own 2 [2] 4]) .ret)
def F81c5 : Ac := (.cond (.t 4) (.seq (.ops F81o7) F81c8) .skip)
def F81o11 : List Ao := [
  { dst := some 5, k := (.bslice (.agg [.int .i64 0, .int .i64 0, .int .i64 0, .int .i64 0]) 0 []), xs := [] },
  { dst := some 6, k := .mv, xs := [.t 0] },
  { dst := some 7, k := (.append 4 32 false), xs := [.t 5, .t 6] },
  { dst := some 2, k := .mv, xs := [.t 7] }]
def F81c12 : Ac := .ret
def F81c10 : Ac := (.seq (.ops F81o11) F81c12)
def F81c2 : Ac := (.seq (.seq (.ops F81o4) F81c5) F81c10)
def F81c0 : Ac := (.seq (.ops F81o1) F81c2)
/-- slices.Clone[[]hansom/api.Chunk,hansom/api.Chunk] -/
def F81 : Fn := { np := 1, sp := true, pb := [], rs := [.t 2], body := F81c0 }
def F82o1 : List Ao := [
  { dst := some 4, k := .mv, xs := [.c (.d (.bool false))] }]
def F82o3 : List Ao := [
  { dst := some 5, k := .mv, xs := [.t 0] },
  { dst := some 6, k := (.bin .geq), xs := [.t 5, .c (.d (.int .i64 1))] },
  { dst := some 7, k := .mv, xs := [.t 6] },
  { dst := some 8, k := .mv, xs := [.t 0], g := some (7, true) },
  { dst := some 9, k := .mv, xs := [.t 1], g := some (7, true) },
  { dst := some 10, k := (.bin .leq), xs := [.t 8, .t 9], g := some (7, true) },
  { dst := some 11, k := .pick, xs := [.t 7, .t 10, .c (.d (.bool false))] },
  { dst := some 4, k := .mv, xs := [.t 11] }]
def F82c4 : Ac := .ret
def F82c2 : Ac := (.seq (.ops F82o3) F82c4)
def F82c0 : Ac := (.seq (.ops F82o1) F82c2)
/-- hansom/omf.in -/
def F82 : Fn := { np := 2, pb := [], rs := [.t 4], body := F82c0 }
def tab1 : Nat → Option Fn
  | 13 => some F13
  | 14 => some F14
  | 43 => some F43
  | 49 => some F49
  | 50 => some F50
  | 51 => some F51
  | 52 => some F52
  | 53 => some F53
  | 54 => some F54
  | 69 => some F69
  | 70 => some F70
  | 71 => some F71
  | 73 => some F73
  | 74 => some F74
  | 75 => some F75
  | 76 => some F76
  | 77 => some F77
  | 78 => some F78
  | 81 => some F81
  | 82 => some F82
  | _ => none
noncomputable def L : Cs := lim tab1 (fun _ _ => none)

theorem no_globals : GOk (fun _ _ => none) (fun _ => none) := fun n a h => by cases h
theorem ok13 : FnOk (fun _ _ => none) Try.prog 13 F13 := compF_spec no_globals Try.func13 (by kernel_rfl)
theorem ok14 : FnOk (fun _ _ => none) Try.prog 14 F14 := compF_spec no_globals Try.func14 (by kernel_rfl)
theorem ok43 : FnOk (fun _ _ => none) Try.prog 43 F43 := compF_spec no_globals Try.func43 (by kernel_rfl)
theorem ok49 : FnOk (fun _ _ => none) Try.prog 49 F49 := compF_spec no_globals Try.func49 (by kernel_rfl)
theorem ok50 : FnOk (fun _ _ => none) Try.prog 50 F50 := compF_spec no_globals Try.func50 (by kernel_rfl)
theorem ok51 : FnOk (fun _ _ => none) Try.prog 51 F51 := compF_spec no_globals Try.func51 (by kernel_rfl)
theorem ok52 : FnOk (fun _ _ => none) Try.prog 52 F52 := compF_spec no_globals Try.func52 (by kernel_rfl)
theorem ok53 : FnOk (fun _ _ => none) Try.prog 53 F53 := compF_spec no_globals Try.func53 (by kernel_rfl)
theorem ok54 : FnOk (fun _ _ => none) Try.prog 54 F54 := compF_spec no_globals Try.func54 (by kernel_rfl)
theorem ok69 : FnOk (fun _ _ => none) Try.prog 69 F69 := compF_spec no_globals Try.func69 (by kernel_rfl)
theorem ok70 : FnOk (fun _ _ => none) Try.prog 70 F70 := compF_spec no_globals Try.func70 (by kernel_rfl)
theorem ok71 : FnOk (fun _ _ => none) Try.prog 71 F71 := compF_spec no_globals Try.func71 (by kernel_rfl)
theorem ok73 : FnOk (fun _ _ => none) Try.prog 73 F73 := compF_spec no_globals Try.func73 (by kernel_rfl)
theorem ok74 : FnOk (fun _ _ => none) Try.prog 74 F74 := compF_spec no_globals Try.func74 (by kernel_rfl)
theorem ok75 : FnOk (fun _ _ => none) Try.prog 75 F75 := compF_spec no_globals Try.func75 (by kernel_rfl)
theorem ok76 : FnOk (fun _ _ => none) Try.prog 76 F76 := compF_spec no_globals Try.func76 (by kernel_rfl)
theorem ok77 : FnOk (fun _ _ => none) Try.prog 77 F77 := compF_spec no_globals Try.func77 (by kernel_rfl)
theorem ok78 : FnOk (fun _ _ => none) Try.prog 78 F78 := compF_spec no_globals Try.func78 (by kernel_rfl)
theorem ok81 : FnOk (fun _ _ => none) Try.prog 81 F81 := compF_spec no_globals Try.func81 (by kernel_rfl)
theorem ok82 : FnOk (fun _ _ => none) Try.prog 82 F82 := compF_spec no_globals Try.func82 (by kernel_rfl)
theorem tab1_ok : ∀ f fn, tab1 f = some fn → FnOk (fun _ _ => none) Try.prog f fn := by
  intro f fn h
  unfold tab1 at h
  split at h <;> cases h
  · exact ok13
  · exact ok14
  · exact ok43
  · exact ok49
  · exact ok50
  · exact ok51
  · exact ok52
  · exact ok53
  · exact ok54
  · exact ok69
  · exact ok70
  · exact ok71
  · exact ok73
  · exact ok74
  · exact ok75
  · exact ok76
  · exact ok77
  · exact ok78
  · exact ok81
  · exact ok82
theorem meets1 (f : Nat) : Meets (fun _ _ => none) Try.prog f (L f) := lim_meets tab1_ok (fun f _ m w args vs bs _ _ _ _ _ r a h => by cases h) f

end Go.Es.Cmb
