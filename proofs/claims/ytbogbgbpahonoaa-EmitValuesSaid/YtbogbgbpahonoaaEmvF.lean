/- The code of the functions that the statement EmitValues reaches, as the interpreter reads it. No condition. -/
import Derived.Test.YtbogbgbpahonoaaEsD
import Derived.Test.YtbogbgbpahonoaaChecked
import Derived.KernelRfl
set_option linter.unusedVariables false
set_option linter.unusedSimpArgs false
set_option maxRecDepth 100000
set_option maxHeartbeats 4000000
namespace Go.Es.Emv
open Go.Proofs
def F5o1 : List Ao := [
  { dst := some 3, k := (.box 6), xs := [.t 0] },
  { dst := some 6, k := .mv, xs := [.c (.d (.bool false))] }]
def F5o3 : List Ao := [
  { dst := some 18, k := (.load (some 6)), xs := [.t 3] },
  { dst := some 7, k := (.alloc [.d (.int .i64 0), .d (.int .i64 0), .d (.int .i64 0), .d (.int .i64 0), .d (.int .i64 0), .d (.bool false)]), xs := [] },
  { dst := none, k := (.store 6), xs := [.t 7, .t 18] }]
def F5o5 : List Ao := [
  { dst := some 19, k := (.faddr 1), xs := [.t 3] },
  { dst := some 20, k := (.load none), xs := [.t 19] },
  { dst := some 21, k := (.bin .and), xs := [.t 20, .c (.d (.int .i64 3))] },
  { dst := some 22, k := (.faddr 4), xs := [.t 3] },
  { dst := some 23, k := (.load none), xs := [.t 22], av := [[7]] },
  { dst := some 24, k := (.bin .and), xs := [.t 23, .c (.d (.int .i64 255))] },
  { dst := some 25, k := (.bin .rem), xs := [.t 24, .c (.d (.int .i64 3))] },
  { dst := some 26, k := (.faddr 1), xs := [.t 7] },
  { dst := none, k := (.store 1), xs := [.t 26, .t 21], al := some [[7]] },
  { dst := some 27, k := (.faddr 4), xs := [.t 7] },
  { dst := none, k := (.store 1), xs := [.t 27, .t 25] }]
def F5o8 : List Ao := [
  { dst := some 28, k := (.faddr 1), xs := [.t 7] },
  { dst := some 29, k := (.load none), xs := [.t 28] },
  { dst := some 30, k := (.bin .eql), xs := [.t 29, .c (.d (.int .i64 0))] }]
def F5o10 : List Ao := [
  { dst := some 31, k := (.faddr 4), xs := [.t 7] },
  { dst := none, k := (.store 1), xs := [.t 31, .c (.d (.int .i64 0))] }]
def F5c9 : Ac := (.cond (.t 30) (.ops F5o10) .skip)
def F5o13 : List Ao := [
  { dst := some 32, k := (.faddr 0), xs := [.t 7] },
  { dst := some 33, k := (.load none), xs := [.t 32] },
  { dst := some 34, k := (.toInt .u32), xs := [.t 33] },
  { dst := some 8, k := .mv, xs := [.t 34] }]
def F5o15 : List Ao := [
  { dst := some 36, k := (.load (some 6)), xs := [.t 7] },
  { dst := some 37, k := (.callf 22), xs := [.t 36] },
  { dst := some 35, k := .mv, xs := [.t 37] },
  { dst := some 38, k := (.extract 0), xs := [.t 35] },
  { dst := some 39, k := (.extract 1), xs := [.t 35] },
  { dst := some 9, k := .mv, xs := [.t 38] },
  { dst := some 10, k := .mv, xs := [.t 39] }]
def F5o17 : List Ao := [
  { dst := some 41, k := (.load (some 6)), xs := [.t 7] },
  { dst := some 42, k := (.callf 23), xs := [.t 41] },
  { dst := some 40, k := .mv, xs := [.t 42] },
  { dst := some 43, k := (.extract 0), xs := [.t 40] },
  { dst := some 44, k := (.extract 1), xs := [.t 40] },
  { dst := some 11, k := .mv, xs := [.t 43] },
  { dst := some 12, k := .mv, xs := [.t 44] }]
def F5o19 : List Ao := [
  { dst := some 45, k := (.bslice (.int .i64 0) 4 [0, 1, 2, 3]), xs := [.c (.d (.int .i64 0)), .c (.d (.int .i64 0)), .c (.d (.int .i64 1)), .c (.d (.int .i64 2))] },
  { dst := some 13, k := .mv, xs := [.t 45] }]
def F5o21 : List Ao := [
  { dst := some 46, k := (.load (some 6)), xs := [.t 7] },
  { dst := some 47, k := .mv, xs := [.t 1] },
  { dst := some 48, k := .mv, xs := [.t 2] },
  { dst := some 49, k := (.callf 24), xs := [.c (.d (.int .i64 3)), .c (.d (.int .i64 0)), .t 46, .t 47, .t 48] },
  { dst := some 14, k := (.alloc [.d (.int .i64 0), .d (.int .i64 0), .d (.bool false), .d (.int .i64 0), .d (.int .i64 0), .d (.int .i64 0), .d (.int .i64 0), .d (.int .u16 0)]), xs := [] },
  { dst := none, k := (.store 8), xs := [.t 14, .t 49] }]
def F5o23 : List Ao := [
  { dst := some 50, k := .mv, xs := [.t 2] },
  { dst := some 15, k := .mv, xs := [.c (.d (.int .i64 0))] },
  { dst := some 16, k := .mv, xs := [.t 50] }]
def F5o26 : List Ao := [
  { dst := some 51, k := .mv, xs := [.t 1] }]
def F5o29 : List Ao := [
  { dst := some 53, k := (.bin .eql), xs := [.t 51, .c (.d (.int .i64 0))] },
  { dst := some 52, k := .mv, xs := [.t 53] }]
def F5o31 : List Ao := [
  { dst := some 15, k := .mv, xs := [.c (.d (.int .i64 5))] },
  { dst := some 16, k := .mv, xs := [.c (.d (.int .i64 0))] }]
def F5o33 : List Ao := [
  { dst := some 55, k := (.bin .eql), xs := [.t 51, .c (.d (.int .i64 2))] },
  { dst := some 54, k := .mv, xs := [.t 55] }]
def F5o35 : List Ao := [
  { dst := some 15, k := .mv, xs := [.c (.d (.int .i64 1))] }]
def F5o37 : List Ao := [
  { dst := some 57, k := (.bin .eql), xs := [.t 51, .c (.d (.int .i64 3))] },
  { dst := some 56, k := .mv, xs := [.t 57] }]
def F5o39 : List Ao := [
  { dst := some 15, k := .mv, xs := [.c (.d (.int .i64 2))] }]
def F5c38 : Ac := (.cond (.t 56) (.ops F5o39) .skip)
def F5c34 : Ac := (.cond (.t 54) (.ops F5o35) (.seq (.ops F5o37) F5c38))
def F5c30 : Ac := (.cond (.t 52) (.ops F5o31) (.seq (.ops F5o33) F5c34))
def F5c27 : Ac := (.block 0 (.seq (.ops F5o29) F5c30))
def F5o43 : List Ao := [
  { dst := some 58, k := (.load (some 8)), xs := [.t 14] },
  { dst := some 59, k := .mv, xs := [.t 15] },
  { dst := some 60, k := .mv, xs := [.t 16] },
  { dst := some 61, k := .mv, xs := [.t 13] },
  { dst := some 62, k := (.faddr 1), xs := [.t 7] },
  { dst := some 63, k := (.load none), xs := [.t 62] },
  { dst := some 64, k := (.iaddrS 1), xs := [.t 61, .t 63] },
  { dst := some 65, k := (.load none), xs := [.t 64] },
  { dst := some 66, k := (.faddr 2), xs := [.t 7] },
  { dst := some 67, k := (.load none), xs := [.t 66] },
  { dst := some 68, k := (.faddr 0), xs := [.t 7] },
  { dst := some 69, k := (.load none), xs := [.t 68] },
  { dst := some 70, k := (.toInt .u16), xs := [.t 69] },
  { dst := some 71, k := (.build [.d (.int .i64 0), .d (.int .i64 0), .d (.bool false), .d (.int .i64 0), .d (.int .i64 0), .d (.int .i64 0), .d (.int .i64 0), .d (.int .u16 0)] [(0, 1), (1, 1), (3, 1), (4, 1), (5, 1), (6, 1), (7, 1)]), xs := [.c (.d (.int .i64 3)), .c (.d (.int .i64 0)), .t 59, .t 60, .t 65, .t 67, .t 70] },
  { dst := some 72, k := (.eqa true [.i, .i, .b, .i, .i, .i, .i, .i]), xs := [.t 58, .t 71] },
  { dst := some 73, k := .mv, xs := [.t 72] },
  { dst := some 74, k := (.faddr 1), xs := [.t 7], g := some (73, false) },
  { dst := some 75, k := (.load none), xs := [.t 74], g := some (73, false) },
  { dst := some 76, k := (.callf 25), xs := [.t 75], g := some (73, false), al := some [] },
  { dst := some 77, k := .mv, xs := [.t 13], g := some (73, false) },
  { dst := some 78, k := (.faddr 1), xs := [.t 7], g := some (73, false) },
  { dst := some 79, k := (.load none), xs := [.t 78], g := some (73, false), av := [[76]] },
  { dst := some 80, k := (.iaddrS 1), xs := [.t 77, .t 79], g := some (73, false) },
  { dst := some 81, k := (.load none), xs := [.t 80], g := some (73, false), av := [[76]] },
  { dst := some 82, k := (.bin .neq), xs := [.t 76, .t 81], g := some (73, false) },
  { dst := some 83, k := .pick, xs := [.t 73, .c (.d (.bool true)), .t 82] }]
def F5o46 : List Ao := [
  { dst := some 6, k := .mv, xs := [.c (.d (.bool false))] }]
def F5c47 : Ac := .ret
def F5c44 : Ac := (.cond (.t 83) (.seq (.ops F5o46) F5c47) .skip)
def F5o51 : List Ao := [
  { dst := some 84, k := (.faddr 1), xs := [.t 7] },
  { dst := some 85, k := (.load none), xs := [.t 84] },
  { dst := some 86, k := (.bin .eql), xs := [.t 85, .c (.d (.int .i64 0))] }]
def F5o54 : List Ao := [
  { dst := some 87, k := (.callf 26), xs := [] },
  { dst := some 88, k := .mv, xs := [.t 87] },
  { dst := some 89, k := .mv, xs := [.t 9], g := some (88, true) },
  { dst := some 90, k := .bytesStr, xs := [.t 89], g := some (88, true) },
  { dst := some 91, k := .mv, xs := [.t 8], g := some (88, true) },
  { dst := some 92, k := (.toInt .u8), xs := [.t 91], g := some (88, true) },
  { dst := some 93, k := .mv, xs := [.t 8], g := some (88, true) },
  { dst := some 94, k := (.bin .shr), xs := [.t 93, .c (.d (.int .u64 8))], g := some (88, true) },
  { dst := some 95, k := (.toInt .u8), xs := [.t 94], g := some (88, true) },
  { dst := some 96, k := (.bslice (.int .u8 0) 2 [0, 1]), xs := [.t 92, .t 95], g := some (88, true) },
  { dst := some 97, k := .bytesStr, xs := [.t 96], g := some (88, true) },
  { dst := some 98, k := (.bin .eql), xs := [.t 90, .t 97], g := some (88, true) },
  { dst := some 99, k := .pick, xs := [.t 88, .t 98, .c (.d (.bool false))] },
  { dst := some 100, k := .mv, xs := [.t 99] },
  { dst := some 101, k := .mv, xs := [.t 10], g := some (100, true) },
  { dst := some 102, k := .lenL, xs := [.t 101], g := some (100, true) },
  { dst := some 103, k := (.bin .eql), xs := [.t 102, .c (.d (.int .i64 0))], g := some (100, true) },
  { dst := some 104, k := .pick, xs := [.t 100, .t 103, .c (.d (.bool false))] },
  { dst := some 105, k := .mv, xs := [.t 104] },
  { dst := some 106, k := .mv, xs := [.t 11], g := some (105, true) },
  { dst := some 107, k := .bytesStr, xs := [.t 106], g := some (105, true) },
  { dst := some 108, k := .mv, xs := [.t 8], g := some (105, true) },
  { dst := some 109, k := (.toInt .u8), xs := [.t 108], g := some (105, true) },
  { dst := some 110, k := .mv, xs := [.t 8], g := some (105, true) },
  { dst := some 111, k := (.bin .shr), xs := [.t 110, .c (.d (.int .u64 8))], g := some (105, true) },
  { dst := some 112, k := (.toInt .u8), xs := [.t 111], g := some (105, true) },
  { dst := some 113, k := .mv, xs := [.t 8], g := some (105, true) },
  { dst := some 114, k := (.bin .shr), xs := [.t 113, .c (.d (.int .u64 16))], g := some (105, true) },
  { dst := some 115, k := (.toInt .u8), xs := [.t 114], g := some (105, true) },
  { dst := some 116, k := .mv, xs := [.t 8], g := some (105, true) },
  { dst := some 117, k := (.bin .shr), xs := [.t 116, .c (.d (.int .u64 24))], g := some (105, true) },
  { dst := some 118, k := (.toInt .u8), xs := [.t 117], g := some (105, true) },
  { dst := some 119, k := (.bslice (.int .u8 0) 4 [0, 1, 2, 3]), xs := [.t 109, .t 112, .t 115, .t 118], g := some (105, true) },
  { dst := some 120, k := .bytesStr, xs := [.t 119], g := some (105, true) },
  { dst := some 121, k := (.bin .eql), xs := [.t 107, .t 120], g := some (105, true) },
  { dst := some 122, k := .pick, xs := [.t 105, .t 121, .c (.d (.bool false))] },
  { dst := some 123, k := .mv, xs := [.t 122] },
  { dst := some 124, k := .mv, xs := [.t 12], g := some (123, true) },
  { dst := some 125, k := .lenL, xs := [.t 124], g := some (123, true) },
  { dst := some 126, k := (.bin .eql), xs := [.t 125, .c (.d (.int .i64 0))], g := some (123, true) },
  { dst := some 127, k := .pick, xs := [.t 123, .t 126, .c (.d (.bool false))] },
  { dst := some 6, k := .mv, xs := [.t 127] }]
def F5c55 : Ac := .ret
def F5c52 : Ac := (.cond (.t 86) (.seq (.ops F5o54) F5c55) .skip)
def F5o58 : List Ao := [
  { dst := some 17, k := .mv, xs := [.c (.d (.int .i64 1))] }]
def F5o61 : List Ao := [
  { dst := some 128, k := (.faddr 4), xs := [.t 7] },
  { dst := some 129, k := (.load none), xs := [.t 128] },
  { dst := some 130, k := (.bin .eql), xs := [.t 129, .c (.d (.int .i64 2))] }]
def F5o63 : List Ao := [
  { dst := some 17, k := .mv, xs := [.c (.d (.int .i64 2))] }]
def F5c62 : Ac := (.cond (.t 130) (.ops F5o63) .skip)
def F5o66 : List Ao := [
  { dst := some 131, k := (.callf 26), xs := [] },
  { dst := some 132, k := .mv, xs := [.t 131] },
  { dst := some 133, k := .mv, xs := [.t 9], g := some (132, true) },
  { dst := some 134, k := .bytesStr, xs := [.t 133], g := some (132, true) },
  { dst := some 135, k := (.bin .eql), xs := [.t 134, .c (.d (.str [0, 0]))], g := some (132, true) },
  { dst := some 136, k := .pick, xs := [.t 132, .t 135, .c (.d (.bool false))] },
  { dst := some 137, k := .mv, xs := [.t 136] },
  { dst := some 138, k := .mv, xs := [.t 10], g := some (137, true) },
  { dst := some 139, k := .lenL, xs := [.t 138], g := some (137, true) },
  { dst := some 140, k := (.bin .eql), xs := [.t 139, .c (.d (.int .i64 1))], g := some (137, true) },
  { dst := some 141, k := .pick, xs := [.t 137, .t 140, .c (.d (.bool false))] },
  { dst := some 142, k := .mv, xs := [.t 141] },
  { dst := some 143, k := .mv, xs := [.t 10], g := some (142, true) },
  { dst := some 144, k := (.iaddrS 8), xs := [.t 143, .c (.d (.int .i64 0))], g := some (142, true) },
  { dst := some 145, k := (.load (some 8)), xs := [.t 144], g := some (142, true), av := [[148]] },
  { dst := some 146, k := .mv, xs := [.t 17], g := some (142, true) },
  { dst := some 147, k := (.load (some 6)), xs := [.t 7], g := some (142, true) },
  { dst := some 148, k := (.callf 24), xs := [.c (.d (.int .i64 0)), .t 146, .t 147, .c (.d (.int .i64 0)), .c (.d (.int .i64 0))], g := some (142, true), al := some [] },
  { dst := some 149, k := (.eqa false [.i, .i, .b, .i, .i, .i, .i, .i]), xs := [.t 145, .t 148], g := some (142, true) },
  { dst := some 150, k := .pick, xs := [.t 142, .t 149, .c (.d (.bool false))] },
  { dst := some 151, k := .mv, xs := [.t 150] },
  { dst := some 152, k := .mv, xs := [.t 11], g := some (151, true) },
  { dst := some 153, k := .bytesStr, xs := [.t 152], g := some (151, true) },
  { dst := some 154, k := (.bin .eql), xs := [.t 153, .c (.d (.str [0, 0, 0, 0]))], g := some (151, true) },
  { dst := some 155, k := .pick, xs := [.t 151, .t 154, .c (.d (.bool false))] },
  { dst := some 156, k := .mv, xs := [.t 155] },
  { dst := some 157, k := .mv, xs := [.t 12], g := some (156, true) },
  { dst := some 158, k := .lenL, xs := [.t 157], g := some (156, true) },
  { dst := some 159, k := (.bin .eql), xs := [.t 158, .c (.d (.int .i64 1))], g := some (156, true) },
  { dst := some 160, k := .pick, xs := [.t 156, .t 159, .c (.d (.bool false))] },
  { dst := some 161, k := .mv, xs := [.t 160] },
  { dst := some 162, k := .mv, xs := [.t 12], g := some (161, true) },
  { dst := some 163, k := (.iaddrS 8), xs := [.t 162, .c (.d (.int .i64 0))], g := some (161, true) },
  { dst := some 164, k := (.load (some 8)), xs := [.t 163], g := some (161, true), av := [[166]] },
  { dst := some 165, k := (.load (some 6)), xs := [.t 7], g := some (161, true) },
  { dst := some 166, k := (.callf 24), xs := [.c (.d (.int .i64 0)), .c (.d (.int .i64 3)), .t 165, .c (.d (.int .i64 0)), .c (.d (.int .i64 0))], g := some (161, true), al := some [] },
  { dst := some 167, k := (.eqa false [.i, .i, .b, .i, .i, .i, .i, .i]), xs := [.t 164, .t 166], g := some (161, true) },
  { dst := some 168, k := .pick, xs := [.t 161, .t 167, .c (.d (.bool false))] },
  { dst := some 6, k := .mv, xs := [.t 168] }]
def F5c67 : Ac := .ret
def F5b65 : Ac := (.seq (.ops F5o66) F5c67)
def F5c65 : Ac := (.seq (.gh []) (.seq (.keep [7, 9, 10, 11, 12, 17] [[7]]) F5b65))
def F5c59 : Ac := (.seq (.seq (.ops F5o61) F5c62) F5c65)
def F5c57 : Ac := (.seq (.ops F5o58) F5c59)
def F5c49 : Ac := (.seq (.seq (.ops F5o51) F5c52) F5c57)
def F5b41 : Ac := (.seq (.seq (.ops F5o43) F5c44) F5c49)
def F5c41 : Ac := (.seq (.gh [.frz 13]) (.seq (.keep [7, 8, 9, 10, 11, 12, 13, 14, 15, 16] [[7], [14]]) F5b41))
def F5c24 : Ac := (.seq (.seq (.ops F5o26) F5c27) F5c41)
def F5c22 : Ac := (.seq (.ops F5o23) F5c24)
def F5b20 : Ac := (.seq (.ops F5o21) F5c22)
def F5c20 : Ac := (.seq (.gh [.frz 13]) (.seq (.keep [1, 2, 7, 8, 9, 10, 11, 12, 13] [[7]]) F5b20))
def F5c18 : Ac := (.seq (.ops F5o19) F5c20)
def F5c16 : Ac := (.seq (.ops F5o17) F5c18)
def F5c14 : Ac := (.seq (.ops F5o15) F5c16)
def F5b12 : Ac := (.seq (.ops F5o13) F5c14)
def F5c12 : Ac := (.seq (.gh []) (.seq (.keep [1, 2, 7] [[7]]) F5b12))
def F5c6 : Ac := (.seq (.seq (.ops F5o8) F5c9) F5c12)
def F5c4 : Ac := (.seq (.ops F5o5) F5c6)
def F5c2 : Ac := (.seq (.ops F5o3) F5c4)
def F5c0 : Ac := (.seq (.ops F5o1) F5c2)
/-- hansom/hansomlaw37.EmitValues -/
def F5 : Fn := { np := 3, pb := [], rs := [.t 6], body := F5c0 }
def F22o1 : List Ao := [
  { dst := some 1, k := (.box 6), xs := [.t 0] },
  { dst := some 2, k := .mv, xs := [.c (.nils)] },
  { dst := some 3, k := .mv, xs := [.c (.nils)] }]
def F22o4 : List Ao := [
  { dst := some 5, k := (.load (some 6)), xs := [.t 1] },
  { dst := some 6, k := (.callf 55), xs := [.t 5] }]
def F22o7 : List Ao := [
  { dst := some 7, k := (.faddr 0), xs := [.t 1] },
  { dst := some 8, k := (.load none), xs := [.t 7] },
  { dst := some 9, k := (.toInt .u16), xs := [.t 8] },
  { dst := some 10, k := (.callf 56), xs := [.t 9], al := some [] },
  { dst := some 11, k := (.faddr 0), xs := [.t 1] },
  { dst := some 12, k := (.load none), xs := [.t 11], av := [[10]] },
  { dst := some 13, k := (.toInt .u16), xs := [.t 12] },
  { dst := some 14, k := (.callf 57), xs := [.t 13] },
  { dst := some 15, k := (.bslice (.int .u8 0) 2 [0, 1]), xs := [.t 10, .t 14] },
  { dst := some 2, k := .mv, xs := [.t 15] },
  { dst := some 3, k := .mv, xs := [.c (.nils)] }]
def F22c8 : Ac := (.seq (.gh [.frz 2, .frz 3]) .ret)
def F22c5 : Ac := (.cond (.t 6) (.seq (.ops F22o7) F22c8) .skip)
def F22o11 : List Ao := [
  { dst := some 4, k := .mv, xs := [.c (.d (.int .i64 1))] }]
def F22o14 : List Ao := [
  { dst := some 16, k := (.faddr 4), xs := [.t 1] },
  { dst := some 17, k := (.load none), xs := [.t 16] },
  { dst := some 18, k := (.bin .eql), xs := [.t 17, .c (.d (.int .i64 2))] }]
def F22o16 : List Ao := [
  { dst := some 4, k := .mv, xs := [.c (.d (.int .i64 2))] }]
def F22c15 : Ac := (.cond (.t 18) (.ops F22o16) .skip)
def F22o19 : List Ao := [
  { dst := some 19, k := (.mkslice (.int .u8 0) 1), xs := [.c (.d (.int .i64 2)), .c (.d (.int .i64 2))], av := [[22], [23]] },
  { dst := some 20, k := .mv, xs := [.t 4] },
  { dst := some 21, k := (.load (some 6)), xs := [.t 1], av := [[19]] },
  { dst := some 22, k := (.callf 24), xs := [.c (.d (.int .i64 0)), .t 20, .t 21, .c (.d (.int .i64 0)), .c (.d (.int .i64 0))], av := [[19]], al := some [] },
  { dst := some 23, k := (.bslice (.agg [.int .i64 0, .int .i64 0, .bool false, .int .i64 0, .int .i64 0, .int .i64 0, .int .i64 0, .int .u16 0]) 1 [0]), xs := [.t 22], av := [[19]] },
  { dst := some 2, k := .mv, xs := [.t 19] },
  { dst := some 3, k := .mv, xs := [.t 23] }]
def F22c20 : Ac := (.seq (.gh [.frz 2, .frz 3]) .ret)
def F22c18 : Ac := (.seq (.ops F22o19) F22c20)
def F22c12 : Ac := (.seq (.seq (.ops F22o14) F22c15) F22c18)
def F22c10 : Ac := (.seq (.ops F22o11) F22c12)
def F22c2 : Ac := (.seq (.seq (.ops F22o4) F22c5) F22c10)
def F22c0 : Ac := (.seq (.ops F22o1) F22c2)
/-- hansom/emit.Word -/
def F22 : Fn := { np := 1, pb := [], rs := [.t 2, .t 3], body := F22c0 }
def F23o1 : List Ao := [
  { dst := some 1, k := (.box 6), xs := [.t 0] },
  { dst := some 2, k := .mv, xs := [.c (.nils)] },
  { dst := some 3, k := .mv, xs := [.c (.nils)] }]
def F23o4 : List Ao := [
  { dst := some 5, k := (.load (some 6)), xs := [.t 1] },
  { dst := some 6, k := (.callf 55), xs := [.t 5] }]
def F23o7 : List Ao := [
  { dst := some 7, k := (.faddr 0), xs := [.t 1] },
  { dst := some 8, k := (.load none), xs := [.t 7] },
  { dst := some 9, k := (.toInt .u32), xs := [.t 8] },
  { dst := some 4, k := .mv, xs := [.t 9] }]
def F23o9 : List Ao := [
  { dst := some 10, k := .mv, xs := [.t 4] },
  { dst := some 11, k := (.toInt .u8), xs := [.t 10] },
  { dst := some 12, k := .mv, xs := [.t 4] },
  { dst := some 13, k := (.bin .shr), xs := [.t 12, .c (.d (.int .u64 8))] },
  { dst := some 14, k := (.toInt .u8), xs := [.t 13] },
  { dst := some 15, k := .mv, xs := [.t 4] },
  { dst := some 16, k := (.bin .shr), xs := [.t 15, .c (.d (.int .u64 16))] },
  { dst := some 17, k := (.toInt .u8), xs := [.t 16] },
  { dst := some 18, k := .mv, xs := [.t 4] },
  { dst := some 19, k := (.bin .shr), xs := [.t 18, .c (.d (.int .u64 24))] },
  { dst := some 20, k := (.toInt .u8), xs := [.t 19] },
  { dst := some 21, k := (.bslice (.int .u8 0) 4 [0, 1, 2, 3]), xs := [.t 11, .t 14, .t 17, .t 20] },
  { dst := some 2, k := .mv, xs := [.t 21] },
  { dst := some 3, k := .mv, xs := [.c (.nils)] }]
def F23c10 : Ac := (.seq (.gh [.frz 2, .frz 3]) .ret)
def F23c8 : Ac := (.seq (.ops F23o9) F23c10)
def F23c5 : Ac := (.cond (.t 6) (.seq (.ops F23o7) F23c8) .skip)
def F23o13 : List Ao := [
  { dst := some 22, k := (.mkslice (.int .u8 0) 1), xs := [.c (.d (.int .i64 4)), .c (.d (.int .i64 4))], av := [[24], [25]] },
  { dst := some 23, k := (.load (some 6)), xs := [.t 1], av := [[22]] },
  { dst := some 24, k := (.callf 24), xs := [.c (.d (.int .i64 0)), .c (.d (.int .i64 3)), .t 23, .c (.d (.int .i64 0)), .c (.d (.int .i64 0))], av := [[22]], al := some [] },
  { dst := some 25, k := (.bslice (.agg [.int .i64 0, .int .i64 0, .bool false, .int .i64 0, .int .i64 0, .int .i64 0, .int .i64 0, .int .u16 0]) 1 [0]), xs := [.t 24], av := [[22]] },
  { dst := some 2, k := .mv, xs := [.t 22] },
  { dst := some 3, k := .mv, xs := [.t 25] }]
def F23c14 : Ac := (.seq (.gh [.frz 2, .frz 3]) .ret)
def F23c12 : Ac := (.seq (.ops F23o13) F23c14)
def F23c2 : Ac := (.seq (.seq (.ops F23o4) F23c5) F23c12)
def F23c0 : Ac := (.seq (.ops F23o1) F23c2)
/-- hansom/emit.Long -/
def F23 : Fn := { np := 1, pb := [], rs := [.t 2, .t 3], body := F23c0 }
def F24o1 : List Ao := [
  { dst := some 7, k := (.box 6), xs := [.t 2] },
  { dst := some 10, k := (.alloc [.d (.int .i64 0), .d (.int .i64 0), .d (.bool false), .d (.int .i64 0), .d (.int .i64 0), .d (.int .i64 0), .d (.int .i64 0), .d (.int .u16 0)]), xs := [] }]
def F24o3 : List Ao := [
  { dst := some 12, k := .mv, xs := [.t 0] },
  { dst := some 13, k := .mv, xs := [.t 1] },
  { dst := some 14, k := (.faddr 1), xs := [.t 7] },
  { dst := some 15, k := (.load none), xs := [.t 14], av := [[11]] },
  { dst := some 16, k := (.callf 25), xs := [.t 15], av := [[11]], al := some [] },
  { dst := some 17, k := (.faddr 2), xs := [.t 7] },
  { dst := some 18, k := (.load none), xs := [.t 17], av := [[16], [23], [11]] },
  { dst := some 19, k := (.faddr 0), xs := [.t 7] },
  { dst := some 20, k := (.load none), xs := [.t 19], av := [[16], [23], [11]] },
  { dst := some 21, k := (.toInt .u16), xs := [.t 20] },
  { dst := some 22, k := .mv, xs := [.t 3] },
  { dst := some 23, k := (.callf 25), xs := [.t 22], av := [[11]], al := some [] },
  { dst := some 24, k := .mv, xs := [.t 4] },
  { dst := some 25, k := (.build [.d (.int .i64 0), .d (.int .i64 0), .d (.bool false), .d (.int .i64 0), .d (.int .i64 0), .d (.int .i64 0), .d (.int .i64 0), .d (.int .u16 0)] [(0, 1), (1, 1), (5, 1), (6, 1), (7, 1), (3, 1), (4, 1)]), xs := [.t 12, .t 13, .t 16, .t 18, .t 21, .t 23, .t 24] },
  { dst := some 11, k := (.alloc [.d (.int .i64 0), .d (.int .i64 0), .d (.bool false), .d (.int .i64 0), .d (.int .i64 0), .d (.int .i64 0), .d (.int .i64 0), .d (.int .u16 0)]), xs := [], av := [[16], [23]] },
  { dst := none, k := (.store 8), xs := [.t 11, .t 25] }]
def F24o6 : List Ao := [
  { dst := some 26, k := .mv, xs := [.t 3] },
  { dst := some 27, k := (.bin .eql), xs := [.t 26, .c (.d (.int .i64 0))] }]
def F24o8 : List Ao := [
  { dst := some 28, k := (.faddr 3), xs := [.t 11] },
  { dst := none, k := (.store 1), xs := [.t 28, .c (.d (.int .i64 5))] },
  { dst := some 29, k := (.faddr 4), xs := [.t 11] },
  { dst := none, k := (.store 1), xs := [.t 29, .c (.d (.int .i64 0))] }]
def F24c7 : Ac := (.cond (.t 27) (.ops F24o8) .skip)
def F24o11 : List Ao := [
  { dst := some 30, k := (.load (some 8)), xs := [.t 11] },
  { dst := none, k := (.store 8), xs := [.t 10, .t 30] }]
def F24c12 : Ac := .ret
def F24c10 : Ac := (.seq (.ops F24o11) F24c12)
def F24c4 : Ac := (.seq (.seq (.ops F24o6) F24c7) F24c10)
def F24c2 : Ac := (.seq (.ops F24o3) F24c4)
def F24c0 : Ac := (.seq (.ops F24o1) F24c2)
/-- hansom/emit.Fix -/
def F24 : Fn := { np := 5, pb := [], rs := [.c 10 (some 8)], body := F24c0 }
def F25o1 : List Ao := [
  { dst := some 2, k := .mv, xs := [.c (.d (.int .i64 0))] }]
def F25o4 : List Ao := [
  { dst := some 3, k := .mv, xs := [.t 0] }]
def F25o7 : List Ao := [
  { dst := some 5, k := (.bin .eql), xs := [.t 3, .c (.d (.int .i64 2))] },
  { dst := some 4, k := .mv, xs := [.t 5] }]
def F25o10 : List Ao := [
  { dst := some 2, k := .mv, xs := [.c (.d (.int .i64 1))] }]
def F25c11 : Ac := .ret
def F25o13 : List Ao := [
  { dst := some 7, k := (.bin .eql), xs := [.t 3, .c (.d (.int .i64 3))] },
  { dst := some 6, k := .mv, xs := [.t 7] }]
def F25o16 : List Ao := [
  { dst := some 2, k := .mv, xs := [.c (.d (.int .i64 2))] }]
def F25c17 : Ac := .ret
def F25c14 : Ac := (.cond (.t 6) (.seq (.ops F25o16) F25c17) .skip)
def F25c8 : Ac := (.cond (.t 4) (.seq (.ops F25o10) F25c11) (.seq (.ops F25o13) F25c14))
def F25c5 : Ac := (.block 0 (.seq (.ops F25o7) F25c8))
def F25o20 : List Ao := [
  { dst := some 2, k := .mv, xs := [.c (.d (.int .i64 0))] }]
def F25c21 : Ac := .ret
def F25c19 : Ac := (.seq (.ops F25o20) F25c21)
def F25c2 : Ac := (.seq (.seq (.ops F25o4) F25c5) F25c19)
def F25c0 : Ac := (.seq (.ops F25o1) F25c2)
/-- hansom/emit.By -/
def F25 : Fn := { np := 1, pb := [], rs := [.t 2], body := F25c0 }
def F26o1 : List Ao := [
  { dst := some 0, k := .mv, xs := [.c (.d (.bool false))] }]
def F26o3 : List Ao := [
  { dst := some 6, k := (.build [.d (.int .i64 0), .d (.int .i64 0), .d (.int .i64 0), .d (.int .i64 0), .d (.int .i64 0), .d (.bool false)] [(0, 1), (5, 1)]), xs := [.c (.d (.int .i64 4660)), .c (.d (.bool true))] },
  { dst := some 7, k := (.callf 22), xs := [.t 6] },
  { dst := some 5, k := .mv, xs := [.t 7] },
  { dst := some 8, k := (.extract 0), xs := [.t 5] },
  { dst := some 9, k := (.extract 1), xs := [.t 5] },
  { dst := some 1, k := .mv, xs := [.t 8] },
  { dst := some 2, k := .mv, xs := [.t 9] }]
def F26o5 : List Ao := [
  { dst := some 11, k := (.build [.d (.int .i64 0), .d (.int .i64 0), .d (.int .i64 0), .d (.int .i64 0), .d (.int .i64 0), .d (.bool false)] [(1, 1), (2, 1), (4, 1)]), xs := [.c (.d (.int .i64 3)), .c (.d (.int .i64 2)), .c (.d (.int .i64 1))] },
  { dst := some 12, k := (.callf 22), xs := [.t 11] },
  { dst := some 10, k := .mv, xs := [.t 12] },
  { dst := some 13, k := (.extract 0), xs := [.t 10] },
  { dst := some 14, k := (.extract 1), xs := [.t 10] },
  { dst := some 3, k := .mv, xs := [.t 13] },
  { dst := some 4, k := .mv, xs := [.t 14] }]
def F26o7 : List Ao := [
  { dst := some 15, k := .mv, xs := [.t 1] },
  { dst := some 16, k := .bytesStr, xs := [.t 15] },
  { dst := some 17, k := (.bin .eql), xs := [.t 16, .c (.d (.str [52, 18]))] },
  { dst := some 18, k := .mv, xs := [.t 17] },
  { dst := some 19, k := .mv, xs := [.t 2], g := some (18, true) },
  { dst := some 20, k := .lenL, xs := [.t 19], g := some (18, true) },
  { dst := some 21, k := (.bin .eql), xs := [.t 20, .c (.d (.int .i64 0))], g := some (18, true) },
  { dst := some 22, k := .pick, xs := [.t 18, .t 21, .c (.d (.bool false))] },
  { dst := some 23, k := .mv, xs := [.t 22] },
  { dst := some 24, k := .mv, xs := [.t 4], g := some (23, true) },
  { dst := some 25, k := .lenL, xs := [.t 24], g := some (23, true) },
  { dst := some 26, k := (.bin .eql), xs := [.t 25, .c (.d (.int .i64 1))], g := some (23, true) },
  { dst := some 27, k := .pick, xs := [.t 23, .t 26, .c (.d (.bool false))] },
  { dst := some 28, k := .mv, xs := [.t 27] },
  { dst := some 29, k := .mv, xs := [.t 4], g := some (28, true) },
  { dst := some 30, k := (.iaddrS 8), xs := [.t 29, .c (.d (.int .i64 0))], g := some (28, true) },
  { dst := some 31, k := (.faddr 5), xs := [.t 30], g := some (28, true) },
  { dst := some 32, k := (.load none), xs := [.t 31], g := some (28, true) },
  { dst := some 33, k := (.bin .eql), xs := [.t 32, .c (.d (.int .i64 2))], g := some (28, true) },
  { dst := some 34, k := .pick, xs := [.t 28, .t 33, .c (.d (.bool false))] },
  { dst := some 35, k := .mv, xs := [.t 34] },
  { dst := some 36, k := .mv, xs := [.t 4], g := some (35, true) },
  { dst := some 37, k := (.iaddrS 8), xs := [.t 36, .c (.d (.int .i64 0))], g := some (35, true) },
  { dst := some 38, k := (.faddr 3), xs := [.t 37], g := some (35, true) },
  { dst := some 39, k := (.load none), xs := [.t 38], g := some (35, true) },
  { dst := some 40, k := (.bin .eql), xs := [.t 39, .c (.d (.int .i64 5))], g := some (35, true) },
  { dst := some 41, k := .pick, xs := [.t 35, .t 40, .c (.d (.bool false))] },
  { dst := some 0, k := .mv, xs := [.t 41] }]
def F26c8 : Ac := .ret
def F26c6 : Ac := (.seq (.ops F26o7) F26c8)
def F26c4 : Ac := (.seq (.ops F26o5) F26c6)
def F26c2 : Ac := (.seq (.ops F26o3) F26c4)
def F26c0 : Ac := (.seq (.ops F26o1) F26c2)
/-- hansom/hansomlaw37.awake -/
def F26 : Fn := { np := 0, pb := [], rs := [.t 0], body := F26c0 }
def F55o1 : List Ao := [
  { dst := some 1, k := (.box 6), xs := [.t 0] },
  { dst := some 2, k := .mv, xs := [.c (.d (.bool false))] }]
def F55o3 : List Ao := [
  { dst := some 3, k := (.faddr 1), xs := [.t 1] },
  { dst := some 4, k := (.load none), xs := [.t 3] },
  { dst := some 5, k := (.bin .eql), xs := [.t 4, .c (.d (.int .i64 0))] },
  { dst := some 6, k := .mv, xs := [.t 5] },
  { dst := some 7, k := (.faddr 4), xs := [.t 1], g := some (6, true) },
  { dst := some 8, k := (.load none), xs := [.t 7], g := some (6, true) },
  { dst := some 9, k := (.bin .eql), xs := [.t 8, .c (.d (.int .i64 0))], g := some (6, true) },
  { dst := some 10, k := .pick, xs := [.t 6, .t 9, .c (.d (.bool false))] },
  { dst := some 2, k := .mv, xs := [.t 10] }]
def F55c4 : Ac := .ret
def F55c2 : Ac := (.seq (.ops F55o3) F55c4)
def F55c0 : Ac := (.seq (.ops F55o1) F55c2)
/-- hansom/value.Plain -/
def F55 : Fn := { np := 1, pb := [], rs := [.t 2], body := F55c0 }
def F56o1 : List Ao := [
  { dst := some 2, k := .mv, xs := [.c (.d (.int .u8 0))] }]
def F56o3 : List Ao := [
  { dst := some 3, k := .mv, xs := [.t 0] },
  { dst := some 4, k := (.toInt .u8), xs := [.t 3] },
  { dst := some 2, k := .mv, xs := [.t 4] }]
def F56c4 : Ac := .ret
def F56c2 : Ac := (.seq (.ops F56o3) F56c4)
def F56c0 : Ac := (.seq (.ops F56o1) F56c2)
/-- hansom/bits.Low -/
def F56 : Fn := { np := 1, pb := [], rs := [.t 2], body := F56c0 }
def F57o1 : List Ao := [
  { dst := some 2, k := .mv, xs := [.c (.d (.int .u8 0))] }]
def F57o3 : List Ao := [
  { dst := some 3, k := .mv, xs := [.t 0] },
  { dst := some 4, k := (.bin .shr), xs := [.t 3, .c (.d (.int .u64 8))] },
  { dst := some 5, k := (.toInt .u8), xs := [.t 4] },
  { dst := some 2, k := .mv, xs := [.t 5] }]
def F57c4 : Ac := .ret
def F57c2 : Ac := (.seq (.ops F57o3) F57c4)
def F57c0 : Ac := (.seq (.ops F57o1) F57c2)
/-- hansom/bits.High -/
def F57 : Fn := { np := 1, pb := [], rs := [.t 2], body := F57c0 }
def tab1 : Nat → Option Fn
  | 5 => some F5
  | 22 => some F22
  | 23 => some F23
  | 24 => some F24
  | 25 => some F25
  | 26 => some F26
  | 55 => some F55
  | 56 => some F56
  | 57 => some F57
  | _ => none
noncomputable def L : Cs := lim tab1 (fun _ _ => none)

theorem no_globals : GOk (fun _ _ => none) (fun _ => none) := fun n a h => by cases h
theorem ok5 : FnOk (fun _ _ => none) Try.prog 5 F5 := compF_spec no_globals Try.func5 (by kernel_rfl)
theorem ok22 : FnOk (fun _ _ => none) Try.prog 22 F22 := compF_spec no_globals Try.func22 (by kernel_rfl)
theorem ok23 : FnOk (fun _ _ => none) Try.prog 23 F23 := compF_spec no_globals Try.func23 (by kernel_rfl)
theorem ok24 : FnOk (fun _ _ => none) Try.prog 24 F24 := compF_spec no_globals Try.func24 (by kernel_rfl)
theorem ok25 : FnOk (fun _ _ => none) Try.prog 25 F25 := compF_spec no_globals Try.func25 (by kernel_rfl)
theorem ok26 : FnOk (fun _ _ => none) Try.prog 26 F26 := compF_spec no_globals Try.func26 (by kernel_rfl)
theorem ok55 : FnOk (fun _ _ => none) Try.prog 55 F55 := compF_spec no_globals Try.func55 (by kernel_rfl)
theorem ok56 : FnOk (fun _ _ => none) Try.prog 56 F56 := compF_spec no_globals Try.func56 (by kernel_rfl)
theorem ok57 : FnOk (fun _ _ => none) Try.prog 57 F57 := compF_spec no_globals Try.func57 (by kernel_rfl)
theorem tab1_ok : ∀ f fn, tab1 f = some fn → FnOk (fun _ _ => none) Try.prog f fn := by
  intro f fn h
  unfold tab1 at h
  split at h <;> cases h
  · exact ok5
  · exact ok22
  · exact ok23
  · exact ok24
  · exact ok25
  · exact ok26
  · exact ok55
  · exact ok56
  · exact ok57
theorem meets1 (f : Nat) : Meets (fun _ _ => none) Try.prog f (L f) := lim_meets tab1_ok (fun f _ m w args vs bs _ _ _ _ _ r a h => by cases h) f

end Go.Es.Emv
