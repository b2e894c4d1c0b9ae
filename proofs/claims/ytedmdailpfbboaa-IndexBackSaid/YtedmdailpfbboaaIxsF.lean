/- The code of the functions that the statement IndexShort, IndexBack reaches, as the interpreter reads it. No condition. -/
import Derived.Test.YtedmdailpfbboaaEsD
import Derived.Test.YtedmdailpfbboaaChecked
import Derived.KernelRfl
set_option linter.unusedVariables false
set_option linter.unusedSimpArgs false
set_option maxRecDepth 100000
set_option maxHeartbeats 4000000
namespace Go.Es.Ixs
open Go.Proofs
def F4o1 : List Ao := [
  { dst := some 6, k := .mv, xs := [.c (.d (.bool false))] }]
def F4o3 : List Ao := [
  { dst := some 14, k := .mv, xs := [.t 0] },
  { dst := some 15, k := .mv, xs := [.t 0] },
  { dst := some 16, k := .lenL, xs := [.t 15] },
  { dst := some 17, k := .mn, xs := [.t 16, .c (.d (.int .i64 20))] },
  { dst := some 18, k := (.subsl 1 false true false), xs := [.t 14, .t 17] },
  { dst := some 7, k := .mv, xs := [.t 18] }]
def F4o5 : List Ao := [
  { dst := some 19, k := .mv, xs := [.t 7] },
  { dst := some 20, k := (.callf 25), xs := [.t 19] },
  { dst := some 8, k := .mv, xs := [.t 20] }]
def F4o7 : List Ao := [
  { dst := some 21, k := .mv, xs := [.t 8] },
  { dst := some 22, k := .mv, xs := [.t 1] },
  { dst := some 23, k := (.callf 26), xs := [.t 21, .t 22] },
  { dst := some 9, k := .mv, xs := [.t 23] }]
def F4o10 : List Ao := [
  { dst := some 24, k := .mv, xs := [.t 1] },
  { dst := some 25, k := (.bin .lss), xs := [.t 24, .c (.d (.int .i64 0))] },
  { dst := some 26, k := .mv, xs := [.t 25] },
  { dst := some 27, k := .mv, xs := [.t 1], g := some (26, false) },
  { dst := some 28, k := .mv, xs := [.t 7], g := some (26, false) },
  { dst := some 29, k := .lenL, xs := [.t 28], g := some (26, false) },
  { dst := some 30, k := (.bin .gtr), xs := [.t 27, .t 29], g := some (26, false) },
  { dst := some 31, k := .pick, xs := [.t 26, .c (.d (.bool true)), .t 30] }]
def F4o13 : List Ao := [
  { dst := some 32, k := .mv, xs := [.t 8] },
  { dst := some 33, k := (.callf 27), xs := [.t 32, .c (.d (.int .i64 3))] }]
def F4o15 : List Ao := [
  { dst := some 34, k := (.callf 15), xs := [] },
  { dst := some 35, k := .mv, xs := [.t 34] },
  { dst := some 36, k := .mv, xs := [.t 9], g := some (35, true) },
  { dst := some 37, k := .lenL, xs := [.t 36], g := some (35, true) },
  { dst := some 38, k := (.bin .eql), xs := [.t 37, .c (.d (.int .i64 0))], g := some (35, true) },
  { dst := some 39, k := .pick, xs := [.t 35, .t 38, .c (.d (.bool false))] },
  { dst := some 40, k := .mv, xs := [.t 39] },
  { dst := some 41, k := .mv, xs := [.t 8], g := some (40, true) },
  { dst := some 42, k := (.callf 28), xs := [.t 41], g := some (40, true) },
  { dst := some 43, k := (.bin .eql), xs := [.t 42, .c (.d (.int .i64 2))], g := some (40, true) },
  { dst := some 44, k := .pick, xs := [.t 40, .t 43, .c (.d (.bool false))] },
  { dst := some 45, k := .mv, xs := [.t 44] },
  { dst := some 46, k := .mv, xs := [.t 8], g := some (45, true) },
  { dst := some 47, k := (.callf 29), xs := [.t 46], g := some (45, true) },
  { dst := some 48, k := (.bin .eql), xs := [.t 47, .c (.d (.int .i64 0))], g := some (45, true) },
  { dst := some 49, k := .pick, xs := [.t 45, .t 48, .c (.d (.bool false))] },
  { dst := some 50, k := .mv, xs := [.t 49] },
  { dst := some 51, k := .mv, xs := [.t 8], g := some (50, true) },
  { dst := some 52, k := (.callf 30), xs := [.t 51], g := some (50, true) },
  { dst := some 53, k := (.bin .eql), xs := [.t 52, .c (.d (.int .u16 0))], g := some (50, true) },
  { dst := some 54, k := .pick, xs := [.t 50, .t 53, .c (.d (.bool false))] },
  { dst := some 55, k := .mv, xs := [.t 54] },
  { dst := some 56, k := .mv, xs := [.t 8], g := some (55, true) },
  { dst := some 57, k := (.callf 31), xs := [.t 56], g := some (55, true) },
  { dst := some 58, k := (.bin .eql), xs := [.t 57, .c (.d (.int .i64 0))], g := some (55, true) },
  { dst := some 59, k := .pick, xs := [.t 55, .t 58, .c (.d (.bool false))] },
  { dst := some 60, k := .mv, xs := [.t 59] },
  { dst := some 61, k := .mv, xs := [.t 8], g := some (60, true) },
  { dst := some 62, k := (.callf 32), xs := [.t 61], g := some (60, true) },
  { dst := some 63, k := (.bin .eql), xs := [.t 62, .c (.d (.str []))], g := some (60, true) },
  { dst := some 64, k := .pick, xs := [.t 60, .t 63, .c (.d (.bool false))] },
  { dst := some 65, k := .mv, xs := [.t 64] },
  { dst := some 66, k := .mv, xs := [.t 8], g := some (65, true) },
  { dst := some 67, k := (.callf 33), xs := [.t 66], g := some (65, true) },
  { dst := some 68, k := (.bin .eql), xs := [.t 67, .c (.d (.int .u32 0))], g := some (65, true) },
  { dst := some 69, k := .pick, xs := [.t 65, .t 68, .c (.d (.bool false))] },
  { dst := some 70, k := .mv, xs := [.t 69] },
  { dst := some 71, k := .mv, xs := [.t 8], g := some (70, true) },
  { dst := some 72, k := (.callf 34), xs := [.t 71], g := some (70, true) },
  { dst := some 73, k := (.bin .eql), xs := [.t 72, .c (.d (.int .i64 2))], g := some (70, true) },
  { dst := some 74, k := .pick, xs := [.t 70, .t 73, .c (.d (.bool false))] },
  { dst := some 6, k := .mv, xs := [.t 74] }]
def F4c16 : Ac := .ret
def F4c14 : Ac := (.seq (.ops F4o15) F4c16)
def F4b11 : Ac := (.cond (.t 31) (.seq (.ops F4o13) F4c14) .skip)
def F4c11 : Ac := (.seq (.gh []) (.seq (.keep [1, 2, 7, 8, 9, 31] [[20]]) F4b11))
def F4o20 : List Ao := [
  { dst := some 75, k := .mv, xs := [.t 9] },
  { dst := some 76, k := .bytesStr, xs := [.t 75] },
  { dst := some 77, k := .mv, xs := [.t 7] },
  { dst := some 78, k := .mv, xs := [.t 1] },
  { dst := some 79, k := (.subsl 1 false true false), xs := [.t 77, .t 78] },
  { dst := some 80, k := .bytesStr, xs := [.t 79] },
  { dst := some 81, k := (.bin .neq), xs := [.t 76, .t 80] },
  { dst := some 82, k := .mv, xs := [.t 81] },
  { dst := some 83, k := .mv, xs := [.t 8], g := some (82, false) },
  { dst := some 84, k := (.callf 29), xs := [.t 83], g := some (82, false) },
  { dst := some 85, k := .mv, xs := [.t 7], g := some (82, false) },
  { dst := some 86, k := .lenL, xs := [.t 85], g := some (82, false) },
  { dst := some 87, k := .mv, xs := [.t 1], g := some (82, false) },
  { dst := some 88, k := (.bin .sub), xs := [.t 86, .t 87], g := some (82, false) },
  { dst := some 89, k := (.bin .neq), xs := [.t 84, .t 88], g := some (82, false) },
  { dst := some 90, k := .pick, xs := [.t 82, .c (.d (.bool true)), .t 89] },
  { dst := some 91, k := .mv, xs := [.t 90] },
  { dst := some 92, k := .mv, xs := [.t 8], g := some (91, false) },
  { dst := some 93, k := (.callf 28), xs := [.t 92], g := some (91, false) },
  { dst := some 94, k := (.bin .neq), xs := [.t 93, .c (.d (.int .i64 0))], g := some (91, false) },
  { dst := some 95, k := .pick, xs := [.t 91, .c (.d (.bool true)), .t 94] }]
def F4o23 : List Ao := [
  { dst := some 6, k := .mv, xs := [.c (.d (.bool false))] }]
def F4c24 : Ac := .ret
def F4c21 : Ac := (.cond (.t 95) (.seq (.ops F4o23) F4c24) .skip)
def F4o27 : List Ao := [
  { dst := some 10, k := .mv, xs := [.c (.d (.int .i64 0))] }]
def F4o30 : List Ao := [
  { dst := some 96, k := .mv, xs := [.t 1] },
  { dst := some 97, k := .mv, xs := [.t 7] },
  { dst := some 98, k := .lenL, xs := [.t 97] },
  { dst := some 99, k := (.bin .lss), xs := [.t 96, .t 98] }]
def F4o32 : List Ao := [
  { dst := some 10, k := .mv, xs := [.c (.d (.int .i64 3))] }]
def F4c31 : Ac := (.cond (.t 99) (.ops F4o32) .skip)
def F4o35 : List Ao := [
  { dst := some 100, k := .mv, xs := [.t 2] },
  { dst := some 101, k := (.bin .and), xs := [.t 100, .c (.d (.int .i64 1))] },
  { dst := some 102, k := (.bin .mul), xs := [.t 101, .c (.d (.int .i64 4))] },
  { dst := some 103, k := (.bin .add), xs := [.c (.d (.int .i64 133)), .t 102] },
  { dst := some 104, k := (.toInt .u8), xs := [.t 103] },
  { dst := some 105, k := (.bslice (.int .u8 0) 6 [0, 1, 2, 3, 4, 5]), xs := [.t 104, .c (.d (.int .u8 1)), .c (.d (.int .u8 2)), .c (.d (.int .u8 3)), .c (.d (.int .u8 4)), .c (.d (.int .u8 5))] },
  { dst := some 106, k := (.callf 25), xs := [.t 105] },
  { dst := some 11, k := .mv, xs := [.t 106] }]
def F4o37 : List Ao := [
  { dst := some 107, k := .mv, xs := [.t 11] },
  { dst := some 108, k := (.callf 33), xs := [.t 107] },
  { dst := some 12, k := .mv, xs := [.t 108] }]
def F4o39 : List Ao := [
  { dst := some 13, k := .mv, xs := [.c (.nilp)] }]
def F4o41 : List Ao := [
  { dst := some 109, k := .mv, xs := [.t 13] },
  { dst := some 110, k := (.callf 27), xs := [.t 109, .c (.d (.int .i64 3))] }]
def F4o43 : List Ao := [
  { dst := some 111, k := (.callf 15), xs := [] },
  { dst := some 112, k := .mv, xs := [.t 111] },
  { dst := some 113, k := .mv, xs := [.t 8], g := some (112, true) },
  { dst := some 114, k := (.callf 34), xs := [.t 113], g := some (112, true) },
  { dst := some 115, k := .mv, xs := [.t 10], g := some (112, true) },
  { dst := some 116, k := (.bin .eql), xs := [.t 114, .t 115], g := some (112, true) },
  { dst := some 117, k := .pick, xs := [.t 112, .t 116, .c (.d (.bool false))] },
  { dst := some 118, k := .mv, xs := [.t 117] },
  { dst := some 119, k := .mv, xs := [.t 12], g := some (118, true) },
  { dst := some 120, k := (.bin .eql), xs := [.t 119, .c (.d (.int .u32 0))], g := some (118, true) },
  { dst := some 121, k := .pick, xs := [.t 118, .t 120, .c (.d (.bool false))] },
  { dst := some 122, k := .mv, xs := [.t 121] },
  { dst := some 123, k := .mv, xs := [.t 11], g := some (122, true) },
  { dst := some 124, k := (.callf 28), xs := [.t 123], g := some (122, true) },
  { dst := some 125, k := (.bin .eql), xs := [.t 124, .c (.d (.int .i64 3))], g := some (122, true) },
  { dst := some 126, k := .pick, xs := [.t 122, .t 125, .c (.d (.bool false))] },
  { dst := some 127, k := .mv, xs := [.t 126] },
  { dst := some 128, k := .mv, xs := [.t 13], g := some (127, true) },
  { dst := some 129, k := (.callf 28), xs := [.t 128], g := some (127, true) },
  { dst := some 130, k := (.bin .eql), xs := [.t 129, .c (.d (.int .i64 1))], g := some (127, true) },
  { dst := some 131, k := .pick, xs := [.t 127, .t 130, .c (.d (.bool false))] },
  { dst := some 132, k := .mv, xs := [.t 131] },
  { dst := some 133, k := .mv, xs := [.t 13], g := some (132, true) },
  { dst := some 134, k := (.callf 29), xs := [.t 133], g := some (132, true) },
  { dst := some 135, k := (.bin .eql), xs := [.t 134, .c (.d (.int .i64 0))], g := some (132, true) },
  { dst := some 136, k := .pick, xs := [.t 132, .t 135, .c (.d (.bool false))] },
  { dst := some 137, k := .mv, xs := [.t 136] },
  { dst := some 138, k := .mv, xs := [.t 13], g := some (137, true) },
  { dst := some 139, k := (.callf 35), xs := [.t 138], g := some (137, true) },
  { dst := some 140, k := (.bin .eql), xs := [.t 139, .c (.d (.int .u8 0))], g := some (137, true) },
  { dst := some 141, k := .pick, xs := [.t 137, .t 140, .c (.d (.bool false))] },
  { dst := some 142, k := .mv, xs := [.t 141] },
  { dst := some 143, k := .mv, xs := [.t 13], g := some (142, true) },
  { dst := some 144, k := (.callf 26), xs := [.t 143, .c (.d (.int .i64 1))], g := some (142, true) },
  { dst := some 145, k := .lenL, xs := [.t 144], g := some (142, true) },
  { dst := some 146, k := (.bin .eql), xs := [.t 145, .c (.d (.int .i64 0))], g := some (142, true) },
  { dst := some 147, k := .pick, xs := [.t 142, .t 146, .c (.d (.bool false))] },
  { dst := some 148, k := .mv, xs := [.t 147] },
  { dst := some 149, k := .mv, xs := [.t 13], g := some (148, true) },
  { dst := some 150, k := (.callf 34), xs := [.t 149], g := some (148, true) },
  { dst := some 151, k := (.bin .eql), xs := [.t 150, .c (.d (.int .i64 1))], g := some (148, true) },
  { dst := some 152, k := .pick, xs := [.t 148, .t 151, .c (.d (.bool false))] },
  { dst := some 6, k := .mv, xs := [.t 152] }]
def F4c44 : Ac := .ret
def F4c42 : Ac := (.seq (.ops F4o43) F4c44)
def F4c40 : Ac := (.seq (.ops F4o41) F4c42)
def F4c38 : Ac := (.seq (.ops F4o39) F4c40)
def F4c36 : Ac := (.seq (.ops F4o37) F4c38)
def F4b34 : Ac := (.seq (.ops F4o35) F4c36)
def F4c34 : Ac := (.seq (.gh []) (.seq (.keep [2, 8, 10] [[20]]) F4b34))
def F4c28 : Ac := (.seq (.seq (.ops F4o30) F4c31) F4c34)
def F4c26 : Ac := (.seq (.ops F4o27) F4c28)
def F4c18 : Ac := (.seq (.seq (.ops F4o20) F4c21) F4c26)
def F4c8 : Ac := (.seq (.seq (.ops F4o10) F4c11) F4c18)
def F4c6 : Ac := (.seq (.ops F4o7) F4c8)
def F4c4 : Ac := (.seq (.ops F4o5) F4c6)
def F4c2 : Ac := (.seq (.ops F4o3) F4c4)
def F4c0 : Ac := (.seq (.ops F4o1) F4c2)
/-- hansom/hansomlaw19.IndexShort -/
def F4 : Fn := { np := 3, pb := [], rs := [.t 6], body := F4c0 }
def F5o1 : List Ao := [
  { dst := some 4, k := .mv, xs := [.c (.d (.bool false))] }]
def F5o3 : List Ao := [
  { dst := some 13, k := .mv, xs := [.t 1] },
  { dst := some 14, k := .mv, xs := [.t 1] },
  { dst := some 15, k := .lenS, xs := [.t 14] },
  { dst := some 16, k := .mn, xs := [.t 15, .c (.d (.int .i64 255))] },
  { dst := some 17, k := (.substr false true), xs := [.t 13, .t 16] },
  { dst := some 5, k := .mv, xs := [.t 17] },
  { dst := some 6, k := .mv, xs := [.c (.d (.str []))] }]
def F5o6 : List Ao := [
  { dst := some 7, k := .mv, xs := [.c (.d (.int .i64 0))] }]
def F5o11 : List Ao := [
  { dst := some 18, k := .mv, xs := [.t 7] },
  { dst := some 19, k := .mv, xs := [.t 0] },
  { dst := some 20, k := .lenL, xs := [.t 19] },
  { dst := some 21, k := (.bin .lss), xs := [.t 18, .t 20] },
  { dst := some 22, k := .mv, xs := [.t 21] },
  { dst := some 23, k := .mv, xs := [.t 7], g := some (22, true) },
  { dst := some 24, k := (.bin .lss), xs := [.t 23, .c (.d (.int .i64 12))], g := some (22, true) },
  { dst := some 25, k := .pick, xs := [.t 22, .t 24, .c (.d (.bool false))] }]
def F5c12 : Ac := (.cond (.t 25) .skip (.exit 0))
def F5o17 : List Ao := [
  { dst := some 28, k := .mv, xs := [.t 6] },
  { dst := some 29, k := .mv, xs := [.t 0] },
  { dst := some 30, k := .mv, xs := [.t 7] },
  { dst := some 31, k := (.iaddrS 1), xs := [.t 29, .t 30] },
  { dst := some 32, k := (.load none), xs := [.t 31] },
  { dst := some 33, k := (.bin .and), xs := [.t 32, .c (.d (.int .u32 32767))] },
  { dst := some 34, k := (.toInt .i64), xs := [.t 33] },
  { dst := some 35, k := (.callf 17), xs := [.t 34], al := some [] },
  { dst := some 36, k := .mv, xs := [.t 0] },
  { dst := some 37, k := .mv, xs := [.t 7] },
  { dst := some 38, k := (.iaddrS 1), xs := [.t 36, .t 37] },
  { dst := some 39, k := (.load none), xs := [.t 38], av := [[35]] },
  { dst := some 40, k := (.callf 24), xs := [.t 39], al := some [] },
  { dst := some 41, k := (.bin .add), xs := [.t 35, .t 40] },
  { dst := some 42, k := .mv, xs := [.t 0] },
  { dst := some 43, k := .mv, xs := [.t 7] },
  { dst := some 44, k := (.iaddrS 1), xs := [.t 42, .t 43] },
  { dst := some 45, k := (.load none), xs := [.t 44], av := [[35], [40]] },
  { dst := some 46, k := (.toInt .u64), xs := [.t 45] },
  { dst := some 47, k := (.callf 21), xs := [.t 46, .c (.d (.int .i64 4))] },
  { dst := some 48, k := (.bin .add), xs := [.t 41, .t 47] },
  { dst := some 49, k := .mv, xs := [.t 5] },
  { dst := some 50, k := (.callf 19), xs := [.t 49] },
  { dst := some 51, k := (.bin .add), xs := [.t 48, .t 50] },
  { dst := some 52, k := (.bin .add), xs := [.t 28, .t 51] },
  { dst := some 6, k := .mv, xs := [.t 52] }]
def F5o18 : List Ao := [
  { dst := some 26, k := .mv, xs := [.t 7] },
  { dst := some 27, k := (.bin .add), xs := [.t 26, .c (.d (.int .i64 1))] },
  { dst := some 7, k := .mv, xs := [.t 27] }]
def F5c18 : Ac := (.ops F5o18)
def F5c15 : Ac := (.seq (.block 1 (.ops F5o17)) F5c18)
def F5l8 : Ac := (.seq (.seq (.ops F5o11) F5c12) F5c15)
def F5c7 : Ac := (.block 0 (.loop (.seq (.gh []) (.seq (.keep [0, 5, 6, 7] []) F5l8))))
def F5o20 : List Ao := [
  { dst := some 53, k := .mv, xs := [.t 6] },
  { dst := some 54, k := .strBytes, xs := [.t 53] },
  { dst := some 55, k := (.callf 25), xs := [.t 54] },
  { dst := some 8, k := .mv, xs := [.t 55] }]
def F5o23 : List Ao := [
  { dst := some 9, k := .mv, xs := [.c (.d (.int .i64 0))] }]
def F5o28 : List Ao := [
  { dst := some 56, k := .mv, xs := [.t 9] },
  { dst := some 57, k := .mv, xs := [.t 0] },
  { dst := some 58, k := .lenL, xs := [.t 57] },
  { dst := some 59, k := (.bin .lss), xs := [.t 56, .t 58] },
  { dst := some 60, k := .mv, xs := [.t 59] },
  { dst := some 61, k := .mv, xs := [.t 9], g := some (60, true) },
  { dst := some 62, k := (.bin .lss), xs := [.t 61, .c (.d (.int .i64 12))], g := some (60, true) },
  { dst := some 63, k := .pick, xs := [.t 60, .t 62, .c (.d (.bool false))] }]
def F5c29 : Ac := (.cond (.t 63) .skip (.exit 2))
def F5o35 : List Ao := [
  { dst := some 66, k := .mv, xs := [.t 8] },
  { dst := some 67, k := (.callf 31), xs := [.t 66] },
  { dst := some 68, k := .mv, xs := [.t 8] },
  { dst := some 69, k := (.callf 33), xs := [.t 68] },
  { dst := some 70, k := .mv, xs := [.t 8] },
  { dst := some 71, k := (.callf 36), xs := [.t 70] },
  { dst := some 10, k := .mv, xs := [.t 67] },
  { dst := some 11, k := .mv, xs := [.t 69] },
  { dst := some 12, k := .mv, xs := [.t 71] }]
def F5o37 : List Ao := [
  { dst := some 72, k := .mv, xs := [.t 10] },
  { dst := some 73, k := .mv, xs := [.t 0] },
  { dst := some 74, k := .mv, xs := [.t 9] },
  { dst := some 75, k := (.iaddrS 1), xs := [.t 73, .t 74] },
  { dst := some 76, k := (.load none), xs := [.t 75] },
  { dst := some 77, k := (.bin .and), xs := [.t 76, .c (.d (.int .u32 32767))] },
  { dst := some 78, k := (.toInt .i64), xs := [.t 77] },
  { dst := some 79, k := (.bin .neq), xs := [.t 72, .t 78] },
  { dst := some 80, k := .mv, xs := [.t 79] },
  { dst := some 81, k := .mv, xs := [.t 11], g := some (80, false) },
  { dst := some 82, k := .mv, xs := [.t 0], g := some (80, false) },
  { dst := some 83, k := .mv, xs := [.t 9], g := some (80, false) },
  { dst := some 84, k := (.iaddrS 1), xs := [.t 82, .t 83], g := some (80, false) },
  { dst := some 85, k := (.load none), xs := [.t 84], g := some (80, false) },
  { dst := some 86, k := (.bin .neq), xs := [.t 81, .t 85], g := some (80, false) },
  { dst := some 87, k := .pick, xs := [.t 80, .c (.d (.bool true)), .t 86] },
  { dst := some 88, k := .mv, xs := [.t 87] },
  { dst := some 89, k := .mv, xs := [.t 12], g := some (88, false) },
  { dst := some 90, k := .mv, xs := [.t 0], g := some (88, false) },
  { dst := some 91, k := .mv, xs := [.t 9], g := some (88, false) },
  { dst := some 92, k := (.iaddrS 1), xs := [.t 90, .t 91], g := some (88, false) },
  { dst := some 93, k := (.load none), xs := [.t 92], g := some (88, false) },
  { dst := some 94, k := (.bin .neq), xs := [.t 89, .t 93], g := some (88, false) },
  { dst := some 95, k := .pick, xs := [.t 88, .c (.d (.bool true)), .t 94] },
  { dst := some 96, k := .mv, xs := [.t 95] },
  { dst := some 97, k := .mv, xs := [.t 8], g := some (96, false) },
  { dst := some 98, k := (.callf 32), xs := [.t 97], g := some (96, false) },
  { dst := some 99, k := .mv, xs := [.t 5], g := some (96, false) },
  { dst := some 100, k := (.bin .neq), xs := [.t 98, .t 99], g := some (96, false) },
  { dst := some 101, k := .pick, xs := [.t 96, .c (.d (.bool true)), .t 100] }]
def F5o40 : List Ao := [
  { dst := some 4, k := .mv, xs := [.c (.d (.bool false))] }]
def F5c41 : Ac := .ret
def F5c38 : Ac := (.cond (.t 101) (.seq (.ops F5o40) F5c41) .skip)
def F5c36 : Ac := (.seq (.ops F5o37) F5c38)
def F5o43 : List Ao := [
  { dst := some 64, k := .mv, xs := [.t 9] },
  { dst := some 65, k := (.bin .add), xs := [.t 64, .c (.d (.int .i64 1))] },
  { dst := some 9, k := .mv, xs := [.t 65] }]
def F5c43 : Ac := (.ops F5o43)
def F5c32 : Ac := (.seq (.block 3 (.seq (.ops F5o35) F5c36)) F5c43)
def F5l25 : Ac := (.seq (.seq (.ops F5o28) F5c29) F5c32)
def F5c24 : Ac := (.block 2 (.loop (.seq (.gh []) (.seq (.keep [0, 5, 8, 9] [[55]]) F5l25))))
def F5o45 : List Ao := [
  { dst := some 102, k := (.callf 15), xs := [] },
  { dst := some 103, k := .mv, xs := [.t 102] },
  { dst := some 104, k := .mv, xs := [.t 8], g := some (103, true) },
  { dst := some 105, k := (.callf 29), xs := [.t 104], g := some (103, true) },
  { dst := some 106, k := (.bin .eql), xs := [.t 105, .c (.d (.int .i64 0))], g := some (103, true) },
  { dst := some 107, k := .pick, xs := [.t 103, .t 106, .c (.d (.bool false))] },
  { dst := some 108, k := .mv, xs := [.t 107] },
  { dst := some 109, k := .mv, xs := [.t 8], g := some (108, true) },
  { dst := some 110, k := (.callf 34), xs := [.t 109], g := some (108, true) },
  { dst := some 111, k := (.bin .eql), xs := [.t 110, .c (.d (.int .i64 0))], g := some (108, true) },
  { dst := some 112, k := .pick, xs := [.t 108, .t 111, .c (.d (.bool false))] },
  { dst := some 113, k := .mv, xs := [.t 112] },
  { dst := some 114, k := .mv, xs := [.t 8], g := some (113, true) },
  { dst := some 115, k := (.callf 35), xs := [.t 114], g := some (113, true) },
  { dst := some 116, k := (.bin .eql), xs := [.t 115, .c (.d (.int .u8 0))], g := some (113, true) },
  { dst := some 117, k := .pick, xs := [.t 113, .t 116, .c (.d (.bool false))] },
  { dst := some 118, k := .mv, xs := [.t 117] },
  { dst := some 119, k := .mv, xs := [.t 8], g := some (118, true) },
  { dst := some 120, k := (.callf 28), xs := [.t 119], g := some (118, true) },
  { dst := some 121, k := (.bin .eql), xs := [.t 120, .c (.d (.int .i64 2))], g := some (118, true) },
  { dst := some 122, k := .pick, xs := [.t 118, .t 121, .c (.d (.bool false))] },
  { dst := some 4, k := .mv, xs := [.t 122] }]
def F5c46 : Ac := .ret
def F5b44 : Ac := (.seq (.ops F5o45) F5c46)
def F5c44 : Ac := (.seq (.gh []) (.seq (.keep [8] [[55]]) F5b44))
def F5c21 : Ac := (.seq (.seq (.ops F5o23) F5c24) F5c44)
def F5b19 : Ac := (.seq (.ops F5o20) F5c21)
def F5c19 : Ac := (.seq (.gh []) (.seq (.keep [0, 5, 6] []) F5b19))
def F5c4 : Ac := (.seq (.seq (.ops F5o6) F5c7) F5c19)
def F5c2 : Ac := (.seq (.ops F5o3) F5c4)
def F5c0 : Ac := (.seq (.ops F5o1) F5c2)
/-- hansom/hansomlaw19.IndexBack -/
def F5 : Fn := { np := 2, pb := [], rs := [.t 4], body := F5c0 }
def F15o1 : List Ao := [
  { dst := some 0, k := .mv, xs := [.c (.d (.bool false))] }]
def F15o3 : List Ao := [
  { dst := some 4, k := (.bslice (.int .u8 0) 5 [0, 1, 2, 3, 4]), xs := [.c (.d (.int .u8 129)), .c (.d (.int .u8 44)), .c (.d (.int .u8 2)), .c (.d (.int .u8 65)), .c (.d (.int .u8 66))] },
  { dst := some 5, k := (.callf 25), xs := [.t 4] },
  { dst := some 1, k := .mv, xs := [.t 5] }]
def F15o5 : List Ao := [
  { dst := some 6, k := .mv, xs := [.t 1] },
  { dst := some 7, k := (.callf 31), xs := [.t 6] },
  { dst := some 8, k := .mv, xs := [.t 1] },
  { dst := some 9, k := (.callf 32), xs := [.t 8] },
  { dst := some 2, k := .mv, xs := [.t 7] },
  { dst := some 3, k := .mv, xs := [.t 9] }]
def F15o7 : List Ao := [
  { dst := some 10, k := (.callf 16), xs := [.c (.d (.int .i64 300))] },
  { dst := some 11, k := .bytesStr, xs := [.t 10] },
  { dst := some 12, k := (.bin .eql), xs := [.t 11, .c (.d (.str [129, 44]))] },
  { dst := some 13, k := .mv, xs := [.t 12] },
  { dst := some 14, k := .mv, xs := [.t 2], g := some (13, true) },
  { dst := some 15, k := (.bin .eql), xs := [.t 14, .c (.d (.int .i64 300))], g := some (13, true) },
  { dst := some 16, k := .pick, xs := [.t 13, .t 15, .c (.d (.bool false))] },
  { dst := some 17, k := .mv, xs := [.t 16] },
  { dst := some 18, k := .mv, xs := [.t 3], g := some (17, true) },
  { dst := some 19, k := (.bin .eql), xs := [.t 18, .c (.d (.str [65, 66]))], g := some (17, true) },
  { dst := some 20, k := .pick, xs := [.t 17, .t 19, .c (.d (.bool false))] },
  { dst := some 21, k := .mv, xs := [.t 20] },
  { dst := some 22, k := .mv, xs := [.t 1], g := some (21, true) },
  { dst := some 23, k := (.callf 34), xs := [.t 22], g := some (21, true) },
  { dst := some 24, k := (.bin .eql), xs := [.t 23, .c (.d (.int .i64 0))], g := some (21, true) },
  { dst := some 25, k := .pick, xs := [.t 21, .t 24, .c (.d (.bool false))] },
  { dst := some 0, k := .mv, xs := [.t 25] }]
def F15c8 : Ac := .ret
def F15c6 : Ac := (.seq (.ops F15o7) F15c8)
def F15c4 : Ac := (.seq (.ops F15o5) F15c6)
def F15c2 : Ac := (.seq (.ops F15o3) F15c4)
def F15c0 : Ac := (.seq (.ops F15o1) F15c2)
/-- hansom/hansomlaw19.awake -/
def F15 : Fn := { np := 0, pb := [], rs := [.t 0], body := F15c0 }
def F16o1 : List Ao := [
  { dst := some 2, k := .mv, xs := [.c (.nils)] }]
def F16o5 : List Ao := [
  { dst := some 4, k := .mv, xs := [.t 0] },
  { dst := some 5, k := (.bin .lss), xs := [.t 4, .c (.d (.int .i64 0))] },
  { dst := some 6, k := .mv, xs := [.t 5] },
  { dst := some 7, k := .mv, xs := [.t 0], g := some (6, false) },
  { dst := some 8, k := (.bin .gtr), xs := [.t 7, .c (.d (.int .i64 32767))], g := some (6, false) },
  { dst := some 9, k := .pick, xs := [.t 6, .c (.d (.bool true)), .t 8] },
  { dst := some 3, k := .mv, xs := [.t 9] }]
def F16o8 : List Ao := [
  { dst := some 10, k := (.bslice (.int .u8 0) 1 [0]), xs := [.c (.d (.int .u8 0))] },
  { dst := some 2, k := .mv, xs := [.t 10] }]
def F16c9 : Ac := (.seq (.gh [.frz 2]) .ret)
def F16o11 : List Ao := [
  { dst := some 12, k := .mv, xs := [.t 0] },
  { dst := some 13, k := (.bin .lss), xs := [.t 12, .c (.d (.int .i64 128))] },
  { dst := some 11, k := .mv, xs := [.t 13] }]
def F16o14 : List Ao := [
  { dst := some 14, k := .mv, xs := [.t 0] },
  { dst := some 15, k := (.toInt .u8), xs := [.t 14] },
  { dst := some 16, k := (.bslice (.int .u8 0) 1 [0]), xs := [.t 15] },
  { dst := some 2, k := .mv, xs := [.t 16] }]
def F16c15 : Ac := (.seq (.gh [.frz 2]) .ret)
def F16c12 : Ac := (.cond (.t 11) (.seq (.ops F16o14) F16c15) .skip)
def F16c6 : Ac := (.cond (.t 3) (.seq (.ops F16o8) F16c9) (.seq (.ops F16o11) F16c12))
def F16o18 : List Ao := [
  { dst := some 17, k := .mv, xs := [.t 0] },
  { dst := some 18, k := (.bin .shr), xs := [.t 17, .c (.d (.int .u64 8))] },
  { dst := some 19, k := (.toInt .u8), xs := [.t 18] },
  { dst := some 20, k := (.bin .or), xs := [.t 19, .c (.d (.int .u8 128))] },
  { dst := some 21, k := .mv, xs := [.t 0] },
  { dst := some 22, k := (.toInt .u8), xs := [.t 21] },
  { dst := some 23, k := (.bslice (.int .u8 0) 2 [0, 1]), xs := [.t 20, .t 22] },
  { dst := some 2, k := .mv, xs := [.t 23] }]
def F16c19 : Ac := (.seq (.gh [.frz 2]) .ret)
def F16c17 : Ac := (.seq (.ops F16o18) F16c19)
def F16c2 : Ac := (.seq (.block 0 (.seq (.ops F16o5) F16c6)) F16c17)
def F16c0 : Ac := (.seq (.ops F16o1) F16c2)
/-- hansom/index.Put -/
def F16 : Fn := { np := 1, pb := [], rs := [.t 2], body := F16c0 }
def F17o1 : List Ao := [
  { dst := some 2, k := .mv, xs := [.c (.d (.str []))] }]
def F17o4 : List Ao := [
  { dst := some 3, k := .mv, xs := [.t 0] },
  { dst := some 4, k := (.bin .lss), xs := [.t 3, .c (.d (.int .i64 0))] },
  { dst := some 5, k := .mv, xs := [.t 4] },
  { dst := some 6, k := .mv, xs := [.t 0], g := some (5, false) },
  { dst := some 7, k := (.bin .gtr), xs := [.t 6, .c (.d (.int .i64 32767))], g := some (5, false) },
  { dst := some 8, k := .pick, xs := [.t 5, .c (.d (.bool true)), .t 7] }]
def F17o6 : List Ao := [
  { dst := some 0, k := .mv, xs := [.c (.d (.int .i64 0))] }]
def F17c5 : Ac := (.cond (.t 8) (.ops F17o6) .skip)
def F17o10 : List Ao := [
  { dst := some 9, k := .mv, xs := [.t 0] },
  { dst := some 10, k := (.bin .lss), xs := [.t 9, .c (.d (.int .i64 128))] }]
def F17o13 : List Ao := [
  { dst := some 11, k := .mv, xs := [.t 0] },
  { dst := some 12, k := (.toInt .u8), xs := [.t 11] },
  { dst := some 13, k := (.bslice (.int .u8 0) 1 [0]), xs := [.t 12] },
  { dst := some 14, k := .bytesStr, xs := [.t 13] },
  { dst := some 2, k := .mv, xs := [.t 14] }]
def F17c14 : Ac := .ret
def F17c11 : Ac := (.cond (.t 10) (.seq (.ops F17o13) F17c14) .skip)
def F17o17 : List Ao := [
  { dst := some 15, k := .mv, xs := [.t 0] },
  { dst := some 16, k := (.bin .quo), xs := [.t 15, .c (.d (.int .i64 256))] },
  { dst := some 17, k := (.bin .add), xs := [.t 16, .c (.d (.int .i64 128))] },
  { dst := some 18, k := (.toInt .u8), xs := [.t 17] },
  { dst := some 19, k := .mv, xs := [.t 0] },
  { dst := some 20, k := (.bin .rem), xs := [.t 19, .c (.d (.int .i64 256))] },
  { dst := some 21, k := (.toInt .u8), xs := [.t 20] },
  { dst := some 22, k := (.bslice (.int .u8 0) 2 [0, 1]), xs := [.t 18, .t 21] },
  { dst := some 23, k := .bytesStr, xs := [.t 22] },
  { dst := some 2, k := .mv, xs := [.t 23] }]
def F17c18 : Ac := .ret
def F17c16 : Ac := (.seq (.ops F17o17) F17c18)
def F17b8 : Ac := (.seq (.seq (.ops F17o10) F17c11) F17c16)
def F17c8 : Ac := (.seq (.gh []) (.seq (.keep [0] []) F17b8))
def F17c2 : Ac := (.seq (.seq (.ops F17o4) F17c5) F17c8)
def F17c0 : Ac := (.seq (.ops F17o1) F17c2)
/-- hansom/hansomref18.Index -/
def F17 : Fn := { np := 1, pb := [], rs := [.t 2], body := F17c0 }
def F19o1 : List Ao := [
  { dst := some 2, k := .mv, xs := [.c (.d (.str []))] }]
def F19o4 : List Ao := [
  { dst := some 3, k := .mv, xs := [.t 0] },
  { dst := some 4, k := .lenS, xs := [.t 3] },
  { dst := some 5, k := (.bin .gtr), xs := [.t 4, .c (.d (.int .i64 255))] }]
def F19o6 : List Ao := [
  { dst := some 6, k := .mv, xs := [.t 0] },
  { dst := some 7, k := (.substr false true), xs := [.t 6, .c (.d (.int .i64 255))] },
  { dst := some 0, k := .mv, xs := [.t 7] }]
def F19c5 : Ac := (.cond (.t 5) (.ops F19o6) .skip)
def F19o9 : List Ao := [
  { dst := some 8, k := .mv, xs := [.t 0] },
  { dst := some 9, k := .lenS, xs := [.t 8] },
  { dst := some 10, k := (.toInt .u8), xs := [.t 9] },
  { dst := some 11, k := (.bslice (.int .u8 0) 1 [0]), xs := [.t 10] },
  { dst := some 12, k := .bytesStr, xs := [.t 11] },
  { dst := some 13, k := .mv, xs := [.t 0] },
  { dst := some 14, k := (.bin .add), xs := [.t 12, .t 13] },
  { dst := some 2, k := .mv, xs := [.t 14] }]
def F19c10 : Ac := .ret
def F19c8 : Ac := (.seq (.ops F19o9) F19c10)
def F19c2 : Ac := (.seq (.seq (.ops F19o4) F19c5) F19c8)
def F19c0 : Ac := (.seq (.ops F19o1) F19c2)
/-- hansom/hansomref18.Name -/
def F19 : Fn := { np := 1, pb := [], rs := [.t 2], body := F19c0 }
def F21o1 : List Ao := [
  { dst := some 4, k := .mv, xs := [.c (.d (.str []))] }]
def F21o3 : List Ao := [
  { dst := some 5, k := .mv, xs := [.c (.d (.str []))] }]
def F21o6 : List Ao := [
  { dst := some 6, k := .mv, xs := [.c (.d (.int .i64 0))] }]
def F21o11 : List Ao := [
  { dst := some 7, k := .mv, xs := [.t 6] },
  { dst := some 8, k := .mv, xs := [.t 1] },
  { dst := some 9, k := (.bin .lss), xs := [.t 7, .t 8] }]
def F21c12 : Ac := (.cond (.t 9) .skip (.exit 0))
def F21o18 : List Ao := [
  { dst := some 12, k := .mv, xs := [.t 5] },
  { dst := some 13, k := .mv, xs := [.t 0] },
  { dst := some 14, k := (.bin .rem), xs := [.t 13, .c (.d (.int .u64 256))] },
  { dst := some 15, k := (.toInt .u8), xs := [.t 14] },
  { dst := some 16, k := (.bslice (.int .u8 0) 1 [0]), xs := [.t 15] },
  { dst := some 17, k := .bytesStr, xs := [.t 16] },
  { dst := some 18, k := (.bin .add), xs := [.t 12, .t 17] },
  { dst := some 5, k := .mv, xs := [.t 18] }]
def F21o19 : List Ao := [
  { dst := some 19, k := .mv, xs := [.t 0] },
  { dst := some 20, k := (.bin .quo), xs := [.t 19, .c (.d (.int .u64 256))] },
  { dst := some 0, k := .mv, xs := [.t 20] }]
def F21c19 : Ac := (.ops F21o19)
def F21o20 : List Ao := [
  { dst := some 10, k := .mv, xs := [.t 6] },
  { dst := some 11, k := (.bin .add), xs := [.t 10, .c (.d (.int .i64 1))] },
  { dst := some 6, k := .mv, xs := [.t 11] }]
def F21c20 : Ac := (.ops F21o20)
def F21c15 : Ac := (.seq (.block 1 (.seq (.ops F21o18) F21c19)) F21c20)
def F21l8 : Ac := (.seq (.seq (.ops F21o11) F21c12) F21c15)
def F21c7 : Ac := (.block 0 (.loop (.seq (.gh []) (.seq (.keep [0, 1, 5, 6] []) F21l8))))
def F21o22 : List Ao := [
  { dst := some 21, k := .mv, xs := [.t 5] },
  { dst := some 4, k := .mv, xs := [.t 21] }]
def F21c23 : Ac := .ret
def F21b21 : Ac := (.seq (.ops F21o22) F21c23)
def F21c21 : Ac := (.seq (.gh []) (.seq (.keep [5] []) F21b21))
def F21c4 : Ac := (.seq (.seq (.ops F21o6) F21c7) F21c21)
def F21c2 : Ac := (.seq (.ops F21o3) F21c4)
def F21c0 : Ac := (.seq (.ops F21o1) F21c2)
/-- hansom/hansomref18.Bytes -/
def F21 : Fn := { np := 2, pb := [], rs := [.t 4], body := F21c0 }
def F24o1 : List Ao := [
  { dst := some 2, k := .mv, xs := [.c (.d (.str []))] }]
def F24o3 : List Ao := [
  { dst := some 4, k := .mv, xs := [.t 0] },
  { dst := some 5, k := (.toInt .u64), xs := [.t 4] },
  { dst := some 3, k := .mv, xs := [.t 5] }]
def F24o6 : List Ao := [
  { dst := some 6, k := .mv, xs := [.t 0] },
  { dst := some 7, k := (.bin .leq), xs := [.t 6, .c (.d (.int .u32 128))] }]
def F24o9 : List Ao := [
  { dst := some 8, k := .mv, xs := [.t 3] },
  { dst := some 9, k := (.callf 21), xs := [.t 8, .c (.d (.int .i64 1))] },
  { dst := some 2, k := .mv, xs := [.t 9] }]
def F24c10 : Ac := .ret
def F24c7 : Ac := (.cond (.t 7) (.seq (.ops F24o9) F24c10) .skip)
def F24o14 : List Ao := [
  { dst := some 10, k := .mv, xs := [.t 0] },
  { dst := some 11, k := (.bin .lss), xs := [.t 10, .c (.d (.int .u32 65536))] }]
def F24o17 : List Ao := [
  { dst := some 12, k := .mv, xs := [.t 3] },
  { dst := some 13, k := (.callf 21), xs := [.t 12, .c (.d (.int .i64 2))] },
  { dst := some 14, k := (.bin .add), xs := [.c (.d (.str [129])), .t 13] },
  { dst := some 2, k := .mv, xs := [.t 14] }]
def F24c18 : Ac := .ret
def F24c15 : Ac := (.cond (.t 11) (.seq (.ops F24o17) F24c18) .skip)
def F24o22 : List Ao := [
  { dst := some 15, k := .mv, xs := [.t 0] },
  { dst := some 16, k := (.bin .lss), xs := [.t 15, .c (.d (.int .u32 16777216))] }]
def F24o25 : List Ao := [
  { dst := some 17, k := .mv, xs := [.t 3] },
  { dst := some 18, k := (.callf 21), xs := [.t 17, .c (.d (.int .i64 3))] },
  { dst := some 19, k := (.bin .add), xs := [.c (.d (.str [132])), .t 18] },
  { dst := some 2, k := .mv, xs := [.t 19] }]
def F24c26 : Ac := .ret
def F24c23 : Ac := (.cond (.t 16) (.seq (.ops F24o25) F24c26) .skip)
def F24o29 : List Ao := [
  { dst := some 20, k := .mv, xs := [.t 3] },
  { dst := some 21, k := (.callf 21), xs := [.t 20, .c (.d (.int .i64 4))] },
  { dst := some 22, k := (.bin .add), xs := [.c (.d (.str [136])), .t 21] },
  { dst := some 2, k := .mv, xs := [.t 22] }]
def F24c30 : Ac := .ret
def F24c28 : Ac := (.seq (.ops F24o29) F24c30)
def F24c20 : Ac := (.seq (.seq (.ops F24o22) F24c23) F24c28)
def F24c12 : Ac := (.seq (.seq (.ops F24o14) F24c15) F24c20)
def F24c4 : Ac := (.seq (.seq (.ops F24o6) F24c7) F24c12)
def F24c2 : Ac := (.seq (.ops F24o3) F24c4)
def F24c0 : Ac := (.seq (.ops F24o1) F24c2)
/-- hansom/hansomref18.Long -/
def F24 : Fn := { np := 1, pb := [], rs := [.t 2], body := F24c0 }
def F25o1 : List Ao := [
  { dst := some 2, k := .mv, xs := [.c (.nilp)] }]
def F25o3 : List Ao := [
  { dst := some 3, k := .mv, xs := [.t 0] },
  { dst := some 4, k := (.append 1 1 false), xs := [.c (.nils), .t 3] },
  { dst := some 5, k := (.build [.nils, .d (.int .i64 0)] [(0, 1)]), xs := [.t 4] },
  { dst := some 6, k := (.box 2), xs := [.t 5] },
  { dst := some 2, k := .mv, xs := [.t 6] }]
def F25c4 : Ac := (.seq (.gh [.frzB [6] 0]) .ret)
def F25c2 : Ac := (.seq (.ops F25o3) F25c4)
def F25c0 : Ac := (.seq (.ops F25o1) F25c2)
/-- hansom/index.From -/
def F25 : Fn := { np := 1, pb := [], rs := [.t 2], body := F25c0 }
def F26o1 : List Ao := [
  { dst := some 4, k := .mv, xs := [.c (.nils)] }]
def F26o4 : List Ao := [
  { dst := some 6, k := .mv, xs := [.t 0] },
  { dst := some 7, k := (.eqp false), xs := [.t 6, .c (.nilp)] }]
def F26o7 : List Ao := [
  { dst := some 4, k := .mv, xs := [.c (.nils)] }]
def F26c8 : Ac := (.seq (.gh [.frz 4]) .ret)
def F26c5 : Ac := (.cond (.t 7) (.seq (.ops F26o7) F26c8) .skip)
def F26o12 : List Ao := [
  { dst := some 8, k := .mv, xs := [.t 1] },
  { dst := some 9, k := (.bin .lss), xs := [.t 8, .c (.d (.int .i64 0))] },
  { dst := some 10, k := .mv, xs := [.t 9] },
  { dst := some 11, k := .mv, xs := [.t 1], g := some (10, false) },
  { dst := some 12, k := .mv, xs := [.t 0], g := some (10, false) },
  { dst := some 13, k := .nilchk, xs := [.t 12], g := some (10, false) },
  { dst := some 14, k := (.faddr 0), xs := [.t 13], g := some (10, false) },
  { dst := some 15, k := (.load none), xs := [.t 14], g := some (10, false) },
  { dst := some 16, k := .lenL, xs := [.t 15], g := some (10, false) },
  { dst := some 17, k := (.bin .gtr), xs := [.t 11, .t 16], g := some (10, false) },
  { dst := some 18, k := .pick, xs := [.t 10, .c (.d (.bool true)), .t 17] }]
def F26o15 : List Ao := [
  { dst := some 19, k := .mv, xs := [.t 0] },
  { dst := some 20, k := (.callf 27), xs := [.t 19, .c (.d (.int .i64 2))] }]
def F26o17 : List Ao := [
  { dst := some 4, k := .mv, xs := [.c (.nils)] }]
def F26c18 : Ac := (.seq (.gh [.frz 4]) .ret)
def F26c16 : Ac := (.seq (.ops F26o17) F26c18)
def F26c13 : Ac := (.cond (.t 18) (.seq (.ops F26o15) F26c16) .skip)
def F26o21 : List Ao := [
  { dst := some 21, k := .mv, xs := [.t 0] },
  { dst := some 22, k := .nilchk, xs := [.t 21] },
  { dst := some 23, k := (.faddr 0), xs := [.t 22] },
  { dst := some 24, k := (.load none), xs := [.t 23] },
  { dst := some 25, k := .mv, xs := [.t 1] },
  { dst := some 26, k := .mv, xs := [.t 1] },
  { dst := some 27, k := (.subsl 1 false true true), xs := [.t 24, .t 25, .t 26] },
  { dst := some 5, k := .mv, xs := [.t 27] }]
def F26o23 : List Ao := [
  { dst := some 28, k := .mv, xs := [.t 0] },
  { dst := some 29, k := .mv, xs := [.t 0] },
  { dst := some 30, k := .nilchk, xs := [.t 29] },
  { dst := some 31, k := (.faddr 0), xs := [.t 30] },
  { dst := some 32, k := (.load none), xs := [.t 31] },
  { dst := some 33, k := .mv, xs := [.t 1] },
  { dst := some 34, k := (.subsl 1 true false false), xs := [.t 32, .t 33] },
  { dst := some 35, k := .nilchk, xs := [.t 28] },
  { dst := some 36, k := (.faddr 0), xs := [.t 35] },
  { dst := none, k := (.store 1), xs := [.t 36, .t 34] }]
def F26o25 : List Ao := [
  { dst := some 37, k := .mv, xs := [.t 5] },
  { dst := some 4, k := .mv, xs := [.t 37] }]
def F26c26 : Ac := .ret
def F26c24 : Ac := (.seq (.ops F26o25) F26c26)
def F26c22 : Ac := (.seq (.ops F26o23) F26c24)
def F26c20 : Ac := (.seq (.ops F26o21) F26c22)
def F26c10 : Ac := (.seq (.seq (.ops F26o12) F26c13) F26c20)
def F26c2 : Ac := (.seq (.seq (.ops F26o4) F26c5) F26c10)
def F26c0 : Ac := (.seq (.ops F26o1) F26c2)
/-- (*hansom/index.Source).Take -/
def F26 : Fn := { np := 2, pb := [[0]], rs := [.t 4], body := F26c0 }
def F27o1 : List Ao := [
  { dst := some 4, k := .mv, xs := [.t 0] },
  { dst := some 5, k := (.eqp true), xs := [.t 4, .c (.nilp)] },
  { dst := some 6, k := .mv, xs := [.t 5] },
  { dst := some 7, k := .mv, xs := [.t 0], g := some (6, true) },
  { dst := some 8, k := .nilchk, xs := [.t 7], g := some (6, true) },
  { dst := some 9, k := (.faddr 1), xs := [.t 8], g := some (6, true) },
  { dst := some 10, k := (.load none), xs := [.t 9], g := some (6, true) },
  { dst := some 11, k := (.bin .eql), xs := [.t 10, .c (.d (.int .i64 0))], g := some (6, true) },
  { dst := some 12, k := .pick, xs := [.t 6, .t 11, .c (.d (.bool false))] },
  { dst := some 13, k := .mv, xs := [.t 12] },
  { dst := some 14, k := .mv, xs := [.t 1], g := some (13, true) },
  { dst := some 15, k := (.bin .neq), xs := [.t 14, .c (.d (.int .i64 0))], g := some (13, true) },
  { dst := some 16, k := .pick, xs := [.t 13, .t 15, .c (.d (.bool false))] }]
def F27o3 : List Ao := [
  { dst := some 17, k := .mv, xs := [.t 0] },
  { dst := some 18, k := .mv, xs := [.t 0] },
  { dst := some 19, k := .mv, xs := [.t 1] },
  { dst := some 20, k := .nilchk, xs := [.t 17] },
  { dst := some 21, k := (.faddr 1), xs := [.t 20] },
  { dst := none, k := (.store 1), xs := [.t 21, .t 19] },
  { dst := some 22, k := .nilchk, xs := [.t 18] },
  { dst := some 23, k := (.faddr 0), xs := [.t 22] },
  { dst := none, k := (.store 1), xs := [.t 23, .c (.nils)] }]
def F27c2 : Ac := (.cond (.t 16) (.ops F27o3) .skip)
def F27c0 : Ac := (.seq (.ops F27o1) F27c2)
/-- (*hansom/index.Source).Wrong -/
def F27 : Fn := { np := 2, pb := [[0]], rs := [], body := (.seq F27c0 (.gh [.frzB [0] 0])) }
def F28o1 : List Ao := [
  { dst := some 2, k := .mv, xs := [.c (.d (.int .i64 0))] }]
def F28o4 : List Ao := [
  { dst := some 3, k := .mv, xs := [.t 0] },
  { dst := some 4, k := (.eqp false), xs := [.t 3, .c (.nilp)] }]
def F28o7 : List Ao := [
  { dst := some 2, k := .mv, xs := [.c (.d (.int .i64 1))] }]
def F28c8 : Ac := .ret
def F28c5 : Ac := (.cond (.t 4) (.seq (.ops F28o7) F28c8) .skip)
def F28o11 : List Ao := [
  { dst := some 5, k := .mv, xs := [.t 0] },
  { dst := some 6, k := .nilchk, xs := [.t 5] },
  { dst := some 7, k := (.faddr 1), xs := [.t 6] },
  { dst := some 8, k := (.load none), xs := [.t 7] },
  { dst := some 2, k := .mv, xs := [.t 8] }]
def F28c12 : Ac := .ret
def F28c10 : Ac := (.seq (.ops F28o11) F28c12)
def F28c2 : Ac := (.seq (.seq (.ops F28o4) F28c5) F28c10)
def F28c0 : Ac := (.seq (.ops F28o1) F28c2)
/-- (*hansom/index.Source).Err -/
def F28 : Fn := { np := 1, pb := [[0]], rs := [.t 2], body := F28c0 }
def F29o1 : List Ao := [
  { dst := some 2, k := .mv, xs := [.c (.d (.int .i64 0))] }]
def F29o4 : List Ao := [
  { dst := some 3, k := .mv, xs := [.t 0] },
  { dst := some 4, k := (.eqp false), xs := [.t 3, .c (.nilp)] }]
def F29o7 : List Ao := [
  { dst := some 2, k := .mv, xs := [.c (.d (.int .i64 0))] }]
def F29c8 : Ac := .ret
def F29c5 : Ac := (.cond (.t 4) (.seq (.ops F29o7) F29c8) .skip)
def F29o11 : List Ao := [
  { dst := some 5, k := .mv, xs := [.t 0] },
  { dst := some 6, k := .nilchk, xs := [.t 5] },
  { dst := some 7, k := (.faddr 0), xs := [.t 6] },
  { dst := some 8, k := (.load none), xs := [.t 7] },
  { dst := some 9, k := .lenL, xs := [.t 8] },
  { dst := some 2, k := .mv, xs := [.t 9] }]
def F29c12 : Ac := .ret
def F29c10 : Ac := (.seq (.ops F29o11) F29c12)
def F29c2 : Ac := (.seq (.seq (.ops F29o4) F29c5) F29c10)
def F29c0 : Ac := (.seq (.ops F29o1) F29c2)
/-- (*hansom/index.Source).Left -/
def F29 : Fn := { np := 1, pb := [[0]], rs := [.t 2], body := F29c0 }
def F30o1 : List Ao := [
  { dst := some 2, k := .mv, xs := [.c (.d (.int .u16 0))] }]
def F30o4 : List Ao := [
  { dst := some 4, k := .mv, xs := [.t 0] },
  { dst := some 5, k := (.callf 26), xs := [.t 4, .c (.d (.int .i64 2))] },
  { dst := some 3, k := .mv, xs := [.t 5] }]
def F30o6 : List Ao := [
  { dst := some 6, k := .mv, xs := [.t 3] },
  { dst := some 7, k := .lenL, xs := [.t 6] },
  { dst := some 8, k := (.bin .eql), xs := [.t 7, .c (.d (.int .i64 2))] }]
def F30o9 : List Ao := [
  { dst := some 9, k := .mv, xs := [.t 3] },
  { dst := some 10, k := (.iaddrS 1), xs := [.t 9, .c (.d (.int .i64 0))] },
  { dst := some 11, k := (.load none), xs := [.t 10] },
  { dst := some 12, k := .mv, xs := [.t 3] },
  { dst := some 13, k := (.iaddrS 1), xs := [.t 12, .c (.d (.int .i64 1))] },
  { dst := some 14, k := (.load none), xs := [.t 13] },
  { dst := some 15, k := (.callf 69), xs := [.t 11, .t 14] },
  { dst := some 2, k := .mv, xs := [.t 15] }]
def F30c10 : Ac := .ret
def F30c7 : Ac := (.cond (.t 8) (.seq (.ops F30o9) F30c10) .skip)
def F30c5 : Ac := (.seq (.ops F30o6) F30c7)
def F30o13 : List Ao := [
  { dst := some 2, k := .mv, xs := [.c (.d (.int .u16 0))] }]
def F30c14 : Ac := .ret
def F30c12 : Ac := (.seq (.ops F30o13) F30c14)
def F30c2 : Ac := (.seq (.seq (.ops F30o4) F30c5) F30c12)
def F30c0 : Ac := (.seq (.ops F30o1) F30c2)
/-- (*hansom/index.Source).Word -/
def F30 : Fn := { np := 1, pb := [[0]], rs := [.t 2], body := F30c0 }
def F31o1 : List Ao := [
  { dst := some 2, k := .mv, xs := [.c (.d (.int .i64 0))] }]
def F31o3 : List Ao := [
  { dst := some 5, k := .mv, xs := [.t 0] },
  { dst := some 6, k := (.callf 35), xs := [.t 5] },
  { dst := some 7, k := (.toInt .i64), xs := [.t 6] },
  { dst := some 3, k := .mv, xs := [.t 7] }]
def F31o6 : List Ao := [
  { dst := some 8, k := .mv, xs := [.t 3] },
  { dst := some 9, k := (.bin .lss), xs := [.t 8, .c (.d (.int .i64 128))] }]
def F31o9 : List Ao := [
  { dst := some 10, k := .mv, xs := [.t 3] },
  { dst := some 2, k := .mv, xs := [.t 10] }]
def F31c10 : Ac := .ret
def F31c7 : Ac := (.cond (.t 9) (.seq (.ops F31o9) F31c10) .skip)
def F31o13 : List Ao := [
  { dst := some 11, k := .mv, xs := [.t 3] },
  { dst := some 12, k := (.bin .and), xs := [.t 11, .c (.d (.int .i64 127))] },
  { dst := some 13, k := (.bin .shl), xs := [.t 12, .c (.d (.int .u64 8))] },
  { dst := some 14, k := .mv, xs := [.t 0] },
  { dst := some 15, k := (.callf 35), xs := [.t 14] },
  { dst := some 16, k := (.toInt .i64), xs := [.t 15] },
  { dst := some 17, k := (.bin .or), xs := [.t 13, .t 16] },
  { dst := some 4, k := .mv, xs := [.t 17] }]
def F31o16 : List Ao := [
  { dst := some 18, k := .mv, xs := [.t 0] },
  { dst := some 19, k := (.callf 28), xs := [.t 18] },
  { dst := some 20, k := (.bin .neq), xs := [.t 19, .c (.d (.int .i64 0))] }]
def F31o19 : List Ao := [
  { dst := some 2, k := .mv, xs := [.c (.d (.int .i64 0))] }]
def F31c20 : Ac := .ret
def F31c17 : Ac := (.cond (.t 20) (.seq (.ops F31o19) F31c20) .skip)
def F31o23 : List Ao := [
  { dst := some 21, k := .mv, xs := [.t 4] },
  { dst := some 2, k := .mv, xs := [.t 21] }]
def F31c24 : Ac := .ret
def F31c22 : Ac := (.seq (.ops F31o23) F31c24)
def F31c14 : Ac := (.seq (.seq (.ops F31o16) F31c17) F31c22)
def F31c12 : Ac := (.seq (.ops F31o13) F31c14)
def F31c4 : Ac := (.seq (.seq (.ops F31o6) F31c7) F31c12)
def F31c2 : Ac := (.seq (.ops F31o3) F31c4)
def F31c0 : Ac := (.seq (.ops F31o1) F31c2)
/-- (*hansom/index.Source).Index -/
def F31 : Fn := { np := 1, pb := [[0]], rs := [.t 2], body := F31c0 }
def F32o1 : List Ao := [
  { dst := some 2, k := .mv, xs := [.c (.d (.str []))] }]
def F32o3 : List Ao := [
  { dst := some 3, k := .mv, xs := [.t 0] },
  { dst := some 4, k := .mv, xs := [.t 0] },
  { dst := some 5, k := (.callf 35), xs := [.t 4] },
  { dst := some 6, k := (.toInt .i64), xs := [.t 5] },
  { dst := some 7, k := (.callf 26), xs := [.t 3, .t 6] },
  { dst := some 8, k := .bytesStr, xs := [.t 7] },
  { dst := some 2, k := .mv, xs := [.t 8] }]
def F32c4 : Ac := .ret
def F32c2 : Ac := (.seq (.ops F32o3) F32c4)
def F32c0 : Ac := (.seq (.ops F32o1) F32c2)
/-- (*hansom/index.Source).Name -/
def F32 : Fn := { np := 1, pb := [[0]], rs := [.t 2], body := F32c0 }
def F33o1 : List Ao := [
  { dst := some 2, k := .mv, xs := [.c (.d (.int .u32 0))] }]
def F33o3 : List Ao := [
  { dst := some 8, k := .mv, xs := [.t 0] },
  { dst := some 9, k := (.callf 35), xs := [.t 8] },
  { dst := some 3, k := .mv, xs := [.t 9] }]
def F33o5 : List Ao := [
  { dst := some 10, k := .mv, xs := [.c .top] },
  { dst := some 11, k := .mv, xs := [.c .top] },
  { dst := some 12, k := .mv, xs := [.t 3] },
  { dst := some 13, k := .lkp [(129, 2), (132, 3), (136, 4)] .u8 .i64, xs := [.t 12] },
  { dst := some 4, k := .mv, xs := [.t 13] }]
def F33o9 : List Ao := [
  { dst := some 15, k := .mv, xs := [.t 3] },
  { dst := some 16, k := (.bin .leq), xs := [.t 15, .c (.d (.int .u8 128))] },
  { dst := some 14, k := .mv, xs := [.t 16] }]
def F33o12 : List Ao := [
  { dst := some 17, k := .mv, xs := [.t 3] },
  { dst := some 18, k := (.toInt .u32), xs := [.t 17] },
  { dst := some 2, k := .mv, xs := [.t 18] }]
def F33c13 : Ac := .ret
def F33o15 : List Ao := [
  { dst := some 20, k := .mv, xs := [.t 4] },
  { dst := some 21, k := (.bin .eql), xs := [.t 20, .c (.d (.int .i64 0))] },
  { dst := some 19, k := .mv, xs := [.t 21] }]
def F33o18 : List Ao := [
  { dst := some 22, k := .mv, xs := [.t 0] },
  { dst := some 23, k := (.callf 27), xs := [.t 22, .c (.d (.int .i64 3))] }]
def F33o20 : List Ao := [
  { dst := some 2, k := .mv, xs := [.c (.d (.int .u32 0))] }]
def F33c21 : Ac := .ret
def F33c19 : Ac := (.seq (.ops F33o20) F33c21)
def F33c16 : Ac := (.cond (.t 19) (.seq (.ops F33o18) F33c19) .skip)
def F33c10 : Ac := (.cond (.t 14) (.seq (.ops F33o12) F33c13) (.seq (.ops F33o15) F33c16))
def F33o24 : List Ao := [
  { dst := some 5, k := .mv, xs := [.c (.d (.int .u32 0))] }]
def F33o27 : List Ao := [
  { dst := some 24, k := .mv, xs := [.t 0] },
  { dst := some 25, k := .mv, xs := [.t 4] },
  { dst := some 26, k := (.callf 26), xs := [.t 24, .t 25] },
  { dst := some 27, k := .lenL, xs := [.t 26] },
  { dst := some 28, k := .mv, xs := [.c (.d (.int .i64 0))] }]
def F33o31 : List Ao := [
  { dst := some 29, k := (.bin .lss), xs := [.t 28, .t 27] }]
def F33o39 : List Ao := [
  { dst := some 30, k := .mv, xs := [.t 28] },
  { dst := some 31, k := (.iaddrS 1), xs := [.t 26, .t 28] },
  { dst := some 32, k := (.load none), xs := [.t 31] },
  { dst := some 6, k := .mv, xs := [.t 30] },
  { dst := some 7, k := .mv, xs := [.t 32] }]
def F33o40 : List Ao := [
  { dst := some 33, k := .mv, xs := [.t 5] },
  { dst := some 34, k := .mv, xs := [.t 7] },
  { dst := some 35, k := (.toInt .u32), xs := [.t 34] },
  { dst := some 36, k := .mv, xs := [.t 6] },
  { dst := some 37, k := (.bin .mul), xs := [.c (.d (.int .i64 8)), .t 36] },
  { dst := some 38, k := (.bin .shl), xs := [.t 35, .t 37] },
  { dst := some 39, k := (.bin .or), xs := [.t 33, .t 38] },
  { dst := some 5, k := .mv, xs := [.t 39] }]
def F33c40 : Ac := (.ops F33o40)
def F33o41 : List Ao := [
  { dst := some 40, k := (.bin .add), xs := [.t 28, .c (.d (.int .i64 1))] },
  { dst := some 28, k := .mv, xs := [.t 40] }]
def F33c41 : Ac := (.ops F33o41)
def F33c36 : Ac := (.seq (.block 2 (.seq (.ops F33o39) F33c40)) F33c41)
def F33c32 : Ac := (.seq (.cond (.t 29) .skip (.exit 1)) F33c36)
def F33l29 : Ac := (.seq (.ops F33o31) F33c32)
def F33c28 : Ac := (.block 1 (.loop (.seq (.gh []) (.seq (.keep [5, 26, 27, 28] [[0]]) F33l29))))
def F33o43 : List Ao := [
  { dst := some 41, k := .mv, xs := [.t 5] },
  { dst := some 2, k := .mv, xs := [.t 41] }]
def F33c44 : Ac := .ret
def F33b42 : Ac := (.seq (.ops F33o43) F33c44)
def F33c42 : Ac := (.seq (.gh []) (.seq (.keep [5] [[0]]) F33b42))
def F33c25 : Ac := (.seq (.seq (.ops F33o27) F33c28) F33c42)
def F33c23 : Ac := (.seq (.ops F33o24) F33c25)
def F33c6 : Ac := (.seq (.block 0 (.seq (.ops F33o9) F33c10)) F33c23)
def F33c4 : Ac := (.seq (.ops F33o5) F33c6)
def F33c2 : Ac := (.seq (.ops F33o3) F33c4)
def F33c0 : Ac := (.seq (.ops F33o1) F33c2)
/-- (*hansom/index.Source).Long -/
def F33 : Fn := { np := 1, pb := [[0]], rs := [.t 2], body := F33c0 }
def F34o1 : List Ao := [
  { dst := some 2, k := .mv, xs := [.c (.d (.int .i64 0))] }]
def F34o4 : List Ao := [
  { dst := some 3, k := .mv, xs := [.t 0] },
  { dst := some 4, k := (.callf 29), xs := [.t 3] },
  { dst := some 5, k := (.bin .gtr), xs := [.t 4, .c (.d (.int .i64 0))] }]
def F34o6 : List Ao := [
  { dst := some 6, k := .mv, xs := [.t 0] },
  { dst := some 7, k := (.callf 27), xs := [.t 6, .c (.d (.int .i64 3))] }]
def F34c5 : Ac := (.cond (.t 5) (.ops F34o6) .skip)
def F34o9 : List Ao := [
  { dst := some 8, k := .mv, xs := [.t 0] },
  { dst := some 9, k := (.callf 28), xs := [.t 8] },
  { dst := some 2, k := .mv, xs := [.t 9] }]
def F34c10 : Ac := .ret
def F34c8 : Ac := (.seq (.ops F34o9) F34c10)
def F34c2 : Ac := (.seq (.seq (.ops F34o4) F34c5) F34c8)
def F34c0 : Ac := (.seq (.ops F34o1) F34c2)
/-- (*hansom/index.Source).End -/
def F34 : Fn := { np := 1, pb := [[0]], rs := [.t 2], body := F34c0 }
def F35o1 : List Ao := [
  { dst := some 2, k := .mv, xs := [.c (.d (.int .u8 0))] }]
def F35o4 : List Ao := [
  { dst := some 4, k := .mv, xs := [.t 0] },
  { dst := some 5, k := (.callf 26), xs := [.t 4, .c (.d (.int .i64 1))] },
  { dst := some 3, k := .mv, xs := [.t 5] }]
def F35o6 : List Ao := [
  { dst := some 6, k := .mv, xs := [.t 3] },
  { dst := some 7, k := .lenL, xs := [.t 6] },
  { dst := some 8, k := (.bin .eql), xs := [.t 7, .c (.d (.int .i64 1))] }]
def F35o9 : List Ao := [
  { dst := some 9, k := .mv, xs := [.t 3] },
  { dst := some 10, k := (.iaddrS 1), xs := [.t 9, .c (.d (.int .i64 0))] },
  { dst := some 11, k := (.load none), xs := [.t 10] },
  { dst := some 2, k := .mv, xs := [.t 11] }]
def F35c10 : Ac := .ret
def F35c7 : Ac := (.cond (.t 8) (.seq (.ops F35o9) F35c10) .skip)
def F35c5 : Ac := (.seq (.ops F35o6) F35c7)
def F35o13 : List Ao := [
  { dst := some 2, k := .mv, xs := [.c (.d (.int .u8 0))] }]
def F35c14 : Ac := .ret
def F35c12 : Ac := (.seq (.ops F35o13) F35c14)
def F35c2 : Ac := (.seq (.seq (.ops F35o4) F35c5) F35c12)
def F35c0 : Ac := (.seq (.ops F35o1) F35c2)
/-- (*hansom/index.Source).Byte -/
def F35 : Fn := { np := 1, pb := [[0]], rs := [.t 2], body := F35c0 }
def F36o1 : List Ao := [
  { dst := some 2, k := .mv, xs := [.c (.d (.int .u32 0))] }]
def F36o3 : List Ao := [
  { dst := some 4, k := .mv, xs := [.t 0] },
  { dst := some 5, k := (.callf 30), xs := [.t 4] },
  { dst := some 3, k := .mv, xs := [.t 5] }]
def F36o5 : List Ao := [
  { dst := some 6, k := .mv, xs := [.t 3] },
  { dst := some 7, k := (.toInt .u32), xs := [.t 6] },
  { dst := some 8, k := .mv, xs := [.t 0] },
  { dst := some 9, k := (.callf 30), xs := [.t 8] },
  { dst := some 10, k := (.toInt .u32), xs := [.t 9] },
  { dst := some 11, k := (.bin .shl), xs := [.t 10, .c (.d (.int .u64 16))] },
  { dst := some 12, k := (.bin .or), xs := [.t 7, .t 11] },
  { dst := some 2, k := .mv, xs := [.t 12] }]
def F36c6 : Ac := .ret
def F36c4 : Ac := (.seq (.ops F36o5) F36c6)
def F36c2 : Ac := (.seq (.ops F36o3) F36c4)
def F36c0 : Ac := (.seq (.ops F36o1) F36c2)
/-- (*hansom/index.Source).Number -/
def F36 : Fn := { np := 1, pb := [[0]], rs := [.t 2], body := F36c0 }
def F69o1 : List Ao := [
  { dst := some 4, k := .mv, xs := [.c (.d (.int .u16 0))] }]
def F69o3 : List Ao := [
  { dst := some 5, k := .mv, xs := [.t 0] },
  { dst := some 6, k := (.toInt .u16), xs := [.t 5] },
  { dst := some 7, k := .mv, xs := [.t 1] },
  { dst := some 8, k := (.toInt .u16), xs := [.t 7] },
  { dst := some 9, k := (.bin .shl), xs := [.t 8, .c (.d (.int .u64 8))] },
  { dst := some 10, k := (.bin .or), xs := [.t 6, .t 9] },
  { dst := some 4, k := .mv, xs := [.t 10] }]
def F69c4 : Ac := .ret
def F69c2 : Ac := (.seq (.ops F69o3) F69c4)
def F69c0 : Ac := (.seq (.ops F69o1) F69c2)
/-- hansom/bits.Word -/
def F69 : Fn := { np := 2, pb := [], rs := [.t 4], body := F69c0 }
def tab1 : Nat → Option Fn
  | 4 => some F4
  | 5 => some F5
  | 15 => some F15
  | 16 => some F16
  | 17 => some F17
  | 19 => some F19
  | 21 => some F21
  | 24 => some F24
  | 25 => some F25
  | 26 => some F26
  | 27 => some F27
  | 28 => some F28
  | 29 => some F29
  | 30 => some F30
  | 31 => some F31
  | 32 => some F32
  | 33 => some F33
  | 34 => some F34
  | 35 => some F35
  | 36 => some F36
  | 69 => some F69
  | _ => none
noncomputable def L : Cs := lim tab1 (fun _ _ => none)

theorem no_globals : GOk (fun _ _ => none) (fun _ => none) := fun n a h => by cases h
theorem ok4 : FnOk (fun _ _ => none) Try.prog 4 F4 := compF_spec no_globals Try.func4 (by kernel_rfl)
theorem ok5 : FnOk (fun _ _ => none) Try.prog 5 F5 := compF_spec no_globals Try.func5 (by kernel_rfl)
theorem ok15 : FnOk (fun _ _ => none) Try.prog 15 F15 := compF_spec no_globals Try.func15 (by kernel_rfl)
theorem ok16 : FnOk (fun _ _ => none) Try.prog 16 F16 := compF_spec no_globals Try.func16 (by kernel_rfl)
theorem ok17 : FnOk (fun _ _ => none) Try.prog 17 F17 := compF_spec no_globals Try.func17 (by kernel_rfl)
theorem ok19 : FnOk (fun _ _ => none) Try.prog 19 F19 := compF_spec no_globals Try.func19 (by kernel_rfl)
theorem ok21 : FnOk (fun _ _ => none) Try.prog 21 F21 := compF_spec no_globals Try.func21 (by kernel_rfl)
theorem ok24 : FnOk (fun _ _ => none) Try.prog 24 F24 := compF_spec no_globals Try.func24 (by kernel_rfl)
theorem ok25 : FnOk (fun _ _ => none) Try.prog 25 F25 := compF_spec no_globals Try.func25 (by kernel_rfl)
theorem ok26 : FnOk (fun _ _ => none) Try.prog 26 F26 := compF_spec no_globals Try.func26 (by kernel_rfl)
theorem ok27 : FnOk (fun _ _ => none) Try.prog 27 F27 := compF_spec no_globals Try.func27 (by kernel_rfl)
theorem ok28 : FnOk (fun _ _ => none) Try.prog 28 F28 := compF_spec no_globals Try.func28 (by kernel_rfl)
theorem ok29 : FnOk (fun _ _ => none) Try.prog 29 F29 := compF_spec no_globals Try.func29 (by kernel_rfl)
theorem ok30 : FnOk (fun _ _ => none) Try.prog 30 F30 := compF_spec no_globals Try.func30 (by kernel_rfl)
theorem ok31 : FnOk (fun _ _ => none) Try.prog 31 F31 := compF_spec no_globals Try.func31 (by kernel_rfl)
theorem ok32 : FnOk (fun _ _ => none) Try.prog 32 F32 := compF_spec no_globals Try.func32 (by kernel_rfl)
theorem ok33 : FnOk (fun _ _ => none) Try.prog 33 F33 := compF_spec no_globals Try.func33 (by kernel_rfl)
theorem ok34 : FnOk (fun _ _ => none) Try.prog 34 F34 := compF_spec no_globals Try.func34 (by kernel_rfl)
theorem ok35 : FnOk (fun _ _ => none) Try.prog 35 F35 := compF_spec no_globals Try.func35 (by kernel_rfl)
theorem ok36 : FnOk (fun _ _ => none) Try.prog 36 F36 := compF_spec no_globals Try.func36 (by kernel_rfl)
theorem ok69 : FnOk (fun _ _ => none) Try.prog 69 F69 := compF_spec no_globals Try.func69 (by kernel_rfl)
theorem tab1_ok : ∀ f fn, tab1 f = some fn → FnOk (fun _ _ => none) Try.prog f fn := by
  intro f fn h
  unfold tab1 at h
  split at h <;> cases h
  · exact ok4
  · exact ok5
  · exact ok15
  · exact ok16
  · exact ok17
  · exact ok19
  · exact ok21
  · exact ok24
  · exact ok25
  · exact ok26
  · exact ok27
  · exact ok28
  · exact ok29
  · exact ok30
  · exact ok31
  · exact ok32
  · exact ok33
  · exact ok34
  · exact ok35
  · exact ok36
  · exact ok69
theorem meets1 (f : Nat) : Meets (fun _ _ => none) Try.prog f (L f) := lim_meets tab1_ok (fun f _ m w args vs bs _ _ _ _ _ r a h => by cases h) f

end Go.Es.Ixs
