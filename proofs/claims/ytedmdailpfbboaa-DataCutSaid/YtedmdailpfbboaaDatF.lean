/- The code of the functions that the statement DataBack, DataAny, DataCut reaches, as the interpreter reads it. No condition. -/
import Derived.Test.YtedmdailpfbboaaEsD
import Derived.Test.YtedmdailpfbboaaChecked
import Derived.KernelRfl
set_option linter.unusedVariables false
set_option linter.unusedSimpArgs false
set_option maxRecDepth 100000
set_option maxHeartbeats 4000000
namespace Go.Es.Dat
open Go.Proofs
def F7o1 : List Ao := [
  { dst := some 2, k := (.box 4), xs := [.t 0] },
  { dst := some 4, k := .mv, xs := [.c (.d (.bool false))] }]
def F7o3 : List Ao := [
  { dst := some 12, k := (.faddr 0), xs := [.t 2] },
  { dst := some 13, k := (.load none), xs := [.t 12], av := [[5]] },
  { dst := some 14, k := (.bin .and), xs := [.t 13, .c (.d (.int .i64 32767))] },
  { dst := some 15, k := (.bin .or), xs := [.t 14, .c (.d (.int .i64 1))] },
  { dst := some 16, k := (.faddr 1), xs := [.t 2] },
  { dst := some 17, k := (.load none), xs := [.t 16], av := [[5]] },
  { dst := some 18, k := (.faddr 2), xs := [.t 2] },
  { dst := some 19, k := (.load none), xs := [.t 18], av := [[5]] },
  { dst := some 20, k := (.faddr 2), xs := [.t 2] },
  { dst := some 21, k := (.load none), xs := [.t 20], av := [[5]] },
  { dst := some 22, k := .lenL, xs := [.t 21] },
  { dst := some 23, k := .mn, xs := [.t 22, .c (.d (.int .i64 60))] },
  { dst := some 24, k := (.subsl 1 false true false), xs := [.t 19, .t 23] },
  { dst := some 25, k := (.build [.d (.int .i64 0), .d (.int .u16 0), .nils, .nils] [(0, 1), (1, 1), (2, 1)]), xs := [.t 15, .t 17, .t 24] },
  { dst := some 5, k := (.alloc [.d (.int .i64 0), .d (.int .u16 0), .nils, .nils]), xs := [] },
  { dst := none, k := (.store 4), xs := [.t 5, .t 25] }]
def F7o6 : List Ao := [
  { dst := some 26, k := .mv, xs := [.t 1] },
  { dst := some 27, k := (.bin .and), xs := [.t 26, .c (.d (.int .i64 7))] }]
def F7o9 : List Ao := [
  { dst := some 29, k := (.bin .eql), xs := [.t 27, .c (.d (.int .i64 0))] },
  { dst := some 28, k := .mv, xs := [.t 29] }]
def F7o11 : List Ao := [
  { dst := some 30, k := (.faddr 0), xs := [.t 2] },
  { dst := some 31, k := (.load none), xs := [.t 30] },
  { dst := some 32, k := (.faddr 0), xs := [.t 5] },
  { dst := none, k := (.store 1), xs := [.t 32, .t 31] }]
def F7o13 : List Ao := [
  { dst := some 34, k := (.bin .eql), xs := [.t 27, .c (.d (.int .i64 1))] },
  { dst := some 33, k := .mv, xs := [.t 34] }]
def F7o15 : List Ao := [
  { dst := some 35, k := .mv, xs := [.t 1] },
  { dst := some 36, k := (.bin .shr), xs := [.t 35, .c (.d (.int .u64 3))] },
  { dst := some 37, k := (.bin .and), xs := [.t 36, .c (.d (.int .i64 7))] },
  { dst := some 38, k := (.bin .add), xs := [.c (.d (.int .i64 1020)), .t 37] },
  { dst := some 39, k := (.mkslice (.int .u8 0) 1), xs := [.t 38, .t 38] },
  { dst := some 40, k := (.faddr 2), xs := [.t 5] },
  { dst := none, k := (.store 1), xs := [.t 40, .t 39] }]
def F7c14 : Ac := (.cond (.t 33) (.ops F7o15) .skip)
def F7c10 : Ac := (.cond (.t 28) (.ops F7o11) (.seq (.ops F7o13) F7c14))
def F7c7 : Ac := (.block 0 (.seq (.ops F7o9) F7c10))
def F7o18 : List Ao := [
  { dst := some 41, k := (.faddr 2), xs := [.t 5] },
  { dst := some 42, k := (.load none), xs := [.t 41] },
  { dst := some 43, k := .lenL, xs := [.t 42] },
  { dst := some 6, k := .mv, xs := [.t 43] }]
def F7o20 : List Ao := [
  { dst := some 44, k := (.faddr 0), xs := [.t 5] },
  { dst := some 45, k := (.load none), xs := [.t 44] },
  { dst := some 46, k := (.bin .geq), xs := [.t 45, .c (.d (.int .i64 1))] },
  { dst := some 47, k := .mv, xs := [.t 46] },
  { dst := some 48, k := (.faddr 0), xs := [.t 5], g := some (47, true) },
  { dst := some 49, k := (.load none), xs := [.t 48], g := some (47, true) },
  { dst := some 50, k := (.bin .leq), xs := [.t 49, .c (.d (.int .i64 32767))], g := some (47, true) },
  { dst := some 51, k := .pick, xs := [.t 47, .t 50, .c (.d (.bool false))] },
  { dst := some 52, k := .mv, xs := [.t 51] },
  { dst := some 53, k := .mv, xs := [.t 6], g := some (52, true) },
  { dst := some 54, k := (.bin .geq), xs := [.t 53, .c (.d (.int .i64 1))], g := some (52, true) },
  { dst := some 55, k := .pick, xs := [.t 52, .t 54, .c (.d (.bool false))] },
  { dst := some 56, k := .mv, xs := [.t 55] },
  { dst := some 57, k := .mv, xs := [.t 6], g := some (56, true) },
  { dst := some 58, k := (.bin .leq), xs := [.t 57, .c (.d (.int .i64 1024))], g := some (56, true) },
  { dst := some 59, k := .pick, xs := [.t 56, .t 58, .c (.d (.bool false))] },
  { dst := some 60, k := .mv, xs := [.t 59] },
  { dst := some 61, k := (.faddr 1), xs := [.t 5], g := some (60, true) },
  { dst := some 62, k := (.load none), xs := [.t 61], g := some (60, true) },
  { dst := some 63, k := (.toInt .i64), xs := [.t 62], g := some (60, true) },
  { dst := some 64, k := .mv, xs := [.t 6], g := some (60, true) },
  { dst := some 65, k := (.bin .add), xs := [.t 63, .t 64], g := some (60, true) },
  { dst := some 66, k := (.bin .leq), xs := [.t 65, .c (.d (.int .i64 65536))], g := some (60, true) },
  { dst := some 67, k := .pick, xs := [.t 60, .t 66, .c (.d (.bool false))] },
  { dst := some 7, k := .mv, xs := [.t 67] }]
def F7o22 : List Ao := [
  { dst := some 69, k := (.load (some 4)), xs := [.t 5] },
  { dst := some 70, k := (.callf 41), xs := [.t 69] },
  { dst := some 68, k := .mv, xs := [.t 70] },
  { dst := some 71, k := (.extract 0), xs := [.t 68] },
  { dst := some 72, k := (.extract 1), xs := [.t 68] },
  { dst := some 8, k := (.alloc [.d (.int .u8 0), .nils]), xs := [] },
  { dst := none, k := (.store 2), xs := [.t 8, .t 71] },
  { dst := some 9, k := .mv, xs := [.t 72] }]
def F7o25 : List Ao := [
  { dst := some 73, k := (.callf 42), xs := [] },
  { dst := some 74, k := (.un .not), xs := [.t 73] },
  { dst := some 75, k := .mv, xs := [.t 74] },
  { dst := some 76, k := (.load (some 4)), xs := [.t 5], g := some (75, false) },
  { dst := some 77, k := (.callf 43), xs := [.t 76], g := some (75, false) },
  { dst := some 78, k := .mv, xs := [.t 7], g := some (75, false) },
  { dst := some 79, k := (.eqb true), xs := [.t 77, .t 78], g := some (75, false) },
  { dst := some 80, k := .pick, xs := [.t 75, .c (.d (.bool true)), .t 79] },
  { dst := some 81, k := .mv, xs := [.t 80] },
  { dst := some 82, k := .mv, xs := [.t 9], g := some (81, false) },
  { dst := some 83, k := .mv, xs := [.t 7], g := some (81, false) },
  { dst := some 84, k := (.eqb true), xs := [.t 82, .t 83], g := some (81, false) },
  { dst := some 85, k := .pick, xs := [.t 81, .c (.d (.bool true)), .t 84] }]
def F7o28 : List Ao := [
  { dst := some 4, k := .mv, xs := [.c (.d (.bool false))] }]
def F7c29 : Ac := .ret
def F7c26 : Ac := (.cond (.t 85) (.seq (.ops F7o28) F7c29) .skip)
def F7o33 : List Ao := [
  { dst := some 86, k := .mv, xs := [.t 7] },
  { dst := some 87, k := (.un .not), xs := [.t 86] }]
def F7o36 : List Ao := [
  { dst := some 88, k := (.faddr 1), xs := [.t 8] },
  { dst := some 89, k := (.load none), xs := [.t 88] },
  { dst := some 90, k := .lenL, xs := [.t 89] },
  { dst := some 91, k := (.bin .eql), xs := [.t 90, .c (.d (.int .i64 0))] },
  { dst := some 4, k := .mv, xs := [.t 91] }]
def F7c37 : Ac := .ret
def F7c34 : Ac := (.cond (.t 87) (.seq (.ops F7o36) F7c37) .skip)
def F7o40 : List Ao := [
  { dst := some 93, k := (.faddr 1), xs := [.t 8] },
  { dst := some 94, k := (.load none), xs := [.t 93] },
  { dst := some 95, k := (.callf 44), xs := [.t 94] },
  { dst := some 92, k := .mv, xs := [.t 95] },
  { dst := some 96, k := (.extract 0), xs := [.t 92] },
  { dst := some 97, k := (.extract 1), xs := [.t 92] },
  { dst := some 10, k := (.alloc [.d (.int .i64 0), .d (.int .u16 0), .nils, .nils]), xs := [] },
  { dst := none, k := (.store 4), xs := [.t 10, .t 96] },
  { dst := some 11, k := .mv, xs := [.t 97] }]
def F7o42 : List Ao := [
  { dst := some 98, k := (.faddr 1), xs := [.t 8] },
  { dst := some 99, k := (.load none), xs := [.t 98], av := [[103], [107]] },
  { dst := some 100, k := .bytesStr, xs := [.t 99], av := [[103], [107]] },
  { dst := some 101, k := (.faddr 0), xs := [.t 5] },
  { dst := some 102, k := (.load none), xs := [.t 101] },
  { dst := some 103, k := (.callf 17), xs := [.t 102], al := some [] },
  { dst := some 104, k := (.faddr 1), xs := [.t 5] },
  { dst := some 105, k := (.load none), xs := [.t 104], av := [[103]] },
  { dst := some 106, k := (.toInt .u64), xs := [.t 105] },
  { dst := some 107, k := (.callf 21), xs := [.t 106, .c (.d (.int .i64 2))], al := some [] },
  { dst := some 108, k := (.bin .add), xs := [.t 103, .t 107] },
  { dst := some 109, k := (.faddr 2), xs := [.t 5] },
  { dst := some 110, k := (.load none), xs := [.t 109], av := [[103], [107]] },
  { dst := some 111, k := .bytesStr, xs := [.t 110], av := [[103], [107]] },
  { dst := some 112, k := (.bin .add), xs := [.t 108, .t 111] },
  { dst := some 113, k := (.bin .eql), xs := [.t 100, .t 112] },
  { dst := some 114, k := .mv, xs := [.t 113] },
  { dst := some 115, k := (.faddr 0), xs := [.t 8], g := some (114, true) },
  { dst := some 116, k := (.load none), xs := [.t 115], g := some (114, true) },
  { dst := some 117, k := (.bin .eql), xs := [.t 116, .c (.d (.int .u8 160))], g := some (114, true) },
  { dst := some 118, k := .pick, xs := [.t 114, .t 117, .c (.d (.bool false))] },
  { dst := some 119, k := .mv, xs := [.t 118] },
  { dst := some 120, k := .mv, xs := [.t 11], g := some (119, true) },
  { dst := some 121, k := (.bin .eql), xs := [.t 120, .c (.d (.int .i64 0))], g := some (119, true) },
  { dst := some 122, k := .pick, xs := [.t 119, .t 121, .c (.d (.bool false))] },
  { dst := some 123, k := .mv, xs := [.t 122] },
  { dst := some 124, k := (.faddr 0), xs := [.t 10], g := some (123, true) },
  { dst := some 125, k := (.load none), xs := [.t 124], g := some (123, true) },
  { dst := some 126, k := (.faddr 0), xs := [.t 5], g := some (123, true) },
  { dst := some 127, k := (.load none), xs := [.t 126], g := some (123, true) },
  { dst := some 128, k := (.bin .eql), xs := [.t 125, .t 127], g := some (123, true) },
  { dst := some 129, k := .pick, xs := [.t 123, .t 128, .c (.d (.bool false))] },
  { dst := some 130, k := .mv, xs := [.t 129] },
  { dst := some 131, k := (.faddr 1), xs := [.t 10], g := some (130, true) },
  { dst := some 132, k := (.load none), xs := [.t 131], g := some (130, true) },
  { dst := some 133, k := (.faddr 1), xs := [.t 5], g := some (130, true) },
  { dst := some 134, k := (.load none), xs := [.t 133], g := some (130, true) },
  { dst := some 135, k := (.bin .eql), xs := [.t 132, .t 134], g := some (130, true) },
  { dst := some 136, k := .pick, xs := [.t 130, .t 135, .c (.d (.bool false))] },
  { dst := some 137, k := .mv, xs := [.t 136] },
  { dst := some 138, k := (.faddr 2), xs := [.t 10], g := some (137, true) },
  { dst := some 139, k := (.load none), xs := [.t 138], g := some (137, true) },
  { dst := some 140, k := .bytesStr, xs := [.t 139], g := some (137, true) },
  { dst := some 141, k := (.faddr 2), xs := [.t 5], g := some (137, true) },
  { dst := some 142, k := (.load none), xs := [.t 141], g := some (137, true) },
  { dst := some 143, k := .bytesStr, xs := [.t 142], g := some (137, true) },
  { dst := some 144, k := (.bin .eql), xs := [.t 140, .t 143], g := some (137, true) },
  { dst := some 145, k := .pick, xs := [.t 137, .t 144, .c (.d (.bool false))] },
  { dst := some 146, k := .mv, xs := [.t 145] },
  { dst := some 147, k := (.faddr 3), xs := [.t 10], g := some (146, true) },
  { dst := some 148, k := (.load none), xs := [.t 147], g := some (146, true) },
  { dst := some 149, k := .lenL, xs := [.t 148], g := some (146, true) },
  { dst := some 150, k := (.bin .eql), xs := [.t 149, .c (.d (.int .i64 0))], g := some (146, true) },
  { dst := some 151, k := .pick, xs := [.t 146, .t 150, .c (.d (.bool false))] },
  { dst := some 4, k := .mv, xs := [.t 151] }]
def F7c43 : Ac := .ret
def F7c41 : Ac := (.seq (.ops F7o42) F7c43)
def F7c39 : Ac := (.seq (.ops F7o40) F7c41)
def F7c31 : Ac := (.seq (.seq (.ops F7o33) F7c34) F7c39)
def F7c23 : Ac := (.seq (.seq (.ops F7o25) F7c26) F7c31)
def F7b21 : Ac := (.seq (.ops F7o22) F7c23)
def F7c21 : Ac := (.seq (.gh [.frzB [5] 2]) (.seq (.keep [5, 7] [[5]]) F7b21))
def F7c19 : Ac := (.seq (.ops F7o20) F7c21)
def F7b17 : Ac := (.seq (.ops F7o18) F7c19)
def F7c17 : Ac := (.seq (.gh [.frzB [5] 2]) (.seq (.keep [5] [[5]]) F7b17))
def F7c4 : Ac := (.seq (.seq (.ops F7o6) F7c7) F7c17)
def F7c2 : Ac := (.seq (.ops F7o3) F7c4)
def F7c0 : Ac := (.seq (.ops F7o1) F7c2)
/-- hansom/hansomlaw23.DataBack -/
def F7 : Fn := { np := 2, pb := [], rs := [.t 4], body := F7c0 }
def F8o1 : List Ao := [
  { dst := some 2, k := .mv, xs := [.c (.d (.bool false))] }]
def F8o3 : List Ao := [
  { dst := some 6, k := .mv, xs := [.t 0] },
  { dst := some 7, k := .mv, xs := [.t 0] },
  { dst := some 8, k := .lenL, xs := [.t 7] },
  { dst := some 9, k := .mn, xs := [.t 8, .c (.d (.int .i64 40))] },
  { dst := some 10, k := (.subsl 1 false true false), xs := [.t 6, .t 9] },
  { dst := some 3, k := .mv, xs := [.t 10] }]
def F8o5 : List Ao := [
  { dst := some 12, k := .mv, xs := [.t 3] },
  { dst := some 13, k := (.callf 44), xs := [.t 12] },
  { dst := some 11, k := .mv, xs := [.t 13] },
  { dst := some 14, k := (.extract 0), xs := [.t 11] },
  { dst := some 15, k := (.extract 1), xs := [.t 11] },
  { dst := some 4, k := (.alloc [.d (.int .i64 0), .d (.int .u16 0), .nils, .nils]), xs := [] },
  { dst := none, k := (.store 4), xs := [.t 4, .t 14] },
  { dst := some 5, k := .mv, xs := [.t 15] }]
def F8o8 : List Ao := [
  { dst := some 16, k := .mv, xs := [.t 5] },
  { dst := some 17, k := (.bin .neq), xs := [.t 16, .c (.d (.int .i64 0))] }]
def F8o11 : List Ao := [
  { dst := some 18, k := (.callf 42), xs := [] },
  { dst := some 19, k := .mv, xs := [.t 18] },
  { dst := some 20, k := (.faddr 2), xs := [.t 4], g := some (19, true) },
  { dst := some 21, k := (.load none), xs := [.t 20], g := some (19, true) },
  { dst := some 22, k := .lenL, xs := [.t 21], g := some (19, true) },
  { dst := some 23, k := (.bin .eql), xs := [.t 22, .c (.d (.int .i64 0))], g := some (19, true) },
  { dst := some 24, k := .pick, xs := [.t 19, .t 23, .c (.d (.bool false))] },
  { dst := some 25, k := .mv, xs := [.t 24] },
  { dst := some 26, k := .mv, xs := [.t 5], g := some (25, true) },
  { dst := some 27, k := (.bin .eql), xs := [.t 26, .c (.d (.int .i64 2))], g := some (25, true) },
  { dst := some 28, k := .mv, xs := [.t 27], g := some (25, true) },
  { dst := some 29, k := .mv, xs := [.t 5], g := some (28, false) },
  { dst := some 30, k := (.bin .eql), xs := [.t 29, .c (.d (.int .i64 3))], g := some (28, false) },
  { dst := some 31, k := .pick, xs := [.t 28, .c (.d (.bool true)), .t 30], g := some (25, true) },
  { dst := some 32, k := .pick, xs := [.t 25, .t 31, .c (.d (.bool false))] },
  { dst := some 2, k := .mv, xs := [.t 32] }]
def F8c12 : Ac := .ret
def F8c9 : Ac := (.cond (.t 17) (.seq (.ops F8o11) F8c12) .skip)
def F8o15 : List Ao := [
  { dst := some 33, k := (.callf 42), xs := [] },
  { dst := some 34, k := .mv, xs := [.t 33] },
  { dst := some 35, k := (.load (some 4)), xs := [.t 4], g := some (34, true) },
  { dst := some 36, k := (.callf 43), xs := [.t 35], g := some (34, true) },
  { dst := some 37, k := .pick, xs := [.t 34, .t 36, .c (.d (.bool false))] },
  { dst := some 38, k := .mv, xs := [.t 37] },
  { dst := some 39, k := (.faddr 2), xs := [.t 4], g := some (38, true) },
  { dst := some 40, k := (.load none), xs := [.t 39], g := some (38, true) },
  { dst := some 41, k := .lenL, xs := [.t 40], g := some (38, true) },
  { dst := some 42, k := .mv, xs := [.t 3], g := some (38, true) },
  { dst := some 43, k := .lenL, xs := [.t 42], g := some (38, true) },
  { dst := some 44, k := (.bin .sub), xs := [.t 43, .c (.d (.int .i64 3))], g := some (38, true) },
  { dst := some 45, k := (.bin .leq), xs := [.t 41, .t 44], g := some (38, true) },
  { dst := some 46, k := .pick, xs := [.t 38, .t 45, .c (.d (.bool false))] },
  { dst := some 2, k := .mv, xs := [.t 46] }]
def F8c16 : Ac := .ret
def F8c14 : Ac := (.seq (.ops F8o15) F8c16)
def F8c6 : Ac := (.seq (.seq (.ops F8o8) F8c9) F8c14)
def F8c4 : Ac := (.seq (.ops F8o5) F8c6)
def F8c2 : Ac := (.seq (.ops F8o3) F8c4)
def F8c0 : Ac := (.seq (.ops F8o1) F8c2)
/-- hansom/hansomlaw23.DataAny -/
def F8 : Fn := { np := 1, pb := [], rs := [.t 2], body := F8c0 }
def F10o1 : List Ao := [
  { dst := some 6, k := .mv, xs := [.c (.d (.bool false))] }]
def F10o3 : List Ao := [
  { dst := some 15, k := .mv, xs := [.t 0] },
  { dst := some 16, k := (.bin .and), xs := [.t 15, .c (.d (.int .i64 63))] },
  { dst := some 17, k := (.bin .add), xs := [.t 16, .c (.d (.int .i64 1))] },
  { dst := some 7, k := .mv, xs := [.t 17] }]
def F10o5 : List Ao := [
  { dst := some 18, k := (.bslice (.int .u8 0) 0 []), xs := [] },
  { dst := some 8, k := .mv, xs := [.t 18] }]
def F10o8 : List Ao := [
  { dst := some 9, k := .mv, xs := [.c (.d (.int .i64 0))] }]
def F10o13 : List Ao := [
  { dst := some 19, k := .mv, xs := [.t 9] },
  { dst := some 20, k := (.bin .lss), xs := [.t 19, .c (.d (.int .i64 3000))] }]
def F10c14 : Ac := (.cond (.t 20) .skip (.exit 0))
def F10o20 : List Ao := [
  { dst := some 23, k := .mv, xs := [.t 9] },
  { dst := some 24, k := (.toInt .u8), xs := [.t 23] },
  { dst := some 10, k := .mv, xs := [.t 24] }]
def F10o23 : List Ao := [
  { dst := some 25, k := .mv, xs := [.t 9] },
  { dst := some 26, k := .mv, xs := [.t 2] },
  { dst := some 27, k := .lenL, xs := [.t 26] },
  { dst := some 28, k := (.bin .lss), xs := [.t 25, .t 27] }]
def F10o25 : List Ao := [
  { dst := some 29, k := .mv, xs := [.t 2] },
  { dst := some 30, k := .mv, xs := [.t 9] },
  { dst := some 31, k := (.iaddrS 1), xs := [.t 29, .t 30] },
  { dst := some 32, k := (.load none), xs := [.t 31] },
  { dst := some 10, k := .mv, xs := [.t 32] }]
def F10c24 : Ac := (.cond (.t 28) (.ops F10o25) .skip)
def F10o27 : List Ao := [
  { dst := some 33, k := .mv, xs := [.t 8] },
  { dst := some 34, k := .mv, xs := [.t 10] },
  { dst := some 35, k := (.bslice (.int .u8 0) 1 [0]), xs := [.t 34] },
  { dst := some 36, k := (.append 1 1 false), xs := [.t 33, .t 35] },
  { dst := some 8, k := .mv, xs := [.t 36] }]
def F10c27 : Ac := (.ops F10o27)
def F10c21 : Ac := (.seq (.seq (.ops F10o23) F10c24) F10c27)
def F10o28 : List Ao := [
  { dst := some 21, k := .mv, xs := [.t 9] },
  { dst := some 22, k := (.bin .add), xs := [.t 21, .c (.d (.int .i64 1))] },
  { dst := some 9, k := .mv, xs := [.t 22] }]
def F10c28 : Ac := (.ops F10o28)
def F10c17 : Ac := (.seq (.block 1 (.seq (.ops F10o20) F10c21)) F10c28)
def F10l10 : Ac := (.seq (.seq (.ops F10o13) F10c14) F10c17)
def F10c9 : Ac := (.block 0 (.loop (.seq (.gh []) (.seq (.keep [1, 2, 7, 8, 9] [[18]]) F10l10))))
def F10o30 : List Ao := [
  { dst := some 37, k := .mv, xs := [.t 8] },
  { dst := some 38, k := .mv, xs := [.t 1] },
  { dst := some 39, k := (.toInt .i64), xs := [.t 38] },
  { dst := some 40, k := (.bin .rem), xs := [.t 39, .c (.d (.int .i64 3001))] },
  { dst := some 41, k := (.subsl 1 false true false), xs := [.t 37, .t 40] },
  { dst := some 8, k := .mv, xs := [.t 41] }]
def F10o32 : List Ao := [
  { dst := some 11, k := .mv, xs := [.c (.d (.int .i64 0))] }]
def F10o34 : List Ao := [
  { dst := some 42, k := .mv, xs := [.t 7] },
  { dst := some 43, k := .mv, xs := [.t 1] },
  { dst := some 44, k := (.bin .and), xs := [.t 43, .c (.d (.int .u16 4095))] },
  { dst := some 45, k := .mv, xs := [.t 8] },
  { dst := some 46, k := (.callf 53), xs := [.t 42, .t 44, .t 45] },
  { dst := some 12, k := .mv, xs := [.t 46] }]
def F10o37 : List Ao := [
  { dst := some 13, k := .mv, xs := [.c (.d (.int .i64 0))] }]
def F10o42 : List Ao := [
  { dst := some 47, k := .mv, xs := [.t 13] },
  { dst := some 48, k := .mv, xs := [.t 12] },
  { dst := some 49, k := .lenL, xs := [.t 48] },
  { dst := some 50, k := (.bin .lss), xs := [.t 47, .t 49] }]
def F10c43 : Ac := (.cond (.t 50) .skip (.exit 2))
def F10o49 : List Ao := [
  { dst := some 53, k := .mv, xs := [.t 12] },
  { dst := some 54, k := .mv, xs := [.t 13] },
  { dst := some 55, k := (.iaddrS 4), xs := [.t 53, .t 54] },
  { dst := some 56, k := (.faddr 2), xs := [.t 55] },
  { dst := some 57, k := (.load none), xs := [.t 56] },
  { dst := some 58, k := .lenL, xs := [.t 57] },
  { dst := some 14, k := .mv, xs := [.t 58] }]
def F10o52 : List Ao := [
  { dst := some 59, k := .mv, xs := [.t 12] },
  { dst := some 60, k := .mv, xs := [.t 13] },
  { dst := some 61, k := (.iaddrS 4), xs := [.t 59, .t 60] },
  { dst := some 62, k := (.load (some 4)), xs := [.t 61] },
  { dst := some 63, k := (.callf 43), xs := [.t 62] },
  { dst := some 64, k := (.un .not), xs := [.t 63] },
  { dst := some 65, k := .mv, xs := [.t 64] },
  { dst := some 66, k := .mv, xs := [.t 12], g := some (65, false) },
  { dst := some 67, k := .mv, xs := [.t 13], g := some (65, false) },
  { dst := some 68, k := (.iaddrS 4), xs := [.t 66, .t 67], g := some (65, false) },
  { dst := some 69, k := (.faddr 0), xs := [.t 68], g := some (65, false) },
  { dst := some 70, k := (.load none), xs := [.t 69], g := some (65, false) },
  { dst := some 71, k := .mv, xs := [.t 7], g := some (65, false) },
  { dst := some 72, k := (.bin .neq), xs := [.t 70, .t 71], g := some (65, false) },
  { dst := some 73, k := .pick, xs := [.t 65, .c (.d (.bool true)), .t 72] },
  { dst := some 74, k := .mv, xs := [.t 73] },
  { dst := some 75, k := .mv, xs := [.t 12], g := some (74, false) },
  { dst := some 76, k := .mv, xs := [.t 13], g := some (74, false) },
  { dst := some 77, k := (.iaddrS 4), xs := [.t 75, .t 76], g := some (74, false) },
  { dst := some 78, k := (.faddr 1), xs := [.t 77], g := some (74, false) },
  { dst := some 79, k := (.load none), xs := [.t 78], g := some (74, false) },
  { dst := some 80, k := (.toInt .i64), xs := [.t 79], g := some (74, false) },
  { dst := some 81, k := .mv, xs := [.t 1], g := some (74, false) },
  { dst := some 82, k := (.bin .and), xs := [.t 81, .c (.d (.int .u16 4095))], g := some (74, false) },
  { dst := some 83, k := (.toInt .i64), xs := [.t 82], g := some (74, false) },
  { dst := some 84, k := .mv, xs := [.t 11], g := some (74, false) },
  { dst := some 85, k := (.bin .add), xs := [.t 83, .t 84], g := some (74, false) },
  { dst := some 86, k := (.bin .neq), xs := [.t 80, .t 85], g := some (74, false) },
  { dst := some 87, k := .pick, xs := [.t 74, .c (.d (.bool true)), .t 86] },
  { dst := some 88, k := .mv, xs := [.t 87] },
  { dst := some 89, k := .mv, xs := [.t 11], g := some (88, false) },
  { dst := some 90, k := .mv, xs := [.t 14], g := some (88, false) },
  { dst := some 91, k := (.bin .add), xs := [.t 89, .t 90], g := some (88, false) },
  { dst := some 92, k := .mv, xs := [.t 8], g := some (88, false) },
  { dst := some 93, k := .lenL, xs := [.t 92], g := some (88, false) },
  { dst := some 94, k := (.bin .gtr), xs := [.t 91, .t 93], g := some (88, false) },
  { dst := some 95, k := .pick, xs := [.t 88, .c (.d (.bool true)), .t 94] },
  { dst := some 96, k := .mv, xs := [.t 95] },
  { dst := some 97, k := .mv, xs := [.t 12], g := some (96, false) },
  { dst := some 98, k := .mv, xs := [.t 13], g := some (96, false) },
  { dst := some 99, k := (.iaddrS 4), xs := [.t 97, .t 98], g := some (96, false) },
  { dst := some 100, k := (.faddr 2), xs := [.t 99], g := some (96, false) },
  { dst := some 101, k := (.load none), xs := [.t 100], g := some (96, false) },
  { dst := some 102, k := .bytesStr, xs := [.t 101], g := some (96, false) },
  { dst := some 103, k := .mv, xs := [.t 8], g := some (96, false) },
  { dst := some 104, k := .mv, xs := [.t 11], g := some (96, false) },
  { dst := some 105, k := .mv, xs := [.t 11], g := some (96, false) },
  { dst := some 106, k := .mv, xs := [.t 14], g := some (96, false) },
  { dst := some 107, k := (.bin .add), xs := [.t 105, .t 106], g := some (96, false) },
  { dst := some 108, k := (.subsl 1 true true false), xs := [.t 103, .t 104, .t 107], g := some (96, false) },
  { dst := some 109, k := .bytesStr, xs := [.t 108], g := some (96, false) },
  { dst := some 110, k := (.bin .neq), xs := [.t 102, .t 109], g := some (96, false) },
  { dst := some 111, k := .pick, xs := [.t 96, .c (.d (.bool true)), .t 110] },
  { dst := some 112, k := .mv, xs := [.t 111] },
  { dst := some 113, k := .mv, xs := [.t 13], g := some (112, false) },
  { dst := some 114, k := .mv, xs := [.t 12], g := some (112, false) },
  { dst := some 115, k := .lenL, xs := [.t 114], g := some (112, false) },
  { dst := some 116, k := (.bin .sub), xs := [.t 115, .c (.d (.int .i64 1))], g := some (112, false) },
  { dst := some 117, k := (.bin .lss), xs := [.t 113, .t 116], g := some (112, false) },
  { dst := some 118, k := .mv, xs := [.t 117], g := some (112, false) },
  { dst := some 119, k := .mv, xs := [.t 14], g := some (118, true) },
  { dst := some 120, k := (.bin .neq), xs := [.t 119, .c (.d (.int .i64 1024))], g := some (118, true) },
  { dst := some 121, k := .pick, xs := [.t 118, .t 120, .c (.d (.bool false))], g := some (112, false) },
  { dst := some 122, k := .pick, xs := [.t 112, .c (.d (.bool true)), .t 121] }]
def F10o55 : List Ao := [
  { dst := some 6, k := .mv, xs := [.c (.d (.bool false))] }]
def F10c56 : Ac := .ret
def F10c53 : Ac := (.cond (.t 122) (.seq (.ops F10o55) F10c56) .skip)
def F10o58 : List Ao := [
  { dst := some 123, k := .mv, xs := [.t 11] },
  { dst := some 124, k := .mv, xs := [.t 14] },
  { dst := some 125, k := (.bin .add), xs := [.t 123, .t 124] },
  { dst := some 11, k := .mv, xs := [.t 125] }]
def F10c58 : Ac := (.ops F10o58)
def F10c50 : Ac := (.seq (.seq (.ops F10o52) F10c53) F10c58)
def F10o59 : List Ao := [
  { dst := some 51, k := .mv, xs := [.t 13] },
  { dst := some 52, k := (.bin .add), xs := [.t 51, .c (.d (.int .i64 1))] },
  { dst := some 13, k := .mv, xs := [.t 52] }]
def F10c59 : Ac := (.ops F10o59)
def F10c46 : Ac := (.seq (.block 3 (.seq (.ops F10o49) F10c50)) F10c59)
def F10l39 : Ac := (.seq (.seq (.ops F10o42) F10c43) F10c46)
def F10c38 : Ac := (.block 2 (.loop (.seq (.gh [.frz 8]) (.seq (.keep [1, 7, 8, 11, 12, 13] []) F10l39))))
def F10o61 : List Ao := [
  { dst := some 126, k := (.callf 42), xs := [] },
  { dst := some 127, k := .mv, xs := [.t 126] },
  { dst := some 128, k := .mv, xs := [.t 11], g := some (127, true) },
  { dst := some 129, k := .mv, xs := [.t 8], g := some (127, true) },
  { dst := some 130, k := .lenL, xs := [.t 129], g := some (127, true) },
  { dst := some 131, k := (.bin .eql), xs := [.t 128, .t 130], g := some (127, true) },
  { dst := some 132, k := .pick, xs := [.t 127, .t 131, .c (.d (.bool false))] },
  { dst := some 6, k := .mv, xs := [.t 132] }]
def F10c62 : Ac := .ret
def F10b60 : Ac := (.seq (.ops F10o61) F10c62)
def F10c60 : Ac := (.seq (.gh []) (.seq (.keep [8, 11] []) F10b60))
def F10c35 : Ac := (.seq (.seq (.ops F10o37) F10c38) F10c60)
def F10c33 : Ac := (.seq (.ops F10o34) F10c35)
def F10c31 : Ac := (.seq (.ops F10o32) F10c33)
def F10b29 : Ac := (.seq (.ops F10o30) F10c31)
def F10c29 : Ac := (.seq (.gh []) (.seq (.keep [1, 7, 8] [[18]]) F10b29))
def F10c6 : Ac := (.seq (.seq (.ops F10o8) F10c9) F10c29)
def F10c4 : Ac := (.seq (.ops F10o5) F10c6)
def F10c2 : Ac := (.seq (.ops F10o3) F10c4)
def F10c0 : Ac := (.seq (.ops F10o1) F10c2)
/-- hansom/hansomlaw23.DataCut -/
def F10 : Fn := { np := 3, pb := [], rs := [.t 6], body := F10c0 }
def F16o1 : List Ao := [
  { dst := some 2, k := .mv, xs := [.c (.nils)] }]
def F16o5 : List Ao := [
  { dst := some 4, k := .mv, xs := [.t 0] },
  { dst := some 5, k := (.bin .lss), xs := [.t 4, .c (.d (.int .i64 0))] },
  { dst := some 6, k := .mv, xs := [.t 5] },
  { dst := some 7, k := .mv, xs := [.t 0], g := some (6, false) },
  { dst := some 8, k := (.bin .gtr), xs := [.t 7, .c (.d (.int .i64 32767))], g := some (6, false) },
  { dst := some 9, k := .pick, xs := [.t 6, .c (.d (.bool true)), .t 8] },
  { dst := some 3, k := .mv, xs := [.t 9] }]
def F16o8 : List Ao := [
  { dst := some 10, k := (.bslice (.int .u8 0) 1 [0]), xs := [.c (.d (.int .u8 0))] },
  { dst := some 2, k := .mv, xs := [.t 10] }]
def F16c9 : Ac := .ret
def F16o11 : List Ao := [
  { dst := some 12, k := .mv, xs := [.t 0] },
  { dst := some 13, k := (.bin .lss), xs := [.t 12, .c (.d (.int .i64 128))] },
  { dst := some 11, k := .mv, xs := [.t 13] }]
def F16o14 : List Ao := [
  { dst := some 14, k := .mv, xs := [.t 0] },
  { dst := some 15, k := (.toInt .u8), xs := [.t 14] },
  { dst := some 16, k := (.bslice (.int .u8 0) 1 [0]), xs := [.t 15] },
  { dst := some 2, k := .mv, xs := [.t 16] }]
def F16c15 : Ac := .ret
def F16c12 : Ac := (.cond (.t 11) (.seq (.ops F16o14) F16c15) .skip)
def F16c6 : Ac := (.cond (.t 3) (.seq (.ops F16o8) F16c9) (.seq (.ops F16o11) F16c12))
def F16o18 : List Ao := [
  { dst := some 17, k := .mv, xs := [.t 0] },
  { dst := some 18, k := (.bin .shr), xs := [.t 17, .c (.d (.int .u64 8))] },
  { dst := some 19, k := (.toInt .u8), xs := [.t 18] },
  { dst := some 20, k := (.bin .or), xs := [.t 19, .c (.d (.int .u8 128))] },
  { dst := some 21, k := .mv, xs := [.t 0] },
  { dst := some 22, k := (.toInt .u8), xs := [.t 21] },
  { dst := some 23, k := (.bslice (.int .u8 0) 2 [0, 1]), xs := [.t 20, .t 22] },
  { dst := some 2, k := .mv, xs := [.t 23] }]
def F16c19 : Ac := .ret
def F16c17 : Ac := (.seq (.ops F16o18) F16c19)
def F16c2 : Ac := (.seq (.block 0 (.seq (.ops F16o5) F16c6)) F16c17)
def F16c0 : Ac := (.seq (.ops F16o1) F16c2)
/-- hansom/index.Put -/
def F16 : Fn := { np := 1, pb := [], rs := [.t 2], body := F16c0 }
def F17o1 : List Ao := [
  { dst := some 2, k := .mv, xs := [.c (.d (.str []))] }]
def F17o4 : List Ao := [
  { dst := some 3, k := .mv, xs := [.t 0] },
  { dst := some 4, k := (.bin .lss), xs := [.t 3, .c (.d (.int .i64 0))] },
  { dst := some 5, k := .mv, xs := [.t 4] },
  { dst := some 6, k := .mv, xs := [.t 0], g := some (5, false) },
  { dst := some 7, k := (.bin .gtr), xs := [.t 6, .c (.d (.int .i64 32767))], g := some (5, false) },
  { dst := some 8, k := .pick, xs := [.t 5, .c (.d (.bool true)), .t 7] }]
def F17o6 : List Ao := [
  { dst := some 0, k := .mv, xs := [.c (.d (.int .i64 0))] }]
def F17c5 : Ac := (.cond (.t 8) (.ops F17o6) .skip)
def F17o10 : List Ao := [
  { dst := some 9, k := .mv, xs := [.t 0] },
  { dst := some 10, k := (.bin .lss), xs := [.t 9, .c (.d (.int .i64 128))] }]
def F17o13 : List Ao := [
  { dst := some 11, k := .mv, xs := [.t 0] },
  { dst := some 12, k := (.toInt .u8), xs := [.t 11] },
  { dst := some 13, k := (.bslice (.int .u8 0) 1 [0]), xs := [.t 12] },
  { dst := some 14, k := .bytesStr, xs := [.t 13] },
  { dst := some 2, k := .mv, xs := [.t 14] }]
def F17c14 : Ac := .ret
def F17c11 : Ac := (.cond (.t 10) (.seq (.ops F17o13) F17c14) .skip)
def F17o17 : List Ao := [
  { dst := some 15, k := .mv, xs := [.t 0] },
  { dst := some 16, k := (.bin .quo), xs := [.t 15, .c (.d (.int .i64 256))] },
  { dst := some 17, k := (.bin .add), xs := [.t 16, .c (.d (.int .i64 128))] },
  { dst := some 18, k := (.toInt .u8), xs := [.t 17] },
  { dst := some 19, k := .mv, xs := [.t 0] },
  { dst := some 20, k := (.bin .rem), xs := [.t 19, .c (.d (.int .i64 256))] },
  { dst := some 21, k := (.toInt .u8), xs := [.t 20] },
  { dst := some 22, k := (.bslice (.int .u8 0) 2 [0, 1]), xs := [.t 18, .t 21] },
  { dst := some 23, k := .bytesStr, xs := [.t 22] },
  { dst := some 2, k := .mv, xs := [.t 23] }]
def F17c18 : Ac := .ret
def F17c16 : Ac := (.seq (.ops F17o17) F17c18)
def F17b8 : Ac := (.seq (.seq (.ops F17o10) F17c11) F17c16)
def F17c8 : Ac := (.seq (.gh []) (.seq (.keep [0] []) F17b8))
def F17c2 : Ac := (.seq (.seq (.ops F17o4) F17c5) F17c8)
def F17c0 : Ac := (.seq (.ops F17o1) F17c2)
/-- hansom/hansomref18.Index -/
def F17 : Fn := { np := 1, pb := [], rs := [.t 2], body := F17c0 }
def F20o1 : List Ao := [
  { dst := some 2, k := .mv, xs := [.c (.nils)] }]
def F20o3 : List Ao := [
  { dst := some 3, k := .mv, xs := [.t 0] },
  { dst := some 4, k := (.callf 67), xs := [.t 3] },
  { dst := some 5, k := .mv, xs := [.t 0] },
  { dst := some 6, k := (.callf 68), xs := [.t 5] },
  { dst := some 7, k := (.bslice (.int .u8 0) 2 [0, 1]), xs := [.t 4, .t 6] },
  { dst := some 2, k := .mv, xs := [.t 7] }]
def F20c4 : Ac := (.seq (.gh [.frz 2]) .ret)
def F20c2 : Ac := (.seq (.ops F20o3) F20c4)
def F20c0 : Ac := (.seq (.ops F20o1) F20c2)
/-- hansom/index.Two -/
def F20 : Fn := { np := 1, pb := [], rs := [.t 2], body := F20c0 }
def F21o1 : List Ao := [
  { dst := some 4, k := .mv, xs := [.c (.d (.str []))] }]
def F21o3 : List Ao := [
  { dst := some 5, k := .mv, xs := [.c (.d (.str []))] }]
def F21o6 : List Ao := [
  { dst := some 6, k := .mv, xs := [.c (.d (.int .i64 0))] }]
def F21o11 : List Ao := [
  { dst := some 7, k := .mv, xs := [.t 6] },
  { dst := some 8, k := .mv, xs := [.t 1] },
  { dst := some 9, k := (.bin .lss), xs := [.t 7, .t 8] }]
def F21c12 : Ac := (.cond (.t 9) .skip (.exit 0))
def F21o18 : List Ao := [
  { dst := some 12, k := .mv, xs := [.t 5] },
  { dst := some 13, k := .mv, xs := [.t 0] },
  { dst := some 14, k := (.bin .rem), xs := [.t 13, .c (.d (.int .u64 256))] },
  { dst := some 15, k := (.toInt .u8), xs := [.t 14] },
  { dst := some 16, k := (.bslice (.int .u8 0) 1 [0]), xs := [.t 15] },
  { dst := some 17, k := .bytesStr, xs := [.t 16] },
  { dst := some 18, k := (.bin .add), xs := [.t 12, .t 17] },
  { dst := some 5, k := .mv, xs := [.t 18] }]
def F21o19 : List Ao := [
  { dst := some 19, k := .mv, xs := [.t 0] },
  { dst := some 20, k := (.bin .quo), xs := [.t 19, .c (.d (.int .u64 256))] },
  { dst := some 0, k := .mv, xs := [.t 20] }]
def F21c19 : Ac := (.ops F21o19)
def F21o20 : List Ao := [
  { dst := some 10, k := .mv, xs := [.t 6] },
  { dst := some 11, k := (.bin .add), xs := [.t 10, .c (.d (.int .i64 1))] },
  { dst := some 6, k := .mv, xs := [.t 11] }]
def F21c20 : Ac := (.ops F21o20)
def F21c15 : Ac := (.seq (.block 1 (.seq (.ops F21o18) F21c19)) F21c20)
def F21l8 : Ac := (.seq (.seq (.ops F21o11) F21c12) F21c15)
def F21c7 : Ac := (.block 0 (.loop (.seq (.gh []) (.seq (.keep [0, 1, 5, 6] []) F21l8))))
def F21o22 : List Ao := [
  { dst := some 21, k := .mv, xs := [.t 5] },
  { dst := some 4, k := .mv, xs := [.t 21] }]
def F21c23 : Ac := .ret
def F21b21 : Ac := (.seq (.ops F21o22) F21c23)
def F21c21 : Ac := (.seq (.gh []) (.seq (.keep [5] []) F21b21))
def F21c4 : Ac := (.seq (.seq (.ops F21o6) F21c7) F21c21)
def F21c2 : Ac := (.seq (.ops F21o3) F21c4)
def F21c0 : Ac := (.seq (.ops F21o1) F21c2)
/-- hansom/hansomref18.Bytes -/
def F21 : Fn := { np := 2, pb := [], rs := [.t 4], body := F21c0 }
def F25o1 : List Ao := [
  { dst := some 2, k := .mv, xs := [.c (.nilp)] }]
def F25o3 : List Ao := [
  { dst := some 3, k := .mv, xs := [.t 0] },
  { dst := some 4, k := (.append 1 1 false), xs := [.c (.nils), .t 3] },
  { dst := some 5, k := (.build [.nils, .d (.int .i64 0)] [(0, 1)]), xs := [.t 4] },
  { dst := some 6, k := (.box 2), xs := [.t 5] },
  { dst := some 2, k := .mv, xs := [.t 6] }]
def F25c4 : Ac := (.seq (.gh [.frzB [6] 0]) .ret)
def F25c2 : Ac := (.seq (.ops F25o3) F25c4)
def F25c0 : Ac := (.seq (.ops F25o1) F25c2)
/-- hansom/index.From -/
def F25 : Fn := { np := 1, pb := [], rs := [.t 2], body := F25c0 }
def F26o1 : List Ao := [
  { dst := some 4, k := .mv, xs := [.c (.nils)] }]
def F26o4 : List Ao := [
  { dst := some 6, k := .mv, xs := [.t 0] },
  { dst := some 7, k := (.eqp false), xs := [.t 6, .c (.nilp)] }]
def F26o7 : List Ao := [
  { dst := some 4, k := .mv, xs := [.c (.nils)] }]
def F26c8 : Ac := .ret
def F26c5 : Ac := (.cond (.t 7) (.seq (.ops F26o7) F26c8) .skip)
def F26o12 : List Ao := [
  { dst := some 8, k := .mv, xs := [.t 1] },
  { dst := some 9, k := (.bin .lss), xs := [.t 8, .c (.d (.int .i64 0))] },
  { dst := some 10, k := .mv, xs := [.t 9] },
  { dst := some 11, k := .mv, xs := [.t 1], g := some (10, false) },
  { dst := some 12, k := .mv, xs := [.t 0], g := some (10, false) },
  { dst := some 13, k := .nilchk, xs := [.t 12], g := some (10, false) },
  { dst := some 14, k := (.faddr 0), xs := [.t 13], g := some (10, false) },
  { dst := some 15, k := (.load none), xs := [.t 14], g := some (10, false) },
  { dst := some 16, k := .lenL, xs := [.t 15], g := some (10, false) },
  { dst := some 17, k := (.bin .gtr), xs := [.t 11, .t 16], g := some (10, false) },
  { dst := some 18, k := .pick, xs := [.t 10, .c (.d (.bool true)), .t 17] }]
def F26o15 : List Ao := [
  { dst := some 19, k := .mv, xs := [.t 0] },
  { dst := some 20, k := (.callf 27), xs := [.t 19, .c (.d (.int .i64 2))] }]
def F26o17 : List Ao := [
  { dst := some 4, k := .mv, xs := [.c (.nils)] }]
def F26c18 : Ac := (.seq (.gh [.frz 4]) .ret)
def F26c16 : Ac := (.seq (.ops F26o17) F26c18)
def F26c13 : Ac := (.cond (.t 18) (.seq (.ops F26o15) F26c16) .skip)
def F26o21 : List Ao := [
  { dst := some 21, k := .mv, xs := [.t 0] },
  { dst := some 22, k := .nilchk, xs := [.t 21] },
  { dst := some 23, k := (.faddr 0), xs := [.t 22] },
  { dst := some 24, k := (.load none), xs := [.t 23] },
  { dst := some 25, k := .mv, xs := [.t 1] },
  { dst := some 26, k := .mv, xs := [.t 1] },
  { dst := some 27, k := (.subsl 1 false true true), xs := [.t 24, .t 25, .t 26] },
  { dst := some 5, k := .mv, xs := [.t 27] }]
def F26o23 : List Ao := [
  { dst := some 28, k := .mv, xs := [.t 0] },
  { dst := some 29, k := .mv, xs := [.t 0] },
  { dst := some 30, k := .nilchk, xs := [.t 29] },
  { dst := some 31, k := (.faddr 0), xs := [.t 30] },
  { dst := some 32, k := (.load none), xs := [.t 31] },
  { dst := some 33, k := .mv, xs := [.t 1] },
  { dst := some 34, k := (.subsl 1 true false false), xs := [.t 32, .t 33] },
  { dst := some 35, k := .nilchk, xs := [.t 28] },
  { dst := some 36, k := (.faddr 0), xs := [.t 35] },
  { dst := none, k := (.store 1), xs := [.t 36, .t 34] }]
def F26o25 : List Ao := [
  { dst := some 37, k := .mv, xs := [.t 5] },
  { dst := some 4, k := .mv, xs := [.t 37] }]
def F26c26 : Ac := .ret
def F26c24 : Ac := (.seq (.ops F26o25) F26c26)
def F26c22 : Ac := (.seq (.ops F26o23) F26c24)
def F26c20 : Ac := (.seq (.ops F26o21) F26c22)
def F26c10 : Ac := (.seq (.seq (.ops F26o12) F26c13) F26c20)
def F26c2 : Ac := (.seq (.seq (.ops F26o4) F26c5) F26c10)
def F26c0 : Ac := (.seq (.ops F26o1) F26c2)
/-- (*hansom/index.Source).Take -/
def F26 : Fn := { np := 2, pb := [[0]], rs := [.t 4], body := F26c0 }
def F27o1 : List Ao := [
  { dst := some 4, k := .mv, xs := [.t 0] },
  { dst := some 5, k := (.eqp true), xs := [.t 4, .c (.nilp)] },
  { dst := some 6, k := .mv, xs := [.t 5] },
  { dst := some 7, k := .mv, xs := [.t 0], g := some (6, true) },
  { dst := some 8, k := .nilchk, xs := [.t 7], g := some (6, true) },
  { dst := some 9, k := (.faddr 1), xs := [.t 8], g := some (6, true) },
  { dst := some 10, k := (.load none), xs := [.t 9], g := some (6, true) },
  { dst := some 11, k := (.bin .eql), xs := [.t 10, .c (.d (.int .i64 0))], g := some (6, true) },
  { dst := some 12, k := .pick, xs := [.t 6, .t 11, .c (.d (.bool false))] },
  { dst := some 13, k := .mv, xs := [.t 12] },
  { dst := some 14, k := .mv, xs := [.t 1], g := some (13, true) },
  { dst := some 15, k := (.bin .neq), xs := [.t 14, .c (.d (.int .i64 0))], g := some (13, true) },
  { dst := some 16, k := .pick, xs := [.t 13, .t 15, .c (.d (.bool false))] }]
def F27o3 : List Ao := [
  { dst := some 17, k := .mv, xs := [.t 0] },
  { dst := some 18, k := .mv, xs := [.t 0] },
  { dst := some 19, k := .mv, xs := [.t 1] },
  { dst := some 20, k := .nilchk, xs := [.t 17] },
  { dst := some 21, k := (.faddr 1), xs := [.t 20] },
  { dst := none, k := (.store 1), xs := [.t 21, .t 19] },
  { dst := some 22, k := .nilchk, xs := [.t 18] },
  { dst := some 23, k := (.faddr 0), xs := [.t 22] },
  { dst := none, k := (.store 1), xs := [.t 23, .c (.nils)] }]
def F27c2 : Ac := (.cond (.t 16) (.ops F27o3) .skip)
def F27c0 : Ac := (.seq (.ops F27o1) F27c2)
/-- (*hansom/index.Source).Wrong -/
def F27 : Fn := { np := 2, pb := [[0]], rs := [], body := (.seq F27c0 (.gh [.frzB [0] 0])) }
def F28o1 : List Ao := [
  { dst := some 2, k := .mv, xs := [.c (.d (.int .i64 0))] }]
def F28o4 : List Ao := [
  { dst := some 3, k := .mv, xs := [.t 0] },
  { dst := some 4, k := (.eqp false), xs := [.t 3, .c (.nilp)] }]
def F28o7 : List Ao := [
  { dst := some 2, k := .mv, xs := [.c (.d (.int .i64 1))] }]
def F28c8 : Ac := .ret
def F28c5 : Ac := (.cond (.t 4) (.seq (.ops F28o7) F28c8) .skip)
def F28o11 : List Ao := [
  { dst := some 5, k := .mv, xs := [.t 0] },
  { dst := some 6, k := .nilchk, xs := [.t 5] },
  { dst := some 7, k := (.faddr 1), xs := [.t 6] },
  { dst := some 8, k := (.load none), xs := [.t 7] },
  { dst := some 2, k := .mv, xs := [.t 8] }]
def F28c12 : Ac := .ret
def F28c10 : Ac := (.seq (.ops F28o11) F28c12)
def F28c2 : Ac := (.seq (.seq (.ops F28o4) F28c5) F28c10)
def F28c0 : Ac := (.seq (.ops F28o1) F28c2)
/-- (*hansom/index.Source).Err -/
def F28 : Fn := { np := 1, pb := [[0]], rs := [.t 2], body := F28c0 }
def F29o1 : List Ao := [
  { dst := some 2, k := .mv, xs := [.c (.d (.int .i64 0))] }]
def F29o4 : List Ao := [
  { dst := some 3, k := .mv, xs := [.t 0] },
  { dst := some 4, k := (.eqp false), xs := [.t 3, .c (.nilp)] }]
def F29o7 : List Ao := [
  { dst := some 2, k := .mv, xs := [.c (.d (.int .i64 0))] }]
def F29c8 : Ac := .ret
def F29c5 : Ac := (.cond (.t 4) (.seq (.ops F29o7) F29c8) .skip)
def F29o11 : List Ao := [
  { dst := some 5, k := .mv, xs := [.t 0] },
  { dst := some 6, k := .nilchk, xs := [.t 5] },
  { dst := some 7, k := (.faddr 0), xs := [.t 6] },
  { dst := some 8, k := (.load none), xs := [.t 7] },
  { dst := some 9, k := .lenL, xs := [.t 8] },
  { dst := some 2, k := .mv, xs := [.t 9] }]
def F29c12 : Ac := .ret
def F29c10 : Ac := (.seq (.ops F29o11) F29c12)
def F29c2 : Ac := (.seq (.seq (.ops F29o4) F29c5) F29c10)
def F29c0 : Ac := (.seq (.ops F29o1) F29c2)
/-- (*hansom/index.Source).Left -/
def F29 : Fn := { np := 1, pb := [[0]], rs := [.t 2], body := F29c0 }
def F30o1 : List Ao := [
  { dst := some 2, k := .mv, xs := [.c (.d (.int .u16 0))] }]
def F30o4 : List Ao := [
  { dst := some 4, k := .mv, xs := [.t 0] },
  { dst := some 5, k := (.callf 26), xs := [.t 4, .c (.d (.int .i64 2))] },
  { dst := some 3, k := .mv, xs := [.t 5] }]
def F30o6 : List Ao := [
  { dst := some 6, k := .mv, xs := [.t 3] },
  { dst := some 7, k := .lenL, xs := [.t 6] },
  { dst := some 8, k := (.bin .eql), xs := [.t 7, .c (.d (.int .i64 2))] }]
def F30o9 : List Ao := [
  { dst := some 9, k := .mv, xs := [.t 3] },
  { dst := some 10, k := (.iaddrS 1), xs := [.t 9, .c (.d (.int .i64 0))] },
  { dst := some 11, k := (.load none), xs := [.t 10] },
  { dst := some 12, k := .mv, xs := [.t 3] },
  { dst := some 13, k := (.iaddrS 1), xs := [.t 12, .c (.d (.int .i64 1))] },
  { dst := some 14, k := (.load none), xs := [.t 13] },
  { dst := some 15, k := (.callf 69), xs := [.t 11, .t 14] },
  { dst := some 2, k := .mv, xs := [.t 15] }]
def F30c10 : Ac := .ret
def F30c7 : Ac := (.cond (.t 8) (.seq (.ops F30o9) F30c10) .skip)
def F30c5 : Ac := (.seq (.ops F30o6) F30c7)
def F30o13 : List Ao := [
  { dst := some 2, k := .mv, xs := [.c (.d (.int .u16 0))] }]
def F30c14 : Ac := .ret
def F30c12 : Ac := (.seq (.ops F30o13) F30c14)
def F30c2 : Ac := (.seq (.seq (.ops F30o4) F30c5) F30c12)
def F30c0 : Ac := (.seq (.ops F30o1) F30c2)
/-- (*hansom/index.Source).Word -/
def F30 : Fn := { np := 1, pb := [[0]], rs := [.t 2], body := F30c0 }
def F31o1 : List Ao := [
  { dst := some 2, k := .mv, xs := [.c (.d (.int .i64 0))] }]
def F31o3 : List Ao := [
  { dst := some 5, k := .mv, xs := [.t 0] },
  { dst := some 6, k := (.callf 35), xs := [.t 5] },
  { dst := some 7, k := (.toInt .i64), xs := [.t 6] },
  { dst := some 3, k := .mv, xs := [.t 7] }]
def F31o6 : List Ao := [
  { dst := some 8, k := .mv, xs := [.t 3] },
  { dst := some 9, k := (.bin .lss), xs := [.t 8, .c (.d (.int .i64 128))] }]
def F31o9 : List Ao := [
  { dst := some 10, k := .mv, xs := [.t 3] },
  { dst := some 2, k := .mv, xs := [.t 10] }]
def F31c10 : Ac := .ret
def F31c7 : Ac := (.cond (.t 9) (.seq (.ops F31o9) F31c10) .skip)
def F31o13 : List Ao := [
  { dst := some 11, k := .mv, xs := [.t 3] },
  { dst := some 12, k := (.bin .and), xs := [.t 11, .c (.d (.int .i64 127))] },
  { dst := some 13, k := (.bin .shl), xs := [.t 12, .c (.d (.int .u64 8))] },
  { dst := some 14, k := .mv, xs := [.t 0] },
  { dst := some 15, k := (.callf 35), xs := [.t 14] },
  { dst := some 16, k := (.toInt .i64), xs := [.t 15] },
  { dst := some 17, k := (.bin .or), xs := [.t 13, .t 16] },
  { dst := some 4, k := .mv, xs := [.t 17] }]
def F31o16 : List Ao := [
  { dst := some 18, k := .mv, xs := [.t 0] },
  { dst := some 19, k := (.callf 28), xs := [.t 18] },
  { dst := some 20, k := (.bin .neq), xs := [.t 19, .c (.d (.int .i64 0))] }]
def F31o19 : List Ao := [
  { dst := some 2, k := .mv, xs := [.c (.d (.int .i64 0))] }]
def F31c20 : Ac := .ret
def F31c17 : Ac := (.cond (.t 20) (.seq (.ops F31o19) F31c20) .skip)
def F31o23 : List Ao := [
  { dst := some 21, k := .mv, xs := [.t 4] },
  { dst := some 2, k := .mv, xs := [.t 21] }]
def F31c24 : Ac := .ret
def F31c22 : Ac := (.seq (.ops F31o23) F31c24)
def F31c14 : Ac := (.seq (.seq (.ops F31o16) F31c17) F31c22)
def F31c12 : Ac := (.seq (.ops F31o13) F31c14)
def F31c4 : Ac := (.seq (.seq (.ops F31o6) F31c7) F31c12)
def F31c2 : Ac := (.seq (.ops F31o3) F31c4)
def F31c0 : Ac := (.seq (.ops F31o1) F31c2)
/-- (*hansom/index.Source).Index -/
def F31 : Fn := { np := 1, pb := [[0]], rs := [.t 2], body := F31c0 }
def F34o1 : List Ao := [
  { dst := some 2, k := .mv, xs := [.c (.d (.int .i64 0))] }]
def F34o4 : List Ao := [
  { dst := some 3, k := .mv, xs := [.t 0] },
  { dst := some 4, k := (.callf 29), xs := [.t 3] },
  { dst := some 5, k := (.bin .gtr), xs := [.t 4, .c (.d (.int .i64 0))] }]
def F34o6 : List Ao := [
  { dst := some 6, k := .mv, xs := [.t 0] },
  { dst := some 7, k := (.callf 27), xs := [.t 6, .c (.d (.int .i64 3))] }]
def F34c5 : Ac := (.cond (.t 5) (.ops F34o6) .skip)
def F34o9 : List Ao := [
  { dst := some 8, k := .mv, xs := [.t 0] },
  { dst := some 9, k := (.callf 28), xs := [.t 8] },
  { dst := some 2, k := .mv, xs := [.t 9] }]
def F34c10 : Ac := .ret
def F34c8 : Ac := (.seq (.ops F34o9) F34c10)
def F34c2 : Ac := (.seq (.seq (.ops F34o4) F34c5) F34c8)
def F34c0 : Ac := (.seq (.ops F34o1) F34c2)
/-- (*hansom/index.Source).End -/
def F34 : Fn := { np := 1, pb := [[0]], rs := [.t 2], body := F34c0 }
def F35o1 : List Ao := [
  { dst := some 2, k := .mv, xs := [.c (.d (.int .u8 0))] }]
def F35o4 : List Ao := [
  { dst := some 4, k := .mv, xs := [.t 0] },
  { dst := some 5, k := (.callf 26), xs := [.t 4, .c (.d (.int .i64 1))] },
  { dst := some 3, k := .mv, xs := [.t 5] }]
def F35o6 : List Ao := [
  { dst := some 6, k := .mv, xs := [.t 3] },
  { dst := some 7, k := .lenL, xs := [.t 6] },
  { dst := some 8, k := (.bin .eql), xs := [.t 7, .c (.d (.int .i64 1))] }]
def F35o9 : List Ao := [
  { dst := some 9, k := .mv, xs := [.t 3] },
  { dst := some 10, k := (.iaddrS 1), xs := [.t 9, .c (.d (.int .i64 0))] },
  { dst := some 11, k := (.load none), xs := [.t 10] },
  { dst := some 2, k := .mv, xs := [.t 11] }]
def F35c10 : Ac := .ret
def F35c7 : Ac := (.cond (.t 8) (.seq (.ops F35o9) F35c10) .skip)
def F35c5 : Ac := (.seq (.ops F35o6) F35c7)
def F35o13 : List Ao := [
  { dst := some 2, k := .mv, xs := [.c (.d (.int .u8 0))] }]
def F35c14 : Ac := .ret
def F35c12 : Ac := (.seq (.ops F35o13) F35c14)
def F35c2 : Ac := (.seq (.seq (.ops F35o4) F35c5) F35c12)
def F35c0 : Ac := (.seq (.ops F35o1) F35c2)
/-- (*hansom/index.Source).Byte -/
def F35 : Fn := { np := 1, pb := [[0]], rs := [.t 2], body := F35c0 }
def F41o1 : List Ao := [
  { dst := some 1, k := (.box 4), xs := [.t 0] },
  { dst := some 2, k := (.alloc [.d (.int .u8 0), .nils]), xs := [] },
  { dst := some 3, k := .mv, xs := [.c (.d (.bool false))] }]
def F41o4 : List Ao := [
  { dst := some 5, k := (.load (some 4)), xs := [.t 1] },
  { dst := some 6, k := (.callf 43), xs := [.t 5] },
  { dst := some 7, k := (.un .not), xs := [.t 6] }]
def F41o7 : List Ao := [
  { dst := some 8, k := (.build [.d (.int .u8 0), .nils] []), xs := [] },
  { dst := none, k := (.store 2), xs := [.t 2, .t 8] },
  { dst := some 3, k := .mv, xs := [.c (.d (.bool false))] }]
def F41c8 : Ac := (.seq (.gh [.frzB [2] 1]) .ret)
def F41c5 : Ac := (.cond (.t 7) (.seq (.ops F41o7) F41c8) .skip)
def F41o11 : List Ao := [
  { dst := some 9, k := (.faddr 0), xs := [.t 1] },
  { dst := some 10, k := (.load none), xs := [.t 9] },
  { dst := some 11, k := (.callf 16), xs := [.t 10], al := some [] },
  { dst := some 12, k := (.faddr 1), xs := [.t 1] },
  { dst := some 13, k := (.load none), xs := [.t 12], av := [[11]] },
  { dst := some 14, k := (.callf 20), xs := [.t 13] },
  { dst := some 15, k := (.append 1 1 false), xs := [.t 11, .t 14] },
  { dst := some 4, k := .mv, xs := [.t 15] }]
def F41o13 : List Ao := [
  { dst := some 16, k := .mv, xs := [.t 4] },
  { dst := some 17, k := (.faddr 2), xs := [.t 1] },
  { dst := some 18, k := (.load none), xs := [.t 17] },
  { dst := some 19, k := (.append 1 1 false), xs := [.t 16, .t 18] },
  { dst := some 20, k := (.build [.d (.int .u8 0), .nils] [(0, 1), (1, 1)]), xs := [.c (.d (.int .u8 160)), .t 19] },
  { dst := none, k := (.store 2), xs := [.t 2, .t 20] },
  { dst := some 3, k := .mv, xs := [.c (.d (.bool true))] }]
def F41c14 : Ac := (.seq (.gh [.frzB [2] 1]) .ret)
def F41c12 : Ac := (.seq (.ops F41o13) F41c14)
def F41c10 : Ac := (.seq (.ops F41o11) F41c12)
def F41c2 : Ac := (.seq (.seq (.ops F41o4) F41c5) F41c10)
def F41c0 : Ac := (.seq (.ops F41o1) F41c2)
/-- hansom/data.Put -/
def F41 : Fn := { np := 1, pb := [], rs := [.c 2 (some 2), .t 3], body := F41c0 }
def F42o1 : List Ao := [
  { dst := some 0, k := .mv, xs := [.c (.d (.bool false))] }]
def F42o3 : List Ao := [
  { dst := some 6, k := (.bslice (.int .u8 0) 1 [0]), xs := [.c (.d (.int .u8 7))] },
  { dst := some 7, k := (.build [.d (.int .i64 0), .d (.int .u16 0), .nils, .nils] [(0, 1), (1, 1), (2, 1)]), xs := [.c (.d (.int .i64 1)), .c (.d (.int .u16 5)), .t 6] },
  { dst := some 8, k := (.callf 41), xs := [.t 7] },
  { dst := some 5, k := .mv, xs := [.t 8] },
  { dst := some 9, k := (.extract 0), xs := [.t 5] },
  { dst := some 10, k := (.extract 1), xs := [.t 5] },
  { dst := some 1, k := (.alloc [.d (.int .u8 0), .nils]), xs := [] },
  { dst := none, k := (.store 2), xs := [.t 1, .t 9] },
  { dst := some 2, k := .mv, xs := [.t 10] }]
def F42o5 : List Ao := [
  { dst := some 12, k := (.faddr 1), xs := [.t 1] },
  { dst := some 13, k := (.load none), xs := [.t 12] },
  { dst := some 14, k := (.callf 44), xs := [.t 13] },
  { dst := some 11, k := .mv, xs := [.t 14] },
  { dst := some 15, k := (.extract 0), xs := [.t 11] },
  { dst := some 16, k := (.extract 1), xs := [.t 11] },
  { dst := some 3, k := (.alloc [.d (.int .i64 0), .d (.int .u16 0), .nils, .nils]), xs := [] },
  { dst := none, k := (.store 4), xs := [.t 3, .t 15] },
  { dst := some 4, k := .mv, xs := [.t 16] }]
def F42o7 : List Ao := [
  { dst := some 17, k := .mv, xs := [.t 2] },
  { dst := some 18, k := .mv, xs := [.t 17] },
  { dst := some 19, k := .mv, xs := [.t 4], g := some (18, true) },
  { dst := some 20, k := (.bin .eql), xs := [.t 19, .c (.d (.int .i64 0))], g := some (18, true) },
  { dst := some 21, k := .pick, xs := [.t 18, .t 20, .c (.d (.bool false))] },
  { dst := some 22, k := .mv, xs := [.t 21] },
  { dst := some 23, k := (.faddr 1), xs := [.t 3], g := some (22, true) },
  { dst := some 24, k := (.load none), xs := [.t 23], g := some (22, true) },
  { dst := some 25, k := (.bin .eql), xs := [.t 24, .c (.d (.int .u16 5))], g := some (22, true) },
  { dst := some 26, k := .pick, xs := [.t 22, .t 25, .c (.d (.bool false))] },
  { dst := some 27, k := .mv, xs := [.t 26] },
  { dst := some 28, k := (.faddr 2), xs := [.t 3], g := some (27, true) },
  { dst := some 29, k := (.load none), xs := [.t 28], g := some (27, true) },
  { dst := some 30, k := .lenL, xs := [.t 29], g := some (27, true) },
  { dst := some 31, k := (.bin .eql), xs := [.t 30, .c (.d (.int .i64 1))], g := some (27, true) },
  { dst := some 32, k := .pick, xs := [.t 27, .t 31, .c (.d (.bool false))] },
  { dst := some 33, k := .mv, xs := [.t 32] },
  { dst := some 34, k := (.build [.d (.int .i64 0), .d (.int .u16 0), .nils, .nils] [(0, 1)]), xs := [.c (.d (.int .i64 1))], g := some (33, true) },
  { dst := some 35, k := (.callf 43), xs := [.t 34], g := some (33, true) },
  { dst := some 36, k := (.un .not), xs := [.t 35], g := some (33, true) },
  { dst := some 37, k := .pick, xs := [.t 33, .t 36, .c (.d (.bool false))] },
  { dst := some 0, k := .mv, xs := [.t 37] }]
def F42c8 : Ac := .ret
def F42c6 : Ac := (.seq (.ops F42o7) F42c8)
def F42c4 : Ac := (.seq (.ops F42o5) F42c6)
def F42c2 : Ac := (.seq (.ops F42o3) F42c4)
def F42c0 : Ac := (.seq (.ops F42o1) F42c2)
/-- hansom/hansomlaw23.awake -/
def F42 : Fn := { np := 0, pb := [], rs := [.t 0], body := F42c0 }
def F43o1 : List Ao := [
  { dst := some 1, k := (.box 4), xs := [.t 0] },
  { dst := some 2, k := .mv, xs := [.c (.d (.bool false))] }]
def F43o3 : List Ao := [
  { dst := some 3, k := (.faddr 0), xs := [.t 1] },
  { dst := some 4, k := (.load none), xs := [.t 3] },
  { dst := some 5, k := (.bin .geq), xs := [.t 4, .c (.d (.int .i64 1))] },
  { dst := some 6, k := .mv, xs := [.t 5] },
  { dst := some 7, k := (.faddr 0), xs := [.t 1], g := some (6, true) },
  { dst := some 8, k := (.load none), xs := [.t 7], g := some (6, true) },
  { dst := some 9, k := (.bin .leq), xs := [.t 8, .c (.d (.int .i64 32767))], g := some (6, true) },
  { dst := some 10, k := .pick, xs := [.t 6, .t 9, .c (.d (.bool false))] },
  { dst := some 11, k := .mv, xs := [.t 10] },
  { dst := some 12, k := (.faddr 2), xs := [.t 1], g := some (11, true) },
  { dst := some 13, k := (.load none), xs := [.t 12], g := some (11, true) },
  { dst := some 14, k := .lenL, xs := [.t 13], g := some (11, true) },
  { dst := some 15, k := (.bin .geq), xs := [.t 14, .c (.d (.int .i64 1))], g := some (11, true) },
  { dst := some 16, k := .pick, xs := [.t 11, .t 15, .c (.d (.bool false))] },
  { dst := some 17, k := .mv, xs := [.t 16] },
  { dst := some 18, k := (.faddr 2), xs := [.t 1], g := some (17, true) },
  { dst := some 19, k := (.load none), xs := [.t 18], g := some (17, true) },
  { dst := some 20, k := .lenL, xs := [.t 19], g := some (17, true) },
  { dst := some 21, k := (.bin .leq), xs := [.t 20, .c (.d (.int .i64 1024))], g := some (17, true) },
  { dst := some 22, k := .pick, xs := [.t 17, .t 21, .c (.d (.bool false))] },
  { dst := some 23, k := .mv, xs := [.t 22] },
  { dst := some 24, k := (.faddr 1), xs := [.t 1], g := some (23, true) },
  { dst := some 25, k := (.load none), xs := [.t 24], g := some (23, true) },
  { dst := some 26, k := (.toInt .i64), xs := [.t 25], g := some (23, true) },
  { dst := some 27, k := (.faddr 2), xs := [.t 1], g := some (23, true) },
  { dst := some 28, k := (.load none), xs := [.t 27], g := some (23, true) },
  { dst := some 29, k := .lenL, xs := [.t 28], g := some (23, true) },
  { dst := some 30, k := (.bin .sub), xs := [.c (.d (.int .i64 65536)), .t 29], g := some (23, true) },
  { dst := some 31, k := (.bin .leq), xs := [.t 26, .t 30], g := some (23, true) },
  { dst := some 32, k := .pick, xs := [.t 23, .t 31, .c (.d (.bool false))] },
  { dst := some 2, k := .mv, xs := [.t 32] }]
def F43c4 : Ac := .ret
def F43c2 : Ac := (.seq (.ops F43o3) F43c4)
def F43c0 : Ac := (.seq (.ops F43o1) F43c2)
/-- hansom/data.May -/
def F43 : Fn := { np := 1, pb := [], rs := [.t 2], body := F43c0 }
def F44o1 : List Ao := [
  { dst := some 2, k := (.alloc [.d (.int .i64 0), .d (.int .u16 0), .nils, .nils]), xs := [] },
  { dst := some 3, k := .mv, xs := [.c (.d (.int .i64 0))] }]
def F44o3 : List Ao := [
  { dst := some 7, k := .mv, xs := [.t 0] },
  { dst := some 8, k := (.callf 25), xs := [.t 7] },
  { dst := some 4, k := .mv, xs := [.t 8] }]
def F44o5 : List Ao := [
  { dst := some 9, k := .mv, xs := [.t 4] },
  { dst := some 10, k := (.callf 31), xs := [.t 9] },
  { dst := some 11, k := .mv, xs := [.t 4] },
  { dst := some 12, k := (.callf 30), xs := [.t 11] },
  { dst := some 13, k := (.build [.d (.int .i64 0), .d (.int .u16 0), .nils, .nils] [(0, 1), (1, 1)]), xs := [.t 10, .t 12] },
  { dst := some 5, k := (.alloc [.d (.int .i64 0), .d (.int .u16 0), .nils, .nils]), xs := [] },
  { dst := none, k := (.store 4), xs := [.t 5, .t 13] }]
def F44o7 : List Ao := [
  { dst := some 14, k := .mv, xs := [.t 4] },
  { dst := some 15, k := .mv, xs := [.t 4] },
  { dst := some 16, k := (.callf 29), xs := [.t 15] },
  { dst := some 17, k := (.callf 26), xs := [.t 14, .t 16] },
  { dst := some 18, k := (.callf 70), xs := [.t 17] },
  { dst := some 19, k := (.faddr 2), xs := [.t 5] },
  { dst := none, k := (.store 1), xs := [.t 19, .t 18] }]
def F44o10 : List Ao := [
  { dst := some 20, k := .mv, xs := [.t 4] },
  { dst := some 21, k := (.callf 28), xs := [.t 20] },
  { dst := some 22, k := (.bin .eql), xs := [.t 21, .c (.d (.int .i64 0))] },
  { dst := some 23, k := .mv, xs := [.t 22] },
  { dst := some 24, k := (.load (some 4)), xs := [.t 5], g := some (23, true) },
  { dst := some 25, k := (.callf 43), xs := [.t 24], g := some (23, true) },
  { dst := some 26, k := (.un .not), xs := [.t 25], g := some (23, true) },
  { dst := some 27, k := .pick, xs := [.t 23, .t 26, .c (.d (.bool false))] }]
def F44o12 : List Ao := [
  { dst := some 28, k := .mv, xs := [.t 4] },
  { dst := some 29, k := (.callf 27), xs := [.t 28, .c (.d (.int .i64 3))] }]
def F44c11 : Ac := (.cond (.t 27) (.ops F44o12) .skip)
def F44o16 : List Ao := [
  { dst := some 30, k := .mv, xs := [.t 4] },
  { dst := some 31, k := (.callf 34), xs := [.t 30] },
  { dst := some 6, k := .mv, xs := [.t 31] }]
def F44o18 : List Ao := [
  { dst := some 32, k := .mv, xs := [.t 6] },
  { dst := some 33, k := (.bin .neq), xs := [.t 32, .c (.d (.int .i64 0))] }]
def F44o21 : List Ao := [
  { dst := some 34, k := (.build [.d (.int .i64 0), .d (.int .u16 0), .nils, .nils] []), xs := [] },
  { dst := some 35, k := .mv, xs := [.t 6] },
  { dst := none, k := (.store 4), xs := [.t 2, .t 34] },
  { dst := some 3, k := .mv, xs := [.t 35] }]
def F44c22 : Ac := (.seq (.gh [.frzB [2] 2, .frzB [2] 3]) .ret)
def F44c19 : Ac := (.cond (.t 33) (.seq (.ops F44o21) F44c22) .skip)
def F44c17 : Ac := (.seq (.ops F44o18) F44c19)
def F44o25 : List Ao := [
  { dst := some 36, k := (.load (some 4)), xs := [.t 5] },
  { dst := none, k := (.store 4), xs := [.t 2, .t 36] },
  { dst := some 3, k := .mv, xs := [.c (.d (.int .i64 0))] }]
def F44c26 : Ac := (.seq (.gh [.frzB [2] 2, .frzB [2] 3]) .ret)
def F44c24 : Ac := (.seq (.ops F44o25) F44c26)
def F44c14 : Ac := (.seq (.seq (.ops F44o16) F44c17) F44c24)
def F44c8 : Ac := (.seq (.seq (.ops F44o10) F44c11) F44c14)
def F44c6 : Ac := (.seq (.ops F44o7) F44c8)
def F44c4 : Ac := (.seq (.ops F44o5) F44c6)
def F44c2 : Ac := (.seq (.ops F44o3) F44c4)
def F44c0 : Ac := (.seq (.ops F44o1) F44c2)
/-- hansom/data.Get -/
def F44 : Fn := { np := 1, pb := [], rs := [.c 2 (some 4), .t 3], body := F44c0 }
def F53o1 : List Ao := [
  { dst := some 6, k := .mv, xs := [.c (.nils)] }]
def F53o3 : List Ao := [
  { dst := some 7, k := .mv, xs := [.c (.nils)] }]
def F53o9 : List Ao := [
  { dst := some 9, k := .mv, xs := [.t 2] },
  { dst := some 10, k := .lenL, xs := [.t 9] },
  { dst := some 11, k := (.bin .gtr), xs := [.t 10, .c (.d (.int .i64 0))] }]
def F53c10 : Ac := (.cond (.t 11) .skip (.exit 0))
def F53o15 : List Ao := [
  { dst := some 12, k := .mv, xs := [.t 2] },
  { dst := some 13, k := .lenL, xs := [.t 12] },
  { dst := some 14, k := .mn, xs := [.t 13, .c (.d (.int .i64 1024))] },
  { dst := some 8, k := .mv, xs := [.t 14] }]
def F53o17 : List Ao := [
  { dst := some 15, k := .mv, xs := [.t 7] },
  { dst := some 16, k := .mv, xs := [.t 0] },
  { dst := some 17, k := .mv, xs := [.t 1] },
  { dst := some 18, k := .mv, xs := [.t 2] },
  { dst := some 19, k := .mv, xs := [.t 8] },
  { dst := some 20, k := (.subsl 1 false true false), xs := [.t 18, .t 19] },
  { dst := some 21, k := (.callf 70), xs := [.t 20] },
  { dst := some 22, k := (.build [.d (.int .i64 0), .d (.int .u16 0), .nils, .nils] [(0, 1), (1, 1), (2, 1)]), xs := [.t 16, .t 17, .t 21] },
  { dst := some 23, k := (.bslice (.agg [.int .i64 0, .int .u16 0, .sl [], .sl []]) 1 [0]), xs := [.t 22] },
  { dst := some 24, k := (.append 4 64 false), xs := [.t 15, .t 23] },
  { dst := some 7, k := .mv, xs := [.t 24] }]
def F53o19 : List Ao := [
  { dst := some 25, k := .mv, xs := [.t 1] },
  { dst := some 26, k := .mv, xs := [.t 8] },
  { dst := some 27, k := (.toInt .u16), xs := [.t 26] },
  { dst := some 28, k := (.bin .add), xs := [.t 25, .t 27] },
  { dst := some 1, k := .mv, xs := [.t 28] }]
def F53o20 : List Ao := [
  { dst := some 29, k := .mv, xs := [.t 2] },
  { dst := some 30, k := .mv, xs := [.t 8] },
  { dst := some 31, k := (.subsl 1 true false false), xs := [.t 29, .t 30] },
  { dst := some 2, k := .mv, xs := [.t 31] }]
def F53c20 : Ac := (.ops F53o20)
def F53c18 : Ac := (.seq (.ops F53o19) F53c20)
def F53c16 : Ac := (.seq (.ops F53o17) F53c18)
def F53c13 : Ac := (.block 1 (.seq (.ops F53o15) F53c16))
def F53l6 : Ac := (.seq (.seq (.ops F53o9) F53c10) F53c13)
def F53o22 : List Ao := [
  { dst := some 32, k := .mv, xs := [.t 7] },
  { dst := some 6, k := .mv, xs := [.t 32] }]
def F53c23 : Ac := (.seq (.gh [.frz 6]) .ret)
def F53b21 : Ac := (.seq (.ops F53o22) F53c23)
def F53c21 : Ac := (.seq (.gh []) (.seq (.keep [7] [[7]]) F53b21))
def F53b4 : Ac := (.seq (.block 0 (.loop (.seq (.gh []) (.seq (.keep [0, 1, 2, 7] [[7]]) F53l6)))) F53c21)
def F53c4 : Ac := (.seq (.gh [.own 7 [7] 4]) (.seq (.keep [0, 1, 2, 7] [[7]]) F53b4))
def F53c2 : Ac := (.seq (.ops F53o3) F53c4)
def F53c0 : Ac := (.seq (.ops F53o1) F53c2)
/-- hansom/data.Cut -/
def F53 : Fn := { np := 3, pb := [], rs := [.t 6], body := F53c0 }
def F67o1 : List Ao := [
  { dst := some 2, k := .mv, xs := [.c (.d (.int .u8 0))] }]
def F67o3 : List Ao := [
  { dst := some 3, k := .mv, xs := [.t 0] },
  { dst := some 4, k := (.toInt .u8), xs := [.t 3] },
  { dst := some 2, k := .mv, xs := [.t 4] }]
def F67c4 : Ac := .ret
def F67c2 : Ac := (.seq (.ops F67o3) F67c4)
def F67c0 : Ac := (.seq (.ops F67o1) F67c2)
/-- hansom/bits.Low -/
def F67 : Fn := { np := 1, pb := [], rs := [.t 2], body := F67c0 }
def F68o1 : List Ao := [
  { dst := some 2, k := .mv, xs := [.c (.d (.int .u8 0))] }]
def F68o3 : List Ao := [
  { dst := some 3, k := .mv, xs := [.t 0] },
  { dst := some 4, k := (.bin .shr), xs := [.t 3, .c (.d (.int .u64 8))] },
  { dst := some 5, k := (.toInt .u8), xs := [.t 4] },
  { dst := some 2, k := .mv, xs := [.t 5] }]
def F68c4 : Ac := .ret
def F68c2 : Ac := (.seq (.ops F68o3) F68c4)
def F68c0 : Ac := (.seq (.ops F68o1) F68c2)
/-- hansom/bits.High -/
def F68 : Fn := { np := 1, pb := [], rs := [.t 2], body := F68c0 }
def F69o1 : List Ao := [
  { dst := some 4, k := .mv, xs := [.c (.d (.int .u16 0))] }]
def F69o3 : List Ao := [
  { dst := some 5, k := .mv, xs := [.t 0] },
  { dst := some 6, k := (.toInt .u16), xs := [.t 5] },
  { dst := some 7, k := .mv, xs := [.t 1] },
  { dst := some 8, k := (.toInt .u16), xs := [.t 7] },
  { dst := some 9, k := (.bin .shl), xs := [.t 8, .c (.d (.int .u64 8))] },
  { dst := some 10, k := (.bin .or), xs := [.t 6, .t 9] },
  { dst := some 4, k := .mv, xs := [.t 10] }]
def F69c4 : Ac := .ret
def F69c2 : Ac := (.seq (.ops F69o3) F69c4)
def F69c0 : Ac := (.seq (.ops F69o1) F69c2)
/-- hansom/bits.Word -/
def F69 : Fn := { np := 2, pb := [], rs := [.t 4], body := F69c0 }
def F70o1 : List Ao := [
  { dst := some 2, k := .mv, xs := [.c (.nils)] }]
def F70o4 : List Ao := [
  { dst := some 3, k := .mv, xs := [.t 0] },
  { dst := some 4, k := (.nilS false), xs := [.t 3, .c (.nils)] }]
def F70o7 : List Ao := [
  { dst := some 2, k := .mv, xs := [.c (.nils)] }]
def F70c8 : Ac := (.seq (.gh [.own 2 [2] 1]) .ret)
def F70c5 : Ac := (.cond (.t 4) (.seq (.ops F70o7) F70c8) .skip)
def F70o11 : List Ao := [
  { dst := some 5, k := (.bslice (.int .u8 0) 0 []), xs := [] },
  { dst := some 6, k := .mv, xs := [.t 0] },
  { dst := some 7, k := (.append 1 1 false), xs := [.t 5, .t 6] },
  { dst := some 2, k := .mv, xs := [.t 7] }]
def F70c12 : Ac := .ret
def F70c10 : Ac := (.seq (.ops F70o11) F70c12)
def F70c2 : Ac := (.seq (.seq (.ops F70o4) F70c5) F70c10)
def F70c0 : Ac := (.seq (.ops F70o1) F70c2)
/-- slices.Clone[[]byte,byte] -/
def F70 : Fn := { np := 1, sp := true, pb := [], rs := [.t 2], body := F70c0 }
def tab1 : Nat → Option Fn
  | 7 => some F7
  | 8 => some F8
  | 10 => some F10
  | 16 => some F16
  | 17 => some F17
  | 20 => some F20
  | 21 => some F21
  | 25 => some F25
  | 26 => some F26
  | 27 => some F27
  | 28 => some F28
  | 29 => some F29
  | 30 => some F30
  | 31 => some F31
  | 34 => some F34
  | 35 => some F35
  | 41 => some F41
  | 42 => some F42
  | 43 => some F43
  | 44 => some F44
  | 53 => some F53
  | 67 => some F67
  | 68 => some F68
  | 69 => some F69
  | 70 => some F70
  | _ => none
noncomputable def L : Cs := lim tab1 (fun _ _ => none)

theorem no_globals : GOk (fun _ _ => none) (fun _ => none) := fun n a h => by cases h
theorem ok7 : FnOk (fun _ _ => none) Try.prog 7 F7 := compF_spec no_globals Try.func7 (by kernel_rfl)
theorem ok8 : FnOk (fun _ _ => none) Try.prog 8 F8 := compF_spec no_globals Try.func8 (by kernel_rfl)
theorem ok10 : FnOk (fun _ _ => none) Try.prog 10 F10 := compF_spec no_globals Try.func10 (by kernel_rfl)
theorem ok16 : FnOk (fun _ _ => none) Try.prog 16 F16 := compF_spec no_globals Try.func16 (by kernel_rfl)
theorem ok17 : FnOk (fun _ _ => none) Try.prog 17 F17 := compF_spec no_globals Try.func17 (by kernel_rfl)
theorem ok20 : FnOk (fun _ _ => none) Try.prog 20 F20 := compF_spec no_globals Try.func20 (by kernel_rfl)
theorem ok21 : FnOk (fun _ _ => none) Try.prog 21 F21 := compF_spec no_globals Try.func21 (by kernel_rfl)
theorem ok25 : FnOk (fun _ _ => none) Try.prog 25 F25 := compF_spec no_globals Try.func25 (by kernel_rfl)
theorem ok26 : FnOk (fun _ _ => none) Try.prog 26 F26 := compF_spec no_globals Try.func26 (by kernel_rfl)
theorem ok27 : FnOk (fun _ _ => none) Try.prog 27 F27 := compF_spec no_globals Try.func27 (by kernel_rfl)
theorem ok28 : FnOk (fun _ _ => none) Try.prog 28 F28 := compF_spec no_globals Try.func28 (by kernel_rfl)
theorem ok29 : FnOk (fun _ _ => none) Try.prog 29 F29 := compF_spec no_globals Try.func29 (by kernel_rfl)
theorem ok30 : FnOk (fun _ _ => none) Try.prog 30 F30 := compF_spec no_globals Try.func30 (by kernel_rfl)
theorem ok31 : FnOk (fun _ _ => none) Try.prog 31 F31 := compF_spec no_globals Try.func31 (by kernel_rfl)
theorem ok34 : FnOk (fun _ _ => none) Try.prog 34 F34 := compF_spec no_globals Try.func34 (by kernel_rfl)
theorem ok35 : FnOk (fun _ _ => none) Try.prog 35 F35 := compF_spec no_globals Try.func35 (by kernel_rfl)
theorem ok41 : FnOk (fun _ _ => none) Try.prog 41 F41 := compF_spec no_globals Try.func41 (by kernel_rfl)
theorem ok42 : FnOk (fun _ _ => none) Try.prog 42 F42 := compF_spec no_globals Try.func42 (by kernel_rfl)
theorem ok43 : FnOk (fun _ _ => none) Try.prog 43 F43 := compF_spec no_globals Try.func43 (by kernel_rfl)
theorem ok44 : FnOk (fun _ _ => none) Try.prog 44 F44 := compF_spec no_globals Try.func44 (by kernel_rfl)
theorem ok53 : FnOk (fun _ _ => none) Try.prog 53 F53 := compF_spec no_globals Try.func53 (by kernel_rfl)
theorem ok67 : FnOk (fun _ _ => none) Try.prog 67 F67 := compF_spec no_globals Try.func67 (by kernel_rfl)
theorem ok68 : FnOk (fun _ _ => none) Try.prog 68 F68 := compF_spec no_globals Try.func68 (by kernel_rfl)
theorem ok69 : FnOk (fun _ _ => none) Try.prog 69 F69 := compF_spec no_globals Try.func69 (by kernel_rfl)
theorem ok70 : FnOk (fun _ _ => none) Try.prog 70 F70 := compF_spec no_globals Try.func70 (by kernel_rfl)
theorem tab1_ok : ∀ f fn, tab1 f = some fn → FnOk (fun _ _ => none) Try.prog f fn := by
  intro f fn h
  unfold tab1 at h
  split at h <;> cases h
  · exact ok7
  · exact ok8
  · exact ok10
  · exact ok16
  · exact ok17
  · exact ok20
  · exact ok21
  · exact ok25
  · exact ok26
  · exact ok27
  · exact ok28
  · exact ok29
  · exact ok30
  · exact ok31
  · exact ok34
  · exact ok35
  · exact ok41
  · exact ok42
  · exact ok43
  · exact ok44
  · exact ok53
  · exact ok67
  · exact ok68
  · exact ok69
  · exact ok70
theorem meets1 (f : Nat) : Meets (fun _ _ => none) Try.prog f (L f) := lim_meets tab1_ok (fun f _ m w args vs bs _ _ _ _ _ r a h => by cases h) f

end Go.Es.Dat
