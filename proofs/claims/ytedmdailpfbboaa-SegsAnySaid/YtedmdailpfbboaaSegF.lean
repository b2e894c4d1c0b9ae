/- The code of the functions that the statement SegsDef, SegsAny, SegsGroup reaches, as the interpreter reads it. No condition. -/
import Derived.Test.YtedmdailpfbboaaEsD
import Derived.Test.YtedmdailpfbboaaChecked
import Derived.KernelRfl
set_option linter.unusedVariables false
set_option linter.unusedSimpArgs false
set_option maxRecDepth 100000
set_option maxHeartbeats 4000000
namespace Go.Es.Seg
open Go.Proofs
def F12o1 : List Ao := [
  { dst := some 2, k := (.box 8), xs := [.t 0] },
  { dst := some 4, k := .mv, xs := [.c (.d (.bool false))] }]
def F12o3 : List Ao := [
  { dst := some 10, k := (.load (some 8)), xs := [.t 2] },
  { dst := some 11, k := .mv, xs := [.t 1] },
  { dst := some 12, k := (.callf 56), xs := [.t 10, .t 11] },
  { dst := some 5, k := (.alloc [.d (.int .i64 0), .d (.int .i64 0), .d (.int .u16 0), .d (.int .u8 0), .d (.int .i64 0), .d (.int .i64 0), .d (.int .i64 0), .d (.int .i64 0)]), xs := [] },
  { dst := none, k := (.store 8), xs := [.t 5, .t 12] }]
def F12o5 : List Ao := [
  { dst := some 14, k := (.load (some 8)), xs := [.t 5] },
  { dst := some 15, k := (.callf 57), xs := [.t 14] },
  { dst := some 13, k := .mv, xs := [.t 15] },
  { dst := some 16, k := (.extract 0), xs := [.t 13] },
  { dst := some 17, k := (.extract 1), xs := [.t 13] },
  { dst := some 6, k := (.alloc [.d (.int .u8 0), .nils]), xs := [] },
  { dst := none, k := (.store 2), xs := [.t 6, .t 16] },
  { dst := some 7, k := .mv, xs := [.t 17] }]
def F12o8 : List Ao := [
  { dst := some 18, k := (.callf 58), xs := [] },
  { dst := some 19, k := (.un .not), xs := [.t 18] },
  { dst := some 20, k := .mv, xs := [.t 19] },
  { dst := some 21, k := (.load (some 8)), xs := [.t 5], g := some (20, false) },
  { dst := some 22, k := (.callf 59), xs := [.t 21], g := some (20, false), al := some [] },
  { dst := some 23, k := (.load (some 8)), xs := [.t 5], g := some (20, false), av := [[22]] },
  { dst := some 24, k := (.callf 60), xs := [.t 23], g := some (20, false) },
  { dst := some 25, k := (.eqb true), xs := [.t 22, .t 24], g := some (20, false) },
  { dst := some 26, k := .pick, xs := [.t 20, .c (.d (.bool true)), .t 25] },
  { dst := some 27, k := .mv, xs := [.t 26] },
  { dst := some 28, k := .mv, xs := [.t 7], g := some (27, false) },
  { dst := some 29, k := (.load (some 8)), xs := [.t 5], g := some (27, false) },
  { dst := some 30, k := (.callf 60), xs := [.t 29], g := some (27, false) },
  { dst := some 31, k := (.eqb true), xs := [.t 28, .t 30], g := some (27, false) },
  { dst := some 32, k := .pick, xs := [.t 27, .c (.d (.bool true)), .t 31] }]
def F12o11 : List Ao := [
  { dst := some 4, k := .mv, xs := [.c (.d (.bool false))] }]
def F12c12 : Ac := .ret
def F12c9 : Ac := (.cond (.t 32) (.seq (.ops F12o11) F12c12) .skip)
def F12o16 : List Ao := [
  { dst := some 33, k := .mv, xs := [.t 7] },
  { dst := some 34, k := (.un .not), xs := [.t 33] }]
def F12o19 : List Ao := [
  { dst := some 35, k := (.faddr 1), xs := [.t 6] },
  { dst := some 36, k := (.load none), xs := [.t 35] },
  { dst := some 37, k := .lenL, xs := [.t 36] },
  { dst := some 38, k := (.bin .eql), xs := [.t 37, .c (.d (.int .i64 0))] },
  { dst := some 4, k := .mv, xs := [.t 38] }]
def F12c20 : Ac := .ret
def F12c17 : Ac := (.cond (.t 34) (.seq (.ops F12o19) F12c20) .skip)
def F12o23 : List Ao := [
  { dst := some 40, k := (.faddr 1), xs := [.t 6] },
  { dst := some 41, k := (.load none), xs := [.t 40] },
  { dst := some 42, k := (.callf 61), xs := [.t 41] },
  { dst := some 39, k := .mv, xs := [.t 42] },
  { dst := some 43, k := (.extract 0), xs := [.t 39] },
  { dst := some 44, k := (.extract 1), xs := [.t 39] },
  { dst := some 8, k := (.alloc [.d (.int .i64 0), .d (.int .i64 0), .d (.int .u16 0), .d (.int .u8 0), .d (.int .i64 0), .d (.int .i64 0), .d (.int .i64 0), .d (.int .i64 0)]), xs := [] },
  { dst := none, k := (.store 8), xs := [.t 8, .t 43] },
  { dst := some 9, k := .mv, xs := [.t 44] }]
def F12o25 : List Ao := [
  { dst := some 45, k := (.faddr 1), xs := [.t 6] },
  { dst := some 46, k := (.load none), xs := [.t 45], av := [[49]] },
  { dst := some 47, k := .bytesStr, xs := [.t 46], av := [[49]] },
  { dst := some 48, k := (.load (some 8)), xs := [.t 5] },
  { dst := some 49, k := (.callf 62), xs := [.t 48], al := some [] },
  { dst := some 50, k := (.bin .eql), xs := [.t 47, .t 49] },
  { dst := some 51, k := .mv, xs := [.t 50] },
  { dst := some 52, k := (.faddr 0), xs := [.t 6], g := some (51, true) },
  { dst := some 53, k := (.load none), xs := [.t 52], g := some (51, true) },
  { dst := some 54, k := (.bin .eql), xs := [.t 53, .c (.d (.int .u8 152))], g := some (51, true) },
  { dst := some 55, k := .pick, xs := [.t 51, .t 54, .c (.d (.bool false))] },
  { dst := some 56, k := .mv, xs := [.t 55] },
  { dst := some 57, k := .mv, xs := [.t 9], g := some (56, true) },
  { dst := some 58, k := (.bin .eql), xs := [.t 57, .c (.d (.int .i64 0))], g := some (56, true) },
  { dst := some 59, k := .pick, xs := [.t 56, .t 58, .c (.d (.bool false))] },
  { dst := some 60, k := .mv, xs := [.t 59] },
  { dst := some 61, k := (.load (some 8)), xs := [.t 8], g := some (60, true) },
  { dst := some 62, k := (.load (some 8)), xs := [.t 5], g := some (60, true) },
  { dst := some 63, k := (.eqa false [.i, .i, .i, .i, .i, .i, .i, .i]), xs := [.t 61, .t 62], g := some (60, true) },
  { dst := some 64, k := .pick, xs := [.t 60, .t 63, .c (.d (.bool false))] },
  { dst := some 4, k := .mv, xs := [.t 64] }]
def F12c26 : Ac := .ret
def F12c24 : Ac := (.seq (.ops F12o25) F12c26)
def F12c22 : Ac := (.seq (.ops F12o23) F12c24)
def F12c14 : Ac := (.seq (.seq (.ops F12o16) F12c17) F12c22)
def F12c6 : Ac := (.seq (.seq (.ops F12o8) F12c9) F12c14)
def F12c4 : Ac := (.seq (.ops F12o5) F12c6)
def F12c2 : Ac := (.seq (.ops F12o3) F12c4)
def F12c0 : Ac := (.seq (.ops F12o1) F12c2)
/-- hansom/hansomlaw21.SegsDef -/
def F12 : Fn := { np := 2, pb := [], rs := [.t 4], body := F12c0 }
def F13o1 : List Ao := [
  { dst := some 3, k := (.box 8), xs := [.t 0] },
  { dst := some 6, k := .mv, xs := [.c (.d (.bool false))] }]
def F13o3 : List Ao := [
  { dst := some 16, k := (.load (some 8)), xs := [.t 3] },
  { dst := some 17, k := (.callf 56), xs := [.t 16, .c (.d (.int .i64 6))] },
  { dst := some 7, k := (.alloc [.d (.int .i64 0), .d (.int .i64 0), .d (.int .u16 0), .d (.int .u8 0), .d (.int .i64 0), .d (.int .i64 0), .d (.int .i64 0), .d (.int .i64 0)]), xs := [] },
  { dst := none, k := (.store 8), xs := [.t 7, .t 17] }]
def F13o5 : List Ao := [
  { dst := some 18, k := (.load (some 8)), xs := [.t 7] },
  { dst := some 19, k := (.callf 62), xs := [.t 18] },
  { dst := some 20, k := .strBytes, xs := [.t 19] },
  { dst := some 8, k := .mv, xs := [.t 20] }]
def F13o7 : List Ao := [
  { dst := some 21, k := .mv, xs := [.t 1] },
  { dst := some 22, k := (.bin .and), xs := [.t 21, .c (.d (.int .i64 255))] },
  { dst := some 23, k := .mv, xs := [.t 8] },
  { dst := some 24, k := .lenL, xs := [.t 23] },
  { dst := some 25, k := (.bin .rem), xs := [.t 22, .t 24] },
  { dst := some 9, k := .mv, xs := [.t 25] }]
def F13o9 : List Ao := [
  { dst := some 26, k := .mv, xs := [.t 8] },
  { dst := some 27, k := .mv, xs := [.t 9] },
  { dst := some 28, k := (.iaddrS 1), xs := [.t 26, .t 27] },
  { dst := some 29, k := (.load none), xs := [.t 28] },
  { dst := some 30, k := .mv, xs := [.t 1] },
  { dst := some 31, k := (.bin .shr), xs := [.t 30, .c (.d (.int .u64 8))] },
  { dst := some 32, k := (.bin .and), xs := [.t 31, .c (.d (.int .i64 7))] },
  { dst := some 33, k := (.toInt .u64), xs := [.t 32] },
  { dst := some 34, k := (.bin .shl), xs := [.c (.d (.int .u8 1)), .t 33] },
  { dst := some 35, k := (.bin .xor), xs := [.t 29, .t 34] },
  { dst := some 36, k := (.iaddrS 1), xs := [.t 26, .t 27] },
  { dst := none, k := (.store 1), xs := [.t 36, .t 35] }]
def F13o12 : List Ao := [
  { dst := some 37, k := .mv, xs := [.t 1] },
  { dst := some 38, k := (.bin .shr), xs := [.t 37, .c (.d (.int .u64 11))] },
  { dst := some 39, k := (.bin .and), xs := [.t 38, .c (.d (.int .i64 3))] },
  { dst := some 40, k := (.bin .eql), xs := [.t 39, .c (.d (.int .i64 0))] }]
def F13o14 : List Ao := [
  { dst := some 41, k := .mv, xs := [.t 2] },
  { dst := some 42, k := .mv, xs := [.t 2] },
  { dst := some 43, k := .lenL, xs := [.t 42] },
  { dst := some 44, k := .mn, xs := [.t 43, .c (.d (.int .i64 14))] },
  { dst := some 45, k := (.subsl 1 false true false), xs := [.t 41, .t 44] },
  { dst := some 8, k := .mv, xs := [.t 45] }]
def F13c13 : Ac := (.cond (.t 40) (.ops F13o14) .skip)
def F13o17 : List Ao := [
  { dst := some 47, k := .mv, xs := [.t 8] },
  { dst := some 48, k := (.callf 61), xs := [.t 47] },
  { dst := some 46, k := .mv, xs := [.t 48] },
  { dst := some 49, k := (.extract 0), xs := [.t 46] },
  { dst := some 50, k := (.extract 1), xs := [.t 46] },
  { dst := some 10, k := (.alloc [.d (.int .i64 0), .d (.int .i64 0), .d (.int .u16 0), .d (.int .u8 0), .d (.int .i64 0), .d (.int .i64 0), .d (.int .i64 0), .d (.int .i64 0)]), xs := [] },
  { dst := none, k := (.store 8), xs := [.t 10, .t 49] },
  { dst := some 11, k := .mv, xs := [.t 50] }]
def F13o20 : List Ao := [
  { dst := some 51, k := .mv, xs := [.t 11] },
  { dst := some 52, k := (.bin .neq), xs := [.t 51, .c (.d (.int .i64 0))] }]
def F13o23 : List Ao := [
  { dst := some 53, k := (.callf 58), xs := [] },
  { dst := some 54, k := .mv, xs := [.t 53] },
  { dst := some 55, k := (.load (some 8)), xs := [.t 10], g := some (54, true) },
  { dst := some 56, k := (.build [.d (.int .i64 0), .d (.int .i64 0), .d (.int .u16 0), .d (.int .u8 0), .d (.int .i64 0), .d (.int .i64 0), .d (.int .i64 0), .d (.int .i64 0)] []), xs := [], g := some (54, true) },
  { dst := some 57, k := (.eqa false [.i, .i, .i, .i, .i, .i, .i, .i]), xs := [.t 55, .t 56], g := some (54, true) },
  { dst := some 58, k := .pick, xs := [.t 54, .t 57, .c (.d (.bool false))] },
  { dst := some 59, k := .mv, xs := [.t 58] },
  { dst := some 60, k := .mv, xs := [.t 11], g := some (59, true) },
  { dst := some 61, k := (.bin .eql), xs := [.t 60, .c (.d (.int .i64 2))], g := some (59, true) },
  { dst := some 62, k := .mv, xs := [.t 61], g := some (59, true) },
  { dst := some 63, k := .mv, xs := [.t 11], g := some (62, false) },
  { dst := some 64, k := (.bin .eql), xs := [.t 63, .c (.d (.int .i64 3))], g := some (62, false) },
  { dst := some 65, k := .pick, xs := [.t 62, .c (.d (.bool true)), .t 64], g := some (59, true) },
  { dst := some 66, k := .pick, xs := [.t 59, .t 65, .c (.d (.bool false))] },
  { dst := some 6, k := .mv, xs := [.t 66] }]
def F13c24 : Ac := .ret
def F13c21 : Ac := (.cond (.t 52) (.seq (.ops F13o23) F13c24) .skip)
def F13o27 : List Ao := [
  { dst := some 68, k := (.load (some 8)), xs := [.t 10] },
  { dst := some 69, k := (.callf 57), xs := [.t 68] },
  { dst := some 67, k := .mv, xs := [.t 69] },
  { dst := some 70, k := (.extract 0), xs := [.t 67] },
  { dst := some 71, k := (.extract 1), xs := [.t 67] },
  { dst := some 12, k := (.alloc [.d (.int .u8 0), .nils]), xs := [] },
  { dst := none, k := (.store 2), xs := [.t 12, .t 70] },
  { dst := some 13, k := .mv, xs := [.t 71] }]
def F13o29 : List Ao := [
  { dst := some 73, k := (.faddr 1), xs := [.t 12] },
  { dst := some 74, k := (.load none), xs := [.t 73] },
  { dst := some 75, k := (.callf 61), xs := [.t 74] },
  { dst := some 72, k := .mv, xs := [.t 75] },
  { dst := some 76, k := (.extract 0), xs := [.t 72] },
  { dst := some 77, k := (.extract 1), xs := [.t 72] },
  { dst := some 14, k := (.alloc [.d (.int .i64 0), .d (.int .i64 0), .d (.int .u16 0), .d (.int .u8 0), .d (.int .i64 0), .d (.int .i64 0), .d (.int .i64 0), .d (.int .i64 0)]), xs := [] },
  { dst := none, k := (.store 8), xs := [.t 14, .t 76] },
  { dst := some 15, k := .mv, xs := [.t 77] }]
def F13o31 : List Ao := [
  { dst := some 78, k := (.callf 58), xs := [] },
  { dst := some 79, k := .mv, xs := [.t 78] },
  { dst := some 80, k := (.load (some 8)), xs := [.t 10], g := some (79, true) },
  { dst := some 81, k := (.callf 60), xs := [.t 80], g := some (79, true) },
  { dst := some 82, k := .pick, xs := [.t 79, .t 81, .c (.d (.bool false))] },
  { dst := some 83, k := .mv, xs := [.t 82] },
  { dst := some 84, k := .mv, xs := [.t 13], g := some (83, true) },
  { dst := some 85, k := .pick, xs := [.t 83, .t 84, .c (.d (.bool false))] },
  { dst := some 86, k := .mv, xs := [.t 85] },
  { dst := some 87, k := .mv, xs := [.t 15], g := some (86, true) },
  { dst := some 88, k := (.bin .eql), xs := [.t 87, .c (.d (.int .i64 0))], g := some (86, true) },
  { dst := some 89, k := .pick, xs := [.t 86, .t 88, .c (.d (.bool false))] },
  { dst := some 90, k := .mv, xs := [.t 89] },
  { dst := some 91, k := (.load (some 8)), xs := [.t 14], g := some (90, true) },
  { dst := some 92, k := (.load (some 8)), xs := [.t 10], g := some (90, true) },
  { dst := some 93, k := (.eqa false [.i, .i, .i, .i, .i, .i, .i, .i]), xs := [.t 91, .t 92], g := some (90, true) },
  { dst := some 94, k := .pick, xs := [.t 90, .t 93, .c (.d (.bool false))] },
  { dst := some 95, k := .mv, xs := [.t 94] },
  { dst := some 96, k := (.faddr 1), xs := [.t 12], g := some (95, true) },
  { dst := some 97, k := (.load none), xs := [.t 96], g := some (95, true) },
  { dst := some 98, k := .lenL, xs := [.t 97], g := some (95, true) },
  { dst := some 99, k := .mv, xs := [.t 8], g := some (95, true) },
  { dst := some 100, k := .lenL, xs := [.t 99], g := some (95, true) },
  { dst := some 101, k := (.bin .leq), xs := [.t 98, .t 100], g := some (95, true) },
  { dst := some 102, k := .pick, xs := [.t 95, .t 101, .c (.d (.bool false))] },
  { dst := some 6, k := .mv, xs := [.t 102] }]
def F13c32 : Ac := .ret
def F13c30 : Ac := (.seq (.ops F13o31) F13c32)
def F13c28 : Ac := (.seq (.ops F13o29) F13c30)
def F13c26 : Ac := (.seq (.ops F13o27) F13c28)
def F13c18 : Ac := (.seq (.seq (.ops F13o20) F13c21) F13c26)
def F13b16 : Ac := (.seq (.ops F13o17) F13c18)
def F13c16 : Ac := (.seq (.gh [.frz 8]) (.seq (.keep [8] []) F13b16))
def F13c10 : Ac := (.seq (.seq (.ops F13o12) F13c13) F13c16)
def F13c8 : Ac := (.seq (.ops F13o9) F13c10)
def F13c6 : Ac := (.seq (.ops F13o7) F13c8)
def F13c4 : Ac := (.seq (.ops F13o5) F13c6)
def F13c2 : Ac := (.seq (.ops F13o3) F13c4)
def F13c0 : Ac := (.seq (.ops F13o1) F13c2)
/-- hansom/hansomlaw21.SegsAny -/
def F13 : Fn := { np := 3, pb := [], rs := [.t 6], body := F13c0 }
def F14o1 : List Ao := [
  { dst := some 6, k := .mv, xs := [.c (.d (.bool false))] }]
def F14o3 : List Ao := [
  { dst := some 16, k := .mv, xs := [.t 0] },
  { dst := some 17, k := (.bin .and), xs := [.t 16, .c (.d (.int .i64 32767))] },
  { dst := some 18, k := (.build [.d (.int .i64 0), .nils] [(0, 1)]), xs := [.t 17] },
  { dst := some 7, k := (.alloc [.d (.int .i64 0), .nils]), xs := [] },
  { dst := none, k := (.store 2), xs := [.t 7, .t 18] }]
def F14o6 : List Ao := [
  { dst := some 8, k := .mv, xs := [.c (.d (.int .i64 0))] }]
def F14o11 : List Ao := [
  { dst := some 19, k := .mv, xs := [.t 8] },
  { dst := some 20, k := .mv, xs := [.t 1] },
  { dst := some 21, k := .lenL, xs := [.t 20] },
  { dst := some 22, k := (.bin .lss), xs := [.t 19, .t 21] },
  { dst := some 23, k := .mv, xs := [.t 22] },
  { dst := some 24, k := .mv, xs := [.t 8], g := some (23, true) },
  { dst := some 25, k := (.bin .lss), xs := [.t 24, .c (.d (.int .i64 12))], g := some (23, true) },
  { dst := some 26, k := .pick, xs := [.t 23, .t 25, .c (.d (.bool false))] }]
def F14c12 : Ac := (.cond (.t 26) .skip (.exit 0))
def F14o17 : List Ao := [
  { dst := some 29, k := (.faddr 1), xs := [.t 7] },
  { dst := some 30, k := (.load none), xs := [.t 29], av := [[36]] },
  { dst := some 31, k := .mv, xs := [.t 1] },
  { dst := some 32, k := .mv, xs := [.t 8] },
  { dst := some 33, k := (.iaddrS 1), xs := [.t 31, .t 32] },
  { dst := some 34, k := (.load none), xs := [.t 33] },
  { dst := some 35, k := (.bin .and), xs := [.t 34, .c (.d (.int .i64 1023))] },
  { dst := some 36, k := (.bslice (.int .i64 0) 1 [0]), xs := [.t 35] },
  { dst := some 37, k := (.append 1 8 false), xs := [.t 30, .t 36] },
  { dst := some 38, k := (.faddr 1), xs := [.t 7] },
  { dst := none, k := (.store 1), xs := [.t 38, .t 37] }]
def F14o18 : List Ao := [
  { dst := some 27, k := .mv, xs := [.t 8] },
  { dst := some 28, k := (.bin .add), xs := [.t 27, .c (.d (.int .i64 1))] },
  { dst := some 8, k := .mv, xs := [.t 28] }]
def F14c18 : Ac := (.ops F14o18)
def F14c15 : Ac := (.seq (.block 1 (.ops F14o17)) F14c18)
def F14l8 : Ac := (.seq (.seq (.ops F14o11) F14c12) F14c15)
def F14c7 : Ac := (.block 0 (.loop (.seq (.gh []) (.seq (.keep [1, 2, 7, 8] [[7], [901, 7]]) F14l8))))
def F14o20 : List Ao := [
  { dst := some 39, k := (.load (some 2)), xs := [.t 7] },
  { dst := some 40, k := (.callf 63), xs := [.t 39] },
  { dst := some 9, k := (.alloc [.d (.int .u8 0), .nils]), xs := [] },
  { dst := none, k := (.store 2), xs := [.t 9, .t 40] }]
def F14o22 : List Ao := [
  { dst := some 42, k := (.faddr 1), xs := [.t 9] },
  { dst := some 43, k := (.load none), xs := [.t 42] },
  { dst := some 44, k := (.callf 64), xs := [.t 43] },
  { dst := some 41, k := .mv, xs := [.t 44] },
  { dst := some 45, k := (.extract 0), xs := [.t 41] },
  { dst := some 46, k := (.extract 1), xs := [.t 41] },
  { dst := some 10, k := (.alloc [.d (.int .i64 0), .nils]), xs := [] },
  { dst := none, k := (.store 2), xs := [.t 10, .t 45] },
  { dst := some 11, k := .mv, xs := [.t 46] }]
def F14o25 : List Ao := [
  { dst := some 47, k := (.faddr 1), xs := [.t 9] },
  { dst := some 48, k := (.load none), xs := [.t 47], av := [[51]] },
  { dst := some 49, k := .bytesStr, xs := [.t 48], av := [[51]] },
  { dst := some 50, k := (.load (some 2)), xs := [.t 7] },
  { dst := some 51, k := (.callf 65), xs := [.t 50], al := some [] },
  { dst := some 52, k := (.bin .neq), xs := [.t 49, .t 51] },
  { dst := some 53, k := .mv, xs := [.t 52] },
  { dst := some 54, k := (.faddr 0), xs := [.t 9], g := some (53, false) },
  { dst := some 55, k := (.load none), xs := [.t 54], g := some (53, false) },
  { dst := some 56, k := (.bin .neq), xs := [.t 55, .c (.d (.int .u8 154))], g := some (53, false) },
  { dst := some 57, k := .pick, xs := [.t 53, .c (.d (.bool true)), .t 56] },
  { dst := some 58, k := .mv, xs := [.t 57] },
  { dst := some 59, k := .mv, xs := [.t 11], g := some (58, false) },
  { dst := some 60, k := (.bin .neq), xs := [.t 59, .c (.d (.int .i64 0))], g := some (58, false) },
  { dst := some 61, k := .pick, xs := [.t 58, .c (.d (.bool true)), .t 60] },
  { dst := some 62, k := .mv, xs := [.t 61] },
  { dst := some 63, k := (.faddr 0), xs := [.t 10], g := some (62, false) },
  { dst := some 64, k := (.load none), xs := [.t 63], g := some (62, false) },
  { dst := some 65, k := (.faddr 0), xs := [.t 7], g := some (62, false) },
  { dst := some 66, k := (.load none), xs := [.t 65], g := some (62, false) },
  { dst := some 67, k := (.bin .neq), xs := [.t 64, .t 66], g := some (62, false) },
  { dst := some 68, k := .pick, xs := [.t 62, .c (.d (.bool true)), .t 67] },
  { dst := some 69, k := .mv, xs := [.t 68] },
  { dst := some 70, k := (.faddr 1), xs := [.t 10], g := some (69, false) },
  { dst := some 71, k := (.load none), xs := [.t 70], g := some (69, false) },
  { dst := some 72, k := .lenL, xs := [.t 71], g := some (69, false) },
  { dst := some 73, k := (.faddr 1), xs := [.t 7], g := some (69, false) },
  { dst := some 74, k := (.load none), xs := [.t 73], g := some (69, false) },
  { dst := some 75, k := .lenL, xs := [.t 74], g := some (69, false) },
  { dst := some 76, k := (.bin .neq), xs := [.t 72, .t 75], g := some (69, false) },
  { dst := some 77, k := .pick, xs := [.t 69, .c (.d (.bool true)), .t 76] }]
def F14o28 : List Ao := [
  { dst := some 6, k := .mv, xs := [.c (.d (.bool false))] }]
def F14c29 : Ac := .ret
def F14c26 : Ac := (.cond (.t 77) (.seq (.ops F14o28) F14c29) .skip)
def F14o33 : List Ao := [
  { dst := some 12, k := .mv, xs := [.c (.d (.int .i64 0))] }]
def F14o38 : List Ao := [
  { dst := some 78, k := .mv, xs := [.t 12] },
  { dst := some 79, k := (.faddr 1), xs := [.t 7] },
  { dst := some 80, k := (.load none), xs := [.t 79] },
  { dst := some 81, k := .lenL, xs := [.t 80] },
  { dst := some 82, k := (.bin .lss), xs := [.t 78, .t 81] }]
def F14c39 : Ac := (.cond (.t 82) .skip (.exit 2))
def F14o45 : List Ao := [
  { dst := some 85, k := (.faddr 1), xs := [.t 10] },
  { dst := some 86, k := (.load none), xs := [.t 85] },
  { dst := some 87, k := .mv, xs := [.t 12] },
  { dst := some 88, k := (.iaddrS 1), xs := [.t 86, .t 87] },
  { dst := some 89, k := (.load none), xs := [.t 88] },
  { dst := some 90, k := (.faddr 1), xs := [.t 7] },
  { dst := some 91, k := (.load none), xs := [.t 90] },
  { dst := some 92, k := .mv, xs := [.t 12] },
  { dst := some 93, k := (.iaddrS 1), xs := [.t 91, .t 92] },
  { dst := some 94, k := (.load none), xs := [.t 93] },
  { dst := some 95, k := (.bin .neq), xs := [.t 89, .t 94] }]
def F14o48 : List Ao := [
  { dst := some 6, k := .mv, xs := [.c (.d (.bool false))] }]
def F14c49 : Ac := .ret
def F14c46 : Ac := (.cond (.t 95) (.seq (.ops F14o48) F14c49) .skip)
def F14o51 : List Ao := [
  { dst := some 83, k := .mv, xs := [.t 12] },
  { dst := some 84, k := (.bin .add), xs := [.t 83, .c (.d (.int .i64 1))] },
  { dst := some 12, k := .mv, xs := [.t 84] }]
def F14c51 : Ac := (.ops F14o51)
def F14c42 : Ac := (.seq (.block 3 (.seq (.ops F14o45) F14c46)) F14c51)
def F14l35 : Ac := (.seq (.seq (.ops F14o38) F14c39) F14c42)
def F14c34 : Ac := (.block 2 (.loop (.seq (.gh []) (.seq (.keep [2, 7, 9, 10, 12] [[7], [9], [10], [901, 7]]) F14l35))))
def F14o53 : List Ao := [
  { dst := some 97, k := (.bslice (.int .u8 0) 0 []), xs := [] },
  { dst := some 98, k := (.faddr 1), xs := [.t 9] },
  { dst := some 99, k := (.load none), xs := [.t 98] },
  { dst := some 100, k := (.append 1 1 false), xs := [.t 97, .t 99] },
  { dst := some 101, k := .mv, xs := [.t 2] },
  { dst := some 102, k := (.bin .and), xs := [.t 101, .c (.d (.int .i64 127))] },
  { dst := some 103, k := (.toInt .u8), xs := [.t 102] },
  { dst := some 104, k := (.bslice (.int .u8 0) 2 [0, 1]), xs := [.t 103, .c (.d (.int .u8 1))] },
  { dst := some 105, k := (.append 1 1 false), xs := [.t 100, .t 104] },
  { dst := some 106, k := (.callf 64), xs := [.t 105] },
  { dst := some 96, k := .mv, xs := [.t 106] },
  { dst := some 107, k := (.extract 0), xs := [.t 96] },
  { dst := some 108, k := (.extract 1), xs := [.t 96] },
  { dst := some 13, k := (.alloc [.d (.int .i64 0), .nils]), xs := [] },
  { dst := none, k := (.store 2), xs := [.t 13, .t 107] },
  { dst := some 14, k := .mv, xs := [.t 108] }]
def F14o55 : List Ao := [
  { dst := some 109, k := (.bslice (.int .i64 0) 5 [0, 1, 2, 3, 4]), xs := [.c (.d (.int .i64 1)), .c (.d (.int .i64 1)), .c (.d (.int .i64 2)), .c (.d (.int .i64 16)), .c (.d (.int .i64 256))] },
  { dst := some 15, k := .mv, xs := [.t 109] }]
def F14o57 : List Ao := [
  { dst := some 110, k := (.callf 58), xs := [] },
  { dst := some 111, k := .mv, xs := [.t 110] },
  { dst := some 112, k := .mv, xs := [.t 14], g := some (111, true) },
  { dst := some 113, k := (.bin .eql), xs := [.t 112, .c (.d (.int .i64 3))], g := some (111, true) },
  { dst := some 114, k := .pick, xs := [.t 111, .t 113, .c (.d (.bool false))] },
  { dst := some 115, k := .mv, xs := [.t 114] },
  { dst := some 116, k := .mv, xs := [.t 2], g := some (115, true) },
  { dst := some 117, k := (.bin .and), xs := [.t 116, .c (.d (.int .i64 255))], g := some (115, true) },
  { dst := some 118, k := (.bin .rem), xs := [.t 117, .c (.d (.int .i64 5))], g := some (115, true) },
  { dst := some 119, k := (.callf 66), xs := [.t 118], g := some (115, true), al := some [] },
  { dst := some 120, k := .mv, xs := [.t 15], g := some (115, true) },
  { dst := some 121, k := .mv, xs := [.t 2], g := some (115, true) },
  { dst := some 122, k := (.bin .and), xs := [.t 121, .c (.d (.int .i64 255))], g := some (115, true) },
  { dst := some 123, k := (.bin .rem), xs := [.t 122, .c (.d (.int .i64 5))], g := some (115, true) },
  { dst := some 124, k := (.iaddrS 1), xs := [.t 120, .t 123], g := some (115, true) },
  { dst := some 125, k := (.load none), xs := [.t 124], g := some (115, true), av := [[119]] },
  { dst := some 126, k := (.bin .eql), xs := [.t 119, .t 125], g := some (115, true) },
  { dst := some 127, k := .pick, xs := [.t 115, .t 126, .c (.d (.bool false))] },
  { dst := some 128, k := .mv, xs := [.t 127] },
  { dst := some 129, k := .mv, xs := [.t 2], g := some (128, true) },
  { dst := some 130, k := (.bin .and), xs := [.t 129, .c (.d (.int .i64 7))], g := some (128, true) },
  { dst := some 131, k := (.bin .add), xs := [.c (.d (.int .i64 5)), .t 130], g := some (128, true) },
  { dst := some 132, k := (.callf 66), xs := [.t 131], g := some (128, true) },
  { dst := some 133, k := (.bin .eql), xs := [.t 132, .c (.d (.int .i64 1))], g := some (128, true) },
  { dst := some 134, k := .pick, xs := [.t 128, .t 133, .c (.d (.bool false))] },
  { dst := some 6, k := .mv, xs := [.t 134] }]
def F14c58 : Ac := .ret
def F14c56 : Ac := (.seq (.ops F14o57) F14c58)
def F14c54 : Ac := (.seq (.ops F14o55) F14c56)
def F14b52 : Ac := (.seq (.ops F14o53) F14c54)
def F14c52 : Ac := (.seq (.gh []) (.seq (.keep [2, 9] [[9]]) F14b52))
def F14c31 : Ac := (.seq (.seq (.ops F14o33) F14c34) F14c52)
def F14c23 : Ac := (.seq (.seq (.ops F14o25) F14c26) F14c31)
def F14c21 : Ac := (.seq (.ops F14o22) F14c23)
def F14b19 : Ac := (.seq (.ops F14o20) F14c21)
def F14c19 : Ac := (.seq (.gh []) (.seq (.keep [2, 7] [[7], [901, 7]]) F14b19))
def F14b4 : Ac := (.seq (.seq (.ops F14o6) F14c7) F14c19)
def F14c4 : Ac := (.seq (.gh [.ownB [7] 1 [901, 7] 1]) (.seq (.keep [1, 2, 7] [[7], [901, 7]]) F14b4))
def F14c2 : Ac := (.seq (.ops F14o3) F14c4)
def F14c0 : Ac := (.seq (.ops F14o1) F14c2)
/-- hansom/hansomlaw21.SegsGroup -/
def F14 : Fn := { np := 3, pb := [], rs := [.t 6], body := F14c0 }
def F16o1 : List Ao := [
  { dst := some 2, k := .mv, xs := [.c (.nils)] }]
def F16o5 : List Ao := [
  { dst := some 4, k := .mv, xs := [.t 0] },
  { dst := some 5, k := (.bin .lss), xs := [.t 4, .c (.d (.int .i64 0))] },
  { dst := some 6, k := .mv, xs := [.t 5] },
  { dst := some 7, k := .mv, xs := [.t 0], g := some (6, false) },
  { dst := some 8, k := (.bin .gtr), xs := [.t 7, .c (.d (.int .i64 32767))], g := some (6, false) },
  { dst := some 9, k := .pick, xs := [.t 6, .c (.d (.bool true)), .t 8] },
  { dst := some 3, k := .mv, xs := [.t 9] }]
def F16o8 : List Ao := [
  { dst := some 10, k := (.bslice (.int .u8 0) 1 [0]), xs := [.c (.d (.int .u8 0))] },
  { dst := some 2, k := .mv, xs := [.t 10] }]
def F16c9 : Ac := .ret
def F16o11 : List Ao := [
  { dst := some 12, k := .mv, xs := [.t 0] },
  { dst := some 13, k := (.bin .lss), xs := [.t 12, .c (.d (.int .i64 128))] },
  { dst := some 11, k := .mv, xs := [.t 13] }]
def F16o14 : List Ao := [
  { dst := some 14, k := .mv, xs := [.t 0] },
  { dst := some 15, k := (.toInt .u8), xs := [.t 14] },
  { dst := some 16, k := (.bslice (.int .u8 0) 1 [0]), xs := [.t 15] },
  { dst := some 2, k := .mv, xs := [.t 16] }]
def F16c15 : Ac := .ret
def F16c12 : Ac := (.cond (.t 11) (.seq (.ops F16o14) F16c15) .skip)
def F16c6 : Ac := (.cond (.t 3) (.seq (.ops F16o8) F16c9) (.seq (.ops F16o11) F16c12))
def F16o18 : List Ao := [
  { dst := some 17, k := .mv, xs := [.t 0] },
  { dst := some 18, k := (.bin .shr), xs := [.t 17, .c (.d (.int .u64 8))] },
  { dst := some 19, k := (.toInt .u8), xs := [.t 18] },
  { dst := some 20, k := (.bin .or), xs := [.t 19, .c (.d (.int .u8 128))] },
  { dst := some 21, k := .mv, xs := [.t 0] },
  { dst := some 22, k := (.toInt .u8), xs := [.t 21] },
  { dst := some 23, k := (.bslice (.int .u8 0) 2 [0, 1]), xs := [.t 20, .t 22] },
  { dst := some 2, k := .mv, xs := [.t 23] }]
def F16c19 : Ac := .ret
def F16c17 : Ac := (.seq (.ops F16o18) F16c19)
def F16c2 : Ac := (.seq (.block 0 (.seq (.ops F16o5) F16c6)) F16c17)
def F16c0 : Ac := (.seq (.ops F16o1) F16c2)
/-- hansom/index.Put -/
def F16 : Fn := { np := 1, pb := [], rs := [.t 2], body := F16c0 }
def F17o1 : List Ao := [
  { dst := some 2, k := .mv, xs := [.c (.d (.str []))] }]
def F17o4 : List Ao := [
  { dst := some 3, k := .mv, xs := [.t 0] },
  { dst := some 4, k := (.bin .lss), xs := [.t 3, .c (.d (.int .i64 0))] },
  { dst := some 5, k := .mv, xs := [.t 4] },
  { dst := some 6, k := .mv, xs := [.t 0], g := some (5, false) },
  { dst := some 7, k := (.bin .gtr), xs := [.t 6, .c (.d (.int .i64 32767))], g := some (5, false) },
  { dst := some 8, k := .pick, xs := [.t 5, .c (.d (.bool true)), .t 7] }]
def F17o6 : List Ao := [
  { dst := some 0, k := .mv, xs := [.c (.d (.int .i64 0))] }]
def F17c5 : Ac := (.cond (.t 8) (.ops F17o6) .skip)
def F17o10 : List Ao := [
  { dst := some 9, k := .mv, xs := [.t 0] },
  { dst := some 10, k := (.bin .lss), xs := [.t 9, .c (.d (.int .i64 128))] }]
def F17o13 : List Ao := [
  { dst := some 11, k := .mv, xs := [.t 0] },
  { dst := some 12, k := (.toInt .u8), xs := [.t 11] },
  { dst := some 13, k := (.bslice (.int .u8 0) 1 [0]), xs := [.t 12] },
  { dst := some 14, k := .bytesStr, xs := [.t 13] },
  { dst := some 2, k := .mv, xs := [.t 14] }]
def F17c14 : Ac := .ret
def F17c11 : Ac := (.cond (.t 10) (.seq (.ops F17o13) F17c14) .skip)
def F17o17 : List Ao := [
  { dst := some 15, k := .mv, xs := [.t 0] },
  { dst := some 16, k := (.bin .quo), xs := [.t 15, .c (.d (.int .i64 256))] },
  { dst := some 17, k := (.bin .add), xs := [.t 16, .c (.d (.int .i64 128))] },
  { dst := some 18, k := (.toInt .u8), xs := [.t 17] },
  { dst := some 19, k := .mv, xs := [.t 0] },
  { dst := some 20, k := (.bin .rem), xs := [.t 19, .c (.d (.int .i64 256))] },
  { dst := some 21, k := (.toInt .u8), xs := [.t 20] },
  { dst := some 22, k := (.bslice (.int .u8 0) 2 [0, 1]), xs := [.t 18, .t 21] },
  { dst := some 23, k := .bytesStr, xs := [.t 22] },
  { dst := some 2, k := .mv, xs := [.t 23] }]
def F17c18 : Ac := .ret
def F17c16 : Ac := (.seq (.ops F17o17) F17c18)
def F17b8 : Ac := (.seq (.seq (.ops F17o10) F17c11) F17c16)
def F17c8 : Ac := (.seq (.gh []) (.seq (.keep [0] []) F17b8))
def F17c2 : Ac := (.seq (.seq (.ops F17o4) F17c5) F17c8)
def F17c0 : Ac := (.seq (.ops F17o1) F17c2)
/-- hansom/hansomref18.Index -/
def F17 : Fn := { np := 1, pb := [], rs := [.t 2], body := F17c0 }
def F20o1 : List Ao := [
  { dst := some 2, k := .mv, xs := [.c (.nils)] }]
def F20o3 : List Ao := [
  { dst := some 3, k := .mv, xs := [.t 0] },
  { dst := some 4, k := (.callf 67), xs := [.t 3] },
  { dst := some 5, k := .mv, xs := [.t 0] },
  { dst := some 6, k := (.callf 68), xs := [.t 5] },
  { dst := some 7, k := (.bslice (.int .u8 0) 2 [0, 1]), xs := [.t 4, .t 6] },
  { dst := some 2, k := .mv, xs := [.t 7] }]
def F20c4 : Ac := (.seq (.gh [.frz 2]) .ret)
def F20c2 : Ac := (.seq (.ops F20o3) F20c4)
def F20c0 : Ac := (.seq (.ops F20o1) F20c2)
/-- hansom/index.Two -/
def F20 : Fn := { np := 1, pb := [], rs := [.t 2], body := F20c0 }
def F21o1 : List Ao := [
  { dst := some 4, k := .mv, xs := [.c (.d (.str []))] }]
def F21o3 : List Ao := [
  { dst := some 5, k := .mv, xs := [.c (.d (.str []))] }]
def F21o6 : List Ao := [
  { dst := some 6, k := .mv, xs := [.c (.d (.int .i64 0))] }]
def F21o11 : List Ao := [
  { dst := some 7, k := .mv, xs := [.t 6] },
  { dst := some 8, k := .mv, xs := [.t 1] },
  { dst := some 9, k := (.bin .lss), xs := [.t 7, .t 8] }]
def F21c12 : Ac := (.cond (.t 9) .skip (.exit 0))
def F21o18 : List Ao := [
  { dst := some 12, k := .mv, xs := [.t 5] },
  { dst := some 13, k := .mv, xs := [.t 0] },
  { dst := some 14, k := (.bin .rem), xs := [.t 13, .c (.d (.int .u64 256))] },
  { dst := some 15, k := (.toInt .u8), xs := [.t 14] },
  { dst := some 16, k := (.bslice (.int .u8 0) 1 [0]), xs := [.t 15] },
  { dst := some 17, k := .bytesStr, xs := [.t 16] },
  { dst := some 18, k := (.bin .add), xs := [.t 12, .t 17] },
  { dst := some 5, k := .mv, xs := [.t 18] }]
def F21o19 : List Ao := [
  { dst := some 19, k := .mv, xs := [.t 0] },
  { dst := some 20, k := (.bin .quo), xs := [.t 19, .c (.d (.int .u64 256))] },
  { dst := some 0, k := .mv, xs := [.t 20] }]
def F21c19 : Ac := (.ops F21o19)
def F21o20 : List Ao := [
  { dst := some 10, k := .mv, xs := [.t 6] },
  { dst := some 11, k := (.bin .add), xs := [.t 10, .c (.d (.int .i64 1))] },
  { dst := some 6, k := .mv, xs := [.t 11] }]
def F21c20 : Ac := (.ops F21o20)
def F21c15 : Ac := (.seq (.block 1 (.seq (.ops F21o18) F21c19)) F21c20)
def F21l8 : Ac := (.seq (.seq (.ops F21o11) F21c12) F21c15)
def F21c7 : Ac := (.block 0 (.loop (.seq (.gh []) (.seq (.keep [0, 1, 5, 6] []) F21l8))))
def F21o22 : List Ao := [
  { dst := some 21, k := .mv, xs := [.t 5] },
  { dst := some 4, k := .mv, xs := [.t 21] }]
def F21c23 : Ac := .ret
def F21b21 : Ac := (.seq (.ops F21o22) F21c23)
def F21c21 : Ac := (.seq (.gh []) (.seq (.keep [5] []) F21b21))
def F21c4 : Ac := (.seq (.seq (.ops F21o6) F21c7) F21c21)
def F21c2 : Ac := (.seq (.ops F21o3) F21c4)
def F21c0 : Ac := (.seq (.ops F21o1) F21c2)
/-- hansom/hansomref18.Bytes -/
def F21 : Fn := { np := 2, pb := [], rs := [.t 4], body := F21c0 }
def F25o1 : List Ao := [
  { dst := some 2, k := .mv, xs := [.c (.nilp)] }]
def F25o3 : List Ao := [
  { dst := some 3, k := .mv, xs := [.t 0] },
  { dst := some 4, k := (.append 1 1 false), xs := [.c (.nils), .t 3] },
  { dst := some 5, k := (.build [.nils, .d (.int .i64 0)] [(0, 1)]), xs := [.t 4] },
  { dst := some 6, k := (.box 2), xs := [.t 5] },
  { dst := some 2, k := .mv, xs := [.t 6] }]
def F25c4 : Ac := (.seq (.gh [.frzB [6] 0]) .ret)
def F25c2 : Ac := (.seq (.ops F25o3) F25c4)
def F25c0 : Ac := (.seq (.ops F25o1) F25c2)
/-- hansom/index.From -/
def F25 : Fn := { np := 1, pb := [], rs := [.t 2], body := F25c0 }
def F26o1 : List Ao := [
  { dst := some 4, k := .mv, xs := [.c (.nils)] }]
def F26o4 : List Ao := [
  { dst := some 6, k := .mv, xs := [.t 0] },
  { dst := some 7, k := (.eqp false), xs := [.t 6, .c (.nilp)] }]
def F26o7 : List Ao := [
  { dst := some 4, k := .mv, xs := [.c (.nils)] }]
def F26c8 : Ac := .ret
def F26c5 : Ac := (.cond (.t 7) (.seq (.ops F26o7) F26c8) .skip)
def F26o12 : List Ao := [
  { dst := some 8, k := .mv, xs := [.t 1] },
  { dst := some 9, k := (.bin .lss), xs := [.t 8, .c (.d (.int .i64 0))] },
  { dst := some 10, k := .mv, xs := [.t 9] },
  { dst := some 11, k := .mv, xs := [.t 1], g := some (10, false) },
  { dst := some 12, k := .mv, xs := [.t 0], g := some (10, false) },
  { dst := some 13, k := .nilchk, xs := [.t 12], g := some (10, false) },
  { dst := some 14, k := (.faddr 0), xs := [.t 13], g := some (10, false) },
  { dst := some 15, k := (.load none), xs := [.t 14], g := some (10, false) },
  { dst := some 16, k := .lenL, xs := [.t 15], g := some (10, false) },
  { dst := some 17, k := (.bin .gtr), xs := [.t 11, .t 16], g := some (10, false) },
  { dst := some 18, k := .pick, xs := [.t 10, .c (.d (.bool true)), .t 17] }]
def F26o15 : List Ao := [
  { dst := some 19, k := .mv, xs := [.t 0] },
  { dst := some 20, k := (.callf 27), xs := [.t 19, .c (.d (.int .i64 2))] }]
def F26o17 : List Ao := [
  { dst := some 4, k := .mv, xs := [.c (.nils)] }]
def F26c18 : Ac := (.seq (.gh [.frz 4]) .ret)
def F26c16 : Ac := (.seq (.ops F26o17) F26c18)
def F26c13 : Ac := (.cond (.t 18) (.seq (.ops F26o15) F26c16) .skip)
def F26o21 : List Ao := [
  { dst := some 21, k := .mv, xs := [.t 0] },
  { dst := some 22, k := .nilchk, xs := [.t 21] },
  { dst := some 23, k := (.faddr 0), xs := [.t 22] },
  { dst := some 24, k := (.load none), xs := [.t 23] },
  { dst := some 25, k := .mv, xs := [.t 1] },
  { dst := some 26, k := .mv, xs := [.t 1] },
  { dst := some 27, k := (.subsl 1 false true true), xs := [.t 24, .t 25, .t 26] },
  { dst := some 5, k := .mv, xs := [.t 27] }]
def F26o23 : List Ao := [
  { dst := some 28, k := .mv, xs := [.t 0] },
  { dst := some 29, k := .mv, xs := [.t 0] },
  { dst := some 30, k := .nilchk, xs := [.t 29] },
  { dst := some 31, k := (.faddr 0), xs := [.t 30] },
  { dst := some 32, k := (.load none), xs := [.t 31] },
  { dst := some 33, k := .mv, xs := [.t 1] },
  { dst := some 34, k := (.subsl 1 true false false), xs := [.t 32, .t 33] },
  { dst := some 35, k := .nilchk, xs := [.t 28] },
  { dst := some 36, k := (.faddr 0), xs := [.t 35] },
  { dst := none, k := (.store 1), xs := [.t 36, .t 34] }]
def F26o25 : List Ao := [
  { dst := some 37, k := .mv, xs := [.t 5] },
  { dst := some 4, k := .mv, xs := [.t 37] }]
def F26c26 : Ac := .ret
def F26c24 : Ac := (.seq (.ops F26o25) F26c26)
def F26c22 : Ac := (.seq (.ops F26o23) F26c24)
def F26c20 : Ac := (.seq (.ops F26o21) F26c22)
def F26c10 : Ac := (.seq (.seq (.ops F26o12) F26c13) F26c20)
def F26c2 : Ac := (.seq (.seq (.ops F26o4) F26c5) F26c10)
def F26c0 : Ac := (.seq (.ops F26o1) F26c2)
/-- (*hansom/index.Source).Take -/
def F26 : Fn := { np := 2, pb := [[0]], rs := [.t 4], body := F26c0 }
def F27o1 : List Ao := [
  { dst := some 4, k := .mv, xs := [.t 0] },
  { dst := some 5, k := (.eqp true), xs := [.t 4, .c (.nilp)] },
  { dst := some 6, k := .mv, xs := [.t 5] },
  { dst := some 7, k := .mv, xs := [.t 0], g := some (6, true) },
  { dst := some 8, k := .nilchk, xs := [.t 7], g := some (6, true) },
  { dst := some 9, k := (.faddr 1), xs := [.t 8], g := some (6, true) },
  { dst := some 10, k := (.load none), xs := [.t 9], g := some (6, true) },
  { dst := some 11, k := (.bin .eql), xs := [.t 10, .c (.d (.int .i64 0))], g := some (6, true) },
  { dst := some 12, k := .pick, xs := [.t 6, .t 11, .c (.d (.bool false))] },
  { dst := some 13, k := .mv, xs := [.t 12] },
  { dst := some 14, k := .mv, xs := [.t 1], g := some (13, true) },
  { dst := some 15, k := (.bin .neq), xs := [.t 14, .c (.d (.int .i64 0))], g := some (13, true) },
  { dst := some 16, k := .pick, xs := [.t 13, .t 15, .c (.d (.bool false))] }]
def F27o3 : List Ao := [
  { dst := some 17, k := .mv, xs := [.t 0] },
  { dst := some 18, k := .mv, xs := [.t 0] },
  { dst := some 19, k := .mv, xs := [.t 1] },
  { dst := some 20, k := .nilchk, xs := [.t 17] },
  { dst := some 21, k := (.faddr 1), xs := [.t 20] },
  { dst := none, k := (.store 1), xs := [.t 21, .t 19] },
  { dst := some 22, k := .nilchk, xs := [.t 18] },
  { dst := some 23, k := (.faddr 0), xs := [.t 22] },
  { dst := none, k := (.store 1), xs := [.t 23, .c (.nils)] }]
def F27c2 : Ac := (.cond (.t 16) (.ops F27o3) .skip)
def F27c0 : Ac := (.seq (.ops F27o1) F27c2)
/-- (*hansom/index.Source).Wrong -/
def F27 : Fn := { np := 2, pb := [[0]], rs := [], body := (.seq F27c0 (.gh [.frzB [0] 0])) }
def F28o1 : List Ao := [
  { dst := some 2, k := .mv, xs := [.c (.d (.int .i64 0))] }]
def F28o4 : List Ao := [
  { dst := some 3, k := .mv, xs := [.t 0] },
  { dst := some 4, k := (.eqp false), xs := [.t 3, .c (.nilp)] }]
def F28o7 : List Ao := [
  { dst := some 2, k := .mv, xs := [.c (.d (.int .i64 1))] }]
def F28c8 : Ac := .ret
def F28c5 : Ac := (.cond (.t 4) (.seq (.ops F28o7) F28c8) .skip)
def F28o11 : List Ao := [
  { dst := some 5, k := .mv, xs := [.t 0] },
  { dst := some 6, k := .nilchk, xs := [.t 5] },
  { dst := some 7, k := (.faddr 1), xs := [.t 6] },
  { dst := some 8, k := (.load none), xs := [.t 7] },
  { dst := some 2, k := .mv, xs := [.t 8] }]
def F28c12 : Ac := .ret
def F28c10 : Ac := (.seq (.ops F28o11) F28c12)
def F28c2 : Ac := (.seq (.seq (.ops F28o4) F28c5) F28c10)
def F28c0 : Ac := (.seq (.ops F28o1) F28c2)
/-- (*hansom/index.Source).Err -/
def F28 : Fn := { np := 1, pb := [[0]], rs := [.t 2], body := F28c0 }
def F29o1 : List Ao := [
  { dst := some 2, k := .mv, xs := [.c (.d (.int .i64 0))] }]
def F29o4 : List Ao := [
  { dst := some 3, k := .mv, xs := [.t 0] },
  { dst := some 4, k := (.eqp false), xs := [.t 3, .c (.nilp)] }]
def F29o7 : List Ao := [
  { dst := some 2, k := .mv, xs := [.c (.d (.int .i64 0))] }]
def F29c8 : Ac := .ret
def F29c5 : Ac := (.cond (.t 4) (.seq (.ops F29o7) F29c8) .skip)
def F29o11 : List Ao := [
  { dst := some 5, k := .mv, xs := [.t 0] },
  { dst := some 6, k := .nilchk, xs := [.t 5] },
  { dst := some 7, k := (.faddr 0), xs := [.t 6] },
  { dst := some 8, k := (.load none), xs := [.t 7] },
  { dst := some 9, k := .lenL, xs := [.t 8] },
  { dst := some 2, k := .mv, xs := [.t 9] }]
def F29c12 : Ac := .ret
def F29c10 : Ac := (.seq (.ops F29o11) F29c12)
def F29c2 : Ac := (.seq (.seq (.ops F29o4) F29c5) F29c10)
def F29c0 : Ac := (.seq (.ops F29o1) F29c2)
/-- (*hansom/index.Source).Left -/
def F29 : Fn := { np := 1, pb := [[0]], rs := [.t 2], body := F29c0 }
def F30o1 : List Ao := [
  { dst := some 2, k := .mv, xs := [.c (.d (.int .u16 0))] }]
def F30o4 : List Ao := [
  { dst := some 4, k := .mv, xs := [.t 0] },
  { dst := some 5, k := (.callf 26), xs := [.t 4, .c (.d (.int .i64 2))] },
  { dst := some 3, k := .mv, xs := [.t 5] }]
def F30o6 : List Ao := [
  { dst := some 6, k := .mv, xs := [.t 3] },
  { dst := some 7, k := .lenL, xs := [.t 6] },
  { dst := some 8, k := (.bin .eql), xs := [.t 7, .c (.d (.int .i64 2))] }]
def F30o9 : List Ao := [
  { dst := some 9, k := .mv, xs := [.t 3] },
  { dst := some 10, k := (.iaddrS 1), xs := [.t 9, .c (.d (.int .i64 0))] },
  { dst := some 11, k := (.load none), xs := [.t 10] },
  { dst := some 12, k := .mv, xs := [.t 3] },
  { dst := some 13, k := (.iaddrS 1), xs := [.t 12, .c (.d (.int .i64 1))] },
  { dst := some 14, k := (.load none), xs := [.t 13] },
  { dst := some 15, k := (.callf 69), xs := [.t 11, .t 14] },
  { dst := some 2, k := .mv, xs := [.t 15] }]
def F30c10 : Ac := .ret
def F30c7 : Ac := (.cond (.t 8) (.seq (.ops F30o9) F30c10) .skip)
def F30c5 : Ac := (.seq (.ops F30o6) F30c7)
def F30o13 : List Ao := [
  { dst := some 2, k := .mv, xs := [.c (.d (.int .u16 0))] }]
def F30c14 : Ac := .ret
def F30c12 : Ac := (.seq (.ops F30o13) F30c14)
def F30c2 : Ac := (.seq (.seq (.ops F30o4) F30c5) F30c12)
def F30c0 : Ac := (.seq (.ops F30o1) F30c2)
/-- (*hansom/index.Source).Word -/
def F30 : Fn := { np := 1, pb := [[0]], rs := [.t 2], body := F30c0 }
def F31o1 : List Ao := [
  { dst := some 2, k := .mv, xs := [.c (.d (.int .i64 0))] }]
def F31o3 : List Ao := [
  { dst := some 5, k := .mv, xs := [.t 0] },
  { dst := some 6, k := (.callf 35), xs := [.t 5] },
  { dst := some 7, k := (.toInt .i64), xs := [.t 6] },
  { dst := some 3, k := .mv, xs := [.t 7] }]
def F31o6 : List Ao := [
  { dst := some 8, k := .mv, xs := [.t 3] },
  { dst := some 9, k := (.bin .lss), xs := [.t 8, .c (.d (.int .i64 128))] }]
def F31o9 : List Ao := [
  { dst := some 10, k := .mv, xs := [.t 3] },
  { dst := some 2, k := .mv, xs := [.t 10] }]
def F31c10 : Ac := .ret
def F31c7 : Ac := (.cond (.t 9) (.seq (.ops F31o9) F31c10) .skip)
def F31o13 : List Ao := [
  { dst := some 11, k := .mv, xs := [.t 3] },
  { dst := some 12, k := (.bin .and), xs := [.t 11, .c (.d (.int .i64 127))] },
  { dst := some 13, k := (.bin .shl), xs := [.t 12, .c (.d (.int .u64 8))] },
  { dst := some 14, k := .mv, xs := [.t 0] },
  { dst := some 15, k := (.callf 35), xs := [.t 14] },
  { dst := some 16, k := (.toInt .i64), xs := [.t 15] },
  { dst := some 17, k := (.bin .or), xs := [.t 13, .t 16] },
  { dst := some 4, k := .mv, xs := [.t 17] }]
def F31o16 : List Ao := [
  { dst := some 18, k := .mv, xs := [.t 0] },
  { dst := some 19, k := (.callf 28), xs := [.t 18] },
  { dst := some 20, k := (.bin .neq), xs := [.t 19, .c (.d (.int .i64 0))] }]
def F31o19 : List Ao := [
  { dst := some 2, k := .mv, xs := [.c (.d (.int .i64 0))] }]
def F31c20 : Ac := .ret
def F31c17 : Ac := (.cond (.t 20) (.seq (.ops F31o19) F31c20) .skip)
def F31o23 : List Ao := [
  { dst := some 21, k := .mv, xs := [.t 4] },
  { dst := some 2, k := .mv, xs := [.t 21] }]
def F31c24 : Ac := .ret
def F31c22 : Ac := (.seq (.ops F31o23) F31c24)
def F31c14 : Ac := (.seq (.seq (.ops F31o16) F31c17) F31c22)
def F31c12 : Ac := (.seq (.ops F31o13) F31c14)
def F31c4 : Ac := (.seq (.seq (.ops F31o6) F31c7) F31c12)
def F31c2 : Ac := (.seq (.ops F31o3) F31c4)
def F31c0 : Ac := (.seq (.ops F31o1) F31c2)
/-- (*hansom/index.Source).Index -/
def F31 : Fn := { np := 1, pb := [[0]], rs := [.t 2], body := F31c0 }
def F34o1 : List Ao := [
  { dst := some 2, k := .mv, xs := [.c (.d (.int .i64 0))] }]
def F34o4 : List Ao := [
  { dst := some 3, k := .mv, xs := [.t 0] },
  { dst := some 4, k := (.callf 29), xs := [.t 3] },
  { dst := some 5, k := (.bin .gtr), xs := [.t 4, .c (.d (.int .i64 0))] }]
def F34o6 : List Ao := [
  { dst := some 6, k := .mv, xs := [.t 0] },
  { dst := some 7, k := (.callf 27), xs := [.t 6, .c (.d (.int .i64 3))] }]
def F34c5 : Ac := (.cond (.t 5) (.ops F34o6) .skip)
def F34o9 : List Ao := [
  { dst := some 8, k := .mv, xs := [.t 0] },
  { dst := some 9, k := (.callf 28), xs := [.t 8] },
  { dst := some 2, k := .mv, xs := [.t 9] }]
def F34c10 : Ac := .ret
def F34c8 : Ac := (.seq (.ops F34o9) F34c10)
def F34c2 : Ac := (.seq (.seq (.ops F34o4) F34c5) F34c8)
def F34c0 : Ac := (.seq (.ops F34o1) F34c2)
/-- (*hansom/index.Source).End -/
def F34 : Fn := { np := 1, pb := [[0]], rs := [.t 2], body := F34c0 }
def F35o1 : List Ao := [
  { dst := some 2, k := .mv, xs := [.c (.d (.int .u8 0))] }]
def F35o4 : List Ao := [
  { dst := some 4, k := .mv, xs := [.t 0] },
  { dst := some 5, k := (.callf 26), xs := [.t 4, .c (.d (.int .i64 1))] },
  { dst := some 3, k := .mv, xs := [.t 5] }]
def F35o6 : List Ao := [
  { dst := some 6, k := .mv, xs := [.t 3] },
  { dst := some 7, k := .lenL, xs := [.t 6] },
  { dst := some 8, k := (.bin .eql), xs := [.t 7, .c (.d (.int .i64 1))] }]
def F35o9 : List Ao := [
  { dst := some 9, k := .mv, xs := [.t 3] },
  { dst := some 10, k := (.iaddrS 1), xs := [.t 9, .c (.d (.int .i64 0))] },
  { dst := some 11, k := (.load none), xs := [.t 10] },
  { dst := some 2, k := .mv, xs := [.t 11] }]
def F35c10 : Ac := .ret
def F35c7 : Ac := (.cond (.t 8) (.seq (.ops F35o9) F35c10) .skip)
def F35c5 : Ac := (.seq (.ops F35o6) F35c7)
def F35o13 : List Ao := [
  { dst := some 2, k := .mv, xs := [.c (.d (.int .u8 0))] }]
def F35c14 : Ac := .ret
def F35c12 : Ac := (.seq (.ops F35o13) F35c14)
def F35c2 : Ac := (.seq (.seq (.ops F35o4) F35c5) F35c12)
def F35c0 : Ac := (.seq (.ops F35o1) F35c2)
/-- (*hansom/index.Source).Byte -/
def F35 : Fn := { np := 1, pb := [[0]], rs := [.t 2], body := F35c0 }
def F56o1 : List Ao := [
  { dst := some 2, k := (.box 8), xs := [.t 0] },
  { dst := some 4, k := (.alloc [.d (.int .i64 0), .d (.int .i64 0), .d (.int .u16 0), .d (.int .u8 0), .d (.int .i64 0), .d (.int .i64 0), .d (.int .i64 0), .d (.int .i64 0)]), xs := [] }]
def F56o3 : List Ao := [
  { dst := some 6, k := (.faddr 0), xs := [.t 2] },
  { dst := some 7, k := (.load none), xs := [.t 6], av := [[10], [5]] },
  { dst := some 8, k := (.bin .and), xs := [.t 7, .c (.d (.int .i64 255))] },
  { dst := some 9, k := (.bin .rem), xs := [.t 8, .c (.d (.int .i64 5))] },
  { dst := some 10, k := (.bslice (.int .i64 0) 4 [0, 1, 2, 3]), xs := [.c (.d (.int .i64 0)), .c (.d (.int .i64 2)), .c (.d (.int .i64 5)), .c (.d (.int .i64 6))], av := [[5]] },
  { dst := some 11, k := (.faddr 1), xs := [.t 2] },
  { dst := some 12, k := (.load none), xs := [.t 11], av := [[10], [5]] },
  { dst := some 13, k := (.bin .and), xs := [.t 12, .c (.d (.int .i64 3))] },
  { dst := some 14, k := (.iaddrS 1), xs := [.t 10, .t 13] },
  { dst := some 15, k := (.load none), xs := [.t 14], av := [[5]] },
  { dst := some 16, k := (.faddr 4), xs := [.t 2] },
  { dst := some 17, k := (.load none), xs := [.t 16], av := [[10], [5]] },
  { dst := some 18, k := (.bin .and), xs := [.t 17, .c (.d (.int .i64 131071))] },
  { dst := some 19, k := (.bin .rem), xs := [.t 18, .c (.d (.int .i64 65537))] },
  { dst := some 20, k := (.faddr 5), xs := [.t 2] },
  { dst := some 21, k := (.load none), xs := [.t 20], av := [[10], [5]] },
  { dst := some 22, k := (.bin .and), xs := [.t 21, .c (.d (.int .i64 32767))] },
  { dst := some 23, k := (.faddr 6), xs := [.t 2] },
  { dst := some 24, k := (.load none), xs := [.t 23], av := [[10], [5]] },
  { dst := some 25, k := (.bin .and), xs := [.t 24, .c (.d (.int .i64 255))] },
  { dst := some 26, k := (.faddr 7), xs := [.t 2] },
  { dst := some 27, k := (.load none), xs := [.t 26], av := [[10], [5]] },
  { dst := some 28, k := (.bin .and), xs := [.t 27, .c (.d (.int .i64 255))] },
  { dst := some 29, k := (.build [.d (.int .i64 0), .d (.int .i64 0), .d (.int .u16 0), .d (.int .u8 0), .d (.int .i64 0), .d (.int .i64 0), .d (.int .i64 0), .d (.int .i64 0)] [(0, 1), (1, 1), (4, 1), (5, 1), (6, 1), (7, 1)]), xs := [.t 9, .t 15, .t 19, .t 22, .t 25, .t 28] },
  { dst := some 5, k := (.alloc [.d (.int .i64 0), .d (.int .i64 0), .d (.int .u16 0), .d (.int .u8 0), .d (.int .i64 0), .d (.int .i64 0), .d (.int .i64 0), .d (.int .i64 0)]), xs := [], av := [[10]] },
  { dst := none, k := (.store 8), xs := [.t 5, .t 29] }]
def F56o6 : List Ao := [
  { dst := some 30, k := (.faddr 0), xs := [.t 5] },
  { dst := some 31, k := (.load none), xs := [.t 30] },
  { dst := some 32, k := (.bin .eql), xs := [.t 31, .c (.d (.int .i64 0))] }]
def F56o8 : List Ao := [
  { dst := some 33, k := (.faddr 2), xs := [.t 2] },
  { dst := some 34, k := (.load none), xs := [.t 33] },
  { dst := some 35, k := (.faddr 3), xs := [.t 2] },
  { dst := some 36, k := (.load none), xs := [.t 35], av := [[5]] },
  { dst := some 37, k := (.faddr 2), xs := [.t 5] },
  { dst := none, k := (.store 1), xs := [.t 37, .t 34], al := some [[5]] },
  { dst := some 38, k := (.faddr 3), xs := [.t 5] },
  { dst := none, k := (.store 1), xs := [.t 38, .t 36] }]
def F56c7 : Ac := (.cond (.t 32) (.ops F56o8) .skip)
def F56o12 : List Ao := [
  { dst := some 39, k := .mv, xs := [.t 1] },
  { dst := some 40, k := (.bin .and), xs := [.t 39, .c (.d (.int .i64 15))] }]
def F56o15 : List Ao := [
  { dst := some 42, k := (.bin .eql), xs := [.t 40, .c (.d (.int .i64 0))] },
  { dst := some 41, k := .mv, xs := [.t 42] }]
def F56o17 : List Ao := [
  { dst := some 43, k := (.faddr 0), xs := [.t 2] },
  { dst := some 44, k := (.load none), xs := [.t 43] },
  { dst := some 45, k := (.faddr 0), xs := [.t 5] },
  { dst := none, k := (.store 1), xs := [.t 45, .t 44] }]
def F56o19 : List Ao := [
  { dst := some 47, k := (.bin .eql), xs := [.t 40, .c (.d (.int .i64 1))] },
  { dst := some 46, k := .mv, xs := [.t 47] }]
def F56o21 : List Ao := [
  { dst := some 48, k := (.faddr 1), xs := [.t 2] },
  { dst := some 49, k := (.load none), xs := [.t 48] },
  { dst := some 50, k := (.faddr 1), xs := [.t 5] },
  { dst := none, k := (.store 1), xs := [.t 50, .t 49] }]
def F56o23 : List Ao := [
  { dst := some 52, k := (.bin .eql), xs := [.t 40, .c (.d (.int .i64 2))] },
  { dst := some 51, k := .mv, xs := [.t 52] }]
def F56o25 : List Ao := [
  { dst := some 53, k := (.faddr 4), xs := [.t 2] },
  { dst := some 54, k := (.load none), xs := [.t 53] },
  { dst := some 55, k := (.faddr 4), xs := [.t 5] },
  { dst := none, k := (.store 1), xs := [.t 55, .t 54] }]
def F56o27 : List Ao := [
  { dst := some 57, k := (.bin .eql), xs := [.t 40, .c (.d (.int .i64 3))] },
  { dst := some 56, k := .mv, xs := [.t 57] }]
def F56o29 : List Ao := [
  { dst := some 58, k := (.faddr 5), xs := [.t 2] },
  { dst := some 59, k := (.load none), xs := [.t 58] },
  { dst := some 60, k := (.faddr 5), xs := [.t 5] },
  { dst := none, k := (.store 1), xs := [.t 60, .t 59] }]
def F56o31 : List Ao := [
  { dst := some 62, k := (.bin .eql), xs := [.t 40, .c (.d (.int .i64 4))] },
  { dst := some 61, k := .mv, xs := [.t 62] }]
def F56o33 : List Ao := [
  { dst := some 63, k := (.faddr 2), xs := [.t 2] },
  { dst := some 64, k := (.load none), xs := [.t 63] },
  { dst := some 65, k := (.faddr 3), xs := [.t 2] },
  { dst := some 66, k := (.load none), xs := [.t 65], av := [[5]] },
  { dst := some 67, k := (.faddr 2), xs := [.t 5] },
  { dst := none, k := (.store 1), xs := [.t 67, .t 64], al := some [[5]] },
  { dst := some 68, k := (.faddr 3), xs := [.t 5] },
  { dst := none, k := (.store 1), xs := [.t 68, .t 66] }]
def F56o35 : List Ao := [
  { dst := some 70, k := (.bin .eql), xs := [.t 40, .c (.d (.int .i64 5))] },
  { dst := some 69, k := .mv, xs := [.t 70] }]
def F56o37 : List Ao := [
  { dst := some 71, k := (.faddr 4), xs := [.t 5] },
  { dst := none, k := (.store 1), xs := [.t 71, .c (.d (.int .i64 65536))] }]
def F56c36 : Ac := (.cond (.t 69) (.ops F56o37) .skip)
def F56c32 : Ac := (.cond (.t 61) (.ops F56o33) (.seq (.ops F56o35) F56c36))
def F56c28 : Ac := (.cond (.t 56) (.ops F56o29) (.seq (.ops F56o31) F56c32))
def F56c24 : Ac := (.cond (.t 51) (.ops F56o25) (.seq (.ops F56o27) F56c28))
def F56c20 : Ac := (.cond (.t 46) (.ops F56o21) (.seq (.ops F56o23) F56c24))
def F56c16 : Ac := (.cond (.t 41) (.ops F56o17) (.seq (.ops F56o19) F56c20))
def F56c13 : Ac := (.block 0 (.seq (.ops F56o15) F56c16))
def F56o40 : List Ao := [
  { dst := some 72, k := (.load (some 8)), xs := [.t 5] },
  { dst := none, k := (.store 8), xs := [.t 4, .t 72] }]
def F56c41 : Ac := .ret
def F56c39 : Ac := (.seq (.ops F56o40) F56c41)
def F56b10 : Ac := (.seq (.seq (.ops F56o12) F56c13) F56c39)
def F56c10 : Ac := (.seq (.gh []) (.seq (.keep [1, 2, 4, 5] [[2], [4], [5]]) F56b10))
def F56c4 : Ac := (.seq (.seq (.ops F56o6) F56c7) F56c10)
def F56c2 : Ac := (.seq (.ops F56o3) F56c4)
def F56c0 : Ac := (.seq (.ops F56o1) F56c2)
/-- hansom/hansomlaw21.near -/
def F56 : Fn := { np := 2, pb := [], rs := [.c 4 (some 8)], body := F56c0 }
def F57o1 : List Ao := [
  { dst := some 1, k := (.box 8), xs := [.t 0] },
  { dst := some 2, k := (.alloc [.d (.int .u8 0), .nils]), xs := [] },
  { dst := some 3, k := .mv, xs := [.c (.d (.bool false))] }]
def F57o4 : List Ao := [
  { dst := some 8, k := (.load (some 8)), xs := [.t 1] },
  { dst := some 9, k := (.callf 59), xs := [.t 8] },
  { dst := some 10, k := (.un .not), xs := [.t 9] }]
def F57o7 : List Ao := [
  { dst := some 11, k := (.build [.d (.int .u8 0), .nils] []), xs := [] },
  { dst := none, k := (.store 2), xs := [.t 2, .t 11] },
  { dst := some 3, k := .mv, xs := [.c (.d (.bool false))] }]
def F57c8 : Ac := (.seq (.gh [.frzB [2] 1]) .ret)
def F57c5 : Ac := (.cond (.t 10) (.seq (.ops F57o7) F57c8) .skip)
def F57o11 : List Ao := [
  { dst := some 12, k := (.faddr 0), xs := [.t 1] },
  { dst := some 13, k := (.load none), xs := [.t 12] },
  { dst := some 14, k := (.bin .shl), xs := [.t 13, .c (.d (.int .u64 5))] },
  { dst := some 15, k := (.faddr 1), xs := [.t 1] },
  { dst := some 16, k := (.load none), xs := [.t 15] },
  { dst := some 17, k := (.bin .shl), xs := [.t 16, .c (.d (.int .u64 2))] },
  { dst := some 18, k := (.bin .or), xs := [.t 14, .t 17] },
  { dst := some 19, k := (.toInt .u8), xs := [.t 18] },
  { dst := some 4, k := .mv, xs := [.t 19] }]
def F57o14 : List Ao := [
  { dst := some 20, k := (.faddr 4), xs := [.t 1] },
  { dst := some 21, k := (.load none), xs := [.t 20] },
  { dst := some 22, k := (.bin .eql), xs := [.t 21, .c (.d (.int .i64 65536))] }]
def F57o16 : List Ao := [
  { dst := some 23, k := .mv, xs := [.t 4] },
  { dst := some 24, k := (.bin .or), xs := [.t 23, .c (.d (.int .u8 2))] },
  { dst := some 4, k := .mv, xs := [.t 24] }]
def F57c15 : Ac := (.cond (.t 22) (.ops F57o16) .skip)
def F57o19 : List Ao := [
  { dst := some 25, k := .mv, xs := [.t 4] },
  { dst := some 26, k := (.bslice (.int .u8 0) 1 [0]), xs := [.t 25] },
  { dst := some 5, k := .mv, xs := [.t 26] }]
def F57o22 : List Ao := [
  { dst := some 27, k := (.faddr 0), xs := [.t 1] },
  { dst := some 28, k := (.load none), xs := [.t 27] },
  { dst := some 29, k := (.bin .eql), xs := [.t 28, .c (.d (.int .i64 0))] }]
def F57o24 : List Ao := [
  { dst := some 30, k := .mv, xs := [.t 5] },
  { dst := some 31, k := (.faddr 2), xs := [.t 1] },
  { dst := some 32, k := (.load none), xs := [.t 31], av := [[37]] },
  { dst := some 33, k := (.callf 20), xs := [.t 32], av := [[37]], al := some [] },
  { dst := some 34, k := (.append 1 1 false), xs := [.t 30, .t 33], av := [[37]], al := some [[26], [34], [38], [44], [58]] },
  { dst := some 35, k := (.faddr 3), xs := [.t 1] },
  { dst := some 36, k := (.load none), xs := [.t 35], av := [[33], [34], [26], [38], [44], [58]] },
  { dst := some 37, k := (.bslice (.int .u8 0) 1 [0]), xs := [.t 36], av := [[33], [34], [26], [38], [44], [58]] },
  { dst := some 38, k := (.append 1 1 false), xs := [.t 34, .t 37] },
  { dst := some 5, k := .mv, xs := [.t 38] }]
def F57c23 : Ac := (.cond (.t 29) (.ops F57o24) .skip)
def F57o27 : List Ao := [
  { dst := some 39, k := .mv, xs := [.t 5] },
  { dst := some 40, k := (.faddr 4), xs := [.t 1] },
  { dst := some 41, k := (.load none), xs := [.t 40] },
  { dst := some 42, k := (.toInt .u16), xs := [.t 41] },
  { dst := some 43, k := (.callf 20), xs := [.t 42] },
  { dst := some 44, k := (.append 1 1 false), xs := [.t 39, .t 43] },
  { dst := some 5, k := .mv, xs := [.t 44] }]
def F57o30 : List Ao := [
  { dst := some 45, k := (.faddr 5), xs := [.t 1] },
  { dst := some 46, k := (.load none), xs := [.t 45] },
  { dst := some 47, k := (.faddr 6), xs := [.t 1] },
  { dst := some 48, k := (.load none), xs := [.t 47] },
  { dst := some 49, k := (.faddr 7), xs := [.t 1] },
  { dst := some 50, k := (.load none), xs := [.t 49] },
  { dst := some 51, k := (.build [.d (.int .i64 0), .d (.int .i64 0), .d (.int .i64 0)] [(0, 1), (1, 1), (2, 1)]), xs := [.t 46, .t 48, .t 50] },
  { dst := some 52, k := .mv, xs := [.c (.d (.int .i64 0))] }]
def F57o34 : List Ao := [
  { dst := some 53, k := (.bin .lss), xs := [.t 52, .c (.d (.int .i64 3))] }]
def F57o42 : List Ao := [
  { dst := some 54, k := (.indexA 3 1 none), xs := [.t 51, .t 52] },
  { dst := some 7, k := .mv, xs := [.t 54] }]
def F57o43 : List Ao := [
  { dst := some 55, k := .mv, xs := [.t 5] },
  { dst := some 56, k := .mv, xs := [.t 7] },
  { dst := some 57, k := (.callf 16), xs := [.t 56] },
  { dst := some 58, k := (.append 1 1 false), xs := [.t 55, .t 57] },
  { dst := some 5, k := .mv, xs := [.t 58] }]
def F57c43 : Ac := (.ops F57o43)
def F57o44 : List Ao := [
  { dst := some 59, k := (.bin .add), xs := [.t 52, .c (.d (.int .i64 1))] },
  { dst := some 52, k := .mv, xs := [.t 59] }]
def F57c44 : Ac := (.ops F57o44)
def F57c39 : Ac := (.seq (.block 1 (.seq (.ops F57o42) F57c43)) F57c44)
def F57c35 : Ac := (.seq (.cond (.t 53) .skip (.exit 0)) F57c39)
def F57l32 : Ac := (.seq (.ops F57o34) F57c35)
def F57c31 : Ac := (.block 0 (.loop (.seq (.gh []) (.seq (.keep [2, 5, 51, 52] [[2], [26]]) F57l32))))
def F57o46 : List Ao := [
  { dst := some 60, k := .mv, xs := [.t 5] },
  { dst := some 61, k := (.build [.d (.int .u8 0), .nils] [(0, 1), (1, 1)]), xs := [.c (.d (.int .u8 152)), .t 60] },
  { dst := none, k := (.store 2), xs := [.t 2, .t 61] },
  { dst := some 3, k := .mv, xs := [.c (.d (.bool true))] }]
def F57c47 : Ac := (.seq (.gh [.frzB [2] 1]) .ret)
def F57b45 : Ac := (.seq (.ops F57o46) F57c47)
def F57c45 : Ac := (.seq (.gh []) (.seq (.keep [2, 5] [[2], [26]]) F57b45))
def F57c28 : Ac := (.seq (.seq (.ops F57o30) F57c31) F57c45)
def F57b26 : Ac := (.seq (.ops F57o27) F57c28)
def F57c26 : Ac := (.seq (.gh []) (.seq (.keep [1, 2, 5] [[1], [2], [26]]) F57b26))
def F57c20 : Ac := (.seq (.seq (.ops F57o22) F57c23) F57c26)
def F57b18 : Ac := (.seq (.ops F57o19) F57c20)
def F57c18 : Ac := (.seq (.gh []) (.seq (.keep [1, 2, 4] [[1], [2]]) F57b18))
def F57c12 : Ac := (.seq (.seq (.ops F57o14) F57c15) F57c18)
def F57c10 : Ac := (.seq (.ops F57o11) F57c12)
def F57c2 : Ac := (.seq (.seq (.ops F57o4) F57c5) F57c10)
def F57c0 : Ac := (.seq (.ops F57o1) F57c2)
/-- hansom/segs.Segment -/
def F57 : Fn := { np := 1, pb := [], rs := [.c 2 (some 2), .t 3], body := F57c0 }
def F58o1 : List Ao := [
  { dst := some 0, k := .mv, xs := [.c (.d (.bool false))] }]
def F58o3 : List Ao := [
  { dst := some 6, k := (.build [.d (.int .i64 0), .d (.int .i64 0), .d (.int .u16 0), .d (.int .u8 0), .d (.int .i64 0), .d (.int .i64 0), .d (.int .i64 0), .d (.int .i64 0)] [(0, 1), (1, 1), (4, 1), (5, 1)]), xs := [.c (.d (.int .i64 3)), .c (.d (.int .i64 2)), .c (.d (.int .i64 5)), .c (.d (.int .i64 2))] },
  { dst := some 7, k := (.callf 57), xs := [.t 6] },
  { dst := some 5, k := .mv, xs := [.t 7] },
  { dst := some 8, k := (.extract 0), xs := [.t 5] },
  { dst := some 9, k := (.extract 1), xs := [.t 5] },
  { dst := some 1, k := (.alloc [.d (.int .u8 0), .nils]), xs := [] },
  { dst := none, k := (.store 2), xs := [.t 1, .t 8] },
  { dst := some 2, k := .mv, xs := [.t 9] }]
def F58o5 : List Ao := [
  { dst := some 11, k := (.faddr 1), xs := [.t 1] },
  { dst := some 12, k := (.load none), xs := [.t 11] },
  { dst := some 13, k := (.callf 61), xs := [.t 12] },
  { dst := some 10, k := .mv, xs := [.t 13] },
  { dst := some 14, k := (.extract 0), xs := [.t 10] },
  { dst := some 15, k := (.extract 1), xs := [.t 10] },
  { dst := some 3, k := (.alloc [.d (.int .i64 0), .d (.int .i64 0), .d (.int .u16 0), .d (.int .u8 0), .d (.int .i64 0), .d (.int .i64 0), .d (.int .i64 0), .d (.int .i64 0)]), xs := [] },
  { dst := none, k := (.store 8), xs := [.t 3, .t 14] },
  { dst := some 4, k := .mv, xs := [.t 15] }]
def F58o7 : List Ao := [
  { dst := some 16, k := .mv, xs := [.t 2] },
  { dst := some 17, k := .mv, xs := [.t 16] },
  { dst := some 18, k := .mv, xs := [.t 4], g := some (17, true) },
  { dst := some 19, k := (.bin .eql), xs := [.t 18, .c (.d (.int .i64 0))], g := some (17, true) },
  { dst := some 20, k := .pick, xs := [.t 17, .t 19, .c (.d (.bool false))] },
  { dst := some 21, k := .mv, xs := [.t 20] },
  { dst := some 22, k := (.faddr 4), xs := [.t 3], g := some (21, true) },
  { dst := some 23, k := (.load none), xs := [.t 22], g := some (21, true) },
  { dst := some 24, k := (.bin .eql), xs := [.t 23, .c (.d (.int .i64 5))], g := some (21, true) },
  { dst := some 25, k := .pick, xs := [.t 21, .t 24, .c (.d (.bool false))] },
  { dst := some 26, k := .mv, xs := [.t 25] },
  { dst := some 27, k := (.faddr 5), xs := [.t 3], g := some (26, true) },
  { dst := some 28, k := (.load none), xs := [.t 27], g := some (26, true) },
  { dst := some 29, k := (.bin .eql), xs := [.t 28, .c (.d (.int .i64 2))], g := some (26, true) },
  { dst := some 30, k := .pick, xs := [.t 26, .t 29, .c (.d (.bool false))] },
  { dst := some 31, k := .mv, xs := [.t 30] },
  { dst := some 32, k := (.callf 66), xs := [.c (.d (.int .i64 4))], g := some (31, true) },
  { dst := some 33, k := (.bin .eql), xs := [.t 32, .c (.d (.int .i64 256))], g := some (31, true) },
  { dst := some 34, k := .pick, xs := [.t 31, .t 33, .c (.d (.bool false))] },
  { dst := some 0, k := .mv, xs := [.t 34] }]
def F58c8 : Ac := .ret
def F58c6 : Ac := (.seq (.ops F58o7) F58c8)
def F58c4 : Ac := (.seq (.ops F58o5) F58c6)
def F58c2 : Ac := (.seq (.ops F58o3) F58c4)
def F58c0 : Ac := (.seq (.ops F58o1) F58c2)
/-- hansom/hansomlaw21.awake -/
def F58 : Fn := { np := 0, pb := [], rs := [.t 0], body := F58c0 }
def F59o1 : List Ao := [
  { dst := some 1, k := (.box 8), xs := [.t 0] },
  { dst := some 2, k := .mv, xs := [.c (.d (.bool false))] }]
def F59o4 : List Ao := [
  { dst := some 5, k := (.faddr 0), xs := [.t 1] },
  { dst := some 6, k := (.load none), xs := [.t 5] },
  { dst := some 7, k := (.bin .lss), xs := [.t 6, .c (.d (.int .i64 0))] },
  { dst := some 8, k := .mv, xs := [.t 7] },
  { dst := some 9, k := (.faddr 0), xs := [.t 1], g := some (8, false) },
  { dst := some 10, k := (.load none), xs := [.t 9], g := some (8, false) },
  { dst := some 11, k := (.bin .gtr), xs := [.t 10, .c (.d (.int .i64 4))], g := some (8, false) },
  { dst := some 12, k := .pick, xs := [.t 8, .c (.d (.bool true)), .t 11] },
  { dst := some 13, k := .mv, xs := [.t 12] },
  { dst := some 14, k := (.faddr 4), xs := [.t 1], g := some (13, false) },
  { dst := some 15, k := (.load none), xs := [.t 14], g := some (13, false) },
  { dst := some 16, k := (.bin .lss), xs := [.t 15, .c (.d (.int .i64 0))], g := some (13, false) },
  { dst := some 17, k := .pick, xs := [.t 13, .c (.d (.bool true)), .t 16] },
  { dst := some 18, k := .mv, xs := [.t 17] },
  { dst := some 19, k := (.faddr 4), xs := [.t 1], g := some (18, false) },
  { dst := some 20, k := (.load none), xs := [.t 19], g := some (18, false) },
  { dst := some 21, k := (.bin .gtr), xs := [.t 20, .c (.d (.int .i64 65536))], g := some (18, false) },
  { dst := some 22, k := .pick, xs := [.t 18, .c (.d (.bool true)), .t 21] }]
def F59o7 : List Ao := [
  { dst := some 2, k := .mv, xs := [.c (.d (.bool false))] }]
def F59c8 : Ac := .ret
def F59c5 : Ac := (.cond (.t 22) (.seq (.ops F59o7) F59c8) .skip)
def F59o12 : List Ao := [
  { dst := some 23, k := (.faddr 1), xs := [.t 1] },
  { dst := some 24, k := (.load none), xs := [.t 23] },
  { dst := some 25, k := (.bin .neq), xs := [.t 24, .c (.d (.int .i64 0))] },
  { dst := some 26, k := .mv, xs := [.t 25] },
  { dst := some 27, k := (.faddr 1), xs := [.t 1], g := some (26, true) },
  { dst := some 28, k := (.load none), xs := [.t 27], g := some (26, true) },
  { dst := some 29, k := (.bin .neq), xs := [.t 28, .c (.d (.int .i64 2))], g := some (26, true) },
  { dst := some 30, k := .pick, xs := [.t 26, .t 29, .c (.d (.bool false))] },
  { dst := some 31, k := .mv, xs := [.t 30] },
  { dst := some 32, k := (.faddr 1), xs := [.t 1], g := some (31, true) },
  { dst := some 33, k := (.load none), xs := [.t 32], g := some (31, true) },
  { dst := some 34, k := (.bin .neq), xs := [.t 33, .c (.d (.int .i64 5))], g := some (31, true) },
  { dst := some 35, k := .pick, xs := [.t 31, .t 34, .c (.d (.bool false))] },
  { dst := some 36, k := .mv, xs := [.t 35] },
  { dst := some 37, k := (.faddr 1), xs := [.t 1], g := some (36, true) },
  { dst := some 38, k := (.load none), xs := [.t 37], g := some (36, true) },
  { dst := some 39, k := (.bin .neq), xs := [.t 38, .c (.d (.int .i64 6))], g := some (36, true) },
  { dst := some 40, k := .pick, xs := [.t 36, .t 39, .c (.d (.bool false))] }]
def F59o15 : List Ao := [
  { dst := some 2, k := .mv, xs := [.c (.d (.bool false))] }]
def F59c16 : Ac := .ret
def F59c13 : Ac := (.cond (.t 40) (.seq (.ops F59o15) F59c16) .skip)
def F59o20 : List Ao := [
  { dst := some 41, k := (.faddr 0), xs := [.t 1] },
  { dst := some 42, k := (.load none), xs := [.t 41] },
  { dst := some 43, k := (.bin .neq), xs := [.t 42, .c (.d (.int .i64 0))] },
  { dst := some 44, k := .mv, xs := [.t 43] },
  { dst := some 45, k := (.faddr 2), xs := [.t 1], g := some (44, true) },
  { dst := some 46, k := (.load none), xs := [.t 45], g := some (44, true) },
  { dst := some 47, k := (.bin .neq), xs := [.t 46, .c (.d (.int .u16 0))], g := some (44, true) },
  { dst := some 48, k := .mv, xs := [.t 47], g := some (44, true) },
  { dst := some 49, k := (.faddr 3), xs := [.t 1], g := some (48, false) },
  { dst := some 50, k := (.load none), xs := [.t 49], g := some (48, false) },
  { dst := some 51, k := (.bin .neq), xs := [.t 50, .c (.d (.int .u8 0))], g := some (48, false) },
  { dst := some 52, k := .pick, xs := [.t 48, .c (.d (.bool true)), .t 51], g := some (44, true) },
  { dst := some 53, k := .pick, xs := [.t 44, .t 52, .c (.d (.bool false))] }]
def F59o23 : List Ao := [
  { dst := some 2, k := .mv, xs := [.c (.d (.bool false))] }]
def F59c24 : Ac := .ret
def F59c21 : Ac := (.cond (.t 53) (.seq (.ops F59o23) F59c24) .skip)
def F59o28 : List Ao := [
  { dst := some 54, k := (.faddr 5), xs := [.t 1] },
  { dst := some 55, k := (.load none), xs := [.t 54] },
  { dst := some 56, k := (.faddr 6), xs := [.t 1] },
  { dst := some 57, k := (.load none), xs := [.t 56] },
  { dst := some 58, k := (.faddr 7), xs := [.t 1] },
  { dst := some 59, k := (.load none), xs := [.t 58] },
  { dst := some 60, k := (.build [.d (.int .i64 0), .d (.int .i64 0), .d (.int .i64 0)] [(0, 1), (1, 1), (2, 1)]), xs := [.t 55, .t 57, .t 59] },
  { dst := some 61, k := .mv, xs := [.c (.d (.int .i64 0))] }]
def F59o32 : List Ao := [
  { dst := some 62, k := (.bin .lss), xs := [.t 61, .c (.d (.int .i64 3))] }]
def F59o40 : List Ao := [
  { dst := some 63, k := (.indexA 3 1 none), xs := [.t 60, .t 61] },
  { dst := some 4, k := .mv, xs := [.t 63] }]
def F59o42 : List Ao := [
  { dst := some 64, k := .mv, xs := [.t 4] },
  { dst := some 65, k := (.bin .lss), xs := [.t 64, .c (.d (.int .i64 0))] },
  { dst := some 66, k := .mv, xs := [.t 65] },
  { dst := some 67, k := .mv, xs := [.t 4], g := some (66, false) },
  { dst := some 68, k := (.bin .gtr), xs := [.t 67, .c (.d (.int .i64 32767))], g := some (66, false) },
  { dst := some 69, k := .pick, xs := [.t 66, .c (.d (.bool true)), .t 68] }]
def F59o45 : List Ao := [
  { dst := some 2, k := .mv, xs := [.c (.d (.bool false))] }]
def F59c46 : Ac := .ret
def F59c43 : Ac := (.cond (.t 69) (.seq (.ops F59o45) F59c46) .skip)
def F59c41 : Ac := (.seq (.ops F59o42) F59c43)
def F59o48 : List Ao := [
  { dst := some 70, k := (.bin .add), xs := [.t 61, .c (.d (.int .i64 1))] },
  { dst := some 61, k := .mv, xs := [.t 70] }]
def F59c48 : Ac := (.ops F59o48)
def F59c37 : Ac := (.seq (.block 1 (.seq (.ops F59o40) F59c41)) F59c48)
def F59c33 : Ac := (.seq (.cond (.t 62) .skip (.exit 0)) F59c37)
def F59l30 : Ac := (.seq (.ops F59o32) F59c33)
def F59c29 : Ac := (.block 0 (.loop (.seq (.gh []) (.seq (.keep [60, 61] []) F59l30))))
def F59o50 : List Ao := [
  { dst := some 2, k := .mv, xs := [.c (.d (.bool true))] }]
def F59c51 : Ac := .ret
def F59b49 : Ac := (.seq (.ops F59o50) F59c51)
def F59c49 : Ac := (.seq (.gh []) (.seq (.keep [] []) F59b49))
def F59b26 : Ac := (.seq (.seq (.ops F59o28) F59c29) F59c49)
def F59c26 : Ac := (.seq (.gh []) (.seq (.keep [1] [[1]]) F59b26))
def F59b18 : Ac := (.seq (.seq (.ops F59o20) F59c21) F59c26)
def F59c18 : Ac := (.seq (.gh []) (.seq (.keep [1] [[1]]) F59b18))
def F59c10 : Ac := (.seq (.seq (.ops F59o12) F59c13) F59c18)
def F59c2 : Ac := (.seq (.seq (.ops F59o4) F59c5) F59c10)
def F59c0 : Ac := (.seq (.ops F59o1) F59c2)
/-- hansom/segs.May -/
def F59 : Fn := { np := 1, pb := [], rs := [.t 2], body := F59c0 }
def F60o1 : List Ao := [
  { dst := some 1, k := (.box 8), xs := [.t 0] },
  { dst := some 2, k := .mv, xs := [.c (.d (.bool false))] }]
def F60o3 : List Ao := [
  { dst := some 6, k := (.faddr 5), xs := [.t 1] },
  { dst := some 7, k := (.load none), xs := [.t 6] },
  { dst := some 8, k := (.callf 73), xs := [.t 7] },
  { dst := some 9, k := .mv, xs := [.t 8] },
  { dst := some 10, k := (.faddr 6), xs := [.t 1], g := some (9, true) },
  { dst := some 11, k := (.load none), xs := [.t 10], g := some (9, true) },
  { dst := some 12, k := (.callf 73), xs := [.t 11], g := some (9, true) },
  { dst := some 13, k := .pick, xs := [.t 9, .t 12, .c (.d (.bool false))] },
  { dst := some 14, k := .mv, xs := [.t 13] },
  { dst := some 15, k := (.faddr 7), xs := [.t 1], g := some (14, true) },
  { dst := some 16, k := (.load none), xs := [.t 15], g := some (14, true) },
  { dst := some 17, k := (.callf 73), xs := [.t 16], g := some (14, true) },
  { dst := some 18, k := .pick, xs := [.t 14, .t 17, .c (.d (.bool false))] },
  { dst := some 3, k := .mv, xs := [.t 18] }]
def F60o5 : List Ao := [
  { dst := some 19, k := (.faddr 1), xs := [.t 1] },
  { dst := some 20, k := (.load none), xs := [.t 19] },
  { dst := some 21, k := (.bin .eql), xs := [.t 20, .c (.d (.int .i64 0))] },
  { dst := some 22, k := .mv, xs := [.t 21] },
  { dst := some 23, k := (.faddr 1), xs := [.t 1], g := some (22, false) },
  { dst := some 24, k := (.load none), xs := [.t 23], g := some (22, false) },
  { dst := some 25, k := (.bin .eql), xs := [.t 24, .c (.d (.int .i64 2))], g := some (22, false) },
  { dst := some 26, k := .pick, xs := [.t 22, .c (.d (.bool true)), .t 25] },
  { dst := some 27, k := .mv, xs := [.t 26] },
  { dst := some 28, k := (.faddr 1), xs := [.t 1], g := some (27, false) },
  { dst := some 29, k := (.load none), xs := [.t 28], g := some (27, false) },
  { dst := some 30, k := (.bin .eql), xs := [.t 29, .c (.d (.int .i64 5))], g := some (27, false) },
  { dst := some 31, k := .pick, xs := [.t 27, .c (.d (.bool true)), .t 30] },
  { dst := some 32, k := .mv, xs := [.t 31] },
  { dst := some 33, k := (.faddr 1), xs := [.t 1], g := some (32, false) },
  { dst := some 34, k := (.load none), xs := [.t 33], g := some (32, false) },
  { dst := some 35, k := (.bin .eql), xs := [.t 34, .c (.d (.int .i64 6))], g := some (32, false) },
  { dst := some 36, k := .pick, xs := [.t 32, .c (.d (.bool true)), .t 35] },
  { dst := some 4, k := .mv, xs := [.t 36] }]
def F60o7 : List Ao := [
  { dst := some 37, k := (.faddr 0), xs := [.t 1] },
  { dst := some 38, k := (.load none), xs := [.t 37] },
  { dst := some 39, k := (.bin .eql), xs := [.t 38, .c (.d (.int .i64 0))] },
  { dst := some 40, k := .mv, xs := [.t 39] },
  { dst := some 41, k := (.faddr 2), xs := [.t 1], g := some (40, false) },
  { dst := some 42, k := (.load none), xs := [.t 41], g := some (40, false) },
  { dst := some 43, k := (.bin .eql), xs := [.t 42, .c (.d (.int .u16 0))], g := some (40, false) },
  { dst := some 44, k := .mv, xs := [.t 43], g := some (40, false) },
  { dst := some 45, k := (.faddr 3), xs := [.t 1], g := some (44, true) },
  { dst := some 46, k := (.load none), xs := [.t 45], g := some (44, true) },
  { dst := some 47, k := (.bin .eql), xs := [.t 46, .c (.d (.int .u8 0))], g := some (44, true) },
  { dst := some 48, k := .pick, xs := [.t 44, .t 47, .c (.d (.bool false))], g := some (40, false) },
  { dst := some 49, k := .pick, xs := [.t 40, .c (.d (.bool true)), .t 48] },
  { dst := some 5, k := .mv, xs := [.t 49] }]
def F60o9 : List Ao := [
  { dst := some 50, k := .mv, xs := [.t 3] },
  { dst := some 51, k := .mv, xs := [.t 50] },
  { dst := some 52, k := .mv, xs := [.t 4], g := some (51, true) },
  { dst := some 53, k := .pick, xs := [.t 51, .t 52, .c (.d (.bool false))] },
  { dst := some 54, k := .mv, xs := [.t 53] },
  { dst := some 55, k := .mv, xs := [.t 5], g := some (54, true) },
  { dst := some 56, k := .pick, xs := [.t 54, .t 55, .c (.d (.bool false))] },
  { dst := some 57, k := .mv, xs := [.t 56] },
  { dst := some 58, k := (.faddr 0), xs := [.t 1], g := some (57, true) },
  { dst := some 59, k := (.load none), xs := [.t 58], g := some (57, true) },
  { dst := some 60, k := (.bin .geq), xs := [.t 59, .c (.d (.int .i64 0))], g := some (57, true) },
  { dst := some 61, k := .pick, xs := [.t 57, .t 60, .c (.d (.bool false))] },
  { dst := some 62, k := .mv, xs := [.t 61] },
  { dst := some 63, k := (.faddr 0), xs := [.t 1], g := some (62, true) },
  { dst := some 64, k := (.load none), xs := [.t 63], g := some (62, true) },
  { dst := some 65, k := (.bin .leq), xs := [.t 64, .c (.d (.int .i64 4))], g := some (62, true) },
  { dst := some 66, k := .pick, xs := [.t 62, .t 65, .c (.d (.bool false))] },
  { dst := some 67, k := .mv, xs := [.t 66] },
  { dst := some 68, k := (.faddr 4), xs := [.t 1], g := some (67, true) },
  { dst := some 69, k := (.load none), xs := [.t 68], g := some (67, true) },
  { dst := some 70, k := (.bin .geq), xs := [.t 69, .c (.d (.int .i64 0))], g := some (67, true) },
  { dst := some 71, k := .pick, xs := [.t 67, .t 70, .c (.d (.bool false))] },
  { dst := some 72, k := .mv, xs := [.t 71] },
  { dst := some 73, k := (.faddr 4), xs := [.t 1], g := some (72, true) },
  { dst := some 74, k := (.load none), xs := [.t 73], g := some (72, true) },
  { dst := some 75, k := (.bin .leq), xs := [.t 74, .c (.d (.int .i64 65536))], g := some (72, true) },
  { dst := some 76, k := .pick, xs := [.t 72, .t 75, .c (.d (.bool false))] },
  { dst := some 2, k := .mv, xs := [.t 76] }]
def F60c10 : Ac := .ret
def F60b8 : Ac := (.seq (.ops F60o9) F60c10)
def F60c8 : Ac := (.seq (.gh []) (.seq (.keep [1, 3, 4, 5] [[1]]) F60b8))
def F60b6 : Ac := (.seq (.ops F60o7) F60c8)
def F60c6 : Ac := (.seq (.gh []) (.seq (.keep [1, 3, 4] [[1]]) F60b6))
def F60b4 : Ac := (.seq (.ops F60o5) F60c6)
def F60c4 : Ac := (.seq (.gh []) (.seq (.keep [1, 3] [[1]]) F60b4))
def F60c2 : Ac := (.seq (.ops F60o3) F60c4)
def F60c0 : Ac := (.seq (.ops F60o1) F60c2)
/-- hansom/hansomref21.May -/
def F60 : Fn := { np := 1, pb := [], rs := [.t 2], body := F60c0 }
def F61o1 : List Ao := [
  { dst := some 2, k := (.alloc [.d (.int .i64 0), .d (.int .i64 0), .d (.int .u16 0), .d (.int .u8 0), .d (.int .i64 0), .d (.int .i64 0), .d (.int .i64 0), .d (.int .i64 0)]), xs := [] },
  { dst := some 3, k := .mv, xs := [.c (.d (.int .i64 0))] }]
def F61o3 : List Ao := [
  { dst := some 8, k := .mv, xs := [.t 0] },
  { dst := some 9, k := (.callf 25), xs := [.t 8] },
  { dst := some 4, k := .mv, xs := [.t 9] }]
def F61o5 : List Ao := [
  { dst := some 10, k := .mv, xs := [.t 4] },
  { dst := some 11, k := (.callf 35), xs := [.t 10] },
  { dst := some 5, k := .mv, xs := [.t 11] }]
def F61o7 : List Ao := [
  { dst := some 12, k := .mv, xs := [.t 5] },
  { dst := some 13, k := (.bin .shr), xs := [.t 12, .c (.d (.int .u64 5))] },
  { dst := some 14, k := (.toInt .i64), xs := [.t 13] },
  { dst := some 15, k := .mv, xs := [.t 5] },
  { dst := some 16, k := (.bin .shr), xs := [.t 15, .c (.d (.int .u64 2))] },
  { dst := some 17, k := (.bin .and), xs := [.t 16, .c (.d (.int .u8 7))] },
  { dst := some 18, k := (.toInt .i64), xs := [.t 17] },
  { dst := some 19, k := (.build [.d (.int .i64 0), .d (.int .i64 0), .d (.int .u16 0), .d (.int .u8 0), .d (.int .i64 0), .d (.int .i64 0), .d (.int .i64 0), .d (.int .i64 0)] [(0, 1), (1, 1)]), xs := [.t 14, .t 18] },
  { dst := some 6, k := (.alloc [.d (.int .i64 0), .d (.int .i64 0), .d (.int .u16 0), .d (.int .u8 0), .d (.int .i64 0), .d (.int .i64 0), .d (.int .i64 0), .d (.int .i64 0)]), xs := [] },
  { dst := none, k := (.store 8), xs := [.t 6, .t 19] }]
def F61o10 : List Ao := [
  { dst := some 20, k := (.faddr 0), xs := [.t 6] },
  { dst := some 21, k := (.load none), xs := [.t 20] },
  { dst := some 22, k := (.bin .eql), xs := [.t 21, .c (.d (.int .i64 0))] }]
def F61o12 : List Ao := [
  { dst := some 23, k := .mv, xs := [.t 4] },
  { dst := some 24, k := (.callf 30), xs := [.t 23] },
  { dst := some 25, k := .mv, xs := [.t 4] },
  { dst := some 26, k := (.callf 35), xs := [.t 25] },
  { dst := some 27, k := (.faddr 2), xs := [.t 6] },
  { dst := none, k := (.store 1), xs := [.t 27, .t 24] },
  { dst := some 28, k := (.faddr 3), xs := [.t 6] },
  { dst := none, k := (.store 1), xs := [.t 28, .t 26] }]
def F61c11 : Ac := (.cond (.t 22) (.ops F61o12) .skip)
def F61o15 : List Ao := [
  { dst := some 29, k := .mv, xs := [.t 4] },
  { dst := some 30, k := (.callf 30), xs := [.t 29] },
  { dst := some 31, k := (.toInt .i64), xs := [.t 30] },
  { dst := some 32, k := (.faddr 4), xs := [.t 6] },
  { dst := none, k := (.store 1), xs := [.t 32, .t 31] }]
def F61o18 : List Ao := [
  { dst := some 33, k := .mv, xs := [.t 5] },
  { dst := some 34, k := (.bin .and), xs := [.t 33, .c (.d (.int .u8 2))] },
  { dst := some 35, k := (.bin .neq), xs := [.t 34, .c (.d (.int .u8 0))] }]
def F61o22 : List Ao := [
  { dst := some 36, k := (.faddr 4), xs := [.t 6] },
  { dst := some 37, k := (.load none), xs := [.t 36] },
  { dst := some 38, k := (.bin .neq), xs := [.t 37, .c (.d (.int .i64 0))] }]
def F61o24 : List Ao := [
  { dst := some 39, k := .mv, xs := [.t 4] },
  { dst := some 40, k := (.callf 27), xs := [.t 39, .c (.d (.int .i64 3))] }]
def F61c23 : Ac := (.cond (.t 38) (.ops F61o24) .skip)
def F61o26 : List Ao := [
  { dst := some 41, k := (.faddr 4), xs := [.t 6] },
  { dst := none, k := (.store 1), xs := [.t 41, .c (.d (.int .i64 65536))] }]
def F61c26 : Ac := (.ops F61o26)
def F61c19 : Ac := (.cond (.t 35) (.seq (.seq (.ops F61o22) F61c23) F61c26) .skip)
def F61o29 : List Ao := [
  { dst := some 42, k := .mv, xs := [.t 4] },
  { dst := some 43, k := (.callf 31), xs := [.t 42] },
  { dst := some 44, k := .mv, xs := [.t 4] },
  { dst := some 45, k := (.callf 31), xs := [.t 44] },
  { dst := some 46, k := .mv, xs := [.t 4] },
  { dst := some 47, k := (.callf 31), xs := [.t 46] },
  { dst := some 48, k := (.faddr 5), xs := [.t 6] },
  { dst := none, k := (.store 1), xs := [.t 48, .t 43] },
  { dst := some 49, k := (.faddr 6), xs := [.t 6] },
  { dst := none, k := (.store 1), xs := [.t 49, .t 45] },
  { dst := some 50, k := (.faddr 7), xs := [.t 6] },
  { dst := none, k := (.store 1), xs := [.t 50, .t 47] }]
def F61o32 : List Ao := [
  { dst := some 51, k := .mv, xs := [.t 5] },
  { dst := some 52, k := (.bin .and), xs := [.t 51, .c (.d (.int .u8 1))] },
  { dst := some 53, k := (.bin .neq), xs := [.t 52, .c (.d (.int .u8 0))] },
  { dst := some 54, k := .mv, xs := [.t 53] },
  { dst := some 55, k := (.load (some 8)), xs := [.t 6], g := some (54, false) },
  { dst := some 56, k := (.callf 59), xs := [.t 55], g := some (54, false) },
  { dst := some 57, k := (.un .not), xs := [.t 56], g := some (54, false) },
  { dst := some 58, k := .pick, xs := [.t 54, .c (.d (.bool true)), .t 57] }]
def F61o34 : List Ao := [
  { dst := some 59, k := .mv, xs := [.t 4] },
  { dst := some 60, k := (.callf 27), xs := [.t 59, .c (.d (.int .i64 3))] }]
def F61c33 : Ac := (.cond (.t 58) (.ops F61o34) .skip)
def F61o38 : List Ao := [
  { dst := some 61, k := .mv, xs := [.t 4] },
  { dst := some 62, k := (.callf 34), xs := [.t 61] },
  { dst := some 7, k := .mv, xs := [.t 62] }]
def F61o40 : List Ao := [
  { dst := some 63, k := .mv, xs := [.t 7] },
  { dst := some 64, k := (.bin .neq), xs := [.t 63, .c (.d (.int .i64 0))] }]
def F61o43 : List Ao := [
  { dst := some 65, k := (.build [.d (.int .i64 0), .d (.int .i64 0), .d (.int .u16 0), .d (.int .u8 0), .d (.int .i64 0), .d (.int .i64 0), .d (.int .i64 0), .d (.int .i64 0)] []), xs := [] },
  { dst := some 66, k := .mv, xs := [.t 7] },
  { dst := none, k := (.store 8), xs := [.t 2, .t 65] },
  { dst := some 3, k := .mv, xs := [.t 66] }]
def F61c44 : Ac := .ret
def F61c41 : Ac := (.cond (.t 64) (.seq (.ops F61o43) F61c44) .skip)
def F61c39 : Ac := (.seq (.ops F61o40) F61c41)
def F61o47 : List Ao := [
  { dst := some 67, k := (.load (some 8)), xs := [.t 6] },
  { dst := none, k := (.store 8), xs := [.t 2, .t 67] },
  { dst := some 3, k := .mv, xs := [.c (.d (.int .i64 0))] }]
def F61c48 : Ac := .ret
def F61c46 : Ac := (.seq (.ops F61o47) F61c48)
def F61c36 : Ac := (.seq (.seq (.ops F61o38) F61c39) F61c46)
def F61c30 : Ac := (.seq (.seq (.ops F61o32) F61c33) F61c36)
def F61b28 : Ac := (.seq (.ops F61o29) F61c30)
def F61c28 : Ac := (.seq (.gh []) (.seq (.keep [2, 4, 5, 6] [[2], [6], [9]]) F61b28))
def F61c16 : Ac := (.seq (.seq (.ops F61o18) F61c19) F61c28)
def F61b14 : Ac := (.seq (.ops F61o15) F61c16)
def F61c14 : Ac := (.seq (.gh []) (.seq (.keep [2, 4, 5, 6] [[2], [6], [9]]) F61b14))
def F61c8 : Ac := (.seq (.seq (.ops F61o10) F61c11) F61c14)
def F61c6 : Ac := (.seq (.ops F61o7) F61c8)
def F61c4 : Ac := (.seq (.ops F61o5) F61c6)
def F61c2 : Ac := (.seq (.ops F61o3) F61c4)
def F61c0 : Ac := (.seq (.ops F61o1) F61c2)
/-- hansom/segs.Def -/
def F61 : Fn := { np := 1, pb := [], rs := [.c 2 (some 8), .t 3], body := F61c0 }
def F62o1 : List Ao := [
  { dst := some 1, k := (.box 8), xs := [.t 0] },
  { dst := some 2, k := .mv, xs := [.c (.d (.str []))] }]
def F62o3 : List Ao := [
  { dst := some 5, k := (.faddr 0), xs := [.t 1] },
  { dst := some 6, k := (.load none), xs := [.t 5] },
  { dst := some 7, k := (.bin .mul), xs := [.c (.d (.int .i64 32)), .t 6] },
  { dst := some 8, k := (.faddr 1), xs := [.t 1] },
  { dst := some 9, k := (.load none), xs := [.t 8] },
  { dst := some 10, k := (.bin .mul), xs := [.c (.d (.int .i64 4)), .t 9] },
  { dst := some 11, k := (.bin .add), xs := [.t 7, .t 10] },
  { dst := some 3, k := .mv, xs := [.t 11] }]
def F62o6 : List Ao := [
  { dst := some 12, k := (.faddr 4), xs := [.t 1] },
  { dst := some 13, k := (.load none), xs := [.t 12] },
  { dst := some 14, k := (.bin .eql), xs := [.t 13, .c (.d (.int .i64 65536))] }]
def F62o8 : List Ao := [
  { dst := some 15, k := .mv, xs := [.t 3] },
  { dst := some 16, k := (.bin .add), xs := [.t 15, .c (.d (.int .i64 2))] },
  { dst := some 3, k := .mv, xs := [.t 16] }]
def F62c7 : Ac := (.cond (.t 14) (.ops F62o8) .skip)
def F62o11 : List Ao := [
  { dst := some 17, k := .mv, xs := [.t 3] },
  { dst := some 18, k := (.toInt .u8), xs := [.t 17] },
  { dst := some 19, k := (.bslice (.int .u8 0) 1 [0]), xs := [.t 18] },
  { dst := some 20, k := .bytesStr, xs := [.t 19] },
  { dst := some 4, k := .mv, xs := [.t 20] }]
def F62o14 : List Ao := [
  { dst := some 21, k := (.faddr 0), xs := [.t 1] },
  { dst := some 22, k := (.load none), xs := [.t 21] },
  { dst := some 23, k := (.bin .eql), xs := [.t 22, .c (.d (.int .i64 0))] }]
def F62o16 : List Ao := [
  { dst := some 24, k := .mv, xs := [.t 4] },
  { dst := some 25, k := (.faddr 2), xs := [.t 1] },
  { dst := some 26, k := (.load none), xs := [.t 25], av := [[31]] },
  { dst := some 27, k := (.toInt .u64), xs := [.t 26] },
  { dst := some 28, k := (.callf 21), xs := [.t 27, .c (.d (.int .i64 2))], av := [[31]], al := some [] },
  { dst := some 29, k := (.faddr 3), xs := [.t 1] },
  { dst := some 30, k := (.load none), xs := [.t 29], av := [[28]] },
  { dst := some 31, k := (.bslice (.int .u8 0) 1 [0]), xs := [.t 30], av := [[28]] },
  { dst := some 32, k := .bytesStr, xs := [.t 31], av := [[28]] },
  { dst := some 33, k := (.bin .add), xs := [.t 28, .t 32] },
  { dst := some 34, k := (.bin .add), xs := [.t 24, .t 33] },
  { dst := some 4, k := .mv, xs := [.t 34] }]
def F62c15 : Ac := (.cond (.t 23) (.ops F62o16) .skip)
def F62o19 : List Ao := [
  { dst := some 35, k := .mv, xs := [.t 4] },
  { dst := some 36, k := (.faddr 4), xs := [.t 1] },
  { dst := some 37, k := (.load none), xs := [.t 36] },
  { dst := some 38, k := (.bin .rem), xs := [.t 37, .c (.d (.int .i64 65536))] },
  { dst := some 39, k := (.toInt .u64), xs := [.t 38] },
  { dst := some 40, k := (.callf 21), xs := [.t 39, .c (.d (.int .i64 2))] },
  { dst := some 41, k := (.bin .add), xs := [.t 35, .t 40] },
  { dst := some 4, k := .mv, xs := [.t 41] }]
def F62o21 : List Ao := [
  { dst := some 42, k := .mv, xs := [.t 4] },
  { dst := some 43, k := (.faddr 5), xs := [.t 1] },
  { dst := some 44, k := (.load none), xs := [.t 43] },
  { dst := some 45, k := (.callf 17), xs := [.t 44], al := some [] },
  { dst := some 46, k := (.bin .add), xs := [.t 42, .t 45] },
  { dst := some 47, k := (.faddr 6), xs := [.t 1] },
  { dst := some 48, k := (.load none), xs := [.t 47], av := [[45]] },
  { dst := some 49, k := (.callf 17), xs := [.t 48], al := some [] },
  { dst := some 50, k := (.bin .add), xs := [.t 46, .t 49] },
  { dst := some 51, k := (.faddr 7), xs := [.t 1] },
  { dst := some 52, k := (.load none), xs := [.t 51], av := [[45], [49]] },
  { dst := some 53, k := (.callf 17), xs := [.t 52] },
  { dst := some 54, k := (.bin .add), xs := [.t 50, .t 53] },
  { dst := some 2, k := .mv, xs := [.t 54] }]
def F62c22 : Ac := .ret
def F62c20 : Ac := (.seq (.ops F62o21) F62c22)
def F62b18 : Ac := (.seq (.ops F62o19) F62c20)
def F62c18 : Ac := (.seq (.gh []) (.seq (.keep [1, 4] [[1]]) F62b18))
def F62c12 : Ac := (.seq (.seq (.ops F62o14) F62c15) F62c18)
def F62b10 : Ac := (.seq (.ops F62o11) F62c12)
def F62c10 : Ac := (.seq (.gh []) (.seq (.keep [1, 3] [[1]]) F62b10))
def F62c4 : Ac := (.seq (.seq (.ops F62o6) F62c7) F62c10)
def F62c2 : Ac := (.seq (.ops F62o3) F62c4)
def F62c0 : Ac := (.seq (.ops F62o1) F62c2)
/-- hansom/hansomref21.Segment -/
def F62 : Fn := { np := 1, pb := [], rs := [.t 2], body := F62c0 }
def F63o1 : List Ao := [
  { dst := some 1, k := (.box 2), xs := [.t 0] },
  { dst := some 2, k := (.alloc [.d (.int .u8 0), .nils]), xs := [] }]
def F63o3 : List Ao := [
  { dst := some 6, k := (.faddr 0), xs := [.t 1] },
  { dst := some 7, k := (.load none), xs := [.t 6] },
  { dst := some 8, k := (.callf 16), xs := [.t 7] },
  { dst := some 3, k := .mv, xs := [.t 8] }]
def F63o6 : List Ao := [
  { dst := some 9, k := (.faddr 1), xs := [.t 1] },
  { dst := some 10, k := (.load none), xs := [.t 9] },
  { dst := some 11, k := .lenL, xs := [.t 10] },
  { dst := some 12, k := .mv, xs := [.c (.d (.int .i64 0))] }]
def F63o10 : List Ao := [
  { dst := some 13, k := (.bin .lss), xs := [.t 12, .t 11] }]
def F63o18 : List Ao := [
  { dst := some 14, k := (.iaddrS 1), xs := [.t 10, .t 12] },
  { dst := some 15, k := (.load none), xs := [.t 14] },
  { dst := some 5, k := .mv, xs := [.t 15] }]
def F63o19 : List Ao := [
  { dst := some 16, k := .mv, xs := [.t 3] },
  { dst := some 17, k := (.bslice (.int .u8 0) 1 [0]), xs := [.c (.d (.int .u8 255))] },
  { dst := some 18, k := (.append 1 1 false), xs := [.t 16, .t 17] },
  { dst := some 19, k := .mv, xs := [.t 5] },
  { dst := some 20, k := (.callf 16), xs := [.t 19] },
  { dst := some 21, k := (.append 1 1 false), xs := [.t 18, .t 20] },
  { dst := some 3, k := .mv, xs := [.t 21] }]
def F63c19 : Ac := (.ops F63o19)
def F63o20 : List Ao := [
  { dst := some 22, k := (.bin .add), xs := [.t 12, .c (.d (.int .i64 1))] },
  { dst := some 12, k := .mv, xs := [.t 22] }]
def F63c20 : Ac := (.ops F63o20)
def F63c15 : Ac := (.seq (.block 1 (.seq (.ops F63o18) F63c19)) F63c20)
def F63c11 : Ac := (.seq (.cond (.t 13) .skip (.exit 0)) F63c15)
def F63l8 : Ac := (.seq (.ops F63o10) F63c11)
def F63c7 : Ac := (.block 0 (.loop (.seq (.gh []) (.seq (.keep [2, 3, 10, 11, 12] [[2], [8]]) F63l8))))
def F63o22 : List Ao := [
  { dst := some 23, k := .mv, xs := [.t 3] },
  { dst := some 24, k := (.build [.d (.int .u8 0), .nils] [(0, 1), (1, 1)]), xs := [.c (.d (.int .u8 154)), .t 23] },
  { dst := none, k := (.store 2), xs := [.t 2, .t 24] }]
def F63c23 : Ac := (.seq (.gh [.frzB [2] 1]) .ret)
def F63b21 : Ac := (.seq (.ops F63o22) F63c23)
def F63c21 : Ac := (.seq (.gh []) (.seq (.keep [2, 3] [[2], [8]]) F63b21))
def F63c4 : Ac := (.seq (.seq (.ops F63o6) F63c7) F63c21)
def F63c2 : Ac := (.seq (.ops F63o3) F63c4)
def F63c0 : Ac := (.seq (.ops F63o1) F63c2)
/-- hansom/segs.Group -/
def F63 : Fn := { np := 1, pb := [], rs := [.c 2 (some 2)], body := F63c0 }
def F64o1 : List Ao := [
  { dst := some 2, k := (.alloc [.d (.int .i64 0), .nils]), xs := [] },
  { dst := some 3, k := .mv, xs := [.c (.d (.int .i64 0))] }]
def F64o3 : List Ao := [
  { dst := some 7, k := .mv, xs := [.t 0] },
  { dst := some 8, k := (.callf 25), xs := [.t 7] },
  { dst := some 4, k := .mv, xs := [.t 8] }]
def F64o5 : List Ao := [
  { dst := some 9, k := .mv, xs := [.t 4] },
  { dst := some 10, k := (.callf 31), xs := [.t 9] },
  { dst := some 11, k := (.build [.d (.int .i64 0), .nils] [(0, 1)]), xs := [.t 10] },
  { dst := some 5, k := (.alloc [.d (.int .i64 0), .nils]), xs := [] },
  { dst := none, k := (.store 2), xs := [.t 5, .t 11] }]
def F64o11 : List Ao := [
  { dst := some 12, k := .mv, xs := [.t 4] },
  { dst := some 13, k := (.callf 29), xs := [.t 12] },
  { dst := some 14, k := (.bin .gtr), xs := [.t 13, .c (.d (.int .i64 0))] }]
def F64c12 : Ac := (.cond (.t 14) .skip (.exit 0))
def F64o18 : List Ao := [
  { dst := some 15, k := .mv, xs := [.t 4] },
  { dst := some 16, k := (.callf 35), xs := [.t 15] },
  { dst := some 17, k := (.bin .neq), xs := [.t 16, .c (.d (.int .u8 255))] }]
def F64o20 : List Ao := [
  { dst := some 18, k := .mv, xs := [.t 4] },
  { dst := some 19, k := (.callf 27), xs := [.t 18, .c (.d (.int .i64 3))] }]
def F64c19 : Ac := (.cond (.t 17) (.ops F64o20) .skip)
def F64o22 : List Ao := [
  { dst := some 20, k := (.faddr 1), xs := [.t 5] },
  { dst := some 21, k := (.load none), xs := [.t 20], av := [[23], [0, 8], [8], [24]] },
  { dst := some 22, k := .mv, xs := [.t 4] },
  { dst := some 23, k := (.callf 31), xs := [.t 22], al := some [[0, 8], [8]] },
  { dst := some 24, k := (.bslice (.int .i64 0) 1 [0]), xs := [.t 23] },
  { dst := some 25, k := (.append 1 8 false), xs := [.t 21, .t 24] },
  { dst := some 26, k := (.faddr 1), xs := [.t 5] },
  { dst := none, k := (.store 1), xs := [.t 26, .t 25] }]
def F64c22 : Ac := (.ops F64o22)
def F64c15 : Ac := (.block 1 (.seq (.seq (.ops F64o18) F64c19) F64c22))
def F64l8 : Ac := (.seq (.seq (.ops F64o11) F64c12) F64c15)
def F64o25 : List Ao := [
  { dst := some 27, k := .mv, xs := [.t 4] },
  { dst := some 28, k := (.callf 28), xs := [.t 27] },
  { dst := some 6, k := .mv, xs := [.t 28] }]
def F64o27 : List Ao := [
  { dst := some 29, k := .mv, xs := [.t 6] },
  { dst := some 30, k := (.bin .neq), xs := [.t 29, .c (.d (.int .i64 0))] }]
def F64o30 : List Ao := [
  { dst := some 31, k := (.build [.d (.int .i64 0), .nils] []), xs := [] },
  { dst := some 32, k := .mv, xs := [.t 6] },
  { dst := none, k := (.store 2), xs := [.t 2, .t 31] },
  { dst := some 3, k := .mv, xs := [.t 32] }]
def F64c31 : Ac := (.seq (.gh [.frzB [2] 1]) .ret)
def F64c28 : Ac := (.cond (.t 30) (.seq (.ops F64o30) F64c31) .skip)
def F64c26 : Ac := (.seq (.ops F64o27) F64c28)
def F64o34 : List Ao := [
  { dst := some 33, k := (.load (some 2)), xs := [.t 5] },
  { dst := none, k := (.store 2), xs := [.t 2, .t 33] },
  { dst := some 3, k := .mv, xs := [.c (.d (.int .i64 0))] }]
def F64c35 : Ac := (.seq (.gh [.frzB [2] 1]) .ret)
def F64c33 : Ac := (.seq (.ops F64o34) F64c35)
def F64b23 : Ac := (.seq (.seq (.ops F64o25) F64c26) F64c33)
def F64c23 : Ac := (.seq (.gh []) (.seq (.keep [2, 4, 5] [[2], [5], [8], [901, 5]]) F64b23))
def F64b6 : Ac := (.seq (.block 0 (.loop (.seq (.gh []) (.seq (.keep [2, 4, 5] [[2], [5], [8], [901, 5]]) F64l8)))) F64c23)
def F64c6 : Ac := (.seq (.gh [.ownB [5] 1 [901, 5] 1]) (.seq (.keep [2, 4, 5] [[2], [5], [8], [901, 5]]) F64b6))
def F64c4 : Ac := (.seq (.ops F64o5) F64c6)
def F64c2 : Ac := (.seq (.ops F64o3) F64c4)
def F64c0 : Ac := (.seq (.ops F64o1) F64c2)
/-- hansom/segs.Groups -/
def F64 : Fn := { np := 1, pb := [], rs := [.c 2 (some 2), .t 3], body := F64c0 }
def F65o1 : List Ao := [
  { dst := some 1, k := (.box 2), xs := [.t 0] },
  { dst := some 2, k := .mv, xs := [.c (.d (.str []))] }]
def F65o3 : List Ao := [
  { dst := some 5, k := (.faddr 0), xs := [.t 1] },
  { dst := some 6, k := (.load none), xs := [.t 5] },
  { dst := some 7, k := (.callf 17), xs := [.t 6] },
  { dst := some 3, k := .mv, xs := [.t 7] }]
def F65o6 : List Ao := [
  { dst := some 4, k := .mv, xs := [.c (.d (.int .i64 0))] }]
def F65o11 : List Ao := [
  { dst := some 8, k := .mv, xs := [.t 4] },
  { dst := some 9, k := (.faddr 1), xs := [.t 1] },
  { dst := some 10, k := (.load none), xs := [.t 9] },
  { dst := some 11, k := .lenL, xs := [.t 10] },
  { dst := some 12, k := (.bin .lss), xs := [.t 8, .t 11] }]
def F65c12 : Ac := (.cond (.t 12) .skip (.exit 0))
def F65o17 : List Ao := [
  { dst := some 15, k := .mv, xs := [.t 3] },
  { dst := some 16, k := (.faddr 1), xs := [.t 1] },
  { dst := some 17, k := (.load none), xs := [.t 16] },
  { dst := some 18, k := .mv, xs := [.t 4] },
  { dst := some 19, k := (.iaddrS 1), xs := [.t 17, .t 18] },
  { dst := some 20, k := (.load none), xs := [.t 19] },
  { dst := some 21, k := (.callf 17), xs := [.t 20] },
  { dst := some 22, k := (.bin .add), xs := [.c (.d (.str [255])), .t 21] },
  { dst := some 23, k := (.bin .add), xs := [.t 15, .t 22] },
  { dst := some 3, k := .mv, xs := [.t 23] }]
def F65o18 : List Ao := [
  { dst := some 13, k := .mv, xs := [.t 4] },
  { dst := some 14, k := (.bin .add), xs := [.t 13, .c (.d (.int .i64 1))] },
  { dst := some 4, k := .mv, xs := [.t 14] }]
def F65c18 : Ac := (.ops F65o18)
def F65c15 : Ac := (.seq (.block 1 (.ops F65o17)) F65c18)
def F65l8 : Ac := (.seq (.seq (.ops F65o11) F65c12) F65c15)
def F65c7 : Ac := (.block 0 (.loop (.seq (.gh []) (.seq (.keep [1, 3, 4] [[1]]) F65l8))))
def F65o20 : List Ao := [
  { dst := some 24, k := .mv, xs := [.t 3] },
  { dst := some 2, k := .mv, xs := [.t 24] }]
def F65c21 : Ac := .ret
def F65b19 : Ac := (.seq (.ops F65o20) F65c21)
def F65c19 : Ac := (.seq (.gh []) (.seq (.keep [3] []) F65b19))
def F65c4 : Ac := (.seq (.seq (.ops F65o6) F65c7) F65c19)
def F65c2 : Ac := (.seq (.ops F65o3) F65c4)
def F65c0 : Ac := (.seq (.ops F65o1) F65c2)
/-- hansom/hansomref21.Group -/
def F65 : Fn := { np := 1, pb := [], rs := [.t 2], body := F65c0 }
def F66o1 : List Ao := [
  { dst := some 2, k := .mv, xs := [.c (.d (.int .i64 0))] }]
def F66o4 : List Ao := [
  { dst := some 3, k := .mv, xs := [.t 0] }]
def F66o7 : List Ao := [
  { dst := some 5, k := (.bin .eql), xs := [.t 3, .c (.d (.int .i64 2))] },
  { dst := some 4, k := .mv, xs := [.t 5] }]
def F66o10 : List Ao := [
  { dst := some 2, k := .mv, xs := [.c (.d (.int .i64 2))] }]
def F66c11 : Ac := .ret
def F66o13 : List Ao := [
  { dst := some 7, k := (.bin .eql), xs := [.t 3, .c (.d (.int .i64 3))] },
  { dst := some 6, k := .mv, xs := [.t 7] }]
def F66o16 : List Ao := [
  { dst := some 2, k := .mv, xs := [.c (.d (.int .i64 16))] }]
def F66c17 : Ac := .ret
def F66o19 : List Ao := [
  { dst := some 9, k := (.bin .eql), xs := [.t 3, .c (.d (.int .i64 4))] },
  { dst := some 8, k := .mv, xs := [.t 9] }]
def F66o22 : List Ao := [
  { dst := some 2, k := .mv, xs := [.c (.d (.int .i64 256))] }]
def F66c23 : Ac := .ret
def F66c20 : Ac := (.cond (.t 8) (.seq (.ops F66o22) F66c23) .skip)
def F66c14 : Ac := (.cond (.t 6) (.seq (.ops F66o16) F66c17) (.seq (.ops F66o19) F66c20))
def F66c8 : Ac := (.cond (.t 4) (.seq (.ops F66o10) F66c11) (.seq (.ops F66o13) F66c14))
def F66c5 : Ac := (.block 0 (.seq (.ops F66o7) F66c8))
def F66o26 : List Ao := [
  { dst := some 2, k := .mv, xs := [.c (.d (.int .i64 1))] }]
def F66c27 : Ac := .ret
def F66c25 : Ac := (.seq (.ops F66o26) F66c27)
def F66c2 : Ac := (.seq (.seq (.ops F66o4) F66c5) F66c25)
def F66c0 : Ac := (.seq (.ops F66o1) F66c2)
/-- hansom/segs.Step -/
def F66 : Fn := { np := 1, pb := [], rs := [.t 2], body := F66c0 }
def F67o1 : List Ao := [
  { dst := some 2, k := .mv, xs := [.c (.d (.int .u8 0))] }]
def F67o3 : List Ao := [
  { dst := some 3, k := .mv, xs := [.t 0] },
  { dst := some 4, k := (.toInt .u8), xs := [.t 3] },
  { dst := some 2, k := .mv, xs := [.t 4] }]
def F67c4 : Ac := .ret
def F67c2 : Ac := (.seq (.ops F67o3) F67c4)
def F67c0 : Ac := (.seq (.ops F67o1) F67c2)
/-- hansom/bits.Low -/
def F67 : Fn := { np := 1, pb := [], rs := [.t 2], body := F67c0 }
def F68o1 : List Ao := [
  { dst := some 2, k := .mv, xs := [.c (.d (.int .u8 0))] }]
def F68o3 : List Ao := [
  { dst := some 3, k := .mv, xs := [.t 0] },
  { dst := some 4, k := (.bin .shr), xs := [.t 3, .c (.d (.int .u64 8))] },
  { dst := some 5, k := (.toInt .u8), xs := [.t 4] },
  { dst := some 2, k := .mv, xs := [.t 5] }]
def F68c4 : Ac := .ret
def F68c2 : Ac := (.seq (.ops F68o3) F68c4)
def F68c0 : Ac := (.seq (.ops F68o1) F68c2)
/-- hansom/bits.High -/
def F68 : Fn := { np := 1, pb := [], rs := [.t 2], body := F68c0 }
def F69o1 : List Ao := [
  { dst := some 4, k := .mv, xs := [.c (.d (.int .u16 0))] }]
def F69o3 : List Ao := [
  { dst := some 5, k := .mv, xs := [.t 0] },
  { dst := some 6, k := (.toInt .u16), xs := [.t 5] },
  { dst := some 7, k := .mv, xs := [.t 1] },
  { dst := some 8, k := (.toInt .u16), xs := [.t 7] },
  { dst := some 9, k := (.bin .shl), xs := [.t 8, .c (.d (.int .u64 8))] },
  { dst := some 10, k := (.bin .or), xs := [.t 6, .t 9] },
  { dst := some 4, k := .mv, xs := [.t 10] }]
def F69c4 : Ac := .ret
def F69c2 : Ac := (.seq (.ops F69o3) F69c4)
def F69c0 : Ac := (.seq (.ops F69o1) F69c2)
/-- hansom/bits.Word -/
def F69 : Fn := { np := 2, pb := [], rs := [.t 4], body := F69c0 }
def F73o1 : List Ao := [
  { dst := some 2, k := .mv, xs := [.c (.d (.bool false))] }]
def F73o3 : List Ao := [
  { dst := some 3, k := .mv, xs := [.t 0] },
  { dst := some 4, k := (.bin .geq), xs := [.t 3, .c (.d (.int .i64 0))] },
  { dst := some 5, k := .mv, xs := [.t 4] },
  { dst := some 6, k := .mv, xs := [.t 0], g := some (5, true) },
  { dst := some 7, k := (.bin .leq), xs := [.t 6, .c (.d (.int .i64 32767))], g := some (5, true) },
  { dst := some 8, k := .pick, xs := [.t 5, .t 7, .c (.d (.bool false))] },
  { dst := some 2, k := .mv, xs := [.t 8] }]
def F73c4 : Ac := .ret
def F73c2 : Ac := (.seq (.ops F73o3) F73c4)
def F73c0 : Ac := (.seq (.ops F73o1) F73c2)
/-- hansom/hansomref21.index -/
def F73 : Fn := { np := 1, pb := [], rs := [.t 2], body := F73c0 }
def tab1 : Nat → Option Fn
  | 12 => some F12
  | 13 => some F13
  | 14 => some F14
  | 16 => some F16
  | 17 => some F17
  | 20 => some F20
  | 21 => some F21
  | 25 => some F25
  | 26 => some F26
  | 27 => some F27
  | 28 => some F28
  | 29 => some F29
  | 30 => some F30
  | 31 => some F31
  | 34 => some F34
  | 35 => some F35
  | 56 => some F56
  | 57 => some F57
  | 58 => some F58
  | 59 => some F59
  | 60 => some F60
  | 61 => some F61
  | 62 => some F62
  | 63 => some F63
  | 64 => some F64
  | 65 => some F65
  | 66 => some F66
  | 67 => some F67
  | 68 => some F68
  | 69 => some F69
  | 73 => some F73
  | _ => none
noncomputable def L : Cs := lim tab1 (fun _ _ => none)

theorem no_globals : GOk (fun _ _ => none) (fun _ => none) := fun n a h => by cases h
theorem ok12 : FnOk (fun _ _ => none) Try.prog 12 F12 := compF_spec no_globals Try.func12 (by kernel_rfl)
theorem ok13 : FnOk (fun _ _ => none) Try.prog 13 F13 := compF_spec no_globals Try.func13 (by kernel_rfl)
theorem ok14 : FnOk (fun _ _ => none) Try.prog 14 F14 := compF_spec no_globals Try.func14 (by kernel_rfl)
theorem ok16 : FnOk (fun _ _ => none) Try.prog 16 F16 := compF_spec no_globals Try.func16 (by kernel_rfl)
theorem ok17 : FnOk (fun _ _ => none) Try.prog 17 F17 := compF_spec no_globals Try.func17 (by kernel_rfl)
theorem ok20 : FnOk (fun _ _ => none) Try.prog 20 F20 := compF_spec no_globals Try.func20 (by kernel_rfl)
theorem ok21 : FnOk (fun _ _ => none) Try.prog 21 F21 := compF_spec no_globals Try.func21 (by kernel_rfl)
theorem ok25 : FnOk (fun _ _ => none) Try.prog 25 F25 := compF_spec no_globals Try.func25 (by kernel_rfl)
theorem ok26 : FnOk (fun _ _ => none) Try.prog 26 F26 := compF_spec no_globals Try.func26 (by kernel_rfl)
theorem ok27 : FnOk (fun _ _ => none) Try.prog 27 F27 := compF_spec no_globals Try.func27 (by kernel_rfl)
theorem ok28 : FnOk (fun _ _ => none) Try.prog 28 F28 := compF_spec no_globals Try.func28 (by kernel_rfl)
theorem ok29 : FnOk (fun _ _ => none) Try.prog 29 F29 := compF_spec no_globals Try.func29 (by kernel_rfl)
theorem ok30 : FnOk (fun _ _ => none) Try.prog 30 F30 := compF_spec no_globals Try.func30 (by kernel_rfl)
theorem ok31 : FnOk (fun _ _ => none) Try.prog 31 F31 := compF_spec no_globals Try.func31 (by kernel_rfl)
theorem ok34 : FnOk (fun _ _ => none) Try.prog 34 F34 := compF_spec no_globals Try.func34 (by kernel_rfl)
theorem ok35 : FnOk (fun _ _ => none) Try.prog 35 F35 := compF_spec no_globals Try.func35 (by kernel_rfl)
theorem ok56 : FnOk (fun _ _ => none) Try.prog 56 F56 := compF_spec no_globals Try.func56 (by kernel_rfl)
theorem ok57 : FnOk (fun _ _ => none) Try.prog 57 F57 := compF_spec no_globals Try.func57 (by kernel_rfl)
theorem ok58 : FnOk (fun _ _ => none) Try.prog 58 F58 := compF_spec no_globals Try.func58 (by kernel_rfl)
theorem ok59 : FnOk (fun _ _ => none) Try.prog 59 F59 := compF_spec no_globals Try.func59 (by kernel_rfl)
theorem ok60 : FnOk (fun _ _ => none) Try.prog 60 F60 := compF_spec no_globals Try.func60 (by kernel_rfl)
theorem ok61 : FnOk (fun _ _ => none) Try.prog 61 F61 := compF_spec no_globals Try.func61 (by kernel_rfl)
theorem ok62 : FnOk (fun _ _ => none) Try.prog 62 F62 := compF_spec no_globals Try.func62 (by kernel_rfl)
theorem ok63 : FnOk (fun _ _ => none) Try.prog 63 F63 := compF_spec no_globals Try.func63 (by kernel_rfl)
theorem ok64 : FnOk (fun _ _ => none) Try.prog 64 F64 := compF_spec no_globals Try.func64 (by kernel_rfl)
theorem ok65 : FnOk (fun _ _ => none) Try.prog 65 F65 := compF_spec no_globals Try.func65 (by kernel_rfl)
theorem ok66 : FnOk (fun _ _ => none) Try.prog 66 F66 := compF_spec no_globals Try.func66 (by kernel_rfl)
theorem ok67 : FnOk (fun _ _ => none) Try.prog 67 F67 := compF_spec no_globals Try.func67 (by kernel_rfl)
theorem ok68 : FnOk (fun _ _ => none) Try.prog 68 F68 := compF_spec no_globals Try.func68 (by kernel_rfl)
theorem ok69 : FnOk (fun _ _ => none) Try.prog 69 F69 := compF_spec no_globals Try.func69 (by kernel_rfl)
theorem ok73 : FnOk (fun _ _ => none) Try.prog 73 F73 := compF_spec no_globals Try.func73 (by kernel_rfl)
theorem tab1_ok : ∀ f fn, tab1 f = some fn → FnOk (fun _ _ => none) Try.prog f fn := by
  intro f fn h
  unfold tab1 at h
  split at h <;> cases h
  · exact ok12
  · exact ok13
  · exact ok14
  · exact ok16
  · exact ok17
  · exact ok20
  · exact ok21
  · exact ok25
  · exact ok26
  · exact ok27
  · exact ok28
  · exact ok29
  · exact ok30
  · exact ok31
  · exact ok34
  · exact ok35
  · exact ok56
  · exact ok57
  · exact ok58
  · exact ok59
  · exact ok60
  · exact ok61
  · exact ok62
  · exact ok63
  · exact ok64
  · exact ok65
  · exact ok66
  · exact ok67
  · exact ok68
  · exact ok69
  · exact ok73
theorem meets1 (f : Nat) : Meets (fun _ _ => none) Try.prog f (L f) := lim_meets tab1_ok (fun f _ m w args vs bs _ _ _ _ _ r a h => by cases h) f

end Go.Es.Seg
