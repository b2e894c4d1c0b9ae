/- The code of the functions that the statement PubsTaken reaches, as the interpreter reads it. No condition. -/
import Derived.Test.YtedmdailpfbboaaEsD
import Derived.Test.YtedmdailpfbboaaChecked
import Derived.KernelRfl
set_option linter.unusedVariables false
set_option linter.unusedSimpArgs false
set_option maxRecDepth 100000
set_option maxHeartbeats 4000000
namespace Go.Es.Ptk
open Go.Proofs
def F11o1 : List Ao := [
  { dst := some 4, k := .mv, xs := [.c (.d (.bool false))] }]
def F11o3 : List Ao := [
  { dst := some 14, k := (.bslice (.str []) 0 []), xs := [] },
  { dst := some 5, k := .mv, xs := [.t 14] },
  { dst := some 6, k := .mv, xs := [.c (.d (.str []))] }]
def F11o6 : List Ao := [
  { dst := some 7, k := .mv, xs := [.c (.d (.int .i64 0))] }]
def F11o11 : List Ao := [
  { dst := some 15, k := .mv, xs := [.t 7] },
  { dst := some 16, k := .mv, xs := [.t 0] },
  { dst := some 17, k := .lenL, xs := [.t 16] },
  { dst := some 18, k := (.bin .lss), xs := [.t 15, .t 17] },
  { dst := some 19, k := .mv, xs := [.t 18] },
  { dst := some 20, k := .mv, xs := [.t 7], g := some (19, true) },
  { dst := some 21, k := (.bin .lss), xs := [.t 20, .c (.d (.int .i64 10))], g := some (19, true) },
  { dst := some 22, k := .pick, xs := [.t 19, .t 21, .c (.d (.bool false))] }]
def F11c12 : Ac := (.cond (.t 22) .skip (.exit 0))
def F11o18 : List Ao := [
  { dst := some 25, k := .mv, xs := [.t 5] },
  { dst := some 26, k := .mv, xs := [.t 0] },
  { dst := some 27, k := .mv, xs := [.t 7] },
  { dst := some 28, k := (.iaddrS 1), xs := [.t 26, .t 27] },
  { dst := some 29, k := (.load none), xs := [.t 28] },
  { dst := some 30, k := .mv, xs := [.t 0] },
  { dst := some 31, k := .mv, xs := [.t 7] },
  { dst := some 32, k := (.iaddrS 1), xs := [.t 30, .t 31] },
  { dst := some 33, k := (.load none), xs := [.t 32] },
  { dst := some 34, k := .lenS, xs := [.t 33] },
  { dst := some 35, k := .mn, xs := [.t 34, .c (.d (.int .i64 40))] },
  { dst := some 36, k := (.substr false true), xs := [.t 29, .t 35] },
  { dst := some 37, k := (.bslice (.str []) 1 [0]), xs := [.t 36] },
  { dst := some 38, k := (.append 1 16 false), xs := [.t 25, .t 37] },
  { dst := some 5, k := .mv, xs := [.t 38] }]
def F11o19 : List Ao := [
  { dst := some 39, k := .mv, xs := [.t 6] },
  { dst := some 40, k := .mv, xs := [.t 5] },
  { dst := some 41, k := .mv, xs := [.t 7] },
  { dst := some 42, k := (.iaddrS 1), xs := [.t 40, .t 41] },
  { dst := some 43, k := (.load none), xs := [.t 42] },
  { dst := some 44, k := (.callf 19), xs := [.t 43] },
  { dst := some 45, k := (.bin .add), xs := [.t 44, .c (.d (.str [0]))] },
  { dst := some 46, k := (.bin .add), xs := [.t 39, .t 45] },
  { dst := some 6, k := .mv, xs := [.t 46] }]
def F11c19 : Ac := (.ops F11o19)
def F11o20 : List Ao := [
  { dst := some 23, k := .mv, xs := [.t 7] },
  { dst := some 24, k := (.bin .add), xs := [.t 23, .c (.d (.int .i64 1))] },
  { dst := some 7, k := .mv, xs := [.t 24] }]
def F11c20 : Ac := (.ops F11o20)
def F11c15 : Ac := (.seq (.block 1 (.seq (.ops F11o18) F11c19)) F11c20)
def F11l8 : Ac := (.seq (.seq (.ops F11o11) F11c12) F11c15)
def F11c7 : Ac := (.block 0 (.loop (.seq (.gh []) (.seq (.keep [0, 1, 5, 6, 7] [[14]]) F11l8))))
def F11o22 : List Ao := [
  { dst := some 47, k := .mv, xs := [.t 5] },
  { dst := some 48, k := (.callf 54), xs := [.t 47] },
  { dst := some 8, k := (.alloc [.d (.int .u8 0), .nils]), xs := [] },
  { dst := none, k := (.store 2), xs := [.t 8, .t 48] }]
def F11o24 : List Ao := [
  { dst := some 50, k := (.faddr 1), xs := [.t 8] },
  { dst := some 51, k := (.load none), xs := [.t 50] },
  { dst := some 52, k := (.callf 55), xs := [.t 51] },
  { dst := some 49, k := .mv, xs := [.t 52] },
  { dst := some 53, k := (.extract 0), xs := [.t 49] },
  { dst := some 54, k := (.extract 1), xs := [.t 49] },
  { dst := some 9, k := .mv, xs := [.t 53] },
  { dst := some 10, k := .mv, xs := [.t 54] }]
def F11o27 : List Ao := [
  { dst := some 55, k := (.faddr 1), xs := [.t 8] },
  { dst := some 56, k := (.load none), xs := [.t 55] },
  { dst := some 57, k := .bytesStr, xs := [.t 56] },
  { dst := some 58, k := .mv, xs := [.t 6] },
  { dst := some 59, k := (.bin .neq), xs := [.t 57, .t 58] },
  { dst := some 60, k := .mv, xs := [.t 59] },
  { dst := some 61, k := (.faddr 0), xs := [.t 8], g := some (60, false) },
  { dst := some 62, k := (.load none), xs := [.t 61], g := some (60, false) },
  { dst := some 63, k := (.bin .neq), xs := [.t 62, .c (.d (.int .u8 140))], g := some (60, false) },
  { dst := some 64, k := .pick, xs := [.t 60, .c (.d (.bool true)), .t 63] },
  { dst := some 65, k := .mv, xs := [.t 64] },
  { dst := some 66, k := .mv, xs := [.t 10], g := some (65, false) },
  { dst := some 67, k := (.bin .neq), xs := [.t 66, .c (.d (.int .i64 0))], g := some (65, false) },
  { dst := some 68, k := .pick, xs := [.t 65, .c (.d (.bool true)), .t 67] },
  { dst := some 69, k := .mv, xs := [.t 68] },
  { dst := some 70, k := .mv, xs := [.t 9], g := some (69, false) },
  { dst := some 71, k := .lenL, xs := [.t 70], g := some (69, false) },
  { dst := some 72, k := .mv, xs := [.t 5], g := some (69, false) },
  { dst := some 73, k := .lenL, xs := [.t 72], g := some (69, false) },
  { dst := some 74, k := (.bin .neq), xs := [.t 71, .t 73], g := some (69, false) },
  { dst := some 75, k := .pick, xs := [.t 69, .c (.d (.bool true)), .t 74] }]
def F11o30 : List Ao := [
  { dst := some 4, k := .mv, xs := [.c (.d (.bool false))] }]
def F11c31 : Ac := .ret
def F11c28 : Ac := (.cond (.t 75) (.seq (.ops F11o30) F11c31) .skip)
def F11o35 : List Ao := [
  { dst := some 11, k := .mv, xs := [.c (.d (.int .i64 0))] }]
def F11o40 : List Ao := [
  { dst := some 76, k := .mv, xs := [.t 11] },
  { dst := some 77, k := .mv, xs := [.t 5] },
  { dst := some 78, k := .lenL, xs := [.t 77] },
  { dst := some 79, k := (.bin .lss), xs := [.t 76, .t 78] }]
def F11c41 : Ac := (.cond (.t 79) .skip (.exit 2))
def F11o47 : List Ao := [
  { dst := some 82, k := .mv, xs := [.t 9] },
  { dst := some 83, k := .mv, xs := [.t 11] },
  { dst := some 84, k := (.iaddrS 3), xs := [.t 82, .t 83] },
  { dst := some 85, k := (.load (some 3)), xs := [.t 84] },
  { dst := some 86, k := .mv, xs := [.t 5] },
  { dst := some 87, k := .mv, xs := [.t 11] },
  { dst := some 88, k := (.iaddrS 1), xs := [.t 86, .t 87] },
  { dst := some 89, k := (.load none), xs := [.t 88] },
  { dst := some 90, k := (.build [.d (.str []), .d (.int .i64 0), .d (.int .u32 0)] [(0, 1)]), xs := [.t 89] },
  { dst := some 91, k := (.eqa true [.s, .i, .i]), xs := [.t 85, .t 90] }]
def F11o50 : List Ao := [
  { dst := some 4, k := .mv, xs := [.c (.d (.bool false))] }]
def F11c51 : Ac := .ret
def F11c48 : Ac := (.cond (.t 91) (.seq (.ops F11o50) F11c51) .skip)
def F11o53 : List Ao := [
  { dst := some 80, k := .mv, xs := [.t 11] },
  { dst := some 81, k := (.bin .add), xs := [.t 80, .c (.d (.int .i64 1))] },
  { dst := some 11, k := .mv, xs := [.t 81] }]
def F11c53 : Ac := (.ops F11o53)
def F11c44 : Ac := (.seq (.block 3 (.seq (.ops F11o47) F11c48)) F11c53)
def F11l37 : Ac := (.seq (.seq (.ops F11o40) F11c41) F11c44)
def F11c36 : Ac := (.block 2 (.loop (.seq (.gh []) (.seq (.keep [1, 5, 6, 9, 11] [[14]]) F11l37))))
def F11o55 : List Ao := [
  { dst := some 93, k := .mv, xs := [.t 6] },
  { dst := some 94, k := .mv, xs := [.t 1] },
  { dst := some 95, k := (.bin .and), xs := [.t 94, .c (.d (.int .i64 65535))] },
  { dst := some 96, k := .mv, xs := [.t 6] },
  { dst := some 97, k := .lenS, xs := [.t 96] },
  { dst := some 98, k := (.bin .add), xs := [.t 97, .c (.d (.int .i64 1))] },
  { dst := some 99, k := (.bin .rem), xs := [.t 95, .t 98] },
  { dst := some 100, k := (.substr false true), xs := [.t 93, .t 99] },
  { dst := some 101, k := .strBytes, xs := [.t 100] },
  { dst := some 102, k := (.callf 55), xs := [.t 101] },
  { dst := some 92, k := .mv, xs := [.t 102] },
  { dst := some 103, k := (.extract 0), xs := [.t 92] },
  { dst := some 104, k := (.extract 1), xs := [.t 92] },
  { dst := some 12, k := .mv, xs := [.t 103] },
  { dst := some 13, k := .mv, xs := [.t 104] }]
def F11o57 : List Ao := [
  { dst := some 105, k := (.callf 39), xs := [] },
  { dst := some 106, k := .mv, xs := [.t 105] },
  { dst := some 107, k := .mv, xs := [.t 13], g := some (106, true) },
  { dst := some 108, k := (.bin .eql), xs := [.t 107, .c (.d (.int .i64 0))], g := some (106, true) },
  { dst := some 109, k := .mv, xs := [.t 108], g := some (106, true) },
  { dst := some 110, k := .mv, xs := [.t 13], g := some (109, false) },
  { dst := some 111, k := (.bin .eql), xs := [.t 110, .c (.d (.int .i64 2))], g := some (109, false) },
  { dst := some 112, k := .mv, xs := [.t 111], g := some (109, false) },
  { dst := some 113, k := .mv, xs := [.t 12], g := some (112, true) },
  { dst := some 114, k := .lenL, xs := [.t 113], g := some (112, true) },
  { dst := some 115, k := (.bin .eql), xs := [.t 114, .c (.d (.int .i64 0))], g := some (112, true) },
  { dst := some 116, k := .pick, xs := [.t 112, .t 115, .c (.d (.bool false))], g := some (109, false) },
  { dst := some 117, k := .pick, xs := [.t 109, .c (.d (.bool true)), .t 116], g := some (106, true) },
  { dst := some 118, k := .pick, xs := [.t 106, .t 117, .c (.d (.bool false))] },
  { dst := some 119, k := .mv, xs := [.t 118] },
  { dst := some 120, k := .mv, xs := [.t 12], g := some (119, true) },
  { dst := some 121, k := .lenL, xs := [.t 120], g := some (119, true) },
  { dst := some 122, k := .mv, xs := [.t 5], g := some (119, true) },
  { dst := some 123, k := .lenL, xs := [.t 122], g := some (119, true) },
  { dst := some 124, k := (.bin .leq), xs := [.t 121, .t 123], g := some (119, true) },
  { dst := some 125, k := .pick, xs := [.t 119, .t 124, .c (.d (.bool false))] },
  { dst := some 4, k := .mv, xs := [.t 125] }]
def F11c58 : Ac := .ret
def F11c56 : Ac := (.seq (.ops F11o57) F11c58)
def F11b54 : Ac := (.seq (.ops F11o55) F11c56)
def F11c54 : Ac := (.seq (.gh []) (.seq (.keep [1, 5, 6] [[14]]) F11b54))
def F11c33 : Ac := (.seq (.seq (.ops F11o35) F11c36) F11c54)
def F11c25 : Ac := (.seq (.seq (.ops F11o27) F11c28) F11c33)
def F11c23 : Ac := (.seq (.ops F11o24) F11c25)
def F11b21 : Ac := (.seq (.ops F11o22) F11c23)
def F11c21 : Ac := (.seq (.gh []) (.seq (.keep [1, 5, 6] [[14]]) F11b21))
def F11c4 : Ac := (.seq (.seq (.ops F11o6) F11c7) F11c21)
def F11c2 : Ac := (.seq (.ops F11o3) F11c4)
def F11c0 : Ac := (.seq (.ops F11o1) F11c2)
/-- hansom/hansomlaw22.PubsTaken -/
def F11 : Fn := { np := 2, pb := [], rs := [.t 4], body := F11c0 }
def F16o1 : List Ao := [
  { dst := some 2, k := .mv, xs := [.c (.nils)] }]
def F16o5 : List Ao := [
  { dst := some 4, k := .mv, xs := [.t 0] },
  { dst := some 5, k := (.bin .lss), xs := [.t 4, .c (.d (.int .i64 0))] },
  { dst := some 6, k := .mv, xs := [.t 5] },
  { dst := some 7, k := .mv, xs := [.t 0], g := some (6, false) },
  { dst := some 8, k := (.bin .gtr), xs := [.t 7, .c (.d (.int .i64 32767))], g := some (6, false) },
  { dst := some 9, k := .pick, xs := [.t 6, .c (.d (.bool true)), .t 8] },
  { dst := some 3, k := .mv, xs := [.t 9] }]
def F16o8 : List Ao := [
  { dst := some 10, k := (.bslice (.int .u8 0) 1 [0]), xs := [.c (.d (.int .u8 0))] },
  { dst := some 2, k := .mv, xs := [.t 10] }]
def F16c9 : Ac := .ret
def F16o11 : List Ao := [
  { dst := some 12, k := .mv, xs := [.t 0] },
  { dst := some 13, k := (.bin .lss), xs := [.t 12, .c (.d (.int .i64 128))] },
  { dst := some 11, k := .mv, xs := [.t 13] }]
def F16o14 : List Ao := [
  { dst := some 14, k := .mv, xs := [.t 0] },
  { dst := some 15, k := (.toInt .u8), xs := [.t 14] },
  { dst := some 16, k := (.bslice (.int .u8 0) 1 [0]), xs := [.t 15] },
  { dst := some 2, k := .mv, xs := [.t 16] }]
def F16c15 : Ac := .ret
def F16c12 : Ac := (.cond (.t 11) (.seq (.ops F16o14) F16c15) .skip)
def F16c6 : Ac := (.cond (.t 3) (.seq (.ops F16o8) F16c9) (.seq (.ops F16o11) F16c12))
def F16o18 : List Ao := [
  { dst := some 17, k := .mv, xs := [.t 0] },
  { dst := some 18, k := (.bin .shr), xs := [.t 17, .c (.d (.int .u64 8))] },
  { dst := some 19, k := (.toInt .u8), xs := [.t 18] },
  { dst := some 20, k := (.bin .or), xs := [.t 19, .c (.d (.int .u8 128))] },
  { dst := some 21, k := .mv, xs := [.t 0] },
  { dst := some 22, k := (.toInt .u8), xs := [.t 21] },
  { dst := some 23, k := (.bslice (.int .u8 0) 2 [0, 1]), xs := [.t 20, .t 22] },
  { dst := some 2, k := .mv, xs := [.t 23] }]
def F16c19 : Ac := .ret
def F16c17 : Ac := (.seq (.ops F16o18) F16c19)
def F16c2 : Ac := (.seq (.block 0 (.seq (.ops F16o5) F16c6)) F16c17)
def F16c0 : Ac := (.seq (.ops F16o1) F16c2)
/-- hansom/index.Put -/
def F16 : Fn := { np := 1, pb := [], rs := [.t 2], body := F16c0 }
def F18o1 : List Ao := [
  { dst := some 2, k := .mv, xs := [.c (.nils)] }]
def F18o3 : List Ao := [
  { dst := some 3, k := .mv, xs := [.t 0] },
  { dst := some 4, k := .mv, xs := [.t 0] },
  { dst := some 5, k := .lenS, xs := [.t 4] },
  { dst := some 6, k := .mn, xs := [.t 5, .c (.d (.int .i64 255))] },
  { dst := some 7, k := (.substr false true), xs := [.t 3, .t 6] },
  { dst := some 0, k := .mv, xs := [.t 7] }]
def F18o5 : List Ao := [
  { dst := some 8, k := .mv, xs := [.t 0] },
  { dst := some 9, k := .lenS, xs := [.t 8] },
  { dst := some 10, k := (.toInt .u8), xs := [.t 9] },
  { dst := some 11, k := (.bslice (.int .u8 0) 1 [0]), xs := [.t 10] },
  { dst := some 12, k := .mv, xs := [.t 0] },
  { dst := some 13, k := (.append 1 1 true), xs := [.t 11, .t 12] },
  { dst := some 2, k := .mv, xs := [.t 13] }]
def F18c6 : Ac := (.seq (.gh [.frz 2]) .ret)
def F18c4 : Ac := (.seq (.ops F18o5) F18c6)
def F18c2 : Ac := (.seq (.ops F18o3) F18c4)
def F18c0 : Ac := (.seq (.ops F18o1) F18c2)
/-- hansom/index.Name -/
def F18 : Fn := { np := 1, pb := [], rs := [.t 2], body := F18c0 }
def F19o1 : List Ao := [
  { dst := some 2, k := .mv, xs := [.c (.d (.str []))] }]
def F19o4 : List Ao := [
  { dst := some 3, k := .mv, xs := [.t 0] },
  { dst := some 4, k := .lenS, xs := [.t 3] },
  { dst := some 5, k := (.bin .gtr), xs := [.t 4, .c (.d (.int .i64 255))] }]
def F19o6 : List Ao := [
  { dst := some 6, k := .mv, xs := [.t 0] },
  { dst := some 7, k := (.substr false true), xs := [.t 6, .c (.d (.int .i64 255))] },
  { dst := some 0, k := .mv, xs := [.t 7] }]
def F19c5 : Ac := (.cond (.t 5) (.ops F19o6) .skip)
def F19o9 : List Ao := [
  { dst := some 8, k := .mv, xs := [.t 0] },
  { dst := some 9, k := .lenS, xs := [.t 8] },
  { dst := some 10, k := (.toInt .u8), xs := [.t 9] },
  { dst := some 11, k := (.bslice (.int .u8 0) 1 [0]), xs := [.t 10] },
  { dst := some 12, k := .bytesStr, xs := [.t 11] },
  { dst := some 13, k := .mv, xs := [.t 0] },
  { dst := some 14, k := (.bin .add), xs := [.t 12, .t 13] },
  { dst := some 2, k := .mv, xs := [.t 14] }]
def F19c10 : Ac := .ret
def F19c8 : Ac := (.seq (.ops F19o9) F19c10)
def F19c2 : Ac := (.seq (.seq (.ops F19o4) F19c5) F19c8)
def F19c0 : Ac := (.seq (.ops F19o1) F19c2)
/-- hansom/hansomref18.Name -/
def F19 : Fn := { np := 1, pb := [], rs := [.t 2], body := F19c0 }
def F20o1 : List Ao := [
  { dst := some 2, k := .mv, xs := [.c (.nils)] }]
def F20o3 : List Ao := [
  { dst := some 3, k := .mv, xs := [.t 0] },
  { dst := some 4, k := (.callf 67), xs := [.t 3] },
  { dst := some 5, k := .mv, xs := [.t 0] },
  { dst := some 6, k := (.callf 68), xs := [.t 5] },
  { dst := some 7, k := (.bslice (.int .u8 0) 2 [0, 1]), xs := [.t 4, .t 6] },
  { dst := some 2, k := .mv, xs := [.t 7] }]
def F20c4 : Ac := (.seq (.gh [.frz 2]) .ret)
def F20c2 : Ac := (.seq (.ops F20o3) F20c4)
def F20c0 : Ac := (.seq (.ops F20o1) F20c2)
/-- hansom/index.Two -/
def F20 : Fn := { np := 1, pb := [], rs := [.t 2], body := F20c0 }
def F25o1 : List Ao := [
  { dst := some 2, k := .mv, xs := [.c (.nilp)] }]
def F25o3 : List Ao := [
  { dst := some 3, k := .mv, xs := [.t 0] },
  { dst := some 4, k := (.append 1 1 false), xs := [.c (.nils), .t 3] },
  { dst := some 5, k := (.build [.nils, .d (.int .i64 0)] [(0, 1)]), xs := [.t 4] },
  { dst := some 6, k := (.box 2), xs := [.t 5] },
  { dst := some 2, k := .mv, xs := [.t 6] }]
def F25c4 : Ac := (.seq (.gh [.frzB [6] 0]) .ret)
def F25c2 : Ac := (.seq (.ops F25o3) F25c4)
def F25c0 : Ac := (.seq (.ops F25o1) F25c2)
/-- hansom/index.From -/
def F25 : Fn := { np := 1, pb := [], rs := [.t 2], body := F25c0 }
def F26o1 : List Ao := [
  { dst := some 4, k := .mv, xs := [.c (.nils)] }]
def F26o4 : List Ao := [
  { dst := some 6, k := .mv, xs := [.t 0] },
  { dst := some 7, k := (.eqp false), xs := [.t 6, .c (.nilp)] }]
def F26o7 : List Ao := [
  { dst := some 4, k := .mv, xs := [.c (.nils)] }]
def F26c8 : Ac := .ret
def F26c5 : Ac := (.cond (.t 7) (.seq (.ops F26o7) F26c8) .skip)
def F26o12 : List Ao := [
  { dst := some 8, k := .mv, xs := [.t 1] },
  { dst := some 9, k := (.bin .lss), xs := [.t 8, .c (.d (.int .i64 0))] },
  { dst := some 10, k := .mv, xs := [.t 9] },
  { dst := some 11, k := .mv, xs := [.t 1], g := some (10, false) },
  { dst := some 12, k := .mv, xs := [.t 0], g := some (10, false) },
  { dst := some 13, k := .nilchk, xs := [.t 12], g := some (10, false) },
  { dst := some 14, k := (.faddr 0), xs := [.t 13], g := some (10, false) },
  { dst := some 15, k := (.load none), xs := [.t 14], g := some (10, false) },
  { dst := some 16, k := .lenL, xs := [.t 15], g := some (10, false) },
  { dst := some 17, k := (.bin .gtr), xs := [.t 11, .t 16], g := some (10, false) },
  { dst := some 18, k := .pick, xs := [.t 10, .c (.d (.bool true)), .t 17] }]
def F26o15 : List Ao := [
  { dst := some 19, k := .mv, xs := [.t 0] },
  { dst := some 20, k := (.callf 27), xs := [.t 19, .c (.d (.int .i64 2))] }]
def F26o17 : List Ao := [
  { dst := some 4, k := .mv, xs := [.c (.nils)] }]
def F26c18 : Ac := (.seq (.gh [.frz 4]) .ret)
def F26c16 : Ac := (.seq (.ops F26o17) F26c18)
def F26c13 : Ac := (.cond (.t 18) (.seq (.ops F26o15) F26c16) .skip)
def F26o21 : List Ao := [
  { dst := some 21, k := .mv, xs := [.t 0] },
  { dst := some 22, k := .nilchk, xs := [.t 21] },
  { dst := some 23, k := (.faddr 0), xs := [.t 22] },
  { dst := some 24, k := (.load none), xs := [.t 23] },
  { dst := some 25, k := .mv, xs := [.t 1] },
  { dst := some 26, k := .mv, xs := [.t 1] },
  { dst := some 27, k := (.subsl 1 false true true), xs := [.t 24, .t 25, .t 26] },
  { dst := some 5, k := .mv, xs := [.t 27] }]
def F26o23 : List Ao := [
  { dst := some 28, k := .mv, xs := [.t 0] },
  { dst := some 29, k := .mv, xs := [.t 0] },
  { dst := some 30, k := .nilchk, xs := [.t 29] },
  { dst := some 31, k := (.faddr 0), xs := [.t 30] },
  { dst := some 32, k := (.load none), xs := [.t 31] },
  { dst := some 33, k := .mv, xs := [.t 1] },
  { dst := some 34, k := (.subsl 1 true false false), xs := [.t 32, .t 33] },
  { dst := some 35, k := .nilchk, xs := [.t 28] },
  { dst := some 36, k := (.faddr 0), xs := [.t 35] },
  { dst := none, k := (.store 1), xs := [.t 36, .t 34] }]
def F26o25 : List Ao := [
  { dst := some 37, k := .mv, xs := [.t 5] },
  { dst := some 4, k := .mv, xs := [.t 37] }]
def F26c26 : Ac := .ret
def F26c24 : Ac := (.seq (.ops F26o25) F26c26)
def F26c22 : Ac := (.seq (.ops F26o23) F26c24)
def F26c20 : Ac := (.seq (.ops F26o21) F26c22)
def F26c10 : Ac := (.seq (.seq (.ops F26o12) F26c13) F26c20)
def F26c2 : Ac := (.seq (.seq (.ops F26o4) F26c5) F26c10)
def F26c0 : Ac := (.seq (.ops F26o1) F26c2)
/-- (*hansom/index.Source).Take -/
def F26 : Fn := { np := 2, pb := [[0]], rs := [.t 4], body := F26c0 }
def F27o1 : List Ao := [
  { dst := some 4, k := .mv, xs := [.t 0] },
  { dst := some 5, k := (.eqp true), xs := [.t 4, .c (.nilp)] },
  { dst := some 6, k := .mv, xs := [.t 5] },
  { dst := some 7, k := .mv, xs := [.t 0], g := some (6, true) },
  { dst := some 8, k := .nilchk, xs := [.t 7], g := some (6, true) },
  { dst := some 9, k := (.faddr 1), xs := [.t 8], g := some (6, true) },
  { dst := some 10, k := (.load none), xs := [.t 9], g := some (6, true) },
  { dst := some 11, k := (.bin .eql), xs := [.t 10, .c (.d (.int .i64 0))], g := some (6, true) },
  { dst := some 12, k := .pick, xs := [.t 6, .t 11, .c (.d (.bool false))] },
  { dst := some 13, k := .mv, xs := [.t 12] },
  { dst := some 14, k := .mv, xs := [.t 1], g := some (13, true) },
  { dst := some 15, k := (.bin .neq), xs := [.t 14, .c (.d (.int .i64 0))], g := some (13, true) },
  { dst := some 16, k := .pick, xs := [.t 13, .t 15, .c (.d (.bool false))] }]
def F27o3 : List Ao := [
  { dst := some 17, k := .mv, xs := [.t 0] },
  { dst := some 18, k := .mv, xs := [.t 0] },
  { dst := some 19, k := .mv, xs := [.t 1] },
  { dst := some 20, k := .nilchk, xs := [.t 17] },
  { dst := some 21, k := (.faddr 1), xs := [.t 20] },
  { dst := none, k := (.store 1), xs := [.t 21, .t 19] },
  { dst := some 22, k := .nilchk, xs := [.t 18] },
  { dst := some 23, k := (.faddr 0), xs := [.t 22] },
  { dst := none, k := (.store 1), xs := [.t 23, .c (.nils)] }]
def F27c2 : Ac := (.cond (.t 16) (.ops F27o3) .skip)
def F27c0 : Ac := (.seq (.ops F27o1) F27c2)
/-- (*hansom/index.Source).Wrong -/
def F27 : Fn := { np := 2, pb := [[0]], rs := [], body := (.seq F27c0 (.gh [.frzB [0] 0])) }
def F28o1 : List Ao := [
  { dst := some 2, k := .mv, xs := [.c (.d (.int .i64 0))] }]
def F28o4 : List Ao := [
  { dst := some 3, k := .mv, xs := [.t 0] },
  { dst := some 4, k := (.eqp false), xs := [.t 3, .c (.nilp)] }]
def F28o7 : List Ao := [
  { dst := some 2, k := .mv, xs := [.c (.d (.int .i64 1))] }]
def F28c8 : Ac := .ret
def F28c5 : Ac := (.cond (.t 4) (.seq (.ops F28o7) F28c8) .skip)
def F28o11 : List Ao := [
  { dst := some 5, k := .mv, xs := [.t 0] },
  { dst := some 6, k := .nilchk, xs := [.t 5] },
  { dst := some 7, k := (.faddr 1), xs := [.t 6] },
  { dst := some 8, k := (.load none), xs := [.t 7] },
  { dst := some 2, k := .mv, xs := [.t 8] }]
def F28c12 : Ac := .ret
def F28c10 : Ac := (.seq (.ops F28o11) F28c12)
def F28c2 : Ac := (.seq (.seq (.ops F28o4) F28c5) F28c10)
def F28c0 : Ac := (.seq (.ops F28o1) F28c2)
/-- (*hansom/index.Source).Err -/
def F28 : Fn := { np := 1, pb := [[0]], rs := [.t 2], body := F28c0 }
def F29o1 : List Ao := [
  { dst := some 2, k := .mv, xs := [.c (.d (.int .i64 0))] }]
def F29o4 : List Ao := [
  { dst := some 3, k := .mv, xs := [.t 0] },
  { dst := some 4, k := (.eqp false), xs := [.t 3, .c (.nilp)] }]
def F29o7 : List Ao := [
  { dst := some 2, k := .mv, xs := [.c (.d (.int .i64 0))] }]
def F29c8 : Ac := .ret
def F29c5 : Ac := (.cond (.t 4) (.seq (.ops F29o7) F29c8) .skip)
def F29o11 : List Ao := [
  { dst := some 5, k := .mv, xs := [.t 0] },
  { dst := some 6, k := .nilchk, xs := [.t 5] },
  { dst := some 7, k := (.faddr 0), xs := [.t 6] },
  { dst := some 8, k := (.load none), xs := [.t 7] },
  { dst := some 9, k := .lenL, xs := [.t 8] },
  { dst := some 2, k := .mv, xs := [.t 9] }]
def F29c12 : Ac := .ret
def F29c10 : Ac := (.seq (.ops F29o11) F29c12)
def F29c2 : Ac := (.seq (.seq (.ops F29o4) F29c5) F29c10)
def F29c0 : Ac := (.seq (.ops F29o1) F29c2)
/-- (*hansom/index.Source).Left -/
def F29 : Fn := { np := 1, pb := [[0]], rs := [.t 2], body := F29c0 }
def F30o1 : List Ao := [
  { dst := some 2, k := .mv, xs := [.c (.d (.int .u16 0))] }]
def F30o4 : List Ao := [
  { dst := some 4, k := .mv, xs := [.t 0] },
  { dst := some 5, k := (.callf 26), xs := [.t 4, .c (.d (.int .i64 2))] },
  { dst := some 3, k := .mv, xs := [.t 5] }]
def F30o6 : List Ao := [
  { dst := some 6, k := .mv, xs := [.t 3] },
  { dst := some 7, k := .lenL, xs := [.t 6] },
  { dst := some 8, k := (.bin .eql), xs := [.t 7, .c (.d (.int .i64 2))] }]
def F30o9 : List Ao := [
  { dst := some 9, k := .mv, xs := [.t 3] },
  { dst := some 10, k := (.iaddrS 1), xs := [.t 9, .c (.d (.int .i64 0))] },
  { dst := some 11, k := (.load none), xs := [.t 10] },
  { dst := some 12, k := .mv, xs := [.t 3] },
  { dst := some 13, k := (.iaddrS 1), xs := [.t 12, .c (.d (.int .i64 1))] },
  { dst := some 14, k := (.load none), xs := [.t 13] },
  { dst := some 15, k := (.callf 69), xs := [.t 11, .t 14] },
  { dst := some 2, k := .mv, xs := [.t 15] }]
def F30c10 : Ac := .ret
def F30c7 : Ac := (.cond (.t 8) (.seq (.ops F30o9) F30c10) .skip)
def F30c5 : Ac := (.seq (.ops F30o6) F30c7)
def F30o13 : List Ao := [
  { dst := some 2, k := .mv, xs := [.c (.d (.int .u16 0))] }]
def F30c14 : Ac := .ret
def F30c12 : Ac := (.seq (.ops F30o13) F30c14)
def F30c2 : Ac := (.seq (.seq (.ops F30o4) F30c5) F30c12)
def F30c0 : Ac := (.seq (.ops F30o1) F30c2)
/-- (*hansom/index.Source).Word -/
def F30 : Fn := { np := 1, pb := [[0]], rs := [.t 2], body := F30c0 }
def F31o1 : List Ao := [
  { dst := some 2, k := .mv, xs := [.c (.d (.int .i64 0))] }]
def F31o3 : List Ao := [
  { dst := some 5, k := .mv, xs := [.t 0] },
  { dst := some 6, k := (.callf 35), xs := [.t 5] },
  { dst := some 7, k := (.toInt .i64), xs := [.t 6] },
  { dst := some 3, k := .mv, xs := [.t 7] }]
def F31o6 : List Ao := [
  { dst := some 8, k := .mv, xs := [.t 3] },
  { dst := some 9, k := (.bin .lss), xs := [.t 8, .c (.d (.int .i64 128))] }]
def F31o9 : List Ao := [
  { dst := some 10, k := .mv, xs := [.t 3] },
  { dst := some 2, k := .mv, xs := [.t 10] }]
def F31c10 : Ac := .ret
def F31c7 : Ac := (.cond (.t 9) (.seq (.ops F31o9) F31c10) .skip)
def F31o13 : List Ao := [
  { dst := some 11, k := .mv, xs := [.t 3] },
  { dst := some 12, k := (.bin .and), xs := [.t 11, .c (.d (.int .i64 127))] },
  { dst := some 13, k := (.bin .shl), xs := [.t 12, .c (.d (.int .u64 8))] },
  { dst := some 14, k := .mv, xs := [.t 0] },
  { dst := some 15, k := (.callf 35), xs := [.t 14] },
  { dst := some 16, k := (.toInt .i64), xs := [.t 15] },
  { dst := some 17, k := (.bin .or), xs := [.t 13, .t 16] },
  { dst := some 4, k := .mv, xs := [.t 17] }]
def F31o16 : List Ao := [
  { dst := some 18, k := .mv, xs := [.t 0] },
  { dst := some 19, k := (.callf 28), xs := [.t 18] },
  { dst := some 20, k := (.bin .neq), xs := [.t 19, .c (.d (.int .i64 0))] }]
def F31o19 : List Ao := [
  { dst := some 2, k := .mv, xs := [.c (.d (.int .i64 0))] }]
def F31c20 : Ac := .ret
def F31c17 : Ac := (.cond (.t 20) (.seq (.ops F31o19) F31c20) .skip)
def F31o23 : List Ao := [
  { dst := some 21, k := .mv, xs := [.t 4] },
  { dst := some 2, k := .mv, xs := [.t 21] }]
def F31c24 : Ac := .ret
def F31c22 : Ac := (.seq (.ops F31o23) F31c24)
def F31c14 : Ac := (.seq (.seq (.ops F31o16) F31c17) F31c22)
def F31c12 : Ac := (.seq (.ops F31o13) F31c14)
def F31c4 : Ac := (.seq (.seq (.ops F31o6) F31c7) F31c12)
def F31c2 : Ac := (.seq (.ops F31o3) F31c4)
def F31c0 : Ac := (.seq (.ops F31o1) F31c2)
/-- (*hansom/index.Source).Index -/
def F31 : Fn := { np := 1, pb := [[0]], rs := [.t 2], body := F31c0 }
def F32o1 : List Ao := [
  { dst := some 2, k := .mv, xs := [.c (.d (.str []))] }]
def F32o3 : List Ao := [
  { dst := some 3, k := .mv, xs := [.t 0] },
  { dst := some 4, k := .mv, xs := [.t 0] },
  { dst := some 5, k := (.callf 35), xs := [.t 4] },
  { dst := some 6, k := (.toInt .i64), xs := [.t 5] },
  { dst := some 7, k := (.callf 26), xs := [.t 3, .t 6] },
  { dst := some 8, k := .bytesStr, xs := [.t 7] },
  { dst := some 2, k := .mv, xs := [.t 8] }]
def F32c4 : Ac := .ret
def F32c2 : Ac := (.seq (.ops F32o3) F32c4)
def F32c0 : Ac := (.seq (.ops F32o1) F32c2)
/-- (*hansom/index.Source).Name -/
def F32 : Fn := { np := 1, pb := [[0]], rs := [.t 2], body := F32c0 }
def F35o1 : List Ao := [
  { dst := some 2, k := .mv, xs := [.c (.d (.int .u8 0))] }]
def F35o4 : List Ao := [
  { dst := some 4, k := .mv, xs := [.t 0] },
  { dst := some 5, k := (.callf 26), xs := [.t 4, .c (.d (.int .i64 1))] },
  { dst := some 3, k := .mv, xs := [.t 5] }]
def F35o6 : List Ao := [
  { dst := some 6, k := .mv, xs := [.t 3] },
  { dst := some 7, k := .lenL, xs := [.t 6] },
  { dst := some 8, k := (.bin .eql), xs := [.t 7, .c (.d (.int .i64 1))] }]
def F35o9 : List Ao := [
  { dst := some 9, k := .mv, xs := [.t 3] },
  { dst := some 10, k := (.iaddrS 1), xs := [.t 9, .c (.d (.int .i64 0))] },
  { dst := some 11, k := (.load none), xs := [.t 10] },
  { dst := some 2, k := .mv, xs := [.t 11] }]
def F35c10 : Ac := .ret
def F35c7 : Ac := (.cond (.t 8) (.seq (.ops F35o9) F35c10) .skip)
def F35c5 : Ac := (.seq (.ops F35o6) F35c7)
def F35o13 : List Ao := [
  { dst := some 2, k := .mv, xs := [.c (.d (.int .u8 0))] }]
def F35c14 : Ac := .ret
def F35c12 : Ac := (.seq (.ops F35o13) F35c14)
def F35c2 : Ac := (.seq (.seq (.ops F35o4) F35c5) F35c12)
def F35c0 : Ac := (.seq (.ops F35o1) F35c2)
/-- (*hansom/index.Source).Byte -/
def F35 : Fn := { np := 1, pb := [[0]], rs := [.t 2], body := F35c0 }
def F37o1 : List Ao := [
  { dst := some 2, k := (.alloc [.d (.int .u8 0), .nils]), xs := [] }]
def F37o3 : List Ao := [
  { dst := some 6, k := (.build [.d (.int .u8 0), .nils] [(0, 1)]), xs := [.c (.d (.int .u8 144))] },
  { dst := some 3, k := (.alloc [.d (.int .u8 0), .nils]), xs := [] },
  { dst := none, k := (.store 2), xs := [.t 3, .t 6] }]
def F37o6 : List Ao := [
  { dst := some 7, k := .mv, xs := [.t 0] },
  { dst := some 8, k := .lenL, xs := [.t 7] },
  { dst := some 9, k := .mv, xs := [.c (.d (.int .i64 0))] }]
def F37o10 : List Ao := [
  { dst := some 10, k := (.bin .lss), xs := [.t 9, .t 8] }]
def F37o18 : List Ao := [
  { dst := some 11, k := .mv, xs := [.t 9] },
  { dst := some 12, k := (.iaddrS 5), xs := [.t 7, .t 9] },
  { dst := some 13, k := (.load (some 5)), xs := [.t 12] },
  { dst := some 5, k := (.alloc [.d (.int .i64 0), .d (.int .i64 0), .d (.int .u16 0), .d (.str []), .d (.int .u16 0)]), xs := [] },
  { dst := some 4, k := .mv, xs := [.t 11] },
  { dst := none, k := (.store 5), xs := [.t 5, .t 13] }]
def F37o21 : List Ao := [
  { dst := some 14, k := .mv, xs := [.t 4] },
  { dst := some 15, k := (.bin .eql), xs := [.t 14, .c (.d (.int .i64 0))] }]
def F37o24 : List Ao := [
  { dst := some 16, k := (.faddr 0), xs := [.t 5] },
  { dst := some 17, k := (.load none), xs := [.t 16] },
  { dst := some 18, k := (.callf 16), xs := [.t 17], al := some [] },
  { dst := some 19, k := (.faddr 1), xs := [.t 5] },
  { dst := some 20, k := (.load none), xs := [.t 19], av := [[18]] },
  { dst := some 21, k := (.callf 16), xs := [.t 20] },
  { dst := some 22, k := (.append 1 1 false), xs := [.t 18, .t 21] },
  { dst := some 23, k := (.faddr 1), xs := [.t 3] },
  { dst := none, k := (.store 1), xs := [.t 23, .t 22] }]
def F37o26 : List Ao := [
  { dst := some 24, k := (.faddr 1), xs := [.t 5] },
  { dst := some 25, k := (.load none), xs := [.t 24] },
  { dst := some 26, k := (.bin .eql), xs := [.t 25, .c (.d (.int .i64 0))] }]
def F37o28 : List Ao := [
  { dst := some 27, k := (.faddr 1), xs := [.t 3] },
  { dst := some 28, k := (.load none), xs := [.t 27], av := [[31]] },
  { dst := some 29, k := (.faddr 2), xs := [.t 5] },
  { dst := some 30, k := (.load none), xs := [.t 29] },
  { dst := some 31, k := (.callf 20), xs := [.t 30], al := some [] },
  { dst := some 32, k := (.append 1 1 false), xs := [.t 28, .t 31] },
  { dst := some 33, k := (.faddr 1), xs := [.t 3] },
  { dst := none, k := (.store 1), xs := [.t 33, .t 32] }]
def F37c27 : Ac := (.cond (.t 26) (.ops F37o28) .skip)
def F37c25 : Ac := (.seq (.ops F37o26) F37c27)
def F37c22 : Ac := (.cond (.t 15) (.seq (.ops F37o24) F37c25) .skip)
def F37o32 : List Ao := [
  { dst := some 34, k := (.faddr 1), xs := [.t 3] },
  { dst := some 35, k := (.load none), xs := [.t 34], av := [[38]] },
  { dst := some 36, k := (.faddr 3), xs := [.t 5] },
  { dst := some 37, k := (.load none), xs := [.t 36] },
  { dst := some 38, k := (.callf 18), xs := [.t 37], al := some [] },
  { dst := some 39, k := (.append 1 1 false), xs := [.t 35, .t 38] },
  { dst := some 40, k := (.faddr 1), xs := [.t 3] },
  { dst := none, k := (.store 1), xs := [.t 40, .t 39] }]
def F37o33 : List Ao := [
  { dst := some 41, k := (.faddr 1), xs := [.t 3] },
  { dst := some 42, k := (.load none), xs := [.t 41], av := [[45], [47]] },
  { dst := some 43, k := (.faddr 4), xs := [.t 5] },
  { dst := some 44, k := (.load none), xs := [.t 43], av := [[47]] },
  { dst := some 45, k := (.callf 20), xs := [.t 44], av := [[47]], al := some [] },
  { dst := some 46, k := (.append 1 1 false), xs := [.t 42, .t 45], av := [[47]], al := some [[1, 3], [18], [22], [32], [39], [46], [48], [901, 3], [951, 3]] },
  { dst := some 47, k := (.bslice (.int .u8 0) 1 [0]), xs := [.c (.d (.int .u8 0))], av := [[45], [46], [1, 3], [18], [22], [32], [39], [48], [901, 3], [951, 3]] },
  { dst := some 48, k := (.append 1 1 false), xs := [.t 46, .t 47] },
  { dst := some 49, k := (.faddr 1), xs := [.t 3] },
  { dst := none, k := (.store 1), xs := [.t 49, .t 48] }]
def F37c33 : Ac := (.ops F37o33)
def F37b31 : Ac := (.seq (.ops F37o32) F37c33)
def F37c31 : Ac := (.seq (.gh [.mvB [3] 1 [951, 3]]) (.seq (.keep [2, 3, 5, 7, 8, 9] [[2], [3], [5], [951, 3]]) F37b31))
def F37c19 : Ac := (.seq (.seq (.ops F37o21) F37c22) F37c31)
def F37o34 : List Ao := [
  { dst := some 50, k := (.bin .add), xs := [.t 9, .c (.d (.int .i64 1))] },
  { dst := some 9, k := .mv, xs := [.t 50] }]
def F37c34 : Ac := (.ops F37o34)
def F37c15 : Ac := (.seq (.block 1 (.seq (.ops F37o18) F37c19)) F37c34)
def F37c11 : Ac := (.seq (.cond (.t 10) .skip (.exit 0)) F37c15)
def F37l8 : Ac := (.seq (.ops F37o10) F37c11)
def F37c7 : Ac := (.block 0 (.loop (.seq (.gh [.mvB [3] 1 [951, 3]]) (.seq (.keep [2, 3, 7, 8, 9] [[2], [3], [951, 3]]) F37l8))))
def F37o36 : List Ao := [
  { dst := some 51, k := (.load (some 2)), xs := [.t 3] },
  { dst := none, k := (.store 2), xs := [.t 2, .t 51] }]
def F37c37 : Ac := (.seq (.gh [.frzB [2] 1]) .ret)
def F37b35 : Ac := (.seq (.ops F37o36) F37c37)
def F37c35 : Ac := (.seq (.gh [.mvB [3] 1 [951, 3]]) (.seq (.keep [2, 3] [[2], [3], [951, 3]]) F37b35))
def F37b4 : Ac := (.seq (.seq (.ops F37o6) F37c7) F37c35)
def F37c4 : Ac := (.seq (.gh [.ownB [3] 1 [901, 3] 1]) (.seq (.keep [0, 2, 3] [[2], [3], [901, 3]]) F37b4))
def F37c2 : Ac := (.seq (.ops F37o3) F37c4)
def F37c0 : Ac := (.seq (.ops F37o1) F37c2)
/-- hansom/pubs.Publics -/
def F37 : Fn := { np := 1, pb := [], rs := [.c 2 (some 2)], body := F37c0 }
def F39o1 : List Ao := [
  { dst := some 0, k := .mv, xs := [.c (.d (.bool false))] }]
def F39o3 : List Ao := [
  { dst := some 4, k := (.build [.d (.int .i64 0), .d (.int .i64 0), .d (.int .u16 0), .d (.str []), .d (.int .u16 0)] [(0, 1), (1, 1), (3, 1), (4, 1)]), xs := [.c (.d (.int .i64 1)), .c (.d (.int .i64 2)), .c (.d (.str [65])), .c (.d (.int .u16 7))] },
  { dst := some 5, k := (.bslice (.agg [.int .i64 0, .int .i64 0, .int .u16 0, .str [], .int .u16 0]) 1 [0]), xs := [.t 4] },
  { dst := some 6, k := (.callf 37), xs := [.t 5] },
  { dst := some 7, k := (.field 1 none), xs := [.t 6] },
  { dst := some 8, k := (.callf 40), xs := [.t 7] },
  { dst := some 3, k := .mv, xs := [.t 8] },
  { dst := some 9, k := (.extract 0), xs := [.t 3] },
  { dst := some 10, k := (.extract 1), xs := [.t 3] },
  { dst := some 1, k := .mv, xs := [.t 9] },
  { dst := some 2, k := .mv, xs := [.t 10] }]
def F39o5 : List Ao := [
  { dst := some 11, k := .mv, xs := [.t 2] },
  { dst := some 12, k := (.bin .eql), xs := [.t 11, .c (.d (.int .i64 0))] },
  { dst := some 13, k := .mv, xs := [.t 12] },
  { dst := some 14, k := .mv, xs := [.t 1], g := some (13, true) },
  { dst := some 15, k := .lenL, xs := [.t 14], g := some (13, true) },
  { dst := some 16, k := (.bin .eql), xs := [.t 15, .c (.d (.int .i64 1))], g := some (13, true) },
  { dst := some 17, k := .pick, xs := [.t 13, .t 16, .c (.d (.bool false))] },
  { dst := some 18, k := .mv, xs := [.t 17] },
  { dst := some 19, k := .mv, xs := [.t 1], g := some (18, true) },
  { dst := some 20, k := (.iaddrS 5), xs := [.t 19, .c (.d (.int .i64 0))], g := some (18, true) },
  { dst := some 21, k := (.faddr 3), xs := [.t 20], g := some (18, true) },
  { dst := some 22, k := (.load none), xs := [.t 21], g := some (18, true) },
  { dst := some 23, k := (.bin .eql), xs := [.t 22, .c (.d (.str [65]))], g := some (18, true) },
  { dst := some 24, k := .pick, xs := [.t 18, .t 23, .c (.d (.bool false))] },
  { dst := some 25, k := .mv, xs := [.t 24] },
  { dst := some 26, k := .mv, xs := [.t 1], g := some (25, true) },
  { dst := some 27, k := (.iaddrS 5), xs := [.t 26, .c (.d (.int .i64 0))], g := some (25, true) },
  { dst := some 28, k := (.faddr 4), xs := [.t 27], g := some (25, true) },
  { dst := some 29, k := (.load none), xs := [.t 28], g := some (25, true) },
  { dst := some 30, k := (.bin .eql), xs := [.t 29, .c (.d (.int .u16 7))], g := some (25, true) },
  { dst := some 31, k := .pick, xs := [.t 25, .t 30, .c (.d (.bool false))] },
  { dst := some 32, k := .mv, xs := [.t 31] },
  { dst := some 33, k := .mv, xs := [.t 1], g := some (32, true) },
  { dst := some 34, k := (.iaddrS 5), xs := [.t 33, .c (.d (.int .i64 0))], g := some (32, true) },
  { dst := some 35, k := (.faddr 1), xs := [.t 34], g := some (32, true) },
  { dst := some 36, k := (.load none), xs := [.t 35], g := some (32, true) },
  { dst := some 37, k := (.bin .eql), xs := [.t 36, .c (.d (.int .i64 2))], g := some (32, true) },
  { dst := some 38, k := .pick, xs := [.t 32, .t 37, .c (.d (.bool false))] },
  { dst := some 0, k := .mv, xs := [.t 38] }]
def F39c6 : Ac := .ret
def F39c4 : Ac := (.seq (.ops F39o5) F39c6)
def F39c2 : Ac := (.seq (.ops F39o3) F39c4)
def F39c0 : Ac := (.seq (.ops F39o1) F39c2)
/-- hansom/hansomlaw22.awake -/
def F39 : Fn := { np := 0, pb := [], rs := [.t 0], body := F39c0 }
def F40o1 : List Ao := [
  { dst := some 2, k := .mv, xs := [.c (.nils)] },
  { dst := some 3, k := .mv, xs := [.c (.d (.int .i64 0))] }]
def F40o3 : List Ao := [
  { dst := some 9, k := .mv, xs := [.t 0] },
  { dst := some 10, k := (.callf 25), xs := [.t 9] },
  { dst := some 4, k := .mv, xs := [.t 10] }]
def F40o5 : List Ao := [
  { dst := some 11, k := .mv, xs := [.t 4] },
  { dst := some 12, k := (.callf 31), xs := [.t 11] },
  { dst := some 13, k := .mv, xs := [.t 4] },
  { dst := some 14, k := (.callf 31), xs := [.t 13] },
  { dst := some 15, k := (.build [.d (.int .i64 0), .d (.int .i64 0), .d (.int .u16 0), .d (.str []), .d (.int .u16 0)] [(0, 1), (1, 1)]), xs := [.t 12, .t 14] },
  { dst := some 5, k := (.alloc [.d (.int .i64 0), .d (.int .i64 0), .d (.int .u16 0), .d (.str []), .d (.int .u16 0)]), xs := [] },
  { dst := none, k := (.store 5), xs := [.t 5, .t 15] }]
def F40o8 : List Ao := [
  { dst := some 16, k := (.faddr 1), xs := [.t 5] },
  { dst := some 17, k := (.load none), xs := [.t 16] },
  { dst := some 18, k := (.bin .eql), xs := [.t 17, .c (.d (.int .i64 0))] }]
def F40o10 : List Ao := [
  { dst := some 19, k := .mv, xs := [.t 4] },
  { dst := some 20, k := (.callf 30), xs := [.t 19] },
  { dst := some 21, k := (.faddr 2), xs := [.t 5] },
  { dst := none, k := (.store 1), xs := [.t 21, .t 20] }]
def F40c9 : Ac := (.cond (.t 18) (.ops F40o10) .skip)
def F40o13 : List Ao := [
  { dst := some 6, k := .mv, xs := [.c (.nils)] }]
def F40o19 : List Ao := [
  { dst := some 22, k := .mv, xs := [.t 4] },
  { dst := some 23, k := (.callf 29), xs := [.t 22] },
  { dst := some 24, k := (.bin .gtr), xs := [.t 23, .c (.d (.int .i64 0))] }]
def F40c20 : Ac := (.cond (.t 24) .skip (.exit 0))
def F40o25 : List Ao := [
  { dst := some 25, k := (.load (some 5)), xs := [.t 5] },
  { dst := some 7, k := (.alloc [.d (.int .i64 0), .d (.int .i64 0), .d (.int .u16 0), .d (.str []), .d (.int .u16 0)]), xs := [] },
  { dst := none, k := (.store 5), xs := [.t 7, .t 25] }]
def F40o27 : List Ao := [
  { dst := some 26, k := .mv, xs := [.t 4] },
  { dst := some 27, k := (.callf 32), xs := [.t 26] },
  { dst := some 28, k := .mv, xs := [.t 4] },
  { dst := some 29, k := (.callf 30), xs := [.t 28] },
  { dst := some 30, k := (.faddr 3), xs := [.t 7] },
  { dst := none, k := (.store 1), xs := [.t 30, .t 27] },
  { dst := some 31, k := (.faddr 4), xs := [.t 7] },
  { dst := none, k := (.store 1), xs := [.t 31, .t 29] }]
def F40o29 : List Ao := [
  { dst := some 32, k := .mv, xs := [.t 4] },
  { dst := some 33, k := (.callf 31), xs := [.t 32] }]
def F40o30 : List Ao := [
  { dst := some 34, k := .mv, xs := [.t 6] },
  { dst := some 35, k := (.load (some 5)), xs := [.t 7] },
  { dst := some 36, k := (.bslice (.agg [.int .i64 0, .int .i64 0, .int .u16 0, .str [], .int .u16 0]) 1 [0]), xs := [.t 35] },
  { dst := some 37, k := (.append 5 48 false), xs := [.t 34, .t 36] },
  { dst := some 6, k := .mv, xs := [.t 37] }]
def F40c30 : Ac := (.ops F40o30)
def F40c28 : Ac := (.seq (.ops F40o29) F40c30)
def F40c26 : Ac := (.seq (.ops F40o27) F40c28)
def F40c23 : Ac := (.block 1 (.seq (.ops F40o25) F40c26))
def F40l16 : Ac := (.seq (.seq (.ops F40o19) F40c20) F40c23)
def F40o33 : List Ao := [
  { dst := some 38, k := .mv, xs := [.t 4] },
  { dst := some 39, k := (.callf 28), xs := [.t 38] },
  { dst := some 8, k := .mv, xs := [.t 39] }]
def F40o35 : List Ao := [
  { dst := some 40, k := .mv, xs := [.t 8] },
  { dst := some 41, k := (.bin .neq), xs := [.t 40, .c (.d (.int .i64 0))] }]
def F40o38 : List Ao := [
  { dst := some 42, k := .mv, xs := [.t 8] },
  { dst := some 2, k := .mv, xs := [.c (.nils)] },
  { dst := some 3, k := .mv, xs := [.t 42] }]
def F40c39 : Ac := (.seq (.gh [.frz 2]) .ret)
def F40c36 : Ac := (.cond (.t 41) (.seq (.ops F40o38) F40c39) .skip)
def F40c34 : Ac := (.seq (.ops F40o35) F40c36)
def F40o42 : List Ao := [
  { dst := some 43, k := .mv, xs := [.t 6] },
  { dst := some 2, k := .mv, xs := [.t 43] },
  { dst := some 3, k := .mv, xs := [.c (.d (.int .i64 0))] }]
def F40c43 : Ac := (.seq (.gh [.frz 2]) .ret)
def F40c41 : Ac := (.seq (.ops F40o42) F40c43)
def F40b31 : Ac := (.seq (.seq (.ops F40o33) F40c34) F40c41)
def F40c31 : Ac := (.seq (.gh []) (.seq (.keep [4, 6] [[6], [10]]) F40b31))
def F40b14 : Ac := (.seq (.block 0 (.loop (.seq (.gh []) (.seq (.keep [4, 5, 6] [[5], [6], [10]]) F40l16)))) F40c31)
def F40c14 : Ac := (.seq (.gh [.own 6 [6] 5]) (.seq (.keep [4, 5, 6] [[5], [6], [10]]) F40b14))
def F40b12 : Ac := (.seq (.ops F40o13) F40c14)
def F40c12 : Ac := (.seq (.gh []) (.seq (.keep [4, 5] [[5], [10]]) F40b12))
def F40c6 : Ac := (.seq (.seq (.ops F40o8) F40c9) F40c12)
def F40c4 : Ac := (.seq (.ops F40o5) F40c6)
def F40c2 : Ac := (.seq (.ops F40o3) F40c4)
def F40c0 : Ac := (.seq (.ops F40o1) F40c2)
/-- hansom/pubs.Given -/
def F40 : Fn := { np := 1, pb := [], rs := [.t 2, .t 3], body := F40c0 }
def F54o1 : List Ao := [
  { dst := some 2, k := (.alloc [.d (.int .u8 0), .nils]), xs := [] }]
def F54o3 : List Ao := [
  { dst := some 6, k := (.build [.d (.int .u8 0), .nils] [(0, 1)]), xs := [.c (.d (.int .u8 140))] },
  { dst := some 3, k := (.alloc [.d (.int .u8 0), .nils]), xs := [] },
  { dst := none, k := (.store 2), xs := [.t 3, .t 6] }]
def F54o6 : List Ao := [
  { dst := some 7, k := .mv, xs := [.t 0] },
  { dst := some 8, k := .lenL, xs := [.t 7] },
  { dst := some 9, k := .mv, xs := [.c (.d (.int .i64 0))] }]
def F54o10 : List Ao := [
  { dst := some 10, k := (.bin .lss), xs := [.t 9, .t 8] }]
def F54o18 : List Ao := [
  { dst := some 11, k := (.iaddrS 1), xs := [.t 7, .t 9] },
  { dst := some 12, k := (.load none), xs := [.t 11] },
  { dst := some 5, k := .mv, xs := [.t 12] }]
def F54o19 : List Ao := [
  { dst := some 13, k := (.faddr 1), xs := [.t 3] },
  { dst := some 14, k := (.load none), xs := [.t 13], av := [[16], [18]] },
  { dst := some 15, k := .mv, xs := [.t 5] },
  { dst := some 16, k := (.callf 18), xs := [.t 15], av := [[18]], al := some [] },
  { dst := some 17, k := (.append 1 1 false), xs := [.t 14, .t 16], av := [[18]], al := some [[1, 3], [17], [19], [901, 3]] },
  { dst := some 18, k := (.bslice (.int .u8 0) 1 [0]), xs := [.c (.d (.int .u8 0))], av := [[16], [17], [1, 3], [19], [901, 3]] },
  { dst := some 19, k := (.append 1 1 false), xs := [.t 17, .t 18] },
  { dst := some 20, k := (.faddr 1), xs := [.t 3] },
  { dst := none, k := (.store 1), xs := [.t 20, .t 19] }]
def F54c19 : Ac := (.ops F54o19)
def F54o20 : List Ao := [
  { dst := some 21, k := (.bin .add), xs := [.t 9, .c (.d (.int .i64 1))] },
  { dst := some 9, k := .mv, xs := [.t 21] }]
def F54c20 : Ac := (.ops F54o20)
def F54c15 : Ac := (.seq (.block 1 (.seq (.ops F54o18) F54c19)) F54c20)
def F54c11 : Ac := (.seq (.cond (.t 10) .skip (.exit 0)) F54c15)
def F54l8 : Ac := (.seq (.ops F54o10) F54c11)
def F54c7 : Ac := (.block 0 (.loop (.seq (.gh []) (.seq (.keep [2, 3, 7, 8, 9] [[2], [3], [901, 3]]) F54l8))))
def F54o22 : List Ao := [
  { dst := some 22, k := (.load (some 2)), xs := [.t 3] },
  { dst := none, k := (.store 2), xs := [.t 2, .t 22] }]
def F54c23 : Ac := (.seq (.gh [.frzB [2] 1]) .ret)
def F54b21 : Ac := (.seq (.ops F54o22) F54c23)
def F54c21 : Ac := (.seq (.gh []) (.seq (.keep [2, 3] [[2], [3], [901, 3]]) F54b21))
def F54b4 : Ac := (.seq (.seq (.ops F54o6) F54c7) F54c21)
def F54c4 : Ac := (.seq (.gh [.ownB [3] 1 [901, 3] 1]) (.seq (.keep [0, 2, 3] [[2], [3], [901, 3]]) F54b4))
def F54c2 : Ac := (.seq (.ops F54o3) F54c4)
def F54c0 : Ac := (.seq (.ops F54o1) F54c2)
/-- hansom/pubs.Externals -/
def F54 : Fn := { np := 1, pb := [], rs := [.c 2 (some 2)], body := F54c0 }
def F55o1 : List Ao := [
  { dst := some 2, k := .mv, xs := [.c (.nils)] },
  { dst := some 3, k := .mv, xs := [.c (.d (.int .i64 0))] }]
def F55o3 : List Ao := [
  { dst := some 7, k := .mv, xs := [.t 0] },
  { dst := some 8, k := (.callf 25), xs := [.t 7] },
  { dst := some 4, k := .mv, xs := [.t 8] }]
def F55o5 : List Ao := [
  { dst := some 5, k := .mv, xs := [.c (.nils)] }]
def F55o11 : List Ao := [
  { dst := some 9, k := .mv, xs := [.t 4] },
  { dst := some 10, k := (.callf 29), xs := [.t 9] },
  { dst := some 11, k := (.bin .gtr), xs := [.t 10, .c (.d (.int .i64 0))] }]
def F55c12 : Ac := (.cond (.t 11) .skip (.exit 0))
def F55o17 : List Ao := [
  { dst := some 12, k := .mv, xs := [.t 5] },
  { dst := some 13, k := .mv, xs := [.t 4] },
  { dst := some 14, k := (.callf 32), xs := [.t 13] },
  { dst := some 15, k := (.build [.d (.str []), .d (.int .i64 0), .d (.int .u32 0)] [(0, 1)]), xs := [.t 14] },
  { dst := some 16, k := (.bslice (.agg [.str [], .int .i64 0, .int .u32 0]) 1 [0]), xs := [.t 15] },
  { dst := some 17, k := (.append 3 32 false), xs := [.t 12, .t 16] },
  { dst := some 5, k := .mv, xs := [.t 17] }]
def F55o18 : List Ao := [
  { dst := some 18, k := .mv, xs := [.t 4] },
  { dst := some 19, k := (.callf 31), xs := [.t 18] }]
def F55c18 : Ac := (.ops F55o18)
def F55c15 : Ac := (.block 1 (.seq (.ops F55o17) F55c18))
def F55l8 : Ac := (.seq (.seq (.ops F55o11) F55c12) F55c15)
def F55o21 : List Ao := [
  { dst := some 20, k := .mv, xs := [.t 4] },
  { dst := some 21, k := (.callf 28), xs := [.t 20] },
  { dst := some 6, k := .mv, xs := [.t 21] }]
def F55o23 : List Ao := [
  { dst := some 22, k := .mv, xs := [.t 6] },
  { dst := some 23, k := (.bin .neq), xs := [.t 22, .c (.d (.int .i64 0))] }]
def F55o26 : List Ao := [
  { dst := some 24, k := .mv, xs := [.t 6] },
  { dst := some 2, k := .mv, xs := [.c (.nils)] },
  { dst := some 3, k := .mv, xs := [.t 24] }]
def F55c27 : Ac := (.seq (.gh [.frz 2]) .ret)
def F55c24 : Ac := (.cond (.t 23) (.seq (.ops F55o26) F55c27) .skip)
def F55c22 : Ac := (.seq (.ops F55o23) F55c24)
def F55o30 : List Ao := [
  { dst := some 25, k := .mv, xs := [.t 5] },
  { dst := some 2, k := .mv, xs := [.t 25] },
  { dst := some 3, k := .mv, xs := [.c (.d (.int .i64 0))] }]
def F55c31 : Ac := (.seq (.gh [.frz 2]) .ret)
def F55c29 : Ac := (.seq (.ops F55o30) F55c31)
def F55b19 : Ac := (.seq (.seq (.ops F55o21) F55c22) F55c29)
def F55c19 : Ac := (.seq (.gh []) (.seq (.keep [4, 5] [[5], [8]]) F55b19))
def F55b6 : Ac := (.seq (.block 0 (.loop (.seq (.gh []) (.seq (.keep [4, 5] [[5], [8]]) F55l8)))) F55c19)
def F55c6 : Ac := (.seq (.gh [.own 5 [5] 3]) (.seq (.keep [4, 5] [[5], [8]]) F55b6))
def F55c4 : Ac := (.seq (.ops F55o5) F55c6)
def F55c2 : Ac := (.seq (.ops F55o3) F55c4)
def F55c0 : Ac := (.seq (.ops F55o1) F55c2)
/-- hansom/pubs.Taken -/
def F55 : Fn := { np := 1, pb := [], rs := [.t 2, .t 3], body := F55c0 }
def F67o1 : List Ao := [
  { dst := some 2, k := .mv, xs := [.c (.d (.int .u8 0))] }]
def F67o3 : List Ao := [
  { dst := some 3, k := .mv, xs := [.t 0] },
  { dst := some 4, k := (.toInt .u8), xs := [.t 3] },
  { dst := some 2, k := .mv, xs := [.t 4] }]
def F67c4 : Ac := .ret
def F67c2 : Ac := (.seq (.ops F67o3) F67c4)
def F67c0 : Ac := (.seq (.ops F67o1) F67c2)
/-- hansom/bits.Low -/
def F67 : Fn := { np := 1, pb := [], rs := [.t 2], body := F67c0 }
def F68o1 : List Ao := [
  { dst := some 2, k := .mv, xs := [.c (.d (.int .u8 0))] }]
def F68o3 : List Ao := [
  { dst := some 3, k := .mv, xs := [.t 0] },
  { dst := some 4, k := (.bin .shr), xs := [.t 3, .c (.d (.int .u64 8))] },
  { dst := some 5, k := (.toInt .u8), xs := [.t 4] },
  { dst := some 2, k := .mv, xs := [.t 5] }]
def F68c4 : Ac := .ret
def F68c2 : Ac := (.seq (.ops F68o3) F68c4)
def F68c0 : Ac := (.seq (.ops F68o1) F68c2)
/-- hansom/bits.High -/
def F68 : Fn := { np := 1, pb := [], rs := [.t 2], body := F68c0 }
def F69o1 : List Ao := [
  { dst := some 4, k := .mv, xs := [.c (.d (.int .u16 0))] }]
def F69o3 : List Ao := [
  { dst := some 5, k := .mv, xs := [.t 0] },
  { dst := some 6, k := (.toInt .u16), xs := [.t 5] },
  { dst := some 7, k := .mv, xs := [.t 1] },
  { dst := some 8, k := (.toInt .u16), xs := [.t 7] },
  { dst := some 9, k := (.bin .shl), xs := [.t 8, .c (.d (.int .u64 8))] },
  { dst := some 10, k := (.bin .or), xs := [.t 6, .t 9] },
  { dst := some 4, k := .mv, xs := [.t 10] }]
def F69c4 : Ac := .ret
def F69c2 : Ac := (.seq (.ops F69o3) F69c4)
def F69c0 : Ac := (.seq (.ops F69o1) F69c2)
/-- hansom/bits.Word -/
def F69 : Fn := { np := 2, pb := [], rs := [.t 4], body := F69c0 }
def tab1 : Nat → Option Fn
  | 11 => some F11
  | 16 => some F16
  | 18 => some F18
  | 19 => some F19
  | 20 => some F20
  | 25 => some F25
  | 26 => some F26
  | 27 => some F27
  | 28 => some F28
  | 29 => some F29
  | 30 => some F30
  | 31 => some F31
  | 32 => some F32
  | 35 => some F35
  | 37 => some F37
  | 39 => some F39
  | 40 => some F40
  | 54 => some F54
  | 55 => some F55
  | 67 => some F67
  | 68 => some F68
  | 69 => some F69
  | _ => none
noncomputable def L : Cs := lim tab1 (fun _ _ => none)

theorem no_globals : GOk (fun _ _ => none) (fun _ => none) := fun n a h => by cases h
theorem ok11 : FnOk (fun _ _ => none) Try.prog 11 F11 := compF_spec no_globals Try.func11 (by kernel_rfl)
theorem ok16 : FnOk (fun _ _ => none) Try.prog 16 F16 := compF_spec no_globals Try.func16 (by kernel_rfl)
theorem ok18 : FnOk (fun _ _ => none) Try.prog 18 F18 := compF_spec no_globals Try.func18 (by kernel_rfl)
theorem ok19 : FnOk (fun _ _ => none) Try.prog 19 F19 := compF_spec no_globals Try.func19 (by kernel_rfl)
theorem ok20 : FnOk (fun _ _ => none) Try.prog 20 F20 := compF_spec no_globals Try.func20 (by kernel_rfl)
theorem ok25 : FnOk (fun _ _ => none) Try.prog 25 F25 := compF_spec no_globals Try.func25 (by kernel_rfl)
theorem ok26 : FnOk (fun _ _ => none) Try.prog 26 F26 := compF_spec no_globals Try.func26 (by kernel_rfl)
theorem ok27 : FnOk (fun _ _ => none) Try.prog 27 F27 := compF_spec no_globals Try.func27 (by kernel_rfl)
theorem ok28 : FnOk (fun _ _ => none) Try.prog 28 F28 := compF_spec no_globals Try.func28 (by kernel_rfl)
theorem ok29 : FnOk (fun _ _ => none) Try.prog 29 F29 := compF_spec no_globals Try.func29 (by kernel_rfl)
theorem ok30 : FnOk (fun _ _ => none) Try.prog 30 F30 := compF_spec no_globals Try.func30 (by kernel_rfl)
theorem ok31 : FnOk (fun _ _ => none) Try.prog 31 F31 := compF_spec no_globals Try.func31 (by kernel_rfl)
theorem ok32 : FnOk (fun _ _ => none) Try.prog 32 F32 := compF_spec no_globals Try.func32 (by kernel_rfl)
theorem ok35 : FnOk (fun _ _ => none) Try.prog 35 F35 := compF_spec no_globals Try.func35 (by kernel_rfl)
theorem ok37 : FnOk (fun _ _ => none) Try.prog 37 F37 := compF_spec no_globals Try.func37 (by kernel_rfl)
theorem ok39 : FnOk (fun _ _ => none) Try.prog 39 F39 := compF_spec no_globals Try.func39 (by kernel_rfl)
theorem ok40 : FnOk (fun _ _ => none) Try.prog 40 F40 := compF_spec no_globals Try.func40 (by kernel_rfl)
theorem ok54 : FnOk (fun _ _ => none) Try.prog 54 F54 := compF_spec no_globals Try.func54 (by kernel_rfl)
theorem ok55 : FnOk (fun _ _ => none) Try.prog 55 F55 := compF_spec no_globals Try.func55 (by kernel_rfl)
theorem ok67 : FnOk (fun _ _ => none) Try.prog 67 F67 := compF_spec no_globals Try.func67 (by kernel_rfl)
theorem ok68 : FnOk (fun _ _ => none) Try.prog 68 F68 := compF_spec no_globals Try.func68 (by kernel_rfl)
theorem ok69 : FnOk (fun _ _ => none) Try.prog 69 F69 := compF_spec no_globals Try.func69 (by kernel_rfl)
theorem tab1_ok : ∀ f fn, tab1 f = some fn → FnOk (fun _ _ => none) Try.prog f fn := by
  intro f fn h
  unfold tab1 at h
  split at h <;> cases h
  · exact ok11
  · exact ok16
  · exact ok18
  · exact ok19
  · exact ok20
  · exact ok25
  · exact ok26
  · exact ok27
  · exact ok28
  · exact ok29
  · exact ok30
  · exact ok31
  · exact ok32
  · exact ok35
  · exact ok37
  · exact ok39
  · exact ok40
  · exact ok54
  · exact ok55
  · exact ok67
  · exact ok68
  · exact ok69
theorem meets1 (f : Nat) : Meets (fun _ _ => none) Try.prog f (L f) := lim_meets tab1_ok (fun f _ m w args vs bs _ _ _ _ _ r a h => by cases h) f

end Go.Es.Ptk
