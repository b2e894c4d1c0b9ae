/- The code of the functions that the statement IndexPuts reaches, as the interpreter reads it. No condition. -/
import Derived.Test.YtedmdailpfbboaaEsD
import Derived.Test.YtedmdailpfbboaaChecked
import Derived.KernelRfl
set_option linter.unusedVariables false
set_option linter.unusedSimpArgs false
set_option maxRecDepth 100000
set_option maxHeartbeats 4000000
namespace Go.Es.Ixp
open Go.Proofs
def F3o1 : List Ao := [
  { dst := some 6, k := .mv, xs := [.c (.d (.bool false))] }]
def F3o3 : List Ao := [
  { dst := some 8, k := .mv, xs := [.t 1] },
  { dst := some 9, k := .mv, xs := [.t 1] },
  { dst := some 10, k := .lenS, xs := [.t 9] },
  { dst := some 11, k := .mn, xs := [.t 10, .c (.d (.int .i64 300))] },
  { dst := some 12, k := (.substr false true), xs := [.t 8, .t 11] },
  { dst := some 7, k := .mv, xs := [.t 12] }]
def F3o5 : List Ao := [
  { dst := some 13, k := (.callf 15), xs := [] },
  { dst := some 14, k := .mv, xs := [.t 13] },
  { dst := some 15, k := .mv, xs := [.t 0], g := some (14, true) },
  { dst := some 16, k := (.callf 16), xs := [.t 15], g := some (14, true) },
  { dst := some 17, k := .bytesStr, xs := [.t 16], g := some (14, true), av := [[19]] },
  { dst := some 18, k := .mv, xs := [.t 0], g := some (14, true) },
  { dst := some 19, k := (.callf 17), xs := [.t 18], g := some (14, true), al := some [] },
  { dst := some 20, k := (.bin .eql), xs := [.t 17, .t 19], g := some (14, true) },
  { dst := some 21, k := .pick, xs := [.t 14, .t 20, .c (.d (.bool false))] },
  { dst := some 22, k := .mv, xs := [.t 21] },
  { dst := some 23, k := .mv, xs := [.t 7], g := some (22, true) },
  { dst := some 24, k := (.callf 18), xs := [.t 23], g := some (22, true) },
  { dst := some 25, k := .bytesStr, xs := [.t 24], g := some (22, true), av := [[27]] },
  { dst := some 26, k := .mv, xs := [.t 7], g := some (22, true) },
  { dst := some 27, k := (.callf 19), xs := [.t 26], g := some (22, true), al := some [] },
  { dst := some 28, k := (.bin .eql), xs := [.t 25, .t 27], g := some (22, true) },
  { dst := some 29, k := .pick, xs := [.t 22, .t 28, .c (.d (.bool false))] },
  { dst := some 30, k := .mv, xs := [.t 29] },
  { dst := some 31, k := .mv, xs := [.t 2], g := some (30, true) },
  { dst := some 32, k := (.toInt .u16), xs := [.t 31], g := some (30, true) },
  { dst := some 33, k := (.callf 20), xs := [.t 32], g := some (30, true) },
  { dst := some 34, k := .bytesStr, xs := [.t 33], g := some (30, true), av := [[38]] },
  { dst := some 35, k := .mv, xs := [.t 2], g := some (30, true) },
  { dst := some 36, k := (.toInt .u64), xs := [.t 35], g := some (30, true) },
  { dst := some 37, k := (.bin .rem), xs := [.t 36, .c (.d (.int .u64 65536))], g := some (30, true) },
  { dst := some 38, k := (.callf 21), xs := [.t 37, .c (.d (.int .i64 2))], g := some (30, true), al := some [] },
  { dst := some 39, k := (.bin .eql), xs := [.t 34, .t 38], g := some (30, true) },
  { dst := some 40, k := .pick, xs := [.t 30, .t 39, .c (.d (.bool false))] },
  { dst := some 41, k := .mv, xs := [.t 40] },
  { dst := some 42, k := .mv, xs := [.t 2], g := some (41, true) },
  { dst := some 43, k := (.callf 22), xs := [.t 42], g := some (41, true) },
  { dst := some 44, k := .bytesStr, xs := [.t 43], g := some (41, true), av := [[47]] },
  { dst := some 45, k := .mv, xs := [.t 2], g := some (41, true) },
  { dst := some 46, k := (.toInt .u64), xs := [.t 45], g := some (41, true) },
  { dst := some 47, k := (.callf 21), xs := [.t 46, .c (.d (.int .i64 4))], g := some (41, true), al := some [] },
  { dst := some 48, k := (.bin .eql), xs := [.t 44, .t 47], g := some (41, true) },
  { dst := some 49, k := .pick, xs := [.t 41, .t 48, .c (.d (.bool false))] },
  { dst := some 50, k := .mv, xs := [.t 49] },
  { dst := some 51, k := .mv, xs := [.t 2], g := some (50, true) },
  { dst := some 52, k := (.callf 23), xs := [.t 51], g := some (50, true) },
  { dst := some 53, k := .bytesStr, xs := [.t 52], g := some (50, true), av := [[55]] },
  { dst := some 54, k := .mv, xs := [.t 2], g := some (50, true) },
  { dst := some 55, k := (.callf 24), xs := [.t 54], g := some (50, true), al := some [] },
  { dst := some 56, k := (.bin .eql), xs := [.t 53, .t 55], g := some (50, true) },
  { dst := some 57, k := .pick, xs := [.t 50, .t 56, .c (.d (.bool false))] },
  { dst := some 6, k := .mv, xs := [.t 57] }]
def F3c6 : Ac := .ret
def F3c4 : Ac := (.seq (.ops F3o5) F3c6)
def F3c2 : Ac := (.seq (.ops F3o3) F3c4)
def F3c0 : Ac := (.seq (.ops F3o1) F3c2)
/-- hansom/hansomlaw19.IndexPuts -/
def F3 : Fn := { np := 3, pb := [], rs := [.t 6], body := F3c0 }
def F15o1 : List Ao := [
  { dst := some 0, k := .mv, xs := [.c (.d (.bool false))] }]
def F15o3 : List Ao := [
  { dst := some 4, k := (.bslice (.int .u8 0) 5 [0, 1, 2, 3, 4]), xs := [.c (.d (.int .u8 129)), .c (.d (.int .u8 44)), .c (.d (.int .u8 2)), .c (.d (.int .u8 65)), .c (.d (.int .u8 66))] },
  { dst := some 5, k := (.callf 25), xs := [.t 4] },
  { dst := some 1, k := .mv, xs := [.t 5] }]
def F15o5 : List Ao := [
  { dst := some 6, k := .mv, xs := [.t 1] },
  { dst := some 7, k := (.callf 31), xs := [.t 6] },
  { dst := some 8, k := .mv, xs := [.t 1] },
  { dst := some 9, k := (.callf 32), xs := [.t 8] },
  { dst := some 2, k := .mv, xs := [.t 7] },
  { dst := some 3, k := .mv, xs := [.t 9] }]
def F15o7 : List Ao := [
  { dst := some 10, k := (.callf 16), xs := [.c (.d (.int .i64 300))] },
  { dst := some 11, k := .bytesStr, xs := [.t 10] },
  { dst := some 12, k := (.bin .eql), xs := [.t 11, .c (.d (.str [129, 44]))] },
  { dst := some 13, k := .mv, xs := [.t 12] },
  { dst := some 14, k := .mv, xs := [.t 2], g := some (13, true) },
  { dst := some 15, k := (.bin .eql), xs := [.t 14, .c (.d (.int .i64 300))], g := some (13, true) },
  { dst := some 16, k := .pick, xs := [.t 13, .t 15, .c (.d (.bool false))] },
  { dst := some 17, k := .mv, xs := [.t 16] },
  { dst := some 18, k := .mv, xs := [.t 3], g := some (17, true) },
  { dst := some 19, k := (.bin .eql), xs := [.t 18, .c (.d (.str [65, 66]))], g := some (17, true) },
  { dst := some 20, k := .pick, xs := [.t 17, .t 19, .c (.d (.bool false))] },
  { dst := some 21, k := .mv, xs := [.t 20] },
  { dst := some 22, k := .mv, xs := [.t 1], g := some (21, true) },
  { dst := some 23, k := (.callf 34), xs := [.t 22], g := some (21, true) },
  { dst := some 24, k := (.bin .eql), xs := [.t 23, .c (.d (.int .i64 0))], g := some (21, true) },
  { dst := some 25, k := .pick, xs := [.t 21, .t 24, .c (.d (.bool false))] },
  { dst := some 0, k := .mv, xs := [.t 25] }]
def F15c8 : Ac := .ret
def F15c6 : Ac := (.seq (.ops F15o7) F15c8)
def F15c4 : Ac := (.seq (.ops F15o5) F15c6)
def F15c2 : Ac := (.seq (.ops F15o3) F15c4)
def F15c0 : Ac := (.seq (.ops F15o1) F15c2)
/-- hansom/hansomlaw19.awake -/
def F15 : Fn := { np := 0, pb := [], rs := [.t 0], body := F15c0 }
def F16o1 : List Ao := [
  { dst := some 2, k := .mv, xs := [.c (.nils)] }]
def F16o5 : List Ao := [
  { dst := some 4, k := .mv, xs := [.t 0] },
  { dst := some 5, k := (.bin .lss), xs := [.t 4, .c (.d (.int .i64 0))] },
  { dst := some 6, k := .mv, xs := [.t 5] },
  { dst := some 7, k := .mv, xs := [.t 0], g := some (6, false) },
  { dst := some 8, k := (.bin .gtr), xs := [.t 7, .c (.d (.int .i64 32767))], g := some (6, false) },
  { dst := some 9, k := .pick, xs := [.t 6, .c (.d (.bool true)), .t 8] },
  { dst := some 3, k := .mv, xs := [.t 9] }]
def F16o8 : List Ao := [
  { dst := some 10, k := (.bslice (.int .u8 0) 1 [0]), xs := [.c (.d (.int .u8 0))] },
  { dst := some 2, k := .mv, xs := [.t 10] }]
def F16c9 : Ac := (.seq (.gh [.frz 2]) .ret)
def F16o11 : List Ao := [
  { dst := some 12, k := .mv, xs := [.t 0] },
  { dst := some 13, k := (.bin .lss), xs := [.t 12, .c (.d (.int .i64 128))] },
  { dst := some 11, k := .mv, xs := [.t 13] }]
def F16o14 : List Ao := [
  { dst := some 14, k := .mv, xs := [.t 0] },
  { dst := some 15, k := (.toInt .u8), xs := [.t 14] },
  { dst := some 16, k := (.bslice (.int .u8 0) 1 [0]), xs := [.t 15] },
  { dst := some 2, k := .mv, xs := [.t 16] }]
def F16c15 : Ac := (.seq (.gh [.frz 2]) .ret)
def F16c12 : Ac := (.cond (.t 11) (.seq (.ops F16o14) F16c15) .skip)
def F16c6 : Ac := (.cond (.t 3) (.seq (.ops F16o8) F16c9) (.seq (.ops F16o11) F16c12))
def F16o18 : List Ao := [
  { dst := some 17, k := .mv, xs := [.t 0] },
  { dst := some 18, k := (.bin .shr), xs := [.t 17, .c (.d (.int .u64 8))] },
  { dst := some 19, k := (.toInt .u8), xs := [.t 18] },
  { dst := some 20, k := (.bin .or), xs := [.t 19, .c (.d (.int .u8 128))] },
  { dst := some 21, k := .mv, xs := [.t 0] },
  { dst := some 22, k := (.toInt .u8), xs := [.t 21] },
  { dst := some 23, k := (.bslice (.int .u8 0) 2 [0, 1]), xs := [.t 20, .t 22] },
  { dst := some 2, k := .mv, xs := [.t 23] }]
def F16c19 : Ac := (.seq (.gh [.frz 2]) .ret)
def F16c17 : Ac := (.seq (.ops F16o18) F16c19)
def F16c2 : Ac := (.seq (.block 0 (.seq (.ops F16o5) F16c6)) F16c17)
def F16c0 : Ac := (.seq (.ops F16o1) F16c2)
/-- hansom/index.Put -/
def F16 : Fn := { np := 1, pb := [], rs := [.t 2], body := F16c0 }
def F17o1 : List Ao := [
  { dst := some 2, k := .mv, xs := [.c (.d (.str []))] }]
def F17o4 : List Ao := [
  { dst := some 3, k := .mv, xs := [.t 0] },
  { dst := some 4, k := (.bin .lss), xs := [.t 3, .c (.d (.int .i64 0))] },
  { dst := some 5, k := .mv, xs := [.t 4] },
  { dst := some 6, k := .mv, xs := [.t 0], g := some (5, false) },
  { dst := some 7, k := (.bin .gtr), xs := [.t 6, .c (.d (.int .i64 32767))], g := some (5, false) },
  { dst := some 8, k := .pick, xs := [.t 5, .c (.d (.bool true)), .t 7] }]
def F17o6 : List Ao := [
  { dst := some 0, k := .mv, xs := [.c (.d (.int .i64 0))] }]
def F17c5 : Ac := (.cond (.t 8) (.ops F17o6) .skip)
def F17o10 : List Ao := [
  { dst := some 9, k := .mv, xs := [.t 0] },
  { dst := some 10, k := (.bin .lss), xs := [.t 9, .c (.d (.int .i64 128))] }]
def F17o13 : List Ao := [
  { dst := some 11, k := .mv, xs := [.t 0] },
  { dst := some 12, k := (.toInt .u8), xs := [.t 11] },
  { dst := some 13, k := (.bslice (.int .u8 0) 1 [0]), xs := [.t 12] },
  { dst := some 14, k := .bytesStr, xs := [.t 13] },
  { dst := some 2, k := .mv, xs := [.t 14] }]
def F17c14 : Ac := .ret
def F17c11 : Ac := (.cond (.t 10) (.seq (.ops F17o13) F17c14) .skip)
def F17o17 : List Ao := [
  { dst := some 15, k := .mv, xs := [.t 0] },
  { dst := some 16, k := (.bin .quo), xs := [.t 15, .c (.d (.int .i64 256))] },
  { dst := some 17, k := (.bin .add), xs := [.t 16, .c (.d (.int .i64 128))] },
  { dst := some 18, k := (.toInt .u8), xs := [.t 17] },
  { dst := some 19, k := .mv, xs := [.t 0] },
  { dst := some 20, k := (.bin .rem), xs := [.t 19, .c (.d (.int .i64 256))] },
  { dst := some 21, k := (.toInt .u8), xs := [.t 20] },
  { dst := some 22, k := (.bslice (.int .u8 0) 2 [0, 1]), xs := [.t 18, .t 21] },
  { dst := some 23, k := .bytesStr, xs := [.t 22] },
  { dst := some 2, k := .mv, xs := [.t 23] }]
def F17c18 : Ac := .ret
def F17c16 : Ac := (.seq (.ops F17o17) F17c18)
def F17b8 : Ac := (.seq (.seq (.ops F17o10) F17c11) F17c16)
def F17c8 : Ac := (.seq (.gh []) (.seq (.keep [0] []) F17b8))
def F17c2 : Ac := (.seq (.seq (.ops F17o4) F17c5) F17c8)
def F17c0 : Ac := (.seq (.ops F17o1) F17c2)
/-- hansom/hansomref18.Index -/
def F17 : Fn := { np := 1, pb := [], rs := [.t 2], body := F17c0 }
def F18o1 : List Ao := [
  { dst := some 2, k := .mv, xs := [.c (.nils)] }]
def F18o3 : List Ao := [
  { dst := some 3, k := .mv, xs := [.t 0] },
  { dst := some 4, k := .mv, xs := [.t 0] },
  { dst := some 5, k := .lenS, xs := [.t 4] },
  { dst := some 6, k := .mn, xs := [.t 5, .c (.d (.int .i64 255))] },
  { dst := some 7, k := (.substr false true), xs := [.t 3, .t 6] },
  { dst := some 0, k := .mv, xs := [.t 7] }]
def F18o5 : List Ao := [
  { dst := some 8, k := .mv, xs := [.t 0] },
  { dst := some 9, k := .lenS, xs := [.t 8] },
  { dst := some 10, k := (.toInt .u8), xs := [.t 9] },
  { dst := some 11, k := (.bslice (.int .u8 0) 1 [0]), xs := [.t 10] },
  { dst := some 12, k := .mv, xs := [.t 0] },
  { dst := some 13, k := (.append 1 1 true), xs := [.t 11, .t 12] },
  { dst := some 2, k := .mv, xs := [.t 13] }]
def F18c6 : Ac := (.seq (.gh [.frz 2]) .ret)
def F18c4 : Ac := (.seq (.ops F18o5) F18c6)
def F18c2 : Ac := (.seq (.ops F18o3) F18c4)
def F18c0 : Ac := (.seq (.ops F18o1) F18c2)
/-- hansom/index.Name -/
def F18 : Fn := { np := 1, pb := [], rs := [.t 2], body := F18c0 }
def F19o1 : List Ao := [
  { dst := some 2, k := .mv, xs := [.c (.d (.str []))] }]
def F19o4 : List Ao := [
  { dst := some 3, k := .mv, xs := [.t 0] },
  { dst := some 4, k := .lenS, xs := [.t 3] },
  { dst := some 5, k := (.bin .gtr), xs := [.t 4, .c (.d (.int .i64 255))] }]
def F19o6 : List Ao := [
  { dst := some 6, k := .mv, xs := [.t 0] },
  { dst := some 7, k := (.substr false true), xs := [.t 6, .c (.d (.int .i64 255))] },
  { dst := some 0, k := .mv, xs := [.t 7] }]
def F19c5 : Ac := (.cond (.t 5) (.ops F19o6) .skip)
def F19o9 : List Ao := [
  { dst := some 8, k := .mv, xs := [.t 0] },
  { dst := some 9, k := .lenS, xs := [.t 8] },
  { dst := some 10, k := (.toInt .u8), xs := [.t 9] },
  { dst := some 11, k := (.bslice (.int .u8 0) 1 [0]), xs := [.t 10] },
  { dst := some 12, k := .bytesStr, xs := [.t 11] },
  { dst := some 13, k := .mv, xs := [.t 0] },
  { dst := some 14, k := (.bin .add), xs := [.t 12, .t 13] },
  { dst := some 2, k := .mv, xs := [.t 14] }]
def F19c10 : Ac := .ret
def F19c8 : Ac := (.seq (.ops F19o9) F19c10)
def F19c2 : Ac := (.seq (.seq (.ops F19o4) F19c5) F19c8)
def F19c0 : Ac := (.seq (.ops F19o1) F19c2)
/-- hansom/hansomref18.Name -/
def F19 : Fn := { np := 1, pb := [], rs := [.t 2], body := F19c0 }
def F20o1 : List Ao := [
  { dst := some 2, k := .mv, xs := [.c (.nils)] }]
def F20o3 : List Ao := [
  { dst := some 3, k := .mv, xs := [.t 0] },
  { dst := some 4, k := (.callf 67), xs := [.t 3] },
  { dst := some 5, k := .mv, xs := [.t 0] },
  { dst := some 6, k := (.callf 68), xs := [.t 5] },
  { dst := some 7, k := (.bslice (.int .u8 0) 2 [0, 1]), xs := [.t 4, .t 6] },
  { dst := some 2, k := .mv, xs := [.t 7] }]
def F20c4 : Ac := .ret
def F20c2 : Ac := (.seq (.ops F20o3) F20c4)
def F20c0 : Ac := (.seq (.ops F20o1) F20c2)
/-- hansom/index.Two -/
def F20 : Fn := { np := 1, pb := [], rs := [.t 2], body := F20c0 }
def F21o1 : List Ao := [
  { dst := some 4, k := .mv, xs := [.c (.d (.str []))] }]
def F21o3 : List Ao := [
  { dst := some 5, k := .mv, xs := [.c (.d (.str []))] }]
def F21o6 : List Ao := [
  { dst := some 6, k := .mv, xs := [.c (.d (.int .i64 0))] }]
def F21o11 : List Ao := [
  { dst := some 7, k := .mv, xs := [.t 6] },
  { dst := some 8, k := .mv, xs := [.t 1] },
  { dst := some 9, k := (.bin .lss), xs := [.t 7, .t 8] }]
def F21c12 : Ac := (.cond (.t 9) .skip (.exit 0))
def F21o18 : List Ao := [
  { dst := some 12, k := .mv, xs := [.t 5] },
  { dst := some 13, k := .mv, xs := [.t 0] },
  { dst := some 14, k := (.bin .rem), xs := [.t 13, .c (.d (.int .u64 256))] },
  { dst := some 15, k := (.toInt .u8), xs := [.t 14] },
  { dst := some 16, k := (.bslice (.int .u8 0) 1 [0]), xs := [.t 15] },
  { dst := some 17, k := .bytesStr, xs := [.t 16] },
  { dst := some 18, k := (.bin .add), xs := [.t 12, .t 17] },
  { dst := some 5, k := .mv, xs := [.t 18] }]
def F21o19 : List Ao := [
  { dst := some 19, k := .mv, xs := [.t 0] },
  { dst := some 20, k := (.bin .quo), xs := [.t 19, .c (.d (.int .u64 256))] },
  { dst := some 0, k := .mv, xs := [.t 20] }]
def F21c19 : Ac := (.ops F21o19)
def F21o20 : List Ao := [
  { dst := some 10, k := .mv, xs := [.t 6] },
  { dst := some 11, k := (.bin .add), xs := [.t 10, .c (.d (.int .i64 1))] },
  { dst := some 6, k := .mv, xs := [.t 11] }]
def F21c20 : Ac := (.ops F21o20)
def F21c15 : Ac := (.seq (.block 1 (.seq (.ops F21o18) F21c19)) F21c20)
def F21l8 : Ac := (.seq (.seq (.ops F21o11) F21c12) F21c15)
def F21c7 : Ac := (.block 0 (.loop (.seq (.gh []) (.seq (.keep [0, 1, 5, 6] []) F21l8))))
def F21o22 : List Ao := [
  { dst := some 21, k := .mv, xs := [.t 5] },
  { dst := some 4, k := .mv, xs := [.t 21] }]
def F21c23 : Ac := .ret
def F21b21 : Ac := (.seq (.ops F21o22) F21c23)
def F21c21 : Ac := (.seq (.gh []) (.seq (.keep [5] []) F21b21))
def F21c4 : Ac := (.seq (.seq (.ops F21o6) F21c7) F21c21)
def F21c2 : Ac := (.seq (.ops F21o3) F21c4)
def F21c0 : Ac := (.seq (.ops F21o1) F21c2)
/-- hansom/hansomref18.Bytes -/
def F21 : Fn := { np := 2, pb := [], rs := [.t 4], body := F21c0 }
def F22o1 : List Ao := [
  { dst := some 2, k := .mv, xs := [.c (.nils)] }]
def F22o3 : List Ao := [
  { dst := some 3, k := .mv, xs := [.t 0] },
  { dst := some 4, k := (.toInt .u16), xs := [.t 3] },
  { dst := some 5, k := (.callf 20), xs := [.t 4] },
  { dst := some 6, k := .mv, xs := [.t 0] },
  { dst := some 7, k := (.bin .shr), xs := [.t 6, .c (.d (.int .u64 16))] },
  { dst := some 8, k := (.toInt .u16), xs := [.t 7] },
  { dst := some 9, k := (.callf 20), xs := [.t 8] },
  { dst := some 10, k := (.append 1 1 false), xs := [.t 5, .t 9] },
  { dst := some 2, k := .mv, xs := [.t 10] }]
def F22c4 : Ac := (.seq (.gh [.frz 2]) .ret)
def F22c2 : Ac := (.seq (.ops F22o3) F22c4)
def F22c0 : Ac := (.seq (.ops F22o1) F22c2)
/-- hansom/index.Four -/
def F22 : Fn := { np := 1, pb := [], rs := [.t 2], body := F22c0 }
def F23o1 : List Ao := [
  { dst := some 2, k := .mv, xs := [.c (.nils)] }]
def F23o5 : List Ao := [
  { dst := some 4, k := .mv, xs := [.t 0] },
  { dst := some 5, k := (.bin .leq), xs := [.t 4, .c (.d (.int .u32 128))] },
  { dst := some 3, k := .mv, xs := [.t 5] }]
def F23o8 : List Ao := [
  { dst := some 6, k := .mv, xs := [.t 0] },
  { dst := some 7, k := (.toInt .u8), xs := [.t 6] },
  { dst := some 8, k := (.bslice (.int .u8 0) 1 [0]), xs := [.t 7] },
  { dst := some 2, k := .mv, xs := [.t 8] }]
def F23c9 : Ac := (.seq (.gh [.frz 2]) .ret)
def F23o11 : List Ao := [
  { dst := some 10, k := .mv, xs := [.t 0] },
  { dst := some 11, k := (.bin .lss), xs := [.t 10, .c (.d (.int .u32 65536))] },
  { dst := some 9, k := .mv, xs := [.t 11] }]
def F23o14 : List Ao := [
  { dst := some 12, k := (.bslice (.int .u8 0) 1 [0]), xs := [.c (.d (.int .u8 129))] },
  { dst := some 13, k := .mv, xs := [.t 0] },
  { dst := some 14, k := (.toInt .u16), xs := [.t 13] },
  { dst := some 15, k := (.callf 20), xs := [.t 14] },
  { dst := some 16, k := (.append 1 1 false), xs := [.t 12, .t 15] },
  { dst := some 2, k := .mv, xs := [.t 16] }]
def F23c15 : Ac := (.seq (.gh [.frz 2]) .ret)
def F23o17 : List Ao := [
  { dst := some 18, k := .mv, xs := [.t 0] },
  { dst := some 19, k := (.bin .lss), xs := [.t 18, .c (.d (.int .u32 16777216))] },
  { dst := some 17, k := .mv, xs := [.t 19] }]
def F23o20 : List Ao := [
  { dst := some 20, k := (.bslice (.int .u8 0) 1 [0]), xs := [.c (.d (.int .u8 132))] },
  { dst := some 21, k := .mv, xs := [.t 0] },
  { dst := some 22, k := (.callf 22), xs := [.t 21] },
  { dst := some 23, k := (.subsl 1 false true false), xs := [.t 22, .c (.d (.int .i64 3))] },
  { dst := some 24, k := (.append 1 1 false), xs := [.t 20, .t 23] },
  { dst := some 2, k := .mv, xs := [.t 24] }]
def F23c21 : Ac := (.seq (.gh [.frz 2]) .ret)
def F23c18 : Ac := (.cond (.t 17) (.seq (.ops F23o20) F23c21) .skip)
def F23c12 : Ac := (.cond (.t 9) (.seq (.ops F23o14) F23c15) (.seq (.ops F23o17) F23c18))
def F23c6 : Ac := (.cond (.t 3) (.seq (.ops F23o8) F23c9) (.seq (.ops F23o11) F23c12))
def F23o24 : List Ao := [
  { dst := some 25, k := (.bslice (.int .u8 0) 1 [0]), xs := [.c (.d (.int .u8 136))] },
  { dst := some 26, k := .mv, xs := [.t 0] },
  { dst := some 27, k := (.callf 22), xs := [.t 26] },
  { dst := some 28, k := (.append 1 1 false), xs := [.t 25, .t 27] },
  { dst := some 2, k := .mv, xs := [.t 28] }]
def F23c25 : Ac := (.seq (.gh [.frz 2]) .ret)
def F23c23 : Ac := (.seq (.ops F23o24) F23c25)
def F23c2 : Ac := (.seq (.block 0 (.seq (.ops F23o5) F23c6)) F23c23)
def F23c0 : Ac := (.seq (.ops F23o1) F23c2)
/-- hansom/index.Long -/
def F23 : Fn := { np := 1, pb := [], rs := [.t 2], body := F23c0 }
def F24o1 : List Ao := [
  { dst := some 2, k := .mv, xs := [.c (.d (.str []))] }]
def F24o3 : List Ao := [
  { dst := some 4, k := .mv, xs := [.t 0] },
  { dst := some 5, k := (.toInt .u64), xs := [.t 4] },
  { dst := some 3, k := .mv, xs := [.t 5] }]
def F24o6 : List Ao := [
  { dst := some 6, k := .mv, xs := [.t 0] },
  { dst := some 7, k := (.bin .leq), xs := [.t 6, .c (.d (.int .u32 128))] }]
def F24o9 : List Ao := [
  { dst := some 8, k := .mv, xs := [.t 3] },
  { dst := some 9, k := (.callf 21), xs := [.t 8, .c (.d (.int .i64 1))] },
  { dst := some 2, k := .mv, xs := [.t 9] }]
def F24c10 : Ac := .ret
def F24c7 : Ac := (.cond (.t 7) (.seq (.ops F24o9) F24c10) .skip)
def F24o14 : List Ao := [
  { dst := some 10, k := .mv, xs := [.t 0] },
  { dst := some 11, k := (.bin .lss), xs := [.t 10, .c (.d (.int .u32 65536))] }]
def F24o17 : List Ao := [
  { dst := some 12, k := .mv, xs := [.t 3] },
  { dst := some 13, k := (.callf 21), xs := [.t 12, .c (.d (.int .i64 2))] },
  { dst := some 14, k := (.bin .add), xs := [.c (.d (.str [129])), .t 13] },
  { dst := some 2, k := .mv, xs := [.t 14] }]
def F24c18 : Ac := .ret
def F24c15 : Ac := (.cond (.t 11) (.seq (.ops F24o17) F24c18) .skip)
def F24o22 : List Ao := [
  { dst := some 15, k := .mv, xs := [.t 0] },
  { dst := some 16, k := (.bin .lss), xs := [.t 15, .c (.d (.int .u32 16777216))] }]
def F24o25 : List Ao := [
  { dst := some 17, k := .mv, xs := [.t 3] },
  { dst := some 18, k := (.callf 21), xs := [.t 17, .c (.d (.int .i64 3))] },
  { dst := some 19, k := (.bin .add), xs := [.c (.d (.str [132])), .t 18] },
  { dst := some 2, k := .mv, xs := [.t 19] }]
def F24c26 : Ac := .ret
def F24c23 : Ac := (.cond (.t 16) (.seq (.ops F24o25) F24c26) .skip)
def F24o29 : List Ao := [
  { dst := some 20, k := .mv, xs := [.t 3] },
  { dst := some 21, k := (.callf 21), xs := [.t 20, .c (.d (.int .i64 4))] },
  { dst := some 22, k := (.bin .add), xs := [.c (.d (.str [136])), .t 21] },
  { dst := some 2, k := .mv, xs := [.t 22] }]
def F24c30 : Ac := .ret
def F24c28 : Ac := (.seq (.ops F24o29) F24c30)
def F24c20 : Ac := (.seq (.seq (.ops F24o22) F24c23) F24c28)
def F24c12 : Ac := (.seq (.seq (.ops F24o14) F24c15) F24c20)
def F24c4 : Ac := (.seq (.seq (.ops F24o6) F24c7) F24c12)
def F24c2 : Ac := (.seq (.ops F24o3) F24c4)
def F24c0 : Ac := (.seq (.ops F24o1) F24c2)
/-- hansom/hansomref18.Long -/
def F24 : Fn := { np := 1, pb := [], rs := [.t 2], body := F24c0 }
def F25o1 : List Ao := [
  { dst := some 2, k := .mv, xs := [.c (.nilp)] }]
def F25o3 : List Ao := [
  { dst := some 3, k := .mv, xs := [.t 0] },
  { dst := some 4, k := (.append 1 1 false), xs := [.c (.nils), .t 3] },
  { dst := some 5, k := (.build [.nils, .d (.int .i64 0)] [(0, 1)]), xs := [.t 4] },
  { dst := some 6, k := (.box 2), xs := [.t 5] },
  { dst := some 2, k := .mv, xs := [.t 6] }]
def F25c4 : Ac := (.seq (.gh [.frzB [6] 0]) .ret)
def F25c2 : Ac := (.seq (.ops F25o3) F25c4)
def F25c0 : Ac := (.seq (.ops F25o1) F25c2)
/-- hansom/index.From -/
def F25 : Fn := { np := 1, pb := [], rs := [.t 2], body := F25c0 }
def F26o1 : List Ao := [
  { dst := some 4, k := .mv, xs := [.c (.nils)] }]
def F26o4 : List Ao := [
  { dst := some 6, k := .mv, xs := [.t 0] },
  { dst := some 7, k := (.eqp false), xs := [.t 6, .c (.nilp)] }]
def F26o7 : List Ao := [
  { dst := some 4, k := .mv, xs := [.c (.nils)] }]
def F26c8 : Ac := .ret
def F26c5 : Ac := (.cond (.t 7) (.seq (.ops F26o7) F26c8) .skip)
def F26o12 : List Ao := [
  { dst := some 8, k := .mv, xs := [.t 1] },
  { dst := some 9, k := (.bin .lss), xs := [.t 8, .c (.d (.int .i64 0))] },
  { dst := some 10, k := .mv, xs := [.t 9] },
  { dst := some 11, k := .mv, xs := [.t 1], g := some (10, false) },
  { dst := some 12, k := .mv, xs := [.t 0], g := some (10, false) },
  { dst := some 13, k := .nilchk, xs := [.t 12], g := some (10, false) },
  { dst := some 14, k := (.faddr 0), xs := [.t 13], g := some (10, false) },
  { dst := some 15, k := (.load none), xs := [.t 14], g := some (10, false) },
  { dst := some 16, k := .lenL, xs := [.t 15], g := some (10, false) },
  { dst := some 17, k := (.bin .gtr), xs := [.t 11, .t 16], g := some (10, false) },
  { dst := some 18, k := .pick, xs := [.t 10, .c (.d (.bool true)), .t 17] }]
def F26o15 : List Ao := [
  { dst := some 19, k := .mv, xs := [.t 0] },
  { dst := some 20, k := (.callf 27), xs := [.t 19, .c (.d (.int .i64 2))] }]
def F26o17 : List Ao := [
  { dst := some 4, k := .mv, xs := [.c (.nils)] }]
def F26c18 : Ac := (.seq (.gh [.frz 4]) .ret)
def F26c16 : Ac := (.seq (.ops F26o17) F26c18)
def F26c13 : Ac := (.cond (.t 18) (.seq (.ops F26o15) F26c16) .skip)
def F26o21 : List Ao := [
  { dst := some 21, k := .mv, xs := [.t 0] },
  { dst := some 22, k := .nilchk, xs := [.t 21] },
  { dst := some 23, k := (.faddr 0), xs := [.t 22] },
  { dst := some 24, k := (.load none), xs := [.t 23] },
  { dst := some 25, k := .mv, xs := [.t 1] },
  { dst := some 26, k := .mv, xs := [.t 1] },
  { dst := some 27, k := (.subsl 1 false true true), xs := [.t 24, .t 25, .t 26] },
  { dst := some 5, k := .mv, xs := [.t 27] }]
def F26o23 : List Ao := [
  { dst := some 28, k := .mv, xs := [.t 0] },
  { dst := some 29, k := .mv, xs := [.t 0] },
  { dst := some 30, k := .nilchk, xs := [.t 29] },
  { dst := some 31, k := (.faddr 0), xs := [.t 30] },
  { dst := some 32, k := (.load none), xs := [.t 31] },
  { dst := some 33, k := .mv, xs := [.t 1] },
  { dst := some 34, k := (.subsl 1 true false false), xs := [.t 32, .t 33] },
  { dst := some 35, k := .nilchk, xs := [.t 28] },
  { dst := some 36, k := (.faddr 0), xs := [.t 35] },
  { dst := none, k := (.store 1), xs := [.t 36, .t 34] }]
def F26o25 : List Ao := [
  { dst := some 37, k := .mv, xs := [.t 5] },
  { dst := some 4, k := .mv, xs := [.t 37] }]
def F26c26 : Ac := .ret
def F26c24 : Ac := (.seq (.ops F26o25) F26c26)
def F26c22 : Ac := (.seq (.ops F26o23) F26c24)
def F26c20 : Ac := (.seq (.ops F26o21) F26c22)
def F26c10 : Ac := (.seq (.seq (.ops F26o12) F26c13) F26c20)
def F26c2 : Ac := (.seq (.seq (.ops F26o4) F26c5) F26c10)
def F26c0 : Ac := (.seq (.ops F26o1) F26c2)
/-- (*hansom/index.Source).Take -/
def F26 : Fn := { np := 2, pb := [[0]], rs := [.t 4], body := F26c0 }
def F27o1 : List Ao := [
  { dst := some 4, k := .mv, xs := [.t 0] },
  { dst := some 5, k := (.eqp true), xs := [.t 4, .c (.nilp)] },
  { dst := some 6, k := .mv, xs := [.t 5] },
  { dst := some 7, k := .mv, xs := [.t 0], g := some (6, true) },
  { dst := some 8, k := .nilchk, xs := [.t 7], g := some (6, true) },
  { dst := some 9, k := (.faddr 1), xs := [.t 8], g := some (6, true) },
  { dst := some 10, k := (.load none), xs := [.t 9], g := some (6, true) },
  { dst := some 11, k := (.bin .eql), xs := [.t 10, .c (.d (.int .i64 0))], g := some (6, true) },
  { dst := some 12, k := .pick, xs := [.t 6, .t 11, .c (.d (.bool false))] },
  { dst := some 13, k := .mv, xs := [.t 12] },
  { dst := some 14, k := .mv, xs := [.t 1], g := some (13, true) },
  { dst := some 15, k := (.bin .neq), xs := [.t 14, .c (.d (.int .i64 0))], g := some (13, true) },
  { dst := some 16, k := .pick, xs := [.t 13, .t 15, .c (.d (.bool false))] }]
def F27o3 : List Ao := [
  { dst := some 17, k := .mv, xs := [.t 0] },
  { dst := some 18, k := .mv, xs := [.t 0] },
  { dst := some 19, k := .mv, xs := [.t 1] },
  { dst := some 20, k := .nilchk, xs := [.t 17] },
  { dst := some 21, k := (.faddr 1), xs := [.t 20] },
  { dst := none, k := (.store 1), xs := [.t 21, .t 19] },
  { dst := some 22, k := .nilchk, xs := [.t 18] },
  { dst := some 23, k := (.faddr 0), xs := [.t 22] },
  { dst := none, k := (.store 1), xs := [.t 23, .c (.nils)] }]
def F27c2 : Ac := (.cond (.t 16) (.ops F27o3) .skip)
def F27c0 : Ac := (.seq (.ops F27o1) F27c2)
/-- (*hansom/index.Source).Wrong -/
def F27 : Fn := { np := 2, pb := [[0]], rs := [], body := (.seq F27c0 (.gh [.frzB [0] 0])) }
def F28o1 : List Ao := [
  { dst := some 2, k := .mv, xs := [.c (.d (.int .i64 0))] }]
def F28o4 : List Ao := [
  { dst := some 3, k := .mv, xs := [.t 0] },
  { dst := some 4, k := (.eqp false), xs := [.t 3, .c (.nilp)] }]
def F28o7 : List Ao := [
  { dst := some 2, k := .mv, xs := [.c (.d (.int .i64 1))] }]
def F28c8 : Ac := .ret
def F28c5 : Ac := (.cond (.t 4) (.seq (.ops F28o7) F28c8) .skip)
def F28o11 : List Ao := [
  { dst := some 5, k := .mv, xs := [.t 0] },
  { dst := some 6, k := .nilchk, xs := [.t 5] },
  { dst := some 7, k := (.faddr 1), xs := [.t 6] },
  { dst := some 8, k := (.load none), xs := [.t 7] },
  { dst := some 2, k := .mv, xs := [.t 8] }]
def F28c12 : Ac := .ret
def F28c10 : Ac := (.seq (.ops F28o11) F28c12)
def F28c2 : Ac := (.seq (.seq (.ops F28o4) F28c5) F28c10)
def F28c0 : Ac := (.seq (.ops F28o1) F28c2)
/-- (*hansom/index.Source).Err -/
def F28 : Fn := { np := 1, pb := [[0]], rs := [.t 2], body := F28c0 }
def F29o1 : List Ao := [
  { dst := some 2, k := .mv, xs := [.c (.d (.int .i64 0))] }]
def F29o4 : List Ao := [
  { dst := some 3, k := .mv, xs := [.t 0] },
  { dst := some 4, k := (.eqp false), xs := [.t 3, .c (.nilp)] }]
def F29o7 : List Ao := [
  { dst := some 2, k := .mv, xs := [.c (.d (.int .i64 0))] }]
def F29c8 : Ac := .ret
def F29c5 : Ac := (.cond (.t 4) (.seq (.ops F29o7) F29c8) .skip)
def F29o11 : List Ao := [
  { dst := some 5, k := .mv, xs := [.t 0] },
  { dst := some 6, k := .nilchk, xs := [.t 5] },
  { dst := some 7, k := (.faddr 0), xs := [.t 6] },
  { dst := some 8, k := (.load none), xs := [.t 7] },
  { dst := some 9, k := .lenL, xs := [.t 8] },
  { dst := some 2, k := .mv, xs := [.t 9] }]
def F29c12 : Ac := .ret
def F29c10 : Ac := (.seq (.ops F29o11) F29c12)
def F29c2 : Ac := (.seq (.seq (.ops F29o4) F29c5) F29c10)
def F29c0 : Ac := (.seq (.ops F29o1) F29c2)
/-- (*hansom/index.Source).Left -/
def F29 : Fn := { np := 1, pb := [[0]], rs := [.t 2], body := F29c0 }
def F31o1 : List Ao := [
  { dst := some 2, k := .mv, xs := [.c (.d (.int .i64 0))] }]
def F31o3 : List Ao := [
  { dst := some 5, k := .mv, xs := [.t 0] },
  { dst := some 6, k := (.callf 35), xs := [.t 5] },
  { dst := some 7, k := (.toInt .i64), xs := [.t 6] },
  { dst := some 3, k := .mv, xs := [.t 7] }]
def F31o6 : List Ao := [
  { dst := some 8, k := .mv, xs := [.t 3] },
  { dst := some 9, k := (.bin .lss), xs := [.t 8, .c (.d (.int .i64 128))] }]
def F31o9 : List Ao := [
  { dst := some 10, k := .mv, xs := [.t 3] },
  { dst := some 2, k := .mv, xs := [.t 10] }]
def F31c10 : Ac := .ret
def F31c7 : Ac := (.cond (.t 9) (.seq (.ops F31o9) F31c10) .skip)
def F31o13 : List Ao := [
  { dst := some 11, k := .mv, xs := [.t 3] },
  { dst := some 12, k := (.bin .and), xs := [.t 11, .c (.d (.int .i64 127))] },
  { dst := some 13, k := (.bin .shl), xs := [.t 12, .c (.d (.int .u64 8))] },
  { dst := some 14, k := .mv, xs := [.t 0] },
  { dst := some 15, k := (.callf 35), xs := [.t 14] },
  { dst := some 16, k := (.toInt .i64), xs := [.t 15] },
  { dst := some 17, k := (.bin .or), xs := [.t 13, .t 16] },
  { dst := some 4, k := .mv, xs := [.t 17] }]
def F31o16 : List Ao := [
  { dst := some 18, k := .mv, xs := [.t 0] },
  { dst := some 19, k := (.callf 28), xs := [.t 18] },
  { dst := some 20, k := (.bin .neq), xs := [.t 19, .c (.d (.int .i64 0))] }]
def F31o19 : List Ao := [
  { dst := some 2, k := .mv, xs := [.c (.d (.int .i64 0))] }]
def F31c20 : Ac := .ret
def F31c17 : Ac := (.cond (.t 20) (.seq (.ops F31o19) F31c20) .skip)
def F31o23 : List Ao := [
  { dst := some 21, k := .mv, xs := [.t 4] },
  { dst := some 2, k := .mv, xs := [.t 21] }]
def F31c24 : Ac := .ret
def F31c22 : Ac := (.seq (.ops F31o23) F31c24)
def F31c14 : Ac := (.seq (.seq (.ops F31o16) F31c17) F31c22)
def F31c12 : Ac := (.seq (.ops F31o13) F31c14)
def F31c4 : Ac := (.seq (.seq (.ops F31o6) F31c7) F31c12)
def F31c2 : Ac := (.seq (.ops F31o3) F31c4)
def F31c0 : Ac := (.seq (.ops F31o1) F31c2)
/-- (*hansom/index.Source).Index -/
def F31 : Fn := { np := 1, pb := [[0]], rs := [.t 2], body := F31c0 }
def F32o1 : List Ao := [
  { dst := some 2, k := .mv, xs := [.c (.d (.str []))] }]
def F32o3 : List Ao := [
  { dst := some 3, k := .mv, xs := [.t 0] },
  { dst := some 4, k := .mv, xs := [.t 0] },
  { dst := some 5, k := (.callf 35), xs := [.t 4] },
  { dst := some 6, k := (.toInt .i64), xs := [.t 5] },
  { dst := some 7, k := (.callf 26), xs := [.t 3, .t 6] },
  { dst := some 8, k := .bytesStr, xs := [.t 7] },
  { dst := some 2, k := .mv, xs := [.t 8] }]
def F32c4 : Ac := .ret
def F32c2 : Ac := (.seq (.ops F32o3) F32c4)
def F32c0 : Ac := (.seq (.ops F32o1) F32c2)
/-- (*hansom/index.Source).Name -/
def F32 : Fn := { np := 1, pb := [[0]], rs := [.t 2], body := F32c0 }
def F34o1 : List Ao := [
  { dst := some 2, k := .mv, xs := [.c (.d (.int .i64 0))] }]
def F34o4 : List Ao := [
  { dst := some 3, k := .mv, xs := [.t 0] },
  { dst := some 4, k := (.callf 29), xs := [.t 3] },
  { dst := some 5, k := (.bin .gtr), xs := [.t 4, .c (.d (.int .i64 0))] }]
def F34o6 : List Ao := [
  { dst := some 6, k := .mv, xs := [.t 0] },
  { dst := some 7, k := (.callf 27), xs := [.t 6, .c (.d (.int .i64 3))] }]
def F34c5 : Ac := (.cond (.t 5) (.ops F34o6) .skip)
def F34o9 : List Ao := [
  { dst := some 8, k := .mv, xs := [.t 0] },
  { dst := some 9, k := (.callf 28), xs := [.t 8] },
  { dst := some 2, k := .mv, xs := [.t 9] }]
def F34c10 : Ac := .ret
def F34c8 : Ac := (.seq (.ops F34o9) F34c10)
def F34c2 : Ac := (.seq (.seq (.ops F34o4) F34c5) F34c8)
def F34c0 : Ac := (.seq (.ops F34o1) F34c2)
/-- (*hansom/index.Source).End -/
def F34 : Fn := { np := 1, pb := [[0]], rs := [.t 2], body := F34c0 }
def F35o1 : List Ao := [
  { dst := some 2, k := .mv, xs := [.c (.d (.int .u8 0))] }]
def F35o4 : List Ao := [
  { dst := some 4, k := .mv, xs := [.t 0] },
  { dst := some 5, k := (.callf 26), xs := [.t 4, .c (.d (.int .i64 1))] },
  { dst := some 3, k := .mv, xs := [.t 5] }]
def F35o6 : List Ao := [
  { dst := some 6, k := .mv, xs := [.t 3] },
  { dst := some 7, k := .lenL, xs := [.t 6] },
  { dst := some 8, k := (.bin .eql), xs := [.t 7, .c (.d (.int .i64 1))] }]
def F35o9 : List Ao := [
  { dst := some 9, k := .mv, xs := [.t 3] },
  { dst := some 10, k := (.iaddrS 1), xs := [.t 9, .c (.d (.int .i64 0))] },
  { dst := some 11, k := (.load none), xs := [.t 10] },
  { dst := some 2, k := .mv, xs := [.t 11] }]
def F35c10 : Ac := .ret
def F35c7 : Ac := (.cond (.t 8) (.seq (.ops F35o9) F35c10) .skip)
def F35c5 : Ac := (.seq (.ops F35o6) F35c7)
def F35o13 : List Ao := [
  { dst := some 2, k := .mv, xs := [.c (.d (.int .u8 0))] }]
def F35c14 : Ac := .ret
def F35c12 : Ac := (.seq (.ops F35o13) F35c14)
def F35c2 : Ac := (.seq (.seq (.ops F35o4) F35c5) F35c12)
def F35c0 : Ac := (.seq (.ops F35o1) F35c2)
/-- (*hansom/index.Source).Byte -/
def F35 : Fn := { np := 1, pb := [[0]], rs := [.t 2], body := F35c0 }
def F67o1 : List Ao := [
  { dst := some 2, k := .mv, xs := [.c (.d (.int .u8 0))] }]
def F67o3 : List Ao := [
  { dst := some 3, k := .mv, xs := [.t 0] },
  { dst := some 4, k := (.toInt .u8), xs := [.t 3] },
  { dst := some 2, k := .mv, xs := [.t 4] }]
def F67c4 : Ac := .ret
def F67c2 : Ac := (.seq (.ops F67o3) F67c4)
def F67c0 : Ac := (.seq (.ops F67o1) F67c2)
/-- hansom/bits.Low -/
def F67 : Fn := { np := 1, pb := [], rs := [.t 2], body := F67c0 }
def F68o1 : List Ao := [
  { dst := some 2, k := .mv, xs := [.c (.d (.int .u8 0))] }]
def F68o3 : List Ao := [
  { dst := some 3, k := .mv, xs := [.t 0] },
  { dst := some 4, k := (.bin .shr), xs := [.t 3, .c (.d (.int .u64 8))] },
  { dst := some 5, k := (.toInt .u8), xs := [.t 4] },
  { dst := some 2, k := .mv, xs := [.t 5] }]
def F68c4 : Ac := .ret
def F68c2 : Ac := (.seq (.ops F68o3) F68c4)
def F68c0 : Ac := (.seq (.ops F68o1) F68c2)
/-- hansom/bits.High -/
def F68 : Fn := { np := 1, pb := [], rs := [.t 2], body := F68c0 }
def tab1 : Nat → Option Fn
  | 3 => some F3
  | 15 => some F15
  | 16 => some F16
  | 17 => some F17
  | 18 => some F18
  | 19 => some F19
  | 20 => some F20
  | 21 => some F21
  | 22 => some F22
  | 23 => some F23
  | 24 => some F24
  | 25 => some F25
  | 26 => some F26
  | 27 => some F27
  | 28 => some F28
  | 29 => some F29
  | 31 => some F31
  | 32 => some F32
  | 34 => some F34
  | 35 => some F35
  | 67 => some F67
  | 68 => some F68
  | _ => none
noncomputable def L : Cs := lim tab1 (fun _ _ => none)

theorem no_globals : GOk (fun _ _ => none) (fun _ => none) := fun n a h => by cases h
theorem ok3 : FnOk (fun _ _ => none) Try.prog 3 F3 := compF_spec no_globals Try.func3 (by kernel_rfl)
theorem ok15 : FnOk (fun _ _ => none) Try.prog 15 F15 := compF_spec no_globals Try.func15 (by kernel_rfl)
theorem ok16 : FnOk (fun _ _ => none) Try.prog 16 F16 := compF_spec no_globals Try.func16 (by kernel_rfl)
theorem ok17 : FnOk (fun _ _ => none) Try.prog 17 F17 := compF_spec no_globals Try.func17 (by kernel_rfl)
theorem ok18 : FnOk (fun _ _ => none) Try.prog 18 F18 := compF_spec no_globals Try.func18 (by kernel_rfl)
theorem ok19 : FnOk (fun _ _ => none) Try.prog 19 F19 := compF_spec no_globals Try.func19 (by kernel_rfl)
theorem ok20 : FnOk (fun _ _ => none) Try.prog 20 F20 := compF_spec no_globals Try.func20 (by kernel_rfl)
theorem ok21 : FnOk (fun _ _ => none) Try.prog 21 F21 := compF_spec no_globals Try.func21 (by kernel_rfl)
theorem ok22 : FnOk (fun _ _ => none) Try.prog 22 F22 := compF_spec no_globals Try.func22 (by kernel_rfl)
theorem ok23 : FnOk (fun _ _ => none) Try.prog 23 F23 := compF_spec no_globals Try.func23 (by kernel_rfl)
theorem ok24 : FnOk (fun _ _ => none) Try.prog 24 F24 := compF_spec no_globals Try.func24 (by kernel_rfl)
theorem ok25 : FnOk (fun _ _ => none) Try.prog 25 F25 := compF_spec no_globals Try.func25 (by kernel_rfl)
theorem ok26 : FnOk (fun _ _ => none) Try.prog 26 F26 := compF_spec no_globals Try.func26 (by kernel_rfl)
theorem ok27 : FnOk (fun _ _ => none) Try.prog 27 F27 := compF_spec no_globals Try.func27 (by kernel_rfl)
theorem ok28 : FnOk (fun _ _ => none) Try.prog 28 F28 := compF_spec no_globals Try.func28 (by kernel_rfl)
theorem ok29 : FnOk (fun _ _ => none) Try.prog 29 F29 := compF_spec no_globals Try.func29 (by kernel_rfl)
theorem ok31 : FnOk (fun _ _ => none) Try.prog 31 F31 := compF_spec no_globals Try.func31 (by kernel_rfl)
theorem ok32 : FnOk (fun _ _ => none) Try.prog 32 F32 := compF_spec no_globals Try.func32 (by kernel_rfl)
theorem ok34 : FnOk (fun _ _ => none) Try.prog 34 F34 := compF_spec no_globals Try.func34 (by kernel_rfl)
theorem ok35 : FnOk (fun _ _ => none) Try.prog 35 F35 := compF_spec no_globals Try.func35 (by kernel_rfl)
theorem ok67 : FnOk (fun _ _ => none) Try.prog 67 F67 := compF_spec no_globals Try.func67 (by kernel_rfl)
theorem ok68 : FnOk (fun _ _ => none) Try.prog 68 F68 := compF_spec no_globals Try.func68 (by kernel_rfl)
theorem tab1_ok : ∀ f fn, tab1 f = some fn → FnOk (fun _ _ => none) Try.prog f fn := by
  intro f fn h
  unfold tab1 at h
  split at h <;> cases h
  · exact ok3
  · exact ok15
  · exact ok16
  · exact ok17
  · exact ok18
  · exact ok19
  · exact ok20
  · exact ok21
  · exact ok22
  · exact ok23
  · exact ok24
  · exact ok25
  · exact ok26
  · exact ok27
  · exact ok28
  · exact ok29
  · exact ok31
  · exact ok32
  · exact ok34
  · exact ok35
  · exact ok67
  · exact ok68
theorem meets1 (f : Nat) : Meets (fun _ _ => none) Try.prog f (L f) := lim_meets tab1_ok (fun f _ m w args vs bs _ _ _ _ _ r a h => by cases h) f

end Go.Es.Ixp
