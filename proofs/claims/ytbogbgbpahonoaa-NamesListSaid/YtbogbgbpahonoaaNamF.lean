/- The code of the functions that the statement NamesHeader, NamesRemark, NamesList reaches, as the interpreter reads it. No condition. -/
import Derived.Test.YtbogbgbpahonoaaEsD
import Derived.Test.YtbogbgbpahonoaaChecked
import Derived.KernelRfl
set_option linter.unusedVariables false
set_option linter.unusedSimpArgs false
set_option maxRecDepth 100000
set_option maxHeartbeats 4000000
namespace Go.Es.Nam
open Go.Proofs
def F8o1 : List Ao := [
  { dst := some 4, k := .mv, xs := [.c (.d (.bool false))] }]
def F8o3 : List Ao := [
  { dst := some 16, k := .mv, xs := [.t 0] },
  { dst := some 17, k := .mv, xs := [.t 0] },
  { dst := some 18, k := .lenS, xs := [.t 17] },
  { dst := some 19, k := .mn, xs := [.t 18, .c (.d (.int .i64 255))] },
  { dst := some 20, k := (.substr false true), xs := [.t 16, .t 19] },
  { dst := some 5, k := .mv, xs := [.t 20] }]
def F8o5 : List Ao := [
  { dst := some 21, k := .mv, xs := [.t 5] },
  { dst := some 22, k := (.callf 34), xs := [.t 21] },
  { dst := some 6, k := (.alloc [.d (.int .u8 0), .nils]), xs := [] },
  { dst := none, k := (.store 2), xs := [.t 6, .t 22] }]
def F8o8 : List Ao := [
  { dst := some 23, k := (.faddr 1), xs := [.t 6] },
  { dst := some 24, k := (.load none), xs := [.t 23] },
  { dst := some 25, k := .lenL, xs := [.t 24] },
  { dst := some 26, k := (.bin .eql), xs := [.t 25, .c (.d (.int .i64 0))] }]
def F8o11 : List Ao := [
  { dst := some 4, k := .mv, xs := [.c (.d (.bool false))] }]
def F8c12 : Ac := .ret
def F8c9 : Ac := (.cond (.t 26) (.seq (.ops F8o11) F8c12) .skip)
def F8o15 : List Ao := [
  { dst := some 28, k := (.faddr 1), xs := [.t 6] },
  { dst := some 29, k := (.load none), xs := [.t 28] },
  { dst := some 30, k := (.callf 35), xs := [.t 29] },
  { dst := some 27, k := .mv, xs := [.t 30] },
  { dst := some 31, k := (.extract 0), xs := [.t 27] },
  { dst := some 32, k := (.extract 1), xs := [.t 27] },
  { dst := some 7, k := .mv, xs := [.t 31] },
  { dst := some 8, k := .mv, xs := [.t 32] }]
def F8o17 : List Ao := [
  { dst := some 34, k := (.bslice (.int .u8 0) 0 []), xs := [] },
  { dst := some 35, k := (.faddr 1), xs := [.t 6] },
  { dst := some 36, k := (.load none), xs := [.t 35] },
  { dst := some 37, k := (.append 1 1 false), xs := [.t 34, .t 36] },
  { dst := some 38, k := (.bslice (.int .u8 0) 1 [0]), xs := [.c (.d (.int .u8 120))] },
  { dst := some 39, k := (.append 1 1 false), xs := [.t 37, .t 38] },
  { dst := some 40, k := (.callf 35), xs := [.t 39] },
  { dst := some 33, k := .mv, xs := [.t 40] },
  { dst := some 41, k := (.extract 0), xs := [.t 33] },
  { dst := some 42, k := (.extract 1), xs := [.t 33] },
  { dst := some 9, k := .mv, xs := [.t 41] },
  { dst := some 10, k := .mv, xs := [.t 42] }]
def F8o19 : List Ao := [
  { dst := some 44, k := (.faddr 1), xs := [.t 6] },
  { dst := some 45, k := (.load none), xs := [.t 44] },
  { dst := some 46, k := (.faddr 1), xs := [.t 6] },
  { dst := some 47, k := (.load none), xs := [.t 46] },
  { dst := some 48, k := .lenL, xs := [.t 47] },
  { dst := some 49, k := .mv, xs := [.t 5] },
  { dst := some 50, k := .lenS, xs := [.t 49] },
  { dst := some 51, k := .mn, xs := [.t 50, .c (.d (.int .i64 1))] },
  { dst := some 52, k := (.bin .sub), xs := [.t 48, .t 51] },
  { dst := some 53, k := .mx, xs := [.t 52, .c (.d (.int .i64 0))] },
  { dst := some 54, k := (.subsl 1 false true false), xs := [.t 45, .t 53] },
  { dst := some 55, k := (.callf 35), xs := [.t 54] },
  { dst := some 43, k := .mv, xs := [.t 55] },
  { dst := some 56, k := (.extract 0), xs := [.t 43] },
  { dst := some 57, k := (.extract 1), xs := [.t 43] },
  { dst := some 11, k := .mv, xs := [.t 56] },
  { dst := some 12, k := .mv, xs := [.t 57] }]
def F8o21 : List Ao := [
  { dst := some 13, k := .mv, xs := [.c (.d (.int .i64 0))] }]
def F8o24 : List Ao := [
  { dst := some 58, k := .mv, xs := [.t 5] },
  { dst := some 59, k := .lenS, xs := [.t 58] },
  { dst := some 60, k := (.bin .gtr), xs := [.t 59, .c (.d (.int .i64 0))] }]
def F8o26 : List Ao := [
  { dst := some 13, k := .mv, xs := [.c (.d (.int .i64 2))] }]
def F8c25 : Ac := (.cond (.t 60) (.ops F8o26) .skip)
def F8o29 : List Ao := [
  { dst := some 62, k := (.callf 35), xs := [.c (.nils)] },
  { dst := some 61, k := .mv, xs := [.t 62] },
  { dst := some 63, k := (.extract 0), xs := [.t 61] },
  { dst := some 64, k := (.extract 1), xs := [.t 61] },
  { dst := some 14, k := .mv, xs := [.t 63] },
  { dst := some 15, k := .mv, xs := [.t 64] }]
def F8o31 : List Ao := [
  { dst := some 65, k := (.callf 36), xs := [] },
  { dst := some 66, k := .mv, xs := [.t 65] },
  { dst := some 67, k := (.faddr 1), xs := [.t 6], g := some (66, true) },
  { dst := some 68, k := (.load none), xs := [.t 67], g := some (66, true), av := [[71]] },
  { dst := some 69, k := .bytesStr, xs := [.t 68], g := some (66, true), av := [[71]] },
  { dst := some 70, k := .mv, xs := [.t 5], g := some (66, true) },
  { dst := some 71, k := (.callf 37), xs := [.t 70], g := some (66, true), al := some [] },
  { dst := some 72, k := (.bin .eql), xs := [.t 69, .t 71], g := some (66, true) },
  { dst := some 73, k := .pick, xs := [.t 66, .t 72, .c (.d (.bool false))] },
  { dst := some 74, k := .mv, xs := [.t 73] },
  { dst := some 75, k := .mv, xs := [.t 8], g := some (74, true) },
  { dst := some 76, k := (.bin .eql), xs := [.t 75, .c (.d (.int .i64 0))], g := some (74, true) },
  { dst := some 77, k := .pick, xs := [.t 74, .t 76, .c (.d (.bool false))] },
  { dst := some 78, k := .mv, xs := [.t 77] },
  { dst := some 79, k := .mv, xs := [.t 7], g := some (78, true) },
  { dst := some 80, k := .mv, xs := [.t 5], g := some (78, true) },
  { dst := some 81, k := (.bin .eql), xs := [.t 79, .t 80], g := some (78, true) },
  { dst := some 82, k := .pick, xs := [.t 78, .t 81, .c (.d (.bool false))] },
  { dst := some 83, k := .mv, xs := [.t 82] },
  { dst := some 84, k := .mv, xs := [.t 10], g := some (83, true) },
  { dst := some 85, k := (.bin .eql), xs := [.t 84, .c (.d (.int .i64 3))], g := some (83, true) },
  { dst := some 86, k := .pick, xs := [.t 83, .t 85, .c (.d (.bool false))] },
  { dst := some 87, k := .mv, xs := [.t 86] },
  { dst := some 88, k := .mv, xs := [.t 12], g := some (87, true) },
  { dst := some 89, k := .mv, xs := [.t 13], g := some (87, true) },
  { dst := some 90, k := (.bin .eql), xs := [.t 88, .t 89], g := some (87, true) },
  { dst := some 91, k := .pick, xs := [.t 87, .t 90, .c (.d (.bool false))] },
  { dst := some 92, k := .mv, xs := [.t 91] },
  { dst := some 93, k := .mv, xs := [.t 15], g := some (92, true) },
  { dst := some 94, k := (.bin .eql), xs := [.t 93, .c (.d (.int .i64 2))], g := some (92, true) },
  { dst := some 95, k := .pick, xs := [.t 92, .t 94, .c (.d (.bool false))] },
  { dst := some 96, k := .mv, xs := [.t 95] },
  { dst := some 97, k := .mv, xs := [.t 1], g := some (96, true) },
  { dst := some 98, k := .lenS, xs := [.t 97], g := some (96, true) },
  { dst := some 99, k := (.bin .geq), xs := [.t 98, .c (.d (.int .i64 0))], g := some (96, true) },
  { dst := some 100, k := .pick, xs := [.t 96, .t 99, .c (.d (.bool false))] },
  { dst := some 4, k := .mv, xs := [.t 100] }]
def F8c32 : Ac := .ret
def F8c30 : Ac := (.seq (.ops F8o31) F8c32)
def F8b28 : Ac := (.seq (.ops F8o29) F8c30)
def F8c28 : Ac := (.seq (.gh []) (.seq (.keep [1, 5, 6, 7, 8, 10, 12, 13] [[6]]) F8b28))
def F8c22 : Ac := (.seq (.seq (.ops F8o24) F8c25) F8c28)
def F8c20 : Ac := (.seq (.ops F8o21) F8c22)
def F8c18 : Ac := (.seq (.ops F8o19) F8c20)
def F8c16 : Ac := (.seq (.ops F8o17) F8c18)
def F8c14 : Ac := (.seq (.ops F8o15) F8c16)
def F8c6 : Ac := (.seq (.seq (.ops F8o8) F8c9) F8c14)
def F8c4 : Ac := (.seq (.ops F8o5) F8c6)
def F8c2 : Ac := (.seq (.ops F8o3) F8c4)
def F8c0 : Ac := (.seq (.ops F8o1) F8c2)
/-- hansom/hansomlaw20.NamesHeader -/
def F8 : Fn := { np := 2, pb := [], rs := [.t 4], body := F8c0 }
def F9o1 : List Ao := [
  { dst := some 2, k := (.box 3), xs := [.t 0] },
  { dst := some 4, k := .mv, xs := [.c (.d (.bool false))] }]
def F9o3 : List Ao := [
  { dst := some 12, k := (.load (some 3)), xs := [.t 2] },
  { dst := some 5, k := (.alloc [.d (.int .u8 0), .d (.int .u8 0), .d (.str [])]), xs := [] },
  { dst := none, k := (.store 3), xs := [.t 5, .t 12] }]
def F9o5 : List Ao := [
  { dst := some 13, k := (.faddr 2), xs := [.t 2] },
  { dst := some 14, k := (.load none), xs := [.t 13] },
  { dst := some 15, k := (.faddr 2), xs := [.t 2] },
  { dst := some 16, k := (.load none), xs := [.t 15] },
  { dst := some 17, k := .lenS, xs := [.t 16] },
  { dst := some 18, k := .mn, xs := [.t 17, .c (.d (.int .i64 100))] },
  { dst := some 19, k := (.substr false true), xs := [.t 14, .t 18] },
  { dst := some 20, k := (.faddr 2), xs := [.t 5] },
  { dst := none, k := (.store 1), xs := [.t 20, .t 19] }]
def F9o7 : List Ao := [
  { dst := some 21, k := (.load (some 3)), xs := [.t 5] },
  { dst := some 22, k := (.callf 38), xs := [.t 21] },
  { dst := some 6, k := (.alloc [.d (.int .u8 0), .nils]), xs := [] },
  { dst := none, k := (.store 2), xs := [.t 6, .t 22] }]
def F9o9 : List Ao := [
  { dst := some 24, k := (.faddr 1), xs := [.t 6] },
  { dst := some 25, k := (.load none), xs := [.t 24] },
  { dst := some 26, k := (.callf 39), xs := [.t 25] },
  { dst := some 23, k := .mv, xs := [.t 26] },
  { dst := some 27, k := (.extract 0), xs := [.t 23] },
  { dst := some 28, k := (.extract 1), xs := [.t 23] },
  { dst := some 7, k := (.alloc [.d (.int .u8 0), .d (.int .u8 0), .d (.str [])]), xs := [] },
  { dst := none, k := (.store 3), xs := [.t 7, .t 27] },
  { dst := some 8, k := .mv, xs := [.t 28] }]
def F9o11 : List Ao := [
  { dst := some 30, k := .mv, xs := [.t 1] },
  { dst := some 31, k := .mv, xs := [.t 1] },
  { dst := some 32, k := .lenL, xs := [.t 31] },
  { dst := some 33, k := .mn, xs := [.t 32, .c (.d (.int .i64 30))] },
  { dst := some 34, k := (.subsl 1 false true false), xs := [.t 30, .t 33] },
  { dst := some 35, k := (.callf 39), xs := [.t 34] },
  { dst := some 29, k := .mv, xs := [.t 35] },
  { dst := some 36, k := (.extract 0), xs := [.t 29] },
  { dst := some 37, k := (.extract 1), xs := [.t 29] },
  { dst := some 9, k := (.alloc [.d (.int .u8 0), .d (.int .u8 0), .d (.str [])]), xs := [] },
  { dst := none, k := (.store 3), xs := [.t 9, .t 36] },
  { dst := some 10, k := .mv, xs := [.t 37] }]
def F9o13 : List Ao := [
  { dst := some 11, k := .mv, xs := [.c (.d (.int .i64 0))] }]
def F9o16 : List Ao := [
  { dst := some 38, k := .mv, xs := [.t 1] },
  { dst := some 39, k := .lenL, xs := [.t 38] },
  { dst := some 40, k := (.bin .lss), xs := [.t 39, .c (.d (.int .i64 2))] }]
def F9o18 : List Ao := [
  { dst := some 11, k := .mv, xs := [.c (.d (.int .i64 2))] }]
def F9c17 : Ac := (.cond (.t 40) (.ops F9o18) .skip)
def F9o21 : List Ao := [
  { dst := some 41, k := (.callf 36), xs := [] },
  { dst := some 42, k := .mv, xs := [.t 41] },
  { dst := some 43, k := (.faddr 0), xs := [.t 6], g := some (42, true) },
  { dst := some 44, k := (.load none), xs := [.t 43], g := some (42, true) },
  { dst := some 45, k := (.bin .eql), xs := [.t 44, .c (.d (.int .u8 136))], g := some (42, true) },
  { dst := some 46, k := .pick, xs := [.t 42, .t 45, .c (.d (.bool false))] },
  { dst := some 47, k := .mv, xs := [.t 46] },
  { dst := some 48, k := (.faddr 1), xs := [.t 6], g := some (47, true) },
  { dst := some 49, k := (.load none), xs := [.t 48], g := some (47, true), av := [[55]] },
  { dst := some 50, k := .bytesStr, xs := [.t 49], g := some (47, true), av := [[55]] },
  { dst := some 51, k := (.faddr 0), xs := [.t 2], g := some (47, true) },
  { dst := some 52, k := (.load none), xs := [.t 51], g := some (47, true) },
  { dst := some 53, k := (.faddr 1), xs := [.t 2], g := some (47, true) },
  { dst := some 54, k := (.load none), xs := [.t 53], g := some (47, true) },
  { dst := some 55, k := (.bslice (.int .u8 0) 2 [0, 1]), xs := [.t 52, .t 54], g := some (47, true) },
  { dst := some 56, k := .bytesStr, xs := [.t 55], g := some (47, true) },
  { dst := some 57, k := (.faddr 2), xs := [.t 5], g := some (47, true) },
  { dst := some 58, k := (.load none), xs := [.t 57], g := some (47, true), av := [[55]] },
  { dst := some 59, k := (.bin .add), xs := [.t 56, .t 58], g := some (47, true) },
  { dst := some 60, k := (.bin .eql), xs := [.t 50, .t 59], g := some (47, true) },
  { dst := some 61, k := .pick, xs := [.t 47, .t 60, .c (.d (.bool false))] },
  { dst := some 62, k := .mv, xs := [.t 61] },
  { dst := some 63, k := .mv, xs := [.t 8], g := some (62, true) },
  { dst := some 64, k := (.bin .eql), xs := [.t 63, .c (.d (.int .i64 0))], g := some (62, true) },
  { dst := some 65, k := .pick, xs := [.t 62, .t 64, .c (.d (.bool false))] },
  { dst := some 66, k := .mv, xs := [.t 65] },
  { dst := some 67, k := (.load (some 3)), xs := [.t 7], g := some (66, true) },
  { dst := some 68, k := (.load (some 3)), xs := [.t 5], g := some (66, true) },
  { dst := some 69, k := (.eqa false [.i, .i, .s]), xs := [.t 67, .t 68], g := some (66, true) },
  { dst := some 70, k := .pick, xs := [.t 66, .t 69, .c (.d (.bool false))] },
  { dst := some 71, k := .mv, xs := [.t 70] },
  { dst := some 72, k := .mv, xs := [.t 10], g := some (71, true) },
  { dst := some 73, k := .mv, xs := [.t 11], g := some (71, true) },
  { dst := some 74, k := (.bin .eql), xs := [.t 72, .t 73], g := some (71, true) },
  { dst := some 75, k := .pick, xs := [.t 71, .t 74, .c (.d (.bool false))] },
  { dst := some 76, k := .mv, xs := [.t 75] },
  { dst := some 77, k := .mv, xs := [.t 10], g := some (76, true) },
  { dst := some 78, k := (.bin .neq), xs := [.t 77, .c (.d (.int .i64 0))], g := some (76, true) },
  { dst := some 79, k := .mv, xs := [.t 78], g := some (76, true) },
  { dst := some 80, k := (.load (some 3)), xs := [.t 9], g := some (79, false) },
  { dst := some 81, k := (.callf 38), xs := [.t 80], g := some (79, false), al := some [] },
  { dst := some 82, k := (.field 1 none), xs := [.t 81], g := some (79, false) },
  { dst := some 83, k := .bytesStr, xs := [.t 82], g := some (79, false) },
  { dst := some 84, k := .mv, xs := [.t 1], g := some (79, false) },
  { dst := some 85, k := .mv, xs := [.t 1], g := some (79, false) },
  { dst := some 86, k := .lenL, xs := [.t 85], g := some (79, false) },
  { dst := some 87, k := .mn, xs := [.t 86, .c (.d (.int .i64 30))], g := some (79, false) },
  { dst := some 88, k := (.subsl 1 false true false), xs := [.t 84, .t 87], g := some (79, false) },
  { dst := some 89, k := .bytesStr, xs := [.t 88], g := some (79, false), av := [[81]] },
  { dst := some 90, k := (.bin .eql), xs := [.t 83, .t 89], g := some (79, false) },
  { dst := some 91, k := .pick, xs := [.t 79, .c (.d (.bool true)), .t 90], g := some (76, true) },
  { dst := some 92, k := .pick, xs := [.t 76, .t 91, .c (.d (.bool false))] },
  { dst := some 4, k := .mv, xs := [.t 92] }]
def F9c22 : Ac := .ret
def F9b20 : Ac := (.seq (.ops F9o21) F9c22)
def F9c20 : Ac := (.seq (.gh []) (.seq (.keep [1, 2, 5, 6, 7, 8, 9, 10, 11] [[2], [5], [6], [7], [9]]) F9b20))
def F9c14 : Ac := (.seq (.seq (.ops F9o16) F9c17) F9c20)
def F9c12 : Ac := (.seq (.ops F9o13) F9c14)
def F9c10 : Ac := (.seq (.ops F9o11) F9c12)
def F9c8 : Ac := (.seq (.ops F9o9) F9c10)
def F9c6 : Ac := (.seq (.ops F9o7) F9c8)
def F9c4 : Ac := (.seq (.ops F9o5) F9c6)
def F9c2 : Ac := (.seq (.ops F9o3) F9c4)
def F9c0 : Ac := (.seq (.ops F9o1) F9c2)
/-- hansom/hansomlaw20.NamesRemark -/
def F9 : Fn := { np := 2, pb := [], rs := [.t 4], body := F9c0 }
def F12o1 : List Ao := [
  { dst := some 4, k := .mv, xs := [.c (.d (.bool false))] }]
def F12o3 : List Ao := [
  { dst := some 15, k := (.bslice (.str []) 0 []), xs := [] },
  { dst := some 5, k := .mv, xs := [.t 15] },
  { dst := some 6, k := .mv, xs := [.c (.d (.str []))] }]
def F12o6 : List Ao := [
  { dst := some 7, k := .mv, xs := [.c (.d (.int .i64 0))] }]
def F12o11 : List Ao := [
  { dst := some 16, k := .mv, xs := [.t 7] },
  { dst := some 17, k := .mv, xs := [.t 0] },
  { dst := some 18, k := .lenL, xs := [.t 17] },
  { dst := some 19, k := (.bin .lss), xs := [.t 16, .t 18] },
  { dst := some 20, k := .mv, xs := [.t 19] },
  { dst := some 21, k := .mv, xs := [.t 7], g := some (20, true) },
  { dst := some 22, k := (.bin .lss), xs := [.t 21, .c (.d (.int .i64 12))], g := some (20, true) },
  { dst := some 23, k := .pick, xs := [.t 20, .t 22, .c (.d (.bool false))] }]
def F12c12 : Ac := (.cond (.t 23) .skip (.exit 0))
def F12o18 : List Ao := [
  { dst := some 26, k := .mv, xs := [.t 5] },
  { dst := some 27, k := .mv, xs := [.t 0] },
  { dst := some 28, k := .mv, xs := [.t 7] },
  { dst := some 29, k := (.iaddrS 1), xs := [.t 27, .t 28] },
  { dst := some 30, k := (.load none), xs := [.t 29] },
  { dst := some 31, k := .mv, xs := [.t 0] },
  { dst := some 32, k := .mv, xs := [.t 7] },
  { dst := some 33, k := (.iaddrS 1), xs := [.t 31, .t 32] },
  { dst := some 34, k := (.load none), xs := [.t 33] },
  { dst := some 35, k := .lenS, xs := [.t 34] },
  { dst := some 36, k := .mn, xs := [.t 35, .c (.d (.int .i64 40))] },
  { dst := some 37, k := (.substr false true), xs := [.t 30, .t 36] },
  { dst := some 38, k := (.bslice (.str []) 1 [0]), xs := [.t 37] },
  { dst := some 39, k := (.append 1 16 false), xs := [.t 26, .t 38] },
  { dst := some 5, k := .mv, xs := [.t 39] }]
def F12o19 : List Ao := [
  { dst := some 40, k := .mv, xs := [.t 6] },
  { dst := some 41, k := .mv, xs := [.t 5] },
  { dst := some 42, k := .mv, xs := [.t 7] },
  { dst := some 43, k := (.iaddrS 1), xs := [.t 41, .t 42] },
  { dst := some 44, k := (.load none), xs := [.t 43] },
  { dst := some 45, k := (.callf 37), xs := [.t 44] },
  { dst := some 46, k := (.bin .add), xs := [.t 40, .t 45] },
  { dst := some 6, k := .mv, xs := [.t 46] }]
def F12c19 : Ac := (.ops F12o19)
def F12o20 : List Ao := [
  { dst := some 24, k := .mv, xs := [.t 7] },
  { dst := some 25, k := (.bin .add), xs := [.t 24, .c (.d (.int .i64 1))] },
  { dst := some 7, k := .mv, xs := [.t 25] }]
def F12c20 : Ac := (.ops F12o20)
def F12c15 : Ac := (.seq (.block 1 (.seq (.ops F12o18) F12c19)) F12c20)
def F12l8 : Ac := (.seq (.seq (.ops F12o11) F12c12) F12c15)
def F12c7 : Ac := (.block 0 (.loop (.seq (.gh []) (.seq (.keep [0, 1, 5, 6, 7] [[15]]) F12l8))))
def F12o22 : List Ao := [
  { dst := some 47, k := .mv, xs := [.t 5] },
  { dst := some 48, k := (.callf 47), xs := [.t 47] },
  { dst := some 8, k := (.alloc [.d (.int .u8 0), .nils]), xs := [] },
  { dst := none, k := (.store 2), xs := [.t 8, .t 48] }]
def F12o24 : List Ao := [
  { dst := some 50, k := .mv, xs := [.t 6] },
  { dst := some 51, k := .strBytes, xs := [.t 50] },
  { dst := some 52, k := (.callf 48), xs := [.t 51] },
  { dst := some 49, k := .mv, xs := [.t 52] },
  { dst := some 53, k := (.extract 0), xs := [.t 49] },
  { dst := some 54, k := (.extract 1), xs := [.t 49] },
  { dst := some 9, k := .mv, xs := [.t 53] },
  { dst := some 10, k := .mv, xs := [.t 54] }]
def F12o27 : List Ao := [
  { dst := some 55, k := (.faddr 1), xs := [.t 8] },
  { dst := some 56, k := (.load none), xs := [.t 55] },
  { dst := some 57, k := .bytesStr, xs := [.t 56] },
  { dst := some 58, k := .mv, xs := [.t 6] },
  { dst := some 59, k := (.bin .neq), xs := [.t 57, .t 58] },
  { dst := some 60, k := .mv, xs := [.t 59] },
  { dst := some 61, k := (.faddr 0), xs := [.t 8], g := some (60, false) },
  { dst := some 62, k := (.load none), xs := [.t 61], g := some (60, false) },
  { dst := some 63, k := (.bin .neq), xs := [.t 62, .c (.d (.int .u8 150))], g := some (60, false) },
  { dst := some 64, k := .pick, xs := [.t 60, .c (.d (.bool true)), .t 63] },
  { dst := some 65, k := .mv, xs := [.t 64] },
  { dst := some 66, k := .mv, xs := [.t 10], g := some (65, false) },
  { dst := some 67, k := (.bin .neq), xs := [.t 66, .c (.d (.int .i64 0))], g := some (65, false) },
  { dst := some 68, k := .pick, xs := [.t 65, .c (.d (.bool true)), .t 67] },
  { dst := some 69, k := .mv, xs := [.t 68] },
  { dst := some 70, k := .mv, xs := [.t 9], g := some (69, false) },
  { dst := some 71, k := .lenL, xs := [.t 70], g := some (69, false) },
  { dst := some 72, k := .mv, xs := [.t 5], g := some (69, false) },
  { dst := some 73, k := .lenL, xs := [.t 72], g := some (69, false) },
  { dst := some 74, k := (.bin .neq), xs := [.t 71, .t 73], g := some (69, false) },
  { dst := some 75, k := .pick, xs := [.t 69, .c (.d (.bool true)), .t 74] }]
def F12o30 : List Ao := [
  { dst := some 4, k := .mv, xs := [.c (.d (.bool false))] }]
def F12c31 : Ac := .ret
def F12c28 : Ac := (.cond (.t 75) (.seq (.ops F12o30) F12c31) .skip)
def F12o35 : List Ao := [
  { dst := some 11, k := .mv, xs := [.c (.d (.int .i64 0))] }]
def F12o40 : List Ao := [
  { dst := some 76, k := .mv, xs := [.t 11] },
  { dst := some 77, k := .mv, xs := [.t 5] },
  { dst := some 78, k := .lenL, xs := [.t 77] },
  { dst := some 79, k := (.bin .lss), xs := [.t 76, .t 78] }]
def F12c41 : Ac := (.cond (.t 79) .skip (.exit 2))
def F12o47 : List Ao := [
  { dst := some 82, k := .mv, xs := [.t 9] },
  { dst := some 83, k := .mv, xs := [.t 11] },
  { dst := some 84, k := (.iaddrS 1), xs := [.t 82, .t 83] },
  { dst := some 85, k := (.load none), xs := [.t 84] },
  { dst := some 86, k := .mv, xs := [.t 5] },
  { dst := some 87, k := .mv, xs := [.t 11] },
  { dst := some 88, k := (.iaddrS 1), xs := [.t 86, .t 87] },
  { dst := some 89, k := (.load none), xs := [.t 88] },
  { dst := some 90, k := (.bin .neq), xs := [.t 85, .t 89] }]
def F12o50 : List Ao := [
  { dst := some 4, k := .mv, xs := [.c (.d (.bool false))] }]
def F12c51 : Ac := .ret
def F12c48 : Ac := (.cond (.t 90) (.seq (.ops F12o50) F12c51) .skip)
def F12o53 : List Ao := [
  { dst := some 80, k := .mv, xs := [.t 11] },
  { dst := some 81, k := (.bin .add), xs := [.t 80, .c (.d (.int .i64 1))] },
  { dst := some 11, k := .mv, xs := [.t 81] }]
def F12c53 : Ac := (.ops F12o53)
def F12c44 : Ac := (.seq (.block 3 (.seq (.ops F12o47) F12c48)) F12c53)
def F12l37 : Ac := (.seq (.seq (.ops F12o40) F12c41) F12c44)
def F12c36 : Ac := (.block 2 (.loop (.seq (.gh []) (.seq (.keep [1, 5, 6, 9, 11] [[15]]) F12l37))))
def F12o55 : List Ao := [
  { dst := some 91, k := .mv, xs := [.t 1] },
  { dst := some 92, k := (.bin .and), xs := [.t 91, .c (.d (.int .i64 65535))] },
  { dst := some 93, k := .mv, xs := [.t 6] },
  { dst := some 94, k := .lenS, xs := [.t 93] },
  { dst := some 95, k := (.bin .add), xs := [.t 94, .c (.d (.int .i64 1))] },
  { dst := some 96, k := (.bin .rem), xs := [.t 92, .t 95] },
  { dst := some 12, k := .mv, xs := [.t 96] }]
def F12o57 : List Ao := [
  { dst := some 98, k := .mv, xs := [.t 6] },
  { dst := some 99, k := .mv, xs := [.t 12] },
  { dst := some 100, k := (.substr false true), xs := [.t 98, .t 99] },
  { dst := some 101, k := .strBytes, xs := [.t 100] },
  { dst := some 102, k := (.callf 48), xs := [.t 101] },
  { dst := some 97, k := .mv, xs := [.t 102] },
  { dst := some 103, k := (.extract 0), xs := [.t 97] },
  { dst := some 104, k := (.extract 1), xs := [.t 97] },
  { dst := some 13, k := .mv, xs := [.t 103] },
  { dst := some 14, k := .mv, xs := [.t 104] }]
def F12o59 : List Ao := [
  { dst := some 105, k := (.callf 36), xs := [] },
  { dst := some 106, k := .mv, xs := [.t 105] },
  { dst := some 107, k := .mv, xs := [.t 14], g := some (106, true) },
  { dst := some 108, k := (.bin .eql), xs := [.t 107, .c (.d (.int .i64 0))], g := some (106, true) },
  { dst := some 109, k := .mv, xs := [.t 108], g := some (106, true) },
  { dst := some 110, k := .mv, xs := [.t 14], g := some (109, false) },
  { dst := some 111, k := (.bin .eql), xs := [.t 110, .c (.d (.int .i64 2))], g := some (109, false) },
  { dst := some 112, k := .mv, xs := [.t 111], g := some (109, false) },
  { dst := some 113, k := .mv, xs := [.t 13], g := some (112, true) },
  { dst := some 114, k := .lenL, xs := [.t 113], g := some (112, true) },
  { dst := some 115, k := (.bin .eql), xs := [.t 114, .c (.d (.int .i64 0))], g := some (112, true) },
  { dst := some 116, k := .pick, xs := [.t 112, .t 115, .c (.d (.bool false))], g := some (109, false) },
  { dst := some 117, k := .pick, xs := [.t 109, .c (.d (.bool true)), .t 116], g := some (106, true) },
  { dst := some 118, k := .pick, xs := [.t 106, .t 117, .c (.d (.bool false))] },
  { dst := some 119, k := .mv, xs := [.t 118] },
  { dst := some 120, k := .mv, xs := [.t 13], g := some (119, true) },
  { dst := some 121, k := .lenL, xs := [.t 120], g := some (119, true) },
  { dst := some 122, k := .mv, xs := [.t 5], g := some (119, true) },
  { dst := some 123, k := .lenL, xs := [.t 122], g := some (119, true) },
  { dst := some 124, k := (.bin .leq), xs := [.t 121, .t 123], g := some (119, true) },
  { dst := some 125, k := .pick, xs := [.t 119, .t 124, .c (.d (.bool false))] },
  { dst := some 4, k := .mv, xs := [.t 125] }]
def F12c60 : Ac := .ret
def F12c58 : Ac := (.seq (.ops F12o59) F12c60)
def F12c56 : Ac := (.seq (.ops F12o57) F12c58)
def F12b54 : Ac := (.seq (.ops F12o55) F12c56)
def F12c54 : Ac := (.seq (.gh []) (.seq (.keep [1, 5, 6] [[15]]) F12b54))
def F12c33 : Ac := (.seq (.seq (.ops F12o35) F12c36) F12c54)
def F12c25 : Ac := (.seq (.seq (.ops F12o27) F12c28) F12c33)
def F12c23 : Ac := (.seq (.ops F12o24) F12c25)
def F12b21 : Ac := (.seq (.ops F12o22) F12c23)
def F12c21 : Ac := (.seq (.gh []) (.seq (.keep [1, 5, 6] [[15]]) F12b21))
def F12c4 : Ac := (.seq (.seq (.ops F12o6) F12c7) F12c21)
def F12c2 : Ac := (.seq (.ops F12o3) F12c4)
def F12c0 : Ac := (.seq (.ops F12o1) F12c2)
/-- hansom/hansomlaw20.NamesList -/
def F12 : Fn := { np := 2, pb := [], rs := [.t 4], body := F12c0 }
def F34o1 : List Ao := [
  { dst := some 2, k := (.alloc [.d (.int .u8 0), .nils]), xs := [] }]
def F34o3 : List Ao := [
  { dst := some 3, k := .mv, xs := [.t 0] },
  { dst := some 4, k := (.callf 60), xs := [.t 3] },
  { dst := some 5, k := (.build [.d (.int .u8 0), .nils] [(0, 1), (1, 1)]), xs := [.c (.d (.int .u8 128)), .t 4] },
  { dst := none, k := (.store 2), xs := [.t 2, .t 5] }]
def F34c4 : Ac := .ret
def F34c2 : Ac := (.seq (.ops F34o3) F34c4)
def F34c0 : Ac := (.seq (.ops F34o1) F34c2)
/-- hansom/names.Header -/
def F34 : Fn := { np := 1, pb := [], rs := [.c 2 (some 2)], body := F34c0 }
def F35o1 : List Ao := [
  { dst := some 2, k := .mv, xs := [.c (.d (.str []))] },
  { dst := some 3, k := .mv, xs := [.c (.d (.int .i64 0))] }]
def F35o3 : List Ao := [
  { dst := some 7, k := .mv, xs := [.t 0] },
  { dst := some 8, k := (.callf 61), xs := [.t 7] },
  { dst := some 4, k := .mv, xs := [.t 8] }]
def F35o5 : List Ao := [
  { dst := some 9, k := .mv, xs := [.t 4] },
  { dst := some 10, k := (.callf 62), xs := [.t 9] },
  { dst := some 5, k := .mv, xs := [.t 10] }]
def F35o8 : List Ao := [
  { dst := some 11, k := .mv, xs := [.t 4] },
  { dst := some 12, k := (.callf 63), xs := [.t 11] },
  { dst := some 6, k := .mv, xs := [.t 12] }]
def F35o10 : List Ao := [
  { dst := some 13, k := .mv, xs := [.t 6] },
  { dst := some 14, k := (.bin .neq), xs := [.t 13, .c (.d (.int .i64 0))] }]
def F35o13 : List Ao := [
  { dst := some 15, k := .mv, xs := [.t 6] },
  { dst := some 2, k := .mv, xs := [.c (.d (.str []))] },
  { dst := some 3, k := .mv, xs := [.t 15] }]
def F35c14 : Ac := .ret
def F35c11 : Ac := (.cond (.t 14) (.seq (.ops F35o13) F35c14) .skip)
def F35c9 : Ac := (.seq (.ops F35o10) F35c11)
def F35o17 : List Ao := [
  { dst := some 16, k := .mv, xs := [.t 5] },
  { dst := some 2, k := .mv, xs := [.t 16] },
  { dst := some 3, k := .mv, xs := [.c (.d (.int .i64 0))] }]
def F35c18 : Ac := .ret
def F35c16 : Ac := (.seq (.ops F35o17) F35c18)
def F35c6 : Ac := (.seq (.seq (.ops F35o8) F35c9) F35c16)
def F35c4 : Ac := (.seq (.ops F35o5) F35c6)
def F35c2 : Ac := (.seq (.ops F35o3) F35c4)
def F35c0 : Ac := (.seq (.ops F35o1) F35c2)
/-- hansom/names.Name -/
def F35 : Fn := { np := 1, pb := [], rs := [.t 2, .t 3], body := F35c0 }
def F36o1 : List Ao := [
  { dst := some 0, k := .mv, xs := [.c (.d (.bool false))] }]
def F36o3 : List Ao := [
  { dst := some 4, k := (.callf 34), xs := [.c (.d (.str [65, 66]))] },
  { dst := some 5, k := (.field 1 none), xs := [.t 4] },
  { dst := some 6, k := (.callf 35), xs := [.t 5] },
  { dst := some 3, k := .mv, xs := [.t 6] },
  { dst := some 7, k := (.extract 0), xs := [.t 3] },
  { dst := some 8, k := (.extract 1), xs := [.t 3] },
  { dst := some 1, k := .mv, xs := [.t 7] },
  { dst := some 2, k := .mv, xs := [.t 8] }]
def F36o5 : List Ao := [
  { dst := some 9, k := .mv, xs := [.t 2] },
  { dst := some 10, k := (.bin .eql), xs := [.t 9, .c (.d (.int .i64 0))] },
  { dst := some 11, k := .mv, xs := [.t 10] },
  { dst := some 12, k := .mv, xs := [.t 1], g := some (11, true) },
  { dst := some 13, k := (.bin .eql), xs := [.t 12, .c (.d (.str [65, 66]))], g := some (11, true) },
  { dst := some 14, k := .pick, xs := [.t 11, .t 13, .c (.d (.bool false))] },
  { dst := some 15, k := .mv, xs := [.t 14] },
  { dst := some 16, k := (.callf 34), xs := [.c (.d (.str [65, 66]))], g := some (15, true) },
  { dst := some 17, k := (.field 0 none), xs := [.t 16], g := some (15, true) },
  { dst := some 18, k := (.bin .eql), xs := [.t 17, .c (.d (.int .u8 128))], g := some (15, true) },
  { dst := some 19, k := .pick, xs := [.t 15, .t 18, .c (.d (.bool false))] },
  { dst := some 0, k := .mv, xs := [.t 19] }]
def F36c6 : Ac := .ret
def F36c4 : Ac := (.seq (.ops F36o5) F36c6)
def F36c2 : Ac := (.seq (.ops F36o3) F36c4)
def F36c0 : Ac := (.seq (.ops F36o1) F36c2)
/-- hansom/hansomlaw20.awake -/
def F36 : Fn := { np := 0, pb := [], rs := [.t 0], body := F36c0 }
def F37o1 : List Ao := [
  { dst := some 2, k := .mv, xs := [.c (.d (.str []))] }]
def F37o4 : List Ao := [
  { dst := some 3, k := .mv, xs := [.t 0] },
  { dst := some 4, k := .lenS, xs := [.t 3] },
  { dst := some 5, k := (.bin .gtr), xs := [.t 4, .c (.d (.int .i64 255))] }]
def F37o6 : List Ao := [
  { dst := some 6, k := .mv, xs := [.t 0] },
  { dst := some 7, k := (.substr false true), xs := [.t 6, .c (.d (.int .i64 255))] },
  { dst := some 0, k := .mv, xs := [.t 7] }]
def F37c5 : Ac := (.cond (.t 5) (.ops F37o6) .skip)
def F37o9 : List Ao := [
  { dst := some 8, k := .mv, xs := [.t 0] },
  { dst := some 9, k := .lenS, xs := [.t 8] },
  { dst := some 10, k := (.toInt .u8), xs := [.t 9] },
  { dst := some 11, k := (.bslice (.int .u8 0) 1 [0]), xs := [.t 10] },
  { dst := some 12, k := .bytesStr, xs := [.t 11] },
  { dst := some 13, k := .mv, xs := [.t 0] },
  { dst := some 14, k := (.bin .add), xs := [.t 12, .t 13] },
  { dst := some 2, k := .mv, xs := [.t 14] }]
def F37c10 : Ac := .ret
def F37c8 : Ac := (.seq (.ops F37o9) F37c10)
def F37c2 : Ac := (.seq (.seq (.ops F37o4) F37c5) F37c8)
def F37c0 : Ac := (.seq (.ops F37o1) F37c2)
/-- hansom/hansomref18.Name -/
def F37 : Fn := { np := 1, pb := [], rs := [.t 2], body := F37c0 }
def F38o1 : List Ao := [
  { dst := some 1, k := (.box 3), xs := [.t 0] },
  { dst := some 2, k := (.alloc [.d (.int .u8 0), .nils]), xs := [] }]
def F38o3 : List Ao := [
  { dst := some 3, k := (.faddr 0), xs := [.t 1] },
  { dst := some 4, k := (.load none), xs := [.t 3] },
  { dst := some 5, k := (.faddr 1), xs := [.t 1] },
  { dst := some 6, k := (.load none), xs := [.t 5] },
  { dst := some 7, k := (.bslice (.int .u8 0) 2 [0, 1]), xs := [.t 4, .t 6] },
  { dst := some 8, k := (.faddr 2), xs := [.t 1] },
  { dst := some 9, k := (.load none), xs := [.t 8] },
  { dst := some 10, k := (.append 1 1 true), xs := [.t 7, .t 9] },
  { dst := some 11, k := (.build [.d (.int .u8 0), .nils] [(0, 1), (1, 1)]), xs := [.c (.d (.int .u8 136)), .t 10] },
  { dst := none, k := (.store 2), xs := [.t 2, .t 11] }]
def F38c4 : Ac := (.seq (.gh [.frzB [2] 1]) .ret)
def F38c2 : Ac := (.seq (.ops F38o3) F38c4)
def F38c0 : Ac := (.seq (.ops F38o1) F38c2)
/-- hansom/names.Remark -/
def F38 : Fn := { np := 1, pb := [], rs := [.c 2 (some 2)], body := F38c0 }
def F39o1 : List Ao := [
  { dst := some 2, k := (.alloc [.d (.int .u8 0), .d (.int .u8 0), .d (.str [])]), xs := [] },
  { dst := some 3, k := .mv, xs := [.c (.d (.int .i64 0))] }]
def F39o3 : List Ao := [
  { dst := some 7, k := .mv, xs := [.t 0] },
  { dst := some 8, k := (.callf 61), xs := [.t 7] },
  { dst := some 4, k := .mv, xs := [.t 8] }]
def F39o5 : List Ao := [
  { dst := some 9, k := .mv, xs := [.t 4] },
  { dst := some 10, k := (.callf 64), xs := [.t 9] },
  { dst := some 11, k := .mv, xs := [.t 4] },
  { dst := some 12, k := (.callf 64), xs := [.t 11] },
  { dst := some 13, k := (.build [.d (.int .u8 0), .d (.int .u8 0), .d (.str [])] [(0, 1), (1, 1)]), xs := [.t 10, .t 12] },
  { dst := some 5, k := (.alloc [.d (.int .u8 0), .d (.int .u8 0), .d (.str [])]), xs := [] },
  { dst := none, k := (.store 3), xs := [.t 5, .t 13] }]
def F39o7 : List Ao := [
  { dst := some 14, k := .mv, xs := [.t 4] },
  { dst := some 15, k := .mv, xs := [.t 4] },
  { dst := some 16, k := (.callf 66), xs := [.t 15] },
  { dst := some 17, k := (.callf 65), xs := [.t 14, .t 16] },
  { dst := some 18, k := .bytesStr, xs := [.t 17] },
  { dst := some 19, k := (.faddr 2), xs := [.t 5] },
  { dst := none, k := (.store 1), xs := [.t 19, .t 18] }]
def F39o10 : List Ao := [
  { dst := some 20, k := .mv, xs := [.t 4] },
  { dst := some 21, k := (.callf 67), xs := [.t 20] },
  { dst := some 6, k := .mv, xs := [.t 21] }]
def F39o12 : List Ao := [
  { dst := some 22, k := .mv, xs := [.t 6] },
  { dst := some 23, k := (.bin .neq), xs := [.t 22, .c (.d (.int .i64 0))] }]
def F39o15 : List Ao := [
  { dst := some 24, k := (.build [.d (.int .u8 0), .d (.int .u8 0), .d (.str [])] []), xs := [] },
  { dst := some 25, k := .mv, xs := [.t 6] },
  { dst := none, k := (.store 3), xs := [.t 2, .t 24] },
  { dst := some 3, k := .mv, xs := [.t 25] }]
def F39c16 : Ac := .ret
def F39c13 : Ac := (.cond (.t 23) (.seq (.ops F39o15) F39c16) .skip)
def F39c11 : Ac := (.seq (.ops F39o12) F39c13)
def F39o19 : List Ao := [
  { dst := some 26, k := (.load (some 3)), xs := [.t 5] },
  { dst := none, k := (.store 3), xs := [.t 2, .t 26] },
  { dst := some 3, k := .mv, xs := [.c (.d (.int .i64 0))] }]
def F39c20 : Ac := .ret
def F39c18 : Ac := (.seq (.ops F39o19) F39c20)
def F39c8 : Ac := (.seq (.seq (.ops F39o10) F39c11) F39c18)
def F39c6 : Ac := (.seq (.ops F39o7) F39c8)
def F39c4 : Ac := (.seq (.ops F39o5) F39c6)
def F39c2 : Ac := (.seq (.ops F39o3) F39c4)
def F39c0 : Ac := (.seq (.ops F39o1) F39c2)
/-- hansom/names.Comment -/
def F39 : Fn := { np := 1, pb := [], rs := [.c 2 (some 3), .t 3], body := F39c0 }
def F47o1 : List Ao := [
  { dst := some 2, k := (.alloc [.d (.int .u8 0), .nils]), xs := [] }]
def F47o3 : List Ao := [
  { dst := some 6, k := (.build [.d (.int .u8 0), .nils] [(0, 1)]), xs := [.c (.d (.int .u8 150))] },
  { dst := some 3, k := (.alloc [.d (.int .u8 0), .nils]), xs := [] },
  { dst := none, k := (.store 2), xs := [.t 3, .t 6] }]
def F47o6 : List Ao := [
  { dst := some 7, k := .mv, xs := [.t 0] },
  { dst := some 8, k := .lenL, xs := [.t 7] },
  { dst := some 9, k := .mv, xs := [.c (.d (.int .i64 0))] }]
def F47o10 : List Ao := [
  { dst := some 10, k := (.bin .lss), xs := [.t 9, .t 8] }]
def F47o18 : List Ao := [
  { dst := some 11, k := (.iaddrS 1), xs := [.t 7, .t 9] },
  { dst := some 12, k := (.load none), xs := [.t 11] },
  { dst := some 5, k := .mv, xs := [.t 12] }]
def F47o19 : List Ao := [
  { dst := some 13, k := (.faddr 1), xs := [.t 3] },
  { dst := some 14, k := (.load none), xs := [.t 13], av := [[16]] },
  { dst := some 15, k := .mv, xs := [.t 5] },
  { dst := some 16, k := (.callf 60), xs := [.t 15], al := some [] },
  { dst := some 17, k := (.append 1 1 false), xs := [.t 14, .t 16] },
  { dst := some 18, k := (.faddr 1), xs := [.t 3] },
  { dst := none, k := (.store 1), xs := [.t 18, .t 17] }]
def F47c19 : Ac := (.ops F47o19)
def F47o20 : List Ao := [
  { dst := some 19, k := (.bin .add), xs := [.t 9, .c (.d (.int .i64 1))] },
  { dst := some 9, k := .mv, xs := [.t 19] }]
def F47c20 : Ac := (.ops F47o20)
def F47c15 : Ac := (.seq (.block 1 (.seq (.ops F47o18) F47c19)) F47c20)
def F47c11 : Ac := (.seq (.cond (.t 10) .skip (.exit 0)) F47c15)
def F47l8 : Ac := (.seq (.ops F47o10) F47c11)
def F47c7 : Ac := (.block 0 (.loop (.seq (.gh []) (.seq (.keep [2, 3, 7, 8, 9] [[2], [3], [901, 3]]) F47l8))))
def F47o22 : List Ao := [
  { dst := some 20, k := (.load (some 2)), xs := [.t 3] },
  { dst := none, k := (.store 2), xs := [.t 2, .t 20] }]
def F47c23 : Ac := (.seq (.gh [.frzB [2] 1]) .ret)
def F47b21 : Ac := (.seq (.ops F47o22) F47c23)
def F47c21 : Ac := (.seq (.gh []) (.seq (.keep [2, 3] [[2], [3], [901, 3]]) F47b21))
def F47b4 : Ac := (.seq (.seq (.ops F47o6) F47c7) F47c21)
def F47c4 : Ac := (.seq (.gh [.ownB [3] 1 [901, 3] 1]) (.seq (.keep [0, 2, 3] [[2], [3], [901, 3]]) F47b4))
def F47c2 : Ac := (.seq (.ops F47o3) F47c4)
def F47c0 : Ac := (.seq (.ops F47o1) F47c2)
/-- hansom/names.List -/
def F47 : Fn := { np := 1, pb := [], rs := [.c 2 (some 2)], body := F47c0 }
def F48o1 : List Ao := [
  { dst := some 2, k := .mv, xs := [.c (.nils)] },
  { dst := some 3, k := .mv, xs := [.c (.d (.int .i64 0))] }]
def F48o3 : List Ao := [
  { dst := some 7, k := .mv, xs := [.t 0] },
  { dst := some 8, k := (.callf 61), xs := [.t 7] },
  { dst := some 4, k := .mv, xs := [.t 8] }]
def F48o5 : List Ao := [
  { dst := some 5, k := .mv, xs := [.c (.nils)] }]
def F48o11 : List Ao := [
  { dst := some 9, k := .mv, xs := [.t 4] },
  { dst := some 10, k := (.callf 66), xs := [.t 9] },
  { dst := some 11, k := (.bin .gtr), xs := [.t 10, .c (.d (.int .i64 0))] }]
def F48c12 : Ac := (.cond (.t 11) .skip (.exit 0))
def F48o16 : List Ao := [
  { dst := some 12, k := .mv, xs := [.t 5] },
  { dst := some 13, k := .mv, xs := [.t 4] },
  { dst := some 14, k := (.callf 62), xs := [.t 13] },
  { dst := some 15, k := (.bslice (.str []) 1 [0]), xs := [.t 14] },
  { dst := some 16, k := (.append 1 16 false), xs := [.t 12, .t 15] },
  { dst := some 5, k := .mv, xs := [.t 16] }]
def F48c15 : Ac := (.block 1 (.ops F48o16))
def F48l8 : Ac := (.seq (.seq (.ops F48o11) F48c12) F48c15)
def F48o19 : List Ao := [
  { dst := some 17, k := .mv, xs := [.t 4] },
  { dst := some 18, k := (.callf 67), xs := [.t 17] },
  { dst := some 6, k := .mv, xs := [.t 18] }]
def F48o21 : List Ao := [
  { dst := some 19, k := .mv, xs := [.t 6] },
  { dst := some 20, k := (.bin .neq), xs := [.t 19, .c (.d (.int .i64 0))] }]
def F48o24 : List Ao := [
  { dst := some 21, k := .mv, xs := [.t 6] },
  { dst := some 2, k := .mv, xs := [.c (.nils)] },
  { dst := some 3, k := .mv, xs := [.t 21] }]
def F48c25 : Ac := (.seq (.gh [.frz 2]) .ret)
def F48c22 : Ac := (.cond (.t 20) (.seq (.ops F48o24) F48c25) .skip)
def F48c20 : Ac := (.seq (.ops F48o21) F48c22)
def F48o28 : List Ao := [
  { dst := some 22, k := .mv, xs := [.t 5] },
  { dst := some 2, k := .mv, xs := [.t 22] },
  { dst := some 3, k := .mv, xs := [.c (.d (.int .i64 0))] }]
def F48c29 : Ac := (.seq (.gh [.frz 2]) .ret)
def F48c27 : Ac := (.seq (.ops F48o28) F48c29)
def F48b17 : Ac := (.seq (.seq (.ops F48o19) F48c20) F48c27)
def F48c17 : Ac := (.seq (.gh []) (.seq (.keep [4, 5] [[8], [5]]) F48b17))
def F48b6 : Ac := (.seq (.block 0 (.loop (.seq (.gh []) (.seq (.keep [4, 5] [[8], [5]]) F48l8)))) F48c17)
def F48c6 : Ac := (.seq (.gh [.own 5 [5] 1]) (.seq (.keep [4, 5] [[8], [5]]) F48b6))
def F48c4 : Ac := (.seq (.ops F48o5) F48c6)
def F48c2 : Ac := (.seq (.ops F48o3) F48c4)
def F48c0 : Ac := (.seq (.ops F48o1) F48c2)
/-- hansom/names.Names -/
def F48 : Fn := { np := 1, pb := [], rs := [.t 2, .t 3], body := F48c0 }
def F60o1 : List Ao := [
  { dst := some 2, k := .mv, xs := [.c (.nils)] }]
def F60o3 : List Ao := [
  { dst := some 3, k := .mv, xs := [.t 0] },
  { dst := some 4, k := .mv, xs := [.t 0] },
  { dst := some 5, k := .lenS, xs := [.t 4] },
  { dst := some 6, k := .mn, xs := [.t 5, .c (.d (.int .i64 255))] },
  { dst := some 7, k := (.substr false true), xs := [.t 3, .t 6] },
  { dst := some 0, k := .mv, xs := [.t 7] }]
def F60o5 : List Ao := [
  { dst := some 8, k := .mv, xs := [.t 0] },
  { dst := some 9, k := .lenS, xs := [.t 8] },
  { dst := some 10, k := (.toInt .u8), xs := [.t 9] },
  { dst := some 11, k := (.bslice (.int .u8 0) 1 [0]), xs := [.t 10] },
  { dst := some 12, k := .mv, xs := [.t 0] },
  { dst := some 13, k := (.append 1 1 true), xs := [.t 11, .t 12] },
  { dst := some 2, k := .mv, xs := [.t 13] }]
def F60c6 : Ac := (.seq (.gh [.frz 2]) .ret)
def F60c4 : Ac := (.seq (.ops F60o5) F60c6)
def F60c2 : Ac := (.seq (.ops F60o3) F60c4)
def F60c0 : Ac := (.seq (.ops F60o1) F60c2)
/-- hansom/index.Name -/
def F60 : Fn := { np := 1, pb := [], rs := [.t 2], body := F60c0 }
def F61o1 : List Ao := [
  { dst := some 2, k := .mv, xs := [.c (.nilp)] }]
def F61o3 : List Ao := [
  { dst := some 3, k := .mv, xs := [.t 0] },
  { dst := some 4, k := (.append 1 1 false), xs := [.c (.nils), .t 3] },
  { dst := some 5, k := (.build [.nils, .d (.int .i64 0)] [(0, 1)]), xs := [.t 4] },
  { dst := some 6, k := (.box 2), xs := [.t 5] },
  { dst := some 2, k := .mv, xs := [.t 6] }]
def F61c4 : Ac := (.seq (.gh [.frzB [6] 0]) .ret)
def F61c2 : Ac := (.seq (.ops F61o3) F61c4)
def F61c0 : Ac := (.seq (.ops F61o1) F61c2)
/-- hansom/index.From -/
def F61 : Fn := { np := 1, pb := [], rs := [.t 2], body := F61c0 }
def F62o1 : List Ao := [
  { dst := some 2, k := .mv, xs := [.c (.d (.str []))] }]
def F62o3 : List Ao := [
  { dst := some 3, k := .mv, xs := [.t 0] },
  { dst := some 4, k := .mv, xs := [.t 0] },
  { dst := some 5, k := (.callf 64), xs := [.t 4] },
  { dst := some 6, k := (.toInt .i64), xs := [.t 5] },
  { dst := some 7, k := (.callf 65), xs := [.t 3, .t 6] },
  { dst := some 8, k := .bytesStr, xs := [.t 7] },
  { dst := some 2, k := .mv, xs := [.t 8] }]
def F62c4 : Ac := .ret
def F62c2 : Ac := (.seq (.ops F62o3) F62c4)
def F62c0 : Ac := (.seq (.ops F62o1) F62c2)
/-- (*hansom/index.Source).Name -/
def F62 : Fn := { np := 1, pb := [[0]], rs := [.t 2], body := F62c0 }
def F63o1 : List Ao := [
  { dst := some 2, k := .mv, xs := [.c (.d (.int .i64 0))] }]
def F63o4 : List Ao := [
  { dst := some 3, k := .mv, xs := [.t 0] },
  { dst := some 4, k := (.callf 66), xs := [.t 3] },
  { dst := some 5, k := (.bin .gtr), xs := [.t 4, .c (.d (.int .i64 0))] }]
def F63o6 : List Ao := [
  { dst := some 6, k := .mv, xs := [.t 0] },
  { dst := some 7, k := (.callf 79), xs := [.t 6, .c (.d (.int .i64 3))] }]
def F63c5 : Ac := (.cond (.t 5) (.ops F63o6) .skip)
def F63o9 : List Ao := [
  { dst := some 8, k := .mv, xs := [.t 0] },
  { dst := some 9, k := (.callf 67), xs := [.t 8] },
  { dst := some 2, k := .mv, xs := [.t 9] }]
def F63c10 : Ac := .ret
def F63c8 : Ac := (.seq (.ops F63o9) F63c10)
def F63c2 : Ac := (.seq (.seq (.ops F63o4) F63c5) F63c8)
def F63c0 : Ac := (.seq (.ops F63o1) F63c2)
/-- (*hansom/index.Source).End -/
def F63 : Fn := { np := 1, pb := [[0]], rs := [.t 2], body := F63c0 }
def F64o1 : List Ao := [
  { dst := some 2, k := .mv, xs := [.c (.d (.int .u8 0))] }]
def F64o4 : List Ao := [
  { dst := some 4, k := .mv, xs := [.t 0] },
  { dst := some 5, k := (.callf 65), xs := [.t 4, .c (.d (.int .i64 1))] },
  { dst := some 3, k := .mv, xs := [.t 5] }]
def F64o6 : List Ao := [
  { dst := some 6, k := .mv, xs := [.t 3] },
  { dst := some 7, k := .lenL, xs := [.t 6] },
  { dst := some 8, k := (.bin .eql), xs := [.t 7, .c (.d (.int .i64 1))] }]
def F64o9 : List Ao := [
  { dst := some 9, k := .mv, xs := [.t 3] },
  { dst := some 10, k := (.iaddrS 1), xs := [.t 9, .c (.d (.int .i64 0))] },
  { dst := some 11, k := (.load none), xs := [.t 10] },
  { dst := some 2, k := .mv, xs := [.t 11] }]
def F64c10 : Ac := .ret
def F64c7 : Ac := (.cond (.t 8) (.seq (.ops F64o9) F64c10) .skip)
def F64c5 : Ac := (.seq (.ops F64o6) F64c7)
def F64o13 : List Ao := [
  { dst := some 2, k := .mv, xs := [.c (.d (.int .u8 0))] }]
def F64c14 : Ac := .ret
def F64c12 : Ac := (.seq (.ops F64o13) F64c14)
def F64c2 : Ac := (.seq (.seq (.ops F64o4) F64c5) F64c12)
def F64c0 : Ac := (.seq (.ops F64o1) F64c2)
/-- (*hansom/index.Source).Byte -/
def F64 : Fn := { np := 1, pb := [[0]], rs := [.t 2], body := F64c0 }
def F65o1 : List Ao := [
  { dst := some 4, k := .mv, xs := [.c (.nils)] }]
def F65o4 : List Ao := [
  { dst := some 6, k := .mv, xs := [.t 0] },
  { dst := some 7, k := (.eqp false), xs := [.t 6, .c (.nilp)] }]
def F65o7 : List Ao := [
  { dst := some 4, k := .mv, xs := [.c (.nils)] }]
def F65c8 : Ac := .ret
def F65c5 : Ac := (.cond (.t 7) (.seq (.ops F65o7) F65c8) .skip)
def F65o12 : List Ao := [
  { dst := some 8, k := .mv, xs := [.t 1] },
  { dst := some 9, k := (.bin .lss), xs := [.t 8, .c (.d (.int .i64 0))] },
  { dst := some 10, k := .mv, xs := [.t 9] },
  { dst := some 11, k := .mv, xs := [.t 1], g := some (10, false) },
  { dst := some 12, k := .mv, xs := [.t 0], g := some (10, false) },
  { dst := some 13, k := .nilchk, xs := [.t 12], g := some (10, false) },
  { dst := some 14, k := (.faddr 0), xs := [.t 13], g := some (10, false) },
  { dst := some 15, k := (.load none), xs := [.t 14], g := some (10, false) },
  { dst := some 16, k := .lenL, xs := [.t 15], g := some (10, false) },
  { dst := some 17, k := (.bin .gtr), xs := [.t 11, .t 16], g := some (10, false) },
  { dst := some 18, k := .pick, xs := [.t 10, .c (.d (.bool true)), .t 17] }]
def F65o15 : List Ao := [
  { dst := some 19, k := .mv, xs := [.t 0] },
  { dst := some 20, k := (.callf 79), xs := [.t 19, .c (.d (.int .i64 2))] }]
def F65o17 : List Ao := [
  { dst := some 4, k := .mv, xs := [.c (.nils)] }]
def F65c18 : Ac := (.seq (.gh [.frz 4]) .ret)
def F65c16 : Ac := (.seq (.ops F65o17) F65c18)
def F65c13 : Ac := (.cond (.t 18) (.seq (.ops F65o15) F65c16) .skip)
def F65o21 : List Ao := [
  { dst := some 21, k := .mv, xs := [.t 0] },
  { dst := some 22, k := .nilchk, xs := [.t 21] },
  { dst := some 23, k := (.faddr 0), xs := [.t 22] },
  { dst := some 24, k := (.load none), xs := [.t 23] },
  { dst := some 25, k := .mv, xs := [.t 1] },
  { dst := some 26, k := .mv, xs := [.t 1] },
  { dst := some 27, k := (.subsl 1 false true true), xs := [.t 24, .t 25, .t 26] },
  { dst := some 5, k := .mv, xs := [.t 27] }]
def F65o23 : List Ao := [
  { dst := some 28, k := .mv, xs := [.t 0] },
  { dst := some 29, k := .mv, xs := [.t 0] },
  { dst := some 30, k := .nilchk, xs := [.t 29] },
  { dst := some 31, k := (.faddr 0), xs := [.t 30] },
  { dst := some 32, k := (.load none), xs := [.t 31] },
  { dst := some 33, k := .mv, xs := [.t 1] },
  { dst := some 34, k := (.subsl 1 true false false), xs := [.t 32, .t 33] },
  { dst := some 35, k := .nilchk, xs := [.t 28] },
  { dst := some 36, k := (.faddr 0), xs := [.t 35] },
  { dst := none, k := (.store 1), xs := [.t 36, .t 34] }]
def F65o25 : List Ao := [
  { dst := some 37, k := .mv, xs := [.t 5] },
  { dst := some 4, k := .mv, xs := [.t 37] }]
def F65c26 : Ac := .ret
def F65c24 : Ac := (.seq (.ops F65o25) F65c26)
def F65c22 : Ac := (.seq (.ops F65o23) F65c24)
def F65c20 : Ac := (.seq (.ops F65o21) F65c22)
def F65c10 : Ac := (.seq (.seq (.ops F65o12) F65c13) F65c20)
def F65c2 : Ac := (.seq (.seq (.ops F65o4) F65c5) F65c10)
def F65c0 : Ac := (.seq (.ops F65o1) F65c2)
/-- (*hansom/index.Source).Take -/
def F65 : Fn := { np := 2, pb := [[0]], rs := [.t 4], body := F65c0 }
def F66o1 : List Ao := [
  { dst := some 2, k := .mv, xs := [.c (.d (.int .i64 0))] }]
def F66o4 : List Ao := [
  { dst := some 3, k := .mv, xs := [.t 0] },
  { dst := some 4, k := (.eqp false), xs := [.t 3, .c (.nilp)] }]
def F66o7 : List Ao := [
  { dst := some 2, k := .mv, xs := [.c (.d (.int .i64 0))] }]
def F66c8 : Ac := .ret
def F66c5 : Ac := (.cond (.t 4) (.seq (.ops F66o7) F66c8) .skip)
def F66o11 : List Ao := [
  { dst := some 5, k := .mv, xs := [.t 0] },
  { dst := some 6, k := .nilchk, xs := [.t 5] },
  { dst := some 7, k := (.faddr 0), xs := [.t 6] },
  { dst := some 8, k := (.load none), xs := [.t 7] },
  { dst := some 9, k := .lenL, xs := [.t 8] },
  { dst := some 2, k := .mv, xs := [.t 9] }]
def F66c12 : Ac := .ret
def F66c10 : Ac := (.seq (.ops F66o11) F66c12)
def F66c2 : Ac := (.seq (.seq (.ops F66o4) F66c5) F66c10)
def F66c0 : Ac := (.seq (.ops F66o1) F66c2)
/-- (*hansom/index.Source).Left -/
def F66 : Fn := { np := 1, pb := [[0]], rs := [.t 2], body := F66c0 }
def F67o1 : List Ao := [
  { dst := some 2, k := .mv, xs := [.c (.d (.int .i64 0))] }]
def F67o4 : List Ao := [
  { dst := some 3, k := .mv, xs := [.t 0] },
  { dst := some 4, k := (.eqp false), xs := [.t 3, .c (.nilp)] }]
def F67o7 : List Ao := [
  { dst := some 2, k := .mv, xs := [.c (.d (.int .i64 1))] }]
def F67c8 : Ac := .ret
def F67c5 : Ac := (.cond (.t 4) (.seq (.ops F67o7) F67c8) .skip)
def F67o11 : List Ao := [
  { dst := some 5, k := .mv, xs := [.t 0] },
  { dst := some 6, k := .nilchk, xs := [.t 5] },
  { dst := some 7, k := (.faddr 1), xs := [.t 6] },
  { dst := some 8, k := (.load none), xs := [.t 7] },
  { dst := some 2, k := .mv, xs := [.t 8] }]
def F67c12 : Ac := .ret
def F67c10 : Ac := (.seq (.ops F67o11) F67c12)
def F67c2 : Ac := (.seq (.seq (.ops F67o4) F67c5) F67c10)
def F67c0 : Ac := (.seq (.ops F67o1) F67c2)
/-- (*hansom/index.Source).Err -/
def F67 : Fn := { np := 1, pb := [[0]], rs := [.t 2], body := F67c0 }
def F79o1 : List Ao := [
  { dst := some 4, k := .mv, xs := [.t 0] },
  { dst := some 5, k := (.eqp true), xs := [.t 4, .c (.nilp)] },
  { dst := some 6, k := .mv, xs := [.t 5] },
  { dst := some 7, k := .mv, xs := [.t 0], g := some (6, true) },
  { dst := some 8, k := .nilchk, xs := [.t 7], g := some (6, true) },
  { dst := some 9, k := (.faddr 1), xs := [.t 8], g := some (6, true) },
  { dst := some 10, k := (.load none), xs := [.t 9], g := some (6, true) },
  { dst := some 11, k := (.bin .eql), xs := [.t 10, .c (.d (.int .i64 0))], g := some (6, true) },
  { dst := some 12, k := .pick, xs := [.t 6, .t 11, .c (.d (.bool false))] },
  { dst := some 13, k := .mv, xs := [.t 12] },
  { dst := some 14, k := .mv, xs := [.t 1], g := some (13, true) },
  { dst := some 15, k := (.bin .neq), xs := [.t 14, .c (.d (.int .i64 0))], g := some (13, true) },
  { dst := some 16, k := .pick, xs := [.t 13, .t 15, .c (.d (.bool false))] }]
def F79o3 : List Ao := [
  { dst := some 17, k := .mv, xs := [.t 0] },
  { dst := some 18, k := .mv, xs := [.t 0] },
  { dst := some 19, k := .mv, xs := [.t 1] },
  { dst := some 20, k := .nilchk, xs := [.t 17] },
  { dst := some 21, k := (.faddr 1), xs := [.t 20] },
  { dst := none, k := (.store 1), xs := [.t 21, .t 19] },
  { dst := some 22, k := .nilchk, xs := [.t 18] },
  { dst := some 23, k := (.faddr 0), xs := [.t 22] },
  { dst := none, k := (.store 1), xs := [.t 23, .c (.nils)] }]
def F79c2 : Ac := (.cond (.t 16) (.ops F79o3) .skip)
def F79c0 : Ac := (.seq (.ops F79o1) F79c2)
/-- (*hansom/index.Source).Wrong -/
def F79 : Fn := { np := 2, pb := [[0]], rs := [], body := (.seq F79c0 (.gh [.frzB [0] 0])) }
def tab1 : Nat → Option Fn
  | 8 => some F8
  | 9 => some F9
  | 12 => some F12
  | 34 => some F34
  | 35 => some F35
  | 36 => some F36
  | 37 => some F37
  | 38 => some F38
  | 39 => some F39
  | 47 => some F47
  | 48 => some F48
  | 60 => some F60
  | 61 => some F61
  | 62 => some F62
  | 63 => some F63
  | 64 => some F64
  | 65 => some F65
  | 66 => some F66
  | 67 => some F67
  | 79 => some F79
  | _ => none
noncomputable def L : Cs := lim tab1 (fun _ _ => none)

theorem no_globals : GOk (fun _ _ => none) (fun _ => none) := fun n a h => by cases h
theorem ok8 : FnOk (fun _ _ => none) Try.prog 8 F8 := compF_spec no_globals Try.func8 (by kernel_rfl)
theorem ok9 : FnOk (fun _ _ => none) Try.prog 9 F9 := compF_spec no_globals Try.func9 (by kernel_rfl)
theorem ok12 : FnOk (fun _ _ => none) Try.prog 12 F12 := compF_spec no_globals Try.func12 (by kernel_rfl)
theorem ok34 : FnOk (fun _ _ => none) Try.prog 34 F34 := compF_spec no_globals Try.func34 (by kernel_rfl)
theorem ok35 : FnOk (fun _ _ => none) Try.prog 35 F35 := compF_spec no_globals Try.func35 (by kernel_rfl)
theorem ok36 : FnOk (fun _ _ => none) Try.prog 36 F36 := compF_spec no_globals Try.func36 (by kernel_rfl)
theorem ok37 : FnOk (fun _ _ => none) Try.prog 37 F37 := compF_spec no_globals Try.func37 (by kernel_rfl)
theorem ok38 : FnOk (fun _ _ => none) Try.prog 38 F38 := compF_spec no_globals Try.func38 (by kernel_rfl)
theorem ok39 : FnOk (fun _ _ => none) Try.prog 39 F39 := compF_spec no_globals Try.func39 (by kernel_rfl)
theorem ok47 : FnOk (fun _ _ => none) Try.prog 47 F47 := compF_spec no_globals Try.func47 (by kernel_rfl)
theorem ok48 : FnOk (fun _ _ => none) Try.prog 48 F48 := compF_spec no_globals Try.func48 (by kernel_rfl)
theorem ok60 : FnOk (fun _ _ => none) Try.prog 60 F60 := compF_spec no_globals Try.func60 (by kernel_rfl)
theorem ok61 : FnOk (fun _ _ => none) Try.prog 61 F61 := compF_spec no_globals Try.func61 (by kernel_rfl)
theorem ok62 : FnOk (fun _ _ => none) Try.prog 62 F62 := compF_spec no_globals Try.func62 (by kernel_rfl)
theorem ok63 : FnOk (fun _ _ => none) Try.prog 63 F63 := compF_spec no_globals Try.func63 (by kernel_rfl)
theorem ok64 : FnOk (fun _ _ => none) Try.prog 64 F64 := compF_spec no_globals Try.func64 (by kernel_rfl)
theorem ok65 : FnOk (fun _ _ => none) Try.prog 65 F65 := compF_spec no_globals Try.func65 (by kernel_rfl)
theorem ok66 : FnOk (fun _ _ => none) Try.prog 66 F66 := compF_spec no_globals Try.func66 (by kernel_rfl)
theorem ok67 : FnOk (fun _ _ => none) Try.prog 67 F67 := compF_spec no_globals Try.func67 (by kernel_rfl)
theorem ok79 : FnOk (fun _ _ => none) Try.prog 79 F79 := compF_spec no_globals Try.func79 (by kernel_rfl)
theorem tab1_ok : ∀ f fn, tab1 f = some fn → FnOk (fun _ _ => none) Try.prog f fn := by
  intro f fn h
  unfold tab1 at h
  split at h <;> cases h
  · exact ok8
  · exact ok9
  · exact ok12
  · exact ok34
  · exact ok35
  · exact ok36
  · exact ok37
  · exact ok38
  · exact ok39
  · exact ok47
  · exact ok48
  · exact ok60
  · exact ok61
  · exact ok62
  · exact ok63
  · exact ok64
  · exact ok65
  · exact ok66
  · exact ok67
  · exact ok79
theorem meets1 (f : Nat) : Meets (fun _ _ => none) Try.prog f (L f) := lim_meets tab1_ok (fun f _ m w args vs bs _ _ _ _ _ r a h => by cases h) f

end Go.Es.Nam
