/- The code of the functions that the statement PubsGiven reaches, as the interpreter reads it. No condition. -/
import Derived.Test.YtedmdailpfbboaaEsD
import Derived.Test.YtedmdailpfbboaaChecked
import Derived.KernelRfl
set_option linter.unusedVariables false
set_option linter.unusedSimpArgs false
set_option maxRecDepth 100000
set_option maxHeartbeats 4000000
namespace Go.Es.Pgv
open Go.Proofs
def F6o1 : List Ao := [
  { dst := some 3, k := (.box 5), xs := [.t 1] },
  { dst := some 4, k := .mv, xs := [.c (.d (.bool false))] }]
def F6o3 : List Ao := [
  { dst := some 14, k := (.bslice (.agg [.int .i64 0, .int .i64 0, .int .u16 0, .str [], .int .u16 0]) 0 []), xs := [] },
  { dst := some 5, k := .mv, xs := [.t 14] }]
def F6o6 : List Ao := [
  { dst := some 6, k := .mv, xs := [.c (.d (.int .i64 0))] }]
def F6o11 : List Ao := [
  { dst := some 15, k := .mv, xs := [.t 6] },
  { dst := some 16, k := .mv, xs := [.t 0] },
  { dst := some 17, k := .lenL, xs := [.t 16] },
  { dst := some 18, k := (.bin .lss), xs := [.t 15, .t 17] },
  { dst := some 19, k := .mv, xs := [.t 18] },
  { dst := some 20, k := .mv, xs := [.t 6], g := some (19, true) },
  { dst := some 21, k := (.bin .lss), xs := [.t 20, .c (.d (.int .i64 8))], g := some (19, true) },
  { dst := some 22, k := .pick, xs := [.t 19, .t 21, .c (.d (.bool false))] }]
def F6c12 : Ac := (.cond (.t 22) .skip (.exit 0))
def F6o18 : List Ao := [
  { dst := some 25, k := (.faddr 0), xs := [.t 3] },
  { dst := some 26, k := (.load none), xs := [.t 25], av := [[7]] },
  { dst := some 27, k := (.bin .and), xs := [.t 26, .c (.d (.int .i64 32767))] },
  { dst := some 28, k := (.faddr 1), xs := [.t 3] },
  { dst := some 29, k := (.load none), xs := [.t 28], av := [[7]] },
  { dst := some 30, k := (.bin .and), xs := [.t 29, .c (.d (.int .i64 511))] },
  { dst := some 31, k := .mv, xs := [.t 0] },
  { dst := some 32, k := .mv, xs := [.t 6] },
  { dst := some 33, k := (.iaddrS 5), xs := [.t 31, .t 32] },
  { dst := some 34, k := (.faddr 3), xs := [.t 33] },
  { dst := some 35, k := (.load none), xs := [.t 34], av := [[7]] },
  { dst := some 36, k := .mv, xs := [.t 0] },
  { dst := some 37, k := .mv, xs := [.t 6] },
  { dst := some 38, k := (.iaddrS 5), xs := [.t 36, .t 37] },
  { dst := some 39, k := (.faddr 3), xs := [.t 38] },
  { dst := some 40, k := (.load none), xs := [.t 39], av := [[7]] },
  { dst := some 41, k := .lenS, xs := [.t 40] },
  { dst := some 42, k := .mn, xs := [.t 41, .c (.d (.int .i64 40))] },
  { dst := some 43, k := (.substr false true), xs := [.t 35, .t 42] },
  { dst := some 44, k := .mv, xs := [.t 0] },
  { dst := some 45, k := .mv, xs := [.t 6] },
  { dst := some 46, k := (.iaddrS 5), xs := [.t 44, .t 45] },
  { dst := some 47, k := (.faddr 4), xs := [.t 46] },
  { dst := some 48, k := (.load none), xs := [.t 47], av := [[7]] },
  { dst := some 49, k := (.build [.d (.int .i64 0), .d (.int .i64 0), .d (.int .u16 0), .d (.str []), .d (.int .u16 0)] [(0, 1), (1, 1), (3, 1), (4, 1)]), xs := [.t 27, .t 30, .t 43, .t 48] },
  { dst := some 7, k := (.alloc [.d (.int .i64 0), .d (.int .i64 0), .d (.int .u16 0), .d (.str []), .d (.int .u16 0)]), xs := [] },
  { dst := none, k := (.store 5), xs := [.t 7, .t 49] }]
def F6o21 : List Ao := [
  { dst := some 50, k := (.faddr 4), xs := [.t 3] },
  { dst := some 51, k := (.load none), xs := [.t 50] },
  { dst := some 52, k := (.bin .and), xs := [.t 51, .c (.d (.int .u16 1))] },
  { dst := some 53, k := (.bin .eql), xs := [.t 52, .c (.d (.int .u16 0))] }]
def F6o23 : List Ao := [
  { dst := some 54, k := (.faddr 1), xs := [.t 7] },
  { dst := none, k := (.store 1), xs := [.t 54, .c (.d (.int .i64 0))] }]
def F6c22 : Ac := (.cond (.t 53) (.ops F6o23) .skip)
def F6o27 : List Ao := [
  { dst := some 55, k := (.faddr 1), xs := [.t 7] },
  { dst := some 56, k := (.load none), xs := [.t 55] },
  { dst := some 57, k := (.bin .eql), xs := [.t 56, .c (.d (.int .i64 0))] }]
def F6o29 : List Ao := [
  { dst := some 58, k := (.faddr 2), xs := [.t 3] },
  { dst := some 59, k := (.load none), xs := [.t 58] },
  { dst := some 60, k := (.faddr 2), xs := [.t 7] },
  { dst := none, k := (.store 1), xs := [.t 60, .t 59] }]
def F6c28 : Ac := (.cond (.t 57) (.ops F6o29) .skip)
def F6o31 : List Ao := [
  { dst := some 61, k := .mv, xs := [.t 5] },
  { dst := some 62, k := (.load (some 5)), xs := [.t 7] },
  { dst := some 63, k := (.bslice (.agg [.int .i64 0, .int .i64 0, .int .u16 0, .str [], .int .u16 0]) 1 [0]), xs := [.t 62] },
  { dst := some 64, k := (.append 5 48 false), xs := [.t 61, .t 63] },
  { dst := some 5, k := .mv, xs := [.t 64] }]
def F6c31 : Ac := (.ops F6o31)
def F6c25 : Ac := (.seq (.seq (.ops F6o27) F6c28) F6c31)
def F6c19 : Ac := (.seq (.seq (.ops F6o21) F6c22) F6c25)
def F6o32 : List Ao := [
  { dst := some 23, k := .mv, xs := [.t 6] },
  { dst := some 24, k := (.bin .add), xs := [.t 23, .c (.d (.int .i64 1))] },
  { dst := some 6, k := .mv, xs := [.t 24] }]
def F6c32 : Ac := (.ops F6o32)
def F6c15 : Ac := (.seq (.block 1 (.seq (.ops F6o18) F6c19)) F6c32)
def F6l8 : Ac := (.seq (.seq (.ops F6o11) F6c12) F6c15)
def F6c7 : Ac := (.block 0 (.loop (.seq (.gh []) (.seq (.keep [0, 3, 5, 6] [[3], [14]]) F6l8))))
def F6o34 : List Ao := [
  { dst := some 65, k := .mv, xs := [.t 5] },
  { dst := some 66, k := (.callf 37), xs := [.t 65] },
  { dst := some 8, k := (.alloc [.d (.int .u8 0), .nils]), xs := [] },
  { dst := none, k := (.store 2), xs := [.t 8, .t 66] }]
def F6o37 : List Ao := [
  { dst := some 67, k := (.faddr 1), xs := [.t 8] },
  { dst := some 68, k := (.load none), xs := [.t 67], av := [[71]] },
  { dst := some 69, k := .bytesStr, xs := [.t 68], av := [[71]] },
  { dst := some 70, k := .mv, xs := [.t 5] },
  { dst := some 71, k := (.callf 38), xs := [.t 70], al := some [] },
  { dst := some 72, k := (.bin .neq), xs := [.t 69, .t 71] },
  { dst := some 73, k := .mv, xs := [.t 72] },
  { dst := some 74, k := (.faddr 0), xs := [.t 8], g := some (73, false) },
  { dst := some 75, k := (.load none), xs := [.t 74], g := some (73, false) },
  { dst := some 76, k := (.bin .neq), xs := [.t 75, .c (.d (.int .u8 144))], g := some (73, false) },
  { dst := some 77, k := .pick, xs := [.t 73, .c (.d (.bool true)), .t 76] }]
def F6o40 : List Ao := [
  { dst := some 4, k := .mv, xs := [.c (.d (.bool false))] }]
def F6c41 : Ac := .ret
def F6c38 : Ac := (.cond (.t 77) (.seq (.ops F6o40) F6c41) .skip)
def F6o45 : List Ao := [
  { dst := some 78, k := .mv, xs := [.t 5] },
  { dst := some 79, k := .lenL, xs := [.t 78] },
  { dst := some 80, k := (.bin .eql), xs := [.t 79, .c (.d (.int .i64 0))] }]
def F6o48 : List Ao := [
  { dst := some 81, k := (.callf 39), xs := [] },
  { dst := some 82, k := .mv, xs := [.t 81] },
  { dst := some 83, k := (.faddr 1), xs := [.t 8], g := some (82, true) },
  { dst := some 84, k := (.load none), xs := [.t 83], g := some (82, true) },
  { dst := some 85, k := .lenL, xs := [.t 84], g := some (82, true) },
  { dst := some 86, k := (.bin .eql), xs := [.t 85, .c (.d (.int .i64 0))], g := some (82, true) },
  { dst := some 87, k := .pick, xs := [.t 82, .t 86, .c (.d (.bool false))] },
  { dst := some 4, k := .mv, xs := [.t 87] }]
def F6c49 : Ac := .ret
def F6c46 : Ac := (.cond (.t 80) (.seq (.ops F6o48) F6c49) .skip)
def F6o52 : List Ao := [
  { dst := some 89, k := (.faddr 1), xs := [.t 8] },
  { dst := some 90, k := (.load none), xs := [.t 89] },
  { dst := some 91, k := (.callf 40), xs := [.t 90] },
  { dst := some 88, k := .mv, xs := [.t 91] },
  { dst := some 92, k := (.extract 0), xs := [.t 88] },
  { dst := some 93, k := (.extract 1), xs := [.t 88] },
  { dst := some 9, k := .mv, xs := [.t 92] },
  { dst := some 10, k := .mv, xs := [.t 93] }]
def F6o55 : List Ao := [
  { dst := some 94, k := .mv, xs := [.t 10] },
  { dst := some 95, k := (.bin .neq), xs := [.t 94, .c (.d (.int .i64 0))] },
  { dst := some 96, k := .mv, xs := [.t 95] },
  { dst := some 97, k := .mv, xs := [.t 9], g := some (96, false) },
  { dst := some 98, k := .lenL, xs := [.t 97], g := some (96, false) },
  { dst := some 99, k := .mv, xs := [.t 5], g := some (96, false) },
  { dst := some 100, k := .lenL, xs := [.t 99], g := some (96, false) },
  { dst := some 101, k := (.bin .neq), xs := [.t 98, .t 100], g := some (96, false) },
  { dst := some 102, k := .pick, xs := [.t 96, .c (.d (.bool true)), .t 101] }]
def F6o58 : List Ao := [
  { dst := some 4, k := .mv, xs := [.c (.d (.bool false))] }]
def F6c59 : Ac := .ret
def F6c56 : Ac := (.cond (.t 102) (.seq (.ops F6o58) F6c59) .skip)
def F6o63 : List Ao := [
  { dst := some 11, k := .mv, xs := [.c (.d (.int .i64 0))] }]
def F6o68 : List Ao := [
  { dst := some 103, k := .mv, xs := [.t 11] },
  { dst := some 104, k := .mv, xs := [.t 5] },
  { dst := some 105, k := .lenL, xs := [.t 104] },
  { dst := some 106, k := (.bin .lss), xs := [.t 103, .t 105] }]
def F6c69 : Ac := (.cond (.t 106) .skip (.exit 2))
def F6o75 : List Ao := [
  { dst := some 109, k := .mv, xs := [.t 9] },
  { dst := some 110, k := .mv, xs := [.t 11] },
  { dst := some 111, k := (.iaddrS 5), xs := [.t 109, .t 110] },
  { dst := some 112, k := (.load (some 5)), xs := [.t 111] },
  { dst := some 113, k := .mv, xs := [.t 5] },
  { dst := some 114, k := .mv, xs := [.t 11] },
  { dst := some 115, k := (.iaddrS 5), xs := [.t 113, .t 114] },
  { dst := some 116, k := (.load (some 5)), xs := [.t 115] },
  { dst := some 117, k := (.eqa true [.i, .i, .i, .s, .i]), xs := [.t 112, .t 116] }]
def F6o78 : List Ao := [
  { dst := some 4, k := .mv, xs := [.c (.d (.bool false))] }]
def F6c79 : Ac := .ret
def F6c76 : Ac := (.cond (.t 117) (.seq (.ops F6o78) F6c79) .skip)
def F6o81 : List Ao := [
  { dst := some 107, k := .mv, xs := [.t 11] },
  { dst := some 108, k := (.bin .add), xs := [.t 107, .c (.d (.int .i64 1))] },
  { dst := some 11, k := .mv, xs := [.t 108] }]
def F6c81 : Ac := (.ops F6o81)
def F6c72 : Ac := (.seq (.block 3 (.seq (.ops F6o75) F6c76)) F6c81)
def F6l65 : Ac := (.seq (.seq (.ops F6o68) F6c69) F6c72)
def F6c64 : Ac := (.block 2 (.loop (.seq (.gh []) (.seq (.keep [5, 8, 9, 11] [[8], [14]]) F6l65))))
def F6o83 : List Ao := [
  { dst := some 119, k := (.faddr 1), xs := [.t 8] },
  { dst := some 120, k := (.load none), xs := [.t 119] },
  { dst := some 121, k := (.faddr 1), xs := [.t 8] },
  { dst := some 122, k := (.load none), xs := [.t 121] },
  { dst := some 123, k := .lenL, xs := [.t 122] },
  { dst := some 124, k := (.bin .sub), xs := [.t 123, .c (.d (.int .i64 1))] },
  { dst := some 125, k := (.subsl 1 false true false), xs := [.t 120, .t 124] },
  { dst := some 126, k := (.callf 40), xs := [.t 125] },
  { dst := some 118, k := .mv, xs := [.t 126] },
  { dst := some 127, k := (.extract 0), xs := [.t 118] },
  { dst := some 128, k := (.extract 1), xs := [.t 118] },
  { dst := some 12, k := .mv, xs := [.t 127] },
  { dst := some 13, k := .mv, xs := [.t 128] }]
def F6o85 : List Ao := [
  { dst := some 129, k := (.callf 39), xs := [] },
  { dst := some 130, k := .mv, xs := [.t 129] },
  { dst := some 131, k := .mv, xs := [.t 13], g := some (130, true) },
  { dst := some 132, k := (.bin .eql), xs := [.t 131, .c (.d (.int .i64 2))], g := some (130, true) },
  { dst := some 133, k := .pick, xs := [.t 130, .t 132, .c (.d (.bool false))] },
  { dst := some 4, k := .mv, xs := [.t 133] }]
def F6c86 : Ac := .ret
def F6c84 : Ac := (.seq (.ops F6o85) F6c86)
def F6b82 : Ac := (.seq (.ops F6o83) F6c84)
def F6c82 : Ac := (.seq (.gh []) (.seq (.keep [8] [[8]]) F6b82))
def F6c61 : Ac := (.seq (.seq (.ops F6o63) F6c64) F6c82)
def F6c53 : Ac := (.seq (.seq (.ops F6o55) F6c56) F6c61)
def F6c51 : Ac := (.seq (.ops F6o52) F6c53)
def F6c43 : Ac := (.seq (.seq (.ops F6o45) F6c46) F6c51)
def F6c35 : Ac := (.seq (.seq (.ops F6o37) F6c38) F6c43)
def F6b33 : Ac := (.seq (.ops F6o34) F6c35)
def F6c33 : Ac := (.seq (.gh []) (.seq (.keep [5] [[14]]) F6b33))
def F6c4 : Ac := (.seq (.seq (.ops F6o6) F6c7) F6c33)
def F6c2 : Ac := (.seq (.ops F6o3) F6c4)
def F6c0 : Ac := (.seq (.ops F6o1) F6c2)
/-- hansom/hansomlaw22.PubsGiven -/
def F6 : Fn := { np := 2, pb := [], rs := [.t 4], body := F6c0 }
def F16o1 : List Ao := [
  { dst := some 2, k := .mv, xs := [.c (.nils)] }]
def F16o5 : List Ao := [
  { dst := some 4, k := .mv, xs := [.t 0] },
  { dst := some 5, k := (.bin .lss), xs := [.t 4, .c (.d (.int .i64 0))] },
  { dst := some 6, k := .mv, xs := [.t 5] },
  { dst := some 7, k := .mv, xs := [.t 0], g := some (6, false) },
  { dst := some 8, k := (.bin .gtr), xs := [.t 7, .c (.d (.int .i64 32767))], g := some (6, false) },
  { dst := some 9, k := .pick, xs := [.t 6, .c (.d (.bool true)), .t 8] },
  { dst := some 3, k := .mv, xs := [.t 9] }]
def F16o8 : List Ao := [
  { dst := some 10, k := (.bslice (.int .u8 0) 1 [0]), xs := [.c (.d (.int .u8 0))] },
  { dst := some 2, k := .mv, xs := [.t 10] }]
def F16c9 : Ac := .ret
def F16o11 : List Ao := [
  { dst := some 12, k := .mv, xs := [.t 0] },
  { dst := some 13, k := (.bin .lss), xs := [.t 12, .c (.d (.int .i64 128))] },
  { dst := some 11, k := .mv, xs := [.t 13] }]
def F16o14 : List Ao := [
  { dst := some 14, k := .mv, xs := [.t 0] },
  { dst := some 15, k := (.toInt .u8), xs := [.t 14] },
  { dst := some 16, k := (.bslice (.int .u8 0) 1 [0]), xs := [.t 15] },
  { dst := some 2, k := .mv, xs := [.t 16] }]
def F16c15 : Ac := .ret
def F16c12 : Ac := (.cond (.t 11) (.seq (.ops F16o14) F16c15) .skip)
def F16c6 : Ac := (.cond (.t 3) (.seq (.ops F16o8) F16c9) (.seq (.ops F16o11) F16c12))
def F16o18 : List Ao := [
  { dst := some 17, k := .mv, xs := [.t 0] },
  { dst := some 18, k := (.bin .shr), xs := [.t 17, .c (.d (.int .u64 8))] },
  { dst := some 19, k := (.toInt .u8), xs := [.t 18] },
  { dst := some 20, k := (.bin .or), xs := [.t 19, .c (.d (.int .u8 128))] },
  { dst := some 21, k := .mv, xs := [.t 0] },
  { dst := some 22, k := (.toInt .u8), xs := [.t 21] },
  { dst := some 23, k := (.bslice (.int .u8 0) 2 [0, 1]), xs := [.t 20, .t 22] },
  { dst := some 2, k := .mv, xs := [.t 23] }]
def F16c19 : Ac := .ret
def F16c17 : Ac := (.seq (.ops F16o18) F16c19)
def F16c2 : Ac := (.seq (.block 0 (.seq (.ops F16o5) F16c6)) F16c17)
def F16c0 : Ac := (.seq (.ops F16o1) F16c2)
/-- hansom/index.Put -/
def F16 : Fn := { np := 1, pb := [], rs := [.t 2], body := F16c0 }
def F17o1 : List Ao := [
  { dst := some 2, k := .mv, xs := [.c (.d (.str []))] }]
def F17o4 : List Ao := [
  { dst := some 3, k := .mv, xs := [.t 0] },
  { dst := some 4, k := (.bin .lss), xs := [.t 3, .c (.d (.int .i64 0))] },
  { dst := some 5, k := .mv, xs := [.t 4] },
  { dst := some 6, k := .mv, xs := [.t 0], g := some (5, false) },
  { dst := some 7, k := (.bin .gtr), xs := [.t 6, .c (.d (.int .i64 32767))], g := some (5, false) },
  { dst := some 8, k := .pick, xs := [.t 5, .c (.d (.bool true)), .t 7] }]
def F17o6 : List Ao := [
  { dst := some 0, k := .mv, xs := [.c (.d (.int .i64 0))] }]
def F17c5 : Ac := (.cond (.t 8) (.ops F17o6) .skip)
def F17o10 : List Ao := [
  { dst := some 9, k := .mv, xs := [.t 0] },
  { dst := some 10, k := (.bin .lss), xs := [.t 9, .c (.d (.int .i64 128))] }]
def F17o13 : List Ao := [
  { dst := some 11, k := .mv, xs := [.t 0] },
  { dst := some 12, k := (.toInt .u8), xs := [.t 11] },
  { dst := some 13, k := (.bslice (.int .u8 0) 1 [0]), xs := [.t 12] },
  { dst := some 14, k := .bytesStr, xs := [.t 13] },
  { dst := some 2, k := .mv, xs := [.t 14] }]
def F17c14 : Ac := .ret
def F17c11 : Ac := (.cond (.t 10) (.seq (.ops F17o13) F17c14) .skip)
def F17o17 : List Ao := [
  { dst := some 15, k := .mv, xs := [.t 0] },
  { dst := some 16, k := (.bin .quo), xs := [.t 15, .c (.d (.int .i64 256))] },
  { dst := some 17, k := (.bin .add), xs := [.t 16, .c (.d (.int .i64 128))] },
  { dst := some 18, k := (.toInt .u8), xs := [.t 17] },
  { dst := some 19, k := .mv, xs := [.t 0] },
  { dst := some 20, k := (.bin .rem), xs := [.t 19, .c (.d (.int .i64 256))] },
  { dst := some 21, k := (.toInt .u8), xs := [.t 20] },
  { dst := some 22, k := (.bslice (.int .u8 0) 2 [0, 1]), xs := [.t 18, .t 21] },
  { dst := some 23, k := .bytesStr, xs := [.t 22] },
  { dst := some 2, k := .mv, xs := [.t 23] }]
def F17c18 : Ac := .ret
def F17c16 : Ac := (.seq (.ops F17o17) F17c18)
def F17b8 : Ac := (.seq (.seq (.ops F17o10) F17c11) F17c16)
def F17c8 : Ac := (.seq (.gh []) (.seq (.keep [0] []) F17b8))
def F17c2 : Ac := (.seq (.seq (.ops F17o4) F17c5) F17c8)
def F17c0 : Ac := (.seq (.ops F17o1) F17c2)
/-- hansom/hansomref18.Index -/
def F17 : Fn := { np := 1, pb := [], rs := [.t 2], body := F17c0 }
def F18o1 : List Ao := [
  { dst := some 2, k := .mv, xs := [.c (.nils)] }]
def F18o3 : List Ao := [
  { dst := some 3, k := .mv, xs := [.t 0] },
  { dst := some 4, k := .mv, xs := [.t 0] },
  { dst := some 5, k := .lenS, xs := [.t 4] },
  { dst := some 6, k := .mn, xs := [.t 5, .c (.d (.int .i64 255))] },
  { dst := some 7, k := (.substr false true), xs := [.t 3, .t 6] },
  { dst := some 0, k := .mv, xs := [.t 7] }]
def F18o5 : List Ao := [
  { dst := some 8, k := .mv, xs := [.t 0] },
  { dst := some 9, k := .lenS, xs := [.t 8] },
  { dst := some 10, k := (.toInt .u8), xs := [.t 9] },
  { dst := some 11, k := (.bslice (.int .u8 0) 1 [0]), xs := [.t 10] },
  { dst := some 12, k := .mv, xs := [.t 0] },
  { dst := some 13, k := (.append 1 1 true), xs := [.t 11, .t 12] },
  { dst := some 2, k := .mv, xs := [.t 13] }]
def F18c6 : Ac := (.seq (.gh [.frz 2]) .ret)
def F18c4 : Ac := (.seq (.ops F18o5) F18c6)
def F18c2 : Ac := (.seq (.ops F18o3) F18c4)
def F18c0 : Ac := (.seq (.ops F18o1) F18c2)
/-- hansom/index.Name -/
def F18 : Fn := { np := 1, pb := [], rs := [.t 2], body := F18c0 }
def F19o1 : List Ao := [
  { dst := some 2, k := .mv, xs := [.c (.d (.str []))] }]
def F19o4 : List Ao := [
  { dst := some 3, k := .mv, xs := [.t 0] },
  { dst := some 4, k := .lenS, xs := [.t 3] },
  { dst := some 5, k := (.bin .gtr), xs := [.t 4, .c (.d (.int .i64 255))] }]
def F19o6 : List Ao := [
  { dst := some 6, k := .mv, xs := [.t 0] },
  { dst := some 7, k := (.substr false true), xs := [.t 6, .c (.d (.int .i64 255))] },
  { dst := some 0, k := .mv, xs := [.t 7] }]
def F19c5 : Ac := (.cond (.t 5) (.ops F19o6) .skip)
def F19o9 : List Ao := [
  { dst := some 8, k := .mv, xs := [.t 0] },
  { dst := some 9, k := .lenS, xs := [.t 8] },
  { dst := some 10, k := (.toInt .u8), xs := [.t 9] },
  { dst := some 11, k := (.bslice (.int .u8 0) 1 [0]), xs := [.t 10] },
  { dst := some 12, k := .bytesStr, xs := [.t 11] },
  { dst := some 13, k := .mv, xs := [.t 0] },
  { dst := some 14, k := (.bin .add), xs := [.t 12, .t 13] },
  { dst := some 2, k := .mv, xs := [.t 14] }]
def F19c10 : Ac := .ret
def F19c8 : Ac := (.seq (.ops F19o9) F19c10)
def F19c2 : Ac := (.seq (.seq (.ops F19o4) F19c5) F19c8)
def F19c0 : Ac := (.seq (.ops F19o1) F19c2)
/-- hansom/hansomref18.Name -/
def F19 : Fn := { np := 1, pb := [], rs := [.t 2], body := F19c0 }
def F20o1 : List Ao := [
  { dst := some 2, k := .mv, xs := [.c (.nils)] }]
def F20o3 : List Ao := [
  { dst := some 3, k := .mv, xs := [.t 0] },
  { dst := some 4, k := (.callf 67), xs := [.t 3] },
  { dst := some 5, k := .mv, xs := [.t 0] },
  { dst := some 6, k := (.callf 68), xs := [.t 5] },
  { dst := some 7, k := (.bslice (.int .u8 0) 2 [0, 1]), xs := [.t 4, .t 6] },
  { dst := some 2, k := .mv, xs := [.t 7] }]
def F20c4 : Ac := (.seq (.gh [.frz 2]) .ret)
def F20c2 : Ac := (.seq (.ops F20o3) F20c4)
def F20c0 : Ac := (.seq (.ops F20o1) F20c2)
/-- hansom/index.Two -/
def F20 : Fn := { np := 1, pb := [], rs := [.t 2], body := F20c0 }
def F21o1 : List Ao := [
  { dst := some 4, k := .mv, xs := [.c (.d (.str []))] }]
def F21o3 : List Ao := [
  { dst := some 5, k := .mv, xs := [.c (.d (.str []))] }]
def F21o6 : List Ao := [
  { dst := some 6, k := .mv, xs := [.c (.d (.int .i64 0))] }]
def F21o11 : List Ao := [
  { dst := some 7, k := .mv, xs := [.t 6] },
  { dst := some 8, k := .mv, xs := [.t 1] },
  { dst := some 9, k := (.bin .lss), xs := [.t 7, .t 8] }]
def F21c12 : Ac := (.cond (.t 9) .skip (.exit 0))
def F21o18 : List Ao := [
  { dst := some 12, k := .mv, xs := [.t 5] },
  { dst := some 13, k := .mv, xs := [.t 0] },
  { dst := some 14, k := (.bin .rem), xs := [.t 13, .c (.d (.int .u64 256))] },
  { dst := some 15, k := (.toInt .u8), xs := [.t 14] },
  { dst := some 16, k := (.bslice (.int .u8 0) 1 [0]), xs := [.t 15] },
  { dst := some 17, k := .bytesStr, xs := [.t 16] },
  { dst := some 18, k := (.bin .add), xs := [.t 12, .t 17] },
  { dst := some 5, k := .mv, xs := [.t 18] }]
def F21o19 : List Ao := [
  { dst := some 19, k := .mv, xs := [.t 0] },
  { dst := some 20, k := (.bin .quo), xs := [.t 19, .c (.d (.int .u64 256))] },
  { dst := some 0, k := .mv, xs := [.t 20] }]
def F21c19 : Ac := (.ops F21o19)
def F21o20 : List Ao := [
  { dst := some 10, k := .mv, xs := [.t 6] },
  { dst := some 11, k := (.bin .add), xs := [.t 10, .c (.d (.int .i64 1))] },
  { dst := some 6, k := .mv, xs := [.t 11] }]
def F21c20 : Ac := (.ops F21o20)
def F21c15 : Ac := (.seq (.block 1 (.seq (.ops F21o18) F21c19)) F21c20)
def F21l8 : Ac := (.seq (.seq (.ops F21o11) F21c12) F21c15)
def F21c7 : Ac := (.block 0 (.loop (.seq (.gh []) (.seq (.keep [0, 1, 5, 6] []) F21l8))))
def F21o22 : List Ao := [
  { dst := some 21, k := .mv, xs := [.t 5] },
  { dst := some 4, k := .mv, xs := [.t 21] }]
def F21c23 : Ac := .ret
def F21b21 : Ac := (.seq (.ops F21o22) F21c23)
def F21c21 : Ac := (.seq (.gh []) (.seq (.keep [5] []) F21b21))
def F21c4 : Ac := (.seq (.seq (.ops F21o6) F21c7) F21c21)
def F21c2 : Ac := (.seq (.ops F21o3) F21c4)
def F21c0 : Ac := (.seq (.ops F21o1) F21c2)
/-- hansom/hansomref18.Bytes -/
def F21 : Fn := { np := 2, pb := [], rs := [.t 4], body := F21c0 }
def F25o1 : List Ao := [
  { dst := some 2, k := .mv, xs := [.c (.nilp)] }]
def F25o3 : List Ao := [
  { dst := some 3, k := .mv, xs := [.t 0] },
  { dst := some 4, k := (.append 1 1 false), xs := [.c (.nils), .t 3] },
  { dst := some 5, k := (.build [.nils, .d (.int .i64 0)] [(0, 1)]), xs := [.t 4] },
  { dst := some 6, k := (.box 2), xs := [.t 5] },
  { dst := some 2, k := .mv, xs := [.t 6] }]
def F25c4 : Ac := (.seq (.gh [.frzB [6] 0]) .ret)
def F25c2 : Ac := (.seq (.ops F25o3) F25c4)
def F25c0 : Ac := (.seq (.ops F25o1) F25c2)
/-- hansom/index.From -/
def F25 : Fn := { np := 1, pb := [], rs := [.t 2], body := F25c0 }
def F26o1 : List Ao := [
  { dst := some 4, k := .mv, xs := [.c (.nils)] }]
def F26o4 : List Ao := [
  { dst := some 6, k := .mv, xs := [.t 0] },
  { dst := some 7, k := (.eqp false), xs := [.t 6, .c (.nilp)] }]
def F26o7 : List Ao := [
  { dst := some 4, k := .mv, xs := [.c (.nils)] }]
def F26c8 : Ac := .ret
def F26c5 : Ac := (.cond (.t 7) (.seq (.ops F26o7) F26c8) .skip)
def F26o12 : List Ao := [
  { dst := some 8, k := .mv, xs := [.t 1] },
  { dst := some 9, k := (.bin .lss), xs := [.t 8, .c (.d (.int .i64 0))] },
  { dst := some 10, k := .mv, xs := [.t 9] },
  { dst := some 11, k := .mv, xs := [.t 1], g := some (10, false) },
  { dst := some 12, k := .mv, xs := [.t 0], g := some (10, false) },
  { dst := some 13, k := .nilchk, xs := [.t 12], g := some (10, false) },
  { dst := some 14, k := (.faddr 0), xs := [.t 13], g := some (10, false) },
  { dst := some 15, k := (.load none), xs := [.t 14], g := some (10, false) },
  { dst := some 16, k := .lenL, xs := [.t 15], g := some (10, false) },
  { dst := some 17, k := (.bin .gtr), xs := [.t 11, .t 16], g := some (10, false) },
  { dst := some 18, k := .pick, xs := [.t 10, .c (.d (.bool true)), .t 17] }]
def F26o15 : List Ao := [
  { dst := some 19, k := .mv, xs := [.t 0] },
  { dst := some 20, k := (.callf 27), xs := [.t 19, .c (.d (.int .i64 2))] }]
def F26o17 : List Ao := [
  { dst := some 4, k := .mv, xs := [.c (.nils)] }]
def F26c18 : Ac := (.seq (.gh [.frz 4]) .ret)
def F26c16 : Ac := (.seq (.ops F26o17) F26c18)
def F26c13 : Ac := (.cond (.t 18) (.seq (.ops F26o15) F26c16) .skip)
def F26o21 : List Ao := [
  { dst := some 21, k := .mv, xs := [.t 0] },
  { dst := some 22, k := .nilchk, xs := [.t 21] },
  { dst := some 23, k := (.faddr 0), xs := [.t 22] },
  { dst := some 24, k := (.load none), xs := [.t 23] },
  { dst := some 25, k := .mv, xs := [.t 1] },
  { dst := some 26, k := .mv, xs := [.t 1] },
  { dst := some 27, k := (.subsl 1 false true true), xs := [.t 24, .t 25, .t 26] },
  { dst := some 5, k := .mv, xs := [.t 27] }]
def F26o23 : List Ao := [
  { dst := some 28, k := .mv, xs := [.t 0] },
  { dst := some 29, k := .mv, xs := [.t 0] },
  { dst := some 30, k := .nilchk, xs := [.t 29] },
  { dst := some 31, k := (.faddr 0), xs := [.t 30] },
  { dst := some 32, k := (.load none), xs := [.t 31] },
  { dst := some 33, k := .mv, xs := [.t 1] },
  { dst := some 34, k := (.subsl 1 true false false), xs := [.t 32, .t 33] },
  { dst := some 35, k := .nilchk, xs := [.t 28] },
  { dst := some 36, k := (.faddr 0), xs := [.t 35] },
  { dst := none, k := (.store 1), xs := [.t 36, .t 34] }]
def F26o25 : List Ao := [
  { dst := some 37, k := .mv, xs := [.t 5] },
  { dst := some 4, k := .mv, xs := [.t 37] }]
def F26c26 : Ac := .ret
def F26c24 : Ac := (.seq (.ops F26o25) F26c26)
def F26c22 : Ac := (.seq (.ops F26o23) F26c24)
def F26c20 : Ac := (.seq (.ops F26o21) F26c22)
def F26c10 : Ac := (.seq (.seq (.ops F26o12) F26c13) F26c20)
def F26c2 : Ac := (.seq (.seq (.ops F26o4) F26c5) F26c10)
def F26c0 : Ac := (.seq (.ops F26o1) F26c2)
/-- (*hansom/index.Source).Take -/
def F26 : Fn := { np := 2, pb := [[0]], rs := [.t 4], body := F26c0 }
def F27o1 : List Ao := [
  { dst := some 4, k := .mv, xs := [.t 0] },
  { dst := some 5, k := (.eqp true), xs := [.t 4, .c (.nilp)] },
  { dst := some 6, k := .mv, xs := [.t 5] },
  { dst := some 7, k := .mv, xs := [.t 0], g := some (6, true) },
  { dst := some 8, k := .nilchk, xs := [.t 7], g := some (6, true) },
  { dst := some 9, k := (.faddr 1), xs := [.t 8], g := some (6, true) },
  { dst := some 10, k := (.load none), xs := [.t 9], g := some (6, true) },
  { dst := some 11, k := (.bin .eql), xs := [.t 10, .c (.d (.int .i64 0))], g := some (6, true) },
  { dst := some 12, k := .pick, xs := [.t 6, .t 11, .c (.d (.bool false))] },
  { dst := some 13, k := .mv, xs := [.t 12] },
  { dst := some 14, k := .mv, xs := [.t 1], g := some (13, true) },
  { dst := some 15, k := (.bin .neq), xs := [.t 14, .c (.d (.int .i64 0))], g := some (13, true) },
  { dst := some 16, k := .pick, xs := [.t 13, .t 15, .c (.d (.bool false))] }]
def F27o3 : List Ao := [
  { dst := some 17, k := .mv, xs := [.t 0] },
  { dst := some 18, k := .mv, xs := [.t 0] },
  { dst := some 19, k := .mv, xs := [.t 1] },
  { dst := some 20, k := .nilchk, xs := [.t 17] },
  { dst := some 21, k := (.faddr 1), xs := [.t 20] },
  { dst := none, k := (.store 1), xs := [.t 21, .t 19] },
  { dst := some 22, k := .nilchk, xs := [.t 18] },
  { dst := some 23, k := (.faddr 0), xs := [.t 22] },
  { dst := none, k := (.store 1), xs := [.t 23, .c (.nils)] }]
def F27c2 : Ac := (.cond (.t 16) (.ops F27o3) .skip)
def F27c0 : Ac := (.seq (.ops F27o1) F27c2)
/-- (*hansom/index.Source).Wrong -/
def F27 : Fn := { np := 2, pb := [[0]], rs := [], body := (.seq F27c0 (.gh [.frzB [0] 0])) }
def F28o1 : List Ao := [
  { dst := some 2, k := .mv, xs := [.c (.d (.int .i64 0))] }]
def F28o4 : List Ao := [
  { dst := some 3, k := .mv, xs := [.t 0] },
  { dst := some 4, k := (.eqp false), xs := [.t 3, .c (.nilp)] }]
def F28o7 : List Ao := [
  { dst := some 2, k := .mv, xs := [.c (.d (.int .i64 1))] }]
def F28c8 : Ac := .ret
def F28c5 : Ac := (.cond (.t 4) (.seq (.ops F28o7) F28c8) .skip)
def F28o11 : List Ao := [
  { dst := some 5, k := .mv, xs := [.t 0] },
  { dst := some 6, k := .nilchk, xs := [.t 5] },
  { dst := some 7, k := (.faddr 1), xs := [.t 6] },
  { dst := some 8, k := (.load none), xs := [.t 7] },
  { dst := some 2, k := .mv, xs := [.t 8] }]
def F28c12 : Ac := .ret
def F28c10 : Ac := (.seq (.ops F28o11) F28c12)
def F28c2 : Ac := (.seq (.seq (.ops F28o4) F28c5) F28c10)
def F28c0 : Ac := (.seq (.ops F28o1) F28c2)
/-- (*hansom/index.Source).Err -/
def F28 : Fn := { np := 1, pb := [[0]], rs := [.t 2], body := F28c0 }
def F29o1 : List Ao := [
  { dst := some 2, k := .mv, xs := [.c (.d (.int .i64 0))] }]
def F29o4 : List Ao := [
  { dst := some 3, k := .mv, xs := [.t 0] },
  { dst := some 4, k := (.eqp false), xs := [.t 3, .c (.nilp)] }]
def F29o7 : List Ao := [
  { dst := some 2, k := .mv, xs := [.c (.d (.int .i64 0))] }]
def F29c8 : Ac := .ret
def F29c5 : Ac := (.cond (.t 4) (.seq (.ops F29o7) F29c8) .skip)
def F29o11 : List Ao := [
  { dst := some 5, k := .mv, xs := [.t 0] },
  { dst := some 6, k := .nilchk, xs := [.t 5] },
  { dst := some 7, k := (.faddr 0), xs := [.t 6] },
  { dst := some 8, k := (.load none), xs := [.t 7] },
  { dst := some 9, k := .lenL, xs := [.t 8] },
  { dst := some 2, k := .mv, xs := [.t 9] }]
def F29c12 : Ac := .ret
def F29c10 : Ac := (.seq (.ops F29o11) F29c12)
def F29c2 : Ac := (.seq (.seq (.ops F29o4) F29c5) F29c10)
def F29c0 : Ac := (.seq (.ops F29o1) F29c2)
/-- (*hansom/index.Source).Left -/
def F29 : Fn := { np := 1, pb := [[0]], rs := [.t 2], body := F29c0 }
def F30o1 : List Ao := [
  { dst := some 2, k := .mv, xs := [.c (.d (.int .u16 0))] }]
def F30o4 : List Ao := [
  { dst := some 4, k := .mv, xs := [.t 0] },
  { dst := some 5, k := (.callf 26), xs := [.t 4, .c (.d (.int .i64 2))] },
  { dst := some 3, k := .mv, xs := [.t 5] }]
def F30o6 : List Ao := [
  { dst := some 6, k := .mv, xs := [.t 3] },
  { dst := some 7, k := .lenL, xs := [.t 6] },
  { dst := some 8, k := (.bin .eql), xs := [.t 7, .c (.d (.int .i64 2))] }]
def F30o9 : List Ao := [
  { dst := some 9, k := .mv, xs := [.t 3] },
  { dst := some 10, k := (.iaddrS 1), xs := [.t 9, .c (.d (.int .i64 0))] },
  { dst := some 11, k := (.load none), xs := [.t 10] },
  { dst := some 12, k := .mv, xs := [.t 3] },
  { dst := some 13, k := (.iaddrS 1), xs := [.t 12, .c (.d (.int .i64 1))] },
  { dst := some 14, k := (.load none), xs := [.t 13] },
  { dst := some 15, k := (.callf 69), xs := [.t 11, .t 14] },
  { dst := some 2, k := .mv, xs := [.t 15] }]
def F30c10 : Ac := .ret
def F30c7 : Ac := (.cond (.t 8) (.seq (.ops F30o9) F30c10) .skip)
def F30c5 : Ac := (.seq (.ops F30o6) F30c7)
def F30o13 : List Ao := [
  { dst := some 2, k := .mv, xs := [.c (.d (.int .u16 0))] }]
def F30c14 : Ac := .ret
def F30c12 : Ac := (.seq (.ops F30o13) F30c14)
def F30c2 : Ac := (.seq (.seq (.ops F30o4) F30c5) F30c12)
def F30c0 : Ac := (.seq (.ops F30o1) F30c2)
/-- (*hansom/index.Source).Word -/
def F30 : Fn := { np := 1, pb := [[0]], rs := [.t 2], body := F30c0 }
def F31o1 : List Ao := [
  { dst := some 2, k := .mv, xs := [.c (.d (.int .i64 0))] }]
def F31o3 : List Ao := [
  { dst := some 5, k := .mv, xs := [.t 0] },
  { dst := some 6, k := (.callf 35), xs := [.t 5] },
  { dst := some 7, k := (.toInt .i64), xs := [.t 6] },
  { dst := some 3, k := .mv, xs := [.t 7] }]
def F31o6 : List Ao := [
  { dst := some 8, k := .mv, xs := [.t 3] },
  { dst := some 9, k := (.bin .lss), xs := [.t 8, .c (.d (.int .i64 128))] }]
def F31o9 : List Ao := [
  { dst := some 10, k := .mv, xs := [.t 3] },
  { dst := some 2, k := .mv, xs := [.t 10] }]
def F31c10 : Ac := .ret
def F31c7 : Ac := (.cond (.t 9) (.seq (.ops F31o9) F31c10) .skip)
def F31o13 : List Ao := [
  { dst := some 11, k := .mv, xs := [.t 3] },
  { dst := some 12, k := (.bin .and), xs := [.t 11, .c (.d (.int .i64 127))] },
  { dst := some 13, k := (.bin .shl), xs := [.t 12, .c (.d (.int .u64 8))] },
  { dst := some 14, k := .mv, xs := [.t 0] },
  { dst := some 15, k := (.callf 35), xs := [.t 14] },
  { dst := some 16, k := (.toInt .i64), xs := [.t 15] },
  { dst := some 17, k := (.bin .or), xs := [.t 13, .t 16] },
  { dst := some 4, k := .mv, xs := [.t 17] }]
def F31o16 : List Ao := [
  { dst := some 18, k := .mv, xs := [.t 0] },
  { dst := some 19, k := (.callf 28), xs := [.t 18] },
  { dst := some 20, k := (.bin .neq), xs := [.t 19, .c (.d (.int .i64 0))] }]
def F31o19 : List Ao := [
  { dst := some 2, k := .mv, xs := [.c (.d (.int .i64 0))] }]
def F31c20 : Ac := .ret
def F31c17 : Ac := (.cond (.t 20) (.seq (.ops F31o19) F31c20) .skip)
def F31o23 : List Ao := [
  { dst := some 21, k := .mv, xs := [.t 4] },
  { dst := some 2, k := .mv, xs := [.t 21] }]
def F31c24 : Ac := .ret
def F31c22 : Ac := (.seq (.ops F31o23) F31c24)
def F31c14 : Ac := (.seq (.seq (.ops F31o16) F31c17) F31c22)
def F31c12 : Ac := (.seq (.ops F31o13) F31c14)
def F31c4 : Ac := (.seq (.seq (.ops F31o6) F31c7) F31c12)
def F31c2 : Ac := (.seq (.ops F31o3) F31c4)
def F31c0 : Ac := (.seq (.ops F31o1) F31c2)
/-- (*hansom/index.Source).Index -/
def F31 : Fn := { np := 1, pb := [[0]], rs := [.t 2], body := F31c0 }
def F32o1 : List Ao := [
  { dst := some 2, k := .mv, xs := [.c (.d (.str []))] }]
def F32o3 : List Ao := [
  { dst := some 3, k := .mv, xs := [.t 0] },
  { dst := some 4, k := .mv, xs := [.t 0] },
  { dst := some 5, k := (.callf 35), xs := [.t 4] },
  { dst := some 6, k := (.toInt .i64), xs := [.t 5] },
  { dst := some 7, k := (.callf 26), xs := [.t 3, .t 6] },
  { dst := some 8, k := .bytesStr, xs := [.t 7] },
  { dst := some 2, k := .mv, xs := [.t 8] }]
def F32c4 : Ac := .ret
def F32c2 : Ac := (.seq (.ops F32o3) F32c4)
def F32c0 : Ac := (.seq (.ops F32o1) F32c2)
/-- (*hansom/index.Source).Name -/
def F32 : Fn := { np := 1, pb := [[0]], rs := [.t 2], body := F32c0 }
def F35o1 : List Ao := [
  { dst := some 2, k := .mv, xs := [.c (.d (.int .u8 0))] }]
def F35o4 : List Ao := [
  { dst := some 4, k := .mv, xs := [.t 0] },
  { dst := some 5, k := (.callf 26), xs := [.t 4, .c (.d (.int .i64 1))] },
  { dst := some 3, k := .mv, xs := [.t 5] }]
def F35o6 : List Ao := [
  { dst := some 6, k := .mv, xs := [.t 3] },
  { dst := some 7, k := .lenL, xs := [.t 6] },
  { dst := some 8, k := (.bin .eql), xs := [.t 7, .c (.d (.int .i64 1))] }]
def F35o9 : List Ao := [
  { dst := some 9, k := .mv, xs := [.t 3] },
  { dst := some 10, k := (.iaddrS 1), xs := [.t 9, .c (.d (.int .i64 0))] },
  { dst := some 11, k := (.load none), xs := [.t 10] },
  { dst := some 2, k := .mv, xs := [.t 11] }]
def F35c10 : Ac := .ret
def F35c7 : Ac := (.cond (.t 8) (.seq (.ops F35o9) F35c10) .skip)
def F35c5 : Ac := (.seq (.ops F35o6) F35c7)
def F35o13 : List Ao := [
  { dst := some 2, k := .mv, xs := [.c (.d (.int .u8 0))] }]
def F35c14 : Ac := .ret
def F35c12 : Ac := (.seq (.ops F35o13) F35c14)
def F35c2 : Ac := (.seq (.seq (.ops F35o4) F35c5) F35c12)
def F35c0 : Ac := (.seq (.ops F35o1) F35c2)
/-- (*hansom/index.Source).Byte -/
def F35 : Fn := { np := 1, pb := [[0]], rs := [.t 2], body := F35c0 }
def F37o1 : List Ao := [
  { dst := some 2, k := (.alloc [.d (.int .u8 0), .nils]), xs := [] }]
def F37o3 : List Ao := [
  { dst := some 6, k := (.build [.d (.int .u8 0), .nils] [(0, 1)]), xs := [.c (.d (.int .u8 144))] },
  { dst := some 3, k := (.alloc [.d (.int .u8 0), .nils]), xs := [] },
  { dst := none, k := (.store 2), xs := [.t 3, .t 6] }]
def F37o6 : List Ao := [
  { dst := some 7, k := .mv, xs := [.t 0] },
  { dst := some 8, k := .lenL, xs := [.t 7] },
  { dst := some 9, k := .mv, xs := [.c (.d (.int .i64 0))] }]
def F37o10 : List Ao := [
  { dst := some 10, k := (.bin .lss), xs := [.t 9, .t 8] }]
def F37o18 : List Ao := [
  { dst := some 11, k := .mv, xs := [.t 9] },
  { dst := some 12, k := (.iaddrS 5), xs := [.t 7, .t 9] },
  { dst := some 13, k := (.load (some 5)), xs := [.t 12] },
  { dst := some 5, k := (.alloc [.d (.int .i64 0), .d (.int .i64 0), .d (.int .u16 0), .d (.str []), .d (.int .u16 0)]), xs := [] },
  { dst := some 4, k := .mv, xs := [.t 11] },
  { dst := none, k := (.store 5), xs := [.t 5, .t 13] }]
def F37o21 : List Ao := [
  { dst := some 14, k := .mv, xs := [.t 4] },
  { dst := some 15, k := (.bin .eql), xs := [.t 14, .c (.d (.int .i64 0))] }]
def F37o24 : List Ao := [
  { dst := some 16, k := (.faddr 0), xs := [.t 5] },
  { dst := some 17, k := (.load none), xs := [.t 16] },
  { dst := some 18, k := (.callf 16), xs := [.t 17], al := some [] },
  { dst := some 19, k := (.faddr 1), xs := [.t 5] },
  { dst := some 20, k := (.load none), xs := [.t 19], av := [[18]] },
  { dst := some 21, k := (.callf 16), xs := [.t 20] },
  { dst := some 22, k := (.append 1 1 false), xs := [.t 18, .t 21] },
  { dst := some 23, k := (.faddr 1), xs := [.t 3] },
  { dst := none, k := (.store 1), xs := [.t 23, .t 22] }]
def F37o26 : List Ao := [
  { dst := some 24, k := (.faddr 1), xs := [.t 5] },
  { dst := some 25, k := (.load none), xs := [.t 24] },
  { dst := some 26, k := (.bin .eql), xs := [.t 25, .c (.d (.int .i64 0))] }]
def F37o28 : List Ao := [
  { dst := some 27, k := (.faddr 1), xs := [.t 3] },
  { dst := some 28, k := (.load none), xs := [.t 27], av := [[31]] },
  { dst := some 29, k := (.faddr 2), xs := [.t 5] },
  { dst := some 30, k := (.load none), xs := [.t 29] },
  { dst := some 31, k := (.callf 20), xs := [.t 30], al := some [] },
  { dst := some 32, k := (.append 1 1 false), xs := [.t 28, .t 31] },
  { dst := some 33, k := (.faddr 1), xs := [.t 3] },
  { dst := none, k := (.store 1), xs := [.t 33, .t 32] }]
def F37c27 : Ac := (.cond (.t 26) (.ops F37o28) .skip)
def F37c25 : Ac := (.seq (.ops F37o26) F37c27)
def F37c22 : Ac := (.cond (.t 15) (.seq (.ops F37o24) F37c25) .skip)
def F37o32 : List Ao := [
  { dst := some 34, k := (.faddr 1), xs := [.t 3] },
  { dst := some 35, k := (.load none), xs := [.t 34], av := [[38]] },
  { dst := some 36, k := (.faddr 3), xs := [.t 5] },
  { dst := some 37, k := (.load none), xs := [.t 36] },
  { dst := some 38, k := (.callf 18), xs := [.t 37], al := some [] },
  { dst := some 39, k := (.append 1 1 false), xs := [.t 35, .t 38] },
  { dst := some 40, k := (.faddr 1), xs := [.t 3] },
  { dst := none, k := (.store 1), xs := [.t 40, .t 39] }]
def F37o33 : List Ao := [
  { dst := some 41, k := (.faddr 1), xs := [.t 3] },
  { dst := some 42, k := (.load none), xs := [.t 41], av := [[45], [47]] },
  { dst := some 43, k := (.faddr 4), xs := [.t 5] },
  { dst := some 44, k := (.load none), xs := [.t 43], av := [[47]] },
  { dst := some 45, k := (.callf 20), xs := [.t 44], av := [[47]], al := some [] },
  { dst := some 46, k := (.append 1 1 false), xs := [.t 42, .t 45], av := [[47]], al := some [[1, 3], [18], [22], [32], [39], [46], [48], [901, 3], [951, 3]] },
  { dst := some 47, k := (.bslice (.int .u8 0) 1 [0]), xs := [.c (.d (.int .u8 0))], av := [[45], [46], [1, 3], [18], [22], [32], [39], [48], [901, 3], [951, 3]] },
  { dst := some 48, k := (.append 1 1 false), xs := [.t 46, .t 47] },
  { dst := some 49, k := (.faddr 1), xs := [.t 3] },
  { dst := none, k := (.store 1), xs := [.t 49, .t 48] }]
def F37c33 : Ac := (.ops F37o33)
def F37b31 : Ac := (.seq (.ops F37o32) F37c33)
def F37c31 : Ac := (.seq (.gh [.mvB [3] 1 [951, 3]]) (.seq (.keep [2, 3, 5, 7, 8, 9] [[2], [3], [5], [951, 3]]) F37b31))
def F37c19 : Ac := (.seq (.seq (.ops F37o21) F37c22) F37c31)
def F37o34 : List Ao := [
  { dst := some 50, k := (.bin .add), xs := [.t 9, .c (.d (.int .i64 1))] },
  { dst := some 9, k := .mv, xs := [.t 50] }]
def F37c34 : Ac := (.ops F37o34)
def F37c15 : Ac := (.seq (.block 1 (.seq (.ops F37o18) F37c19)) F37c34)
def F37c11 : Ac := (.seq (.cond (.t 10) .skip (.exit 0)) F37c15)
def F37l8 : Ac := (.seq (.ops F37o10) F37c11)
def F37c7 : Ac := (.block 0 (.loop (.seq (.gh [.mvB [3] 1 [951, 3]]) (.seq (.keep [2, 3, 7, 8, 9] [[2], [3], [951, 3]]) F37l8))))
def F37o36 : List Ao := [
  { dst := some 51, k := (.load (some 2)), xs := [.t 3] },
  { dst := none, k := (.store 2), xs := [.t 2, .t 51] }]
def F37c37 : Ac := (.seq (.gh [.frzB [2] 1]) .ret)
def F37b35 : Ac := (.seq (.ops F37o36) F37c37)
def F37c35 : Ac := (.seq (.gh [.mvB [3] 1 [951, 3]]) (.seq (.keep [2, 3] [[2], [3], [951, 3]]) F37b35))
def F37b4 : Ac := (.seq (.seq (.ops F37o6) F37c7) F37c35)
def F37c4 : Ac := (.seq (.gh [.ownB [3] 1 [901, 3] 1]) (.seq (.keep [0, 2, 3] [[2], [3], [901, 3]]) F37b4))
def F37c2 : Ac := (.seq (.ops F37o3) F37c4)
def F37c0 : Ac := (.seq (.ops F37o1) F37c2)
/-- hansom/pubs.Publics -/
def F37 : Fn := { np := 1, pb := [], rs := [.c 2 (some 2)], body := F37c0 }
def F38o1 : List Ao := [
  { dst := some 2, k := .mv, xs := [.c (.d (.str []))] }]
def F38o3 : List Ao := [
  { dst := some 3, k := .mv, xs := [.c (.d (.str []))] }]
def F38o6 : List Ao := [
  { dst := some 4, k := .mv, xs := [.c (.d (.int .i64 0))] }]
def F38o11 : List Ao := [
  { dst := some 5, k := .mv, xs := [.t 4] },
  { dst := some 6, k := .mv, xs := [.t 0] },
  { dst := some 7, k := .lenL, xs := [.t 6] },
  { dst := some 8, k := (.bin .lss), xs := [.t 5, .t 7] }]
def F38c12 : Ac := (.cond (.t 8) .skip (.exit 0))
def F38o19 : List Ao := [
  { dst := some 11, k := .mv, xs := [.t 4] },
  { dst := some 12, k := (.bin .eql), xs := [.t 11, .c (.d (.int .i64 0))] }]
def F38o22 : List Ao := [
  { dst := some 13, k := .mv, xs := [.t 0] },
  { dst := some 14, k := (.iaddrS 5), xs := [.t 13, .c (.d (.int .i64 0))] },
  { dst := some 15, k := (.faddr 0), xs := [.t 14] },
  { dst := some 16, k := (.load none), xs := [.t 15] },
  { dst := some 17, k := (.callf 17), xs := [.t 16], al := some [] },
  { dst := some 18, k := .mv, xs := [.t 0] },
  { dst := some 19, k := (.iaddrS 5), xs := [.t 18, .c (.d (.int .i64 0))] },
  { dst := some 20, k := (.faddr 1), xs := [.t 19] },
  { dst := some 21, k := (.load none), xs := [.t 20], av := [[17]] },
  { dst := some 22, k := (.callf 17), xs := [.t 21] },
  { dst := some 23, k := (.bin .add), xs := [.t 17, .t 22] },
  { dst := some 3, k := .mv, xs := [.t 23] }]
def F38o24 : List Ao := [
  { dst := some 24, k := .mv, xs := [.t 0] },
  { dst := some 25, k := (.iaddrS 5), xs := [.t 24, .c (.d (.int .i64 0))] },
  { dst := some 26, k := (.faddr 1), xs := [.t 25] },
  { dst := some 27, k := (.load none), xs := [.t 26] },
  { dst := some 28, k := (.bin .eql), xs := [.t 27, .c (.d (.int .i64 0))] }]
def F38o26 : List Ao := [
  { dst := some 29, k := .mv, xs := [.t 3] },
  { dst := some 30, k := .mv, xs := [.t 0] },
  { dst := some 31, k := (.iaddrS 5), xs := [.t 30, .c (.d (.int .i64 0))] },
  { dst := some 32, k := (.faddr 2), xs := [.t 31] },
  { dst := some 33, k := (.load none), xs := [.t 32] },
  { dst := some 34, k := (.toInt .u64), xs := [.t 33] },
  { dst := some 35, k := (.callf 21), xs := [.t 34, .c (.d (.int .i64 2))] },
  { dst := some 36, k := (.bin .add), xs := [.t 29, .t 35] },
  { dst := some 3, k := .mv, xs := [.t 36] }]
def F38c25 : Ac := (.cond (.t 28) (.ops F38o26) .skip)
def F38c23 : Ac := (.seq (.ops F38o24) F38c25)
def F38c20 : Ac := (.cond (.t 12) (.seq (.ops F38o22) F38c23) .skip)
def F38o29 : List Ao := [
  { dst := some 37, k := .mv, xs := [.t 3] },
  { dst := some 38, k := .mv, xs := [.t 0] },
  { dst := some 39, k := .mv, xs := [.t 4] },
  { dst := some 40, k := (.iaddrS 5), xs := [.t 38, .t 39] },
  { dst := some 41, k := (.faddr 3), xs := [.t 40] },
  { dst := some 42, k := (.load none), xs := [.t 41] },
  { dst := some 43, k := (.callf 19), xs := [.t 42], al := some [] },
  { dst := some 44, k := .mv, xs := [.t 0] },
  { dst := some 45, k := .mv, xs := [.t 4] },
  { dst := some 46, k := (.iaddrS 5), xs := [.t 44, .t 45] },
  { dst := some 47, k := (.faddr 4), xs := [.t 46] },
  { dst := some 48, k := (.load none), xs := [.t 47], av := [[43]] },
  { dst := some 49, k := (.toInt .u64), xs := [.t 48] },
  { dst := some 50, k := (.callf 21), xs := [.t 49, .c (.d (.int .i64 2))] },
  { dst := some 51, k := (.bin .add), xs := [.t 43, .t 50] },
  { dst := some 52, k := (.bin .add), xs := [.t 51, .c (.d (.str [0]))] },
  { dst := some 53, k := (.bin .add), xs := [.t 37, .t 52] },
  { dst := some 3, k := .mv, xs := [.t 53] }]
def F38b29 : Ac := (.ops F38o29)
def F38c29 : Ac := (.seq (.gh []) (.seq (.keep [0, 3, 4] []) F38b29))
def F38o30 : List Ao := [
  { dst := some 9, k := .mv, xs := [.t 4] },
  { dst := some 10, k := (.bin .add), xs := [.t 9, .c (.d (.int .i64 1))] },
  { dst := some 4, k := .mv, xs := [.t 10] }]
def F38c30 : Ac := (.ops F38o30)
def F38c15 : Ac := (.seq (.block 1 (.seq (.seq (.ops F38o19) F38c20) F38c29)) F38c30)
def F38l8 : Ac := (.seq (.seq (.ops F38o11) F38c12) F38c15)
def F38c7 : Ac := (.block 0 (.loop (.seq (.gh []) (.seq (.keep [0, 3, 4] []) F38l8))))
def F38o32 : List Ao := [
  { dst := some 54, k := .mv, xs := [.t 3] },
  { dst := some 2, k := .mv, xs := [.t 54] }]
def F38c33 : Ac := .ret
def F38b31 : Ac := (.seq (.ops F38o32) F38c33)
def F38c31 : Ac := (.seq (.gh []) (.seq (.keep [3] []) F38b31))
def F38c4 : Ac := (.seq (.seq (.ops F38o6) F38c7) F38c31)
def F38c2 : Ac := (.seq (.ops F38o3) F38c4)
def F38c0 : Ac := (.seq (.ops F38o1) F38c2)
/-- hansom/hansomref21.Publics -/
def F38 : Fn := { np := 1, pb := [], rs := [.t 2], body := F38c0 }
def F39o1 : List Ao := [
  { dst := some 0, k := .mv, xs := [.c (.d (.bool false))] }]
def F39o3 : List Ao := [
  { dst := some 4, k := (.build [.d (.int .i64 0), .d (.int .i64 0), .d (.int .u16 0), .d (.str []), .d (.int .u16 0)] [(0, 1), (1, 1), (3, 1), (4, 1)]), xs := [.c (.d (.int .i64 1)), .c (.d (.int .i64 2)), .c (.d (.str [65])), .c (.d (.int .u16 7))] },
  { dst := some 5, k := (.bslice (.agg [.int .i64 0, .int .i64 0, .int .u16 0, .str [], .int .u16 0]) 1 [0]), xs := [.t 4] },
  { dst := some 6, k := (.callf 37), xs := [.t 5] },
  { dst := some 7, k := (.field 1 none), xs := [.t 6] },
  { dst := some 8, k := (.callf 40), xs := [.t 7] },
  { dst := some 3, k := .mv, xs := [.t 8] },
  { dst := some 9, k := (.extract 0), xs := [.t 3] },
  { dst := some 10, k := (.extract 1), xs := [.t 3] },
  { dst := some 1, k := .mv, xs := [.t 9] },
  { dst := some 2, k := .mv, xs := [.t 10] }]
def F39o5 : List Ao := [
  { dst := some 11, k := .mv, xs := [.t 2] },
  { dst := some 12, k := (.bin .eql), xs := [.t 11, .c (.d (.int .i64 0))] },
  { dst := some 13, k := .mv, xs := [.t 12] },
  { dst := some 14, k := .mv, xs := [.t 1], g := some (13, true) },
  { dst := some 15, k := .lenL, xs := [.t 14], g := some (13, true) },
  { dst := some 16, k := (.bin .eql), xs := [.t 15, .c (.d (.int .i64 1))], g := some (13, true) },
  { dst := some 17, k := .pick, xs := [.t 13, .t 16, .c (.d (.bool false))] },
  { dst := some 18, k := .mv, xs := [.t 17] },
  { dst := some 19, k := .mv, xs := [.t 1], g := some (18, true) },
  { dst := some 20, k := (.iaddrS 5), xs := [.t 19, .c (.d (.int .i64 0))], g := some (18, true) },
  { dst := some 21, k := (.faddr 3), xs := [.t 20], g := some (18, true) },
  { dst := some 22, k := (.load none), xs := [.t 21], g := some (18, true) },
  { dst := some 23, k := (.bin .eql), xs := [.t 22, .c (.d (.str [65]))], g := some (18, true) },
  { dst := some 24, k := .pick, xs := [.t 18, .t 23, .c (.d (.bool false))] },
  { dst := some 25, k := .mv, xs := [.t 24] },
  { dst := some 26, k := .mv, xs := [.t 1], g := some (25, true) },
  { dst := some 27, k := (.iaddrS 5), xs := [.t 26, .c (.d (.int .i64 0))], g := some (25, true) },
  { dst := some 28, k := (.faddr 4), xs := [.t 27], g := some (25, true) },
  { dst := some 29, k := (.load none), xs := [.t 28], g := some (25, true) },
  { dst := some 30, k := (.bin .eql), xs := [.t 29, .c (.d (.int .u16 7))], g := some (25, true) },
  { dst := some 31, k := .pick, xs := [.t 25, .t 30, .c (.d (.bool false))] },
  { dst := some 32, k := .mv, xs := [.t 31] },
  { dst := some 33, k := .mv, xs := [.t 1], g := some (32, true) },
  { dst := some 34, k := (.iaddrS 5), xs := [.t 33, .c (.d (.int .i64 0))], g := some (32, true) },
  { dst := some 35, k := (.faddr 1), xs := [.t 34], g := some (32, true) },
  { dst := some 36, k := (.load none), xs := [.t 35], g := some (32, true) },
  { dst := some 37, k := (.bin .eql), xs := [.t 36, .c (.d (.int .i64 2))], g := some (32, true) },
  { dst := some 38, k := .pick, xs := [.t 32, .t 37, .c (.d (.bool false))] },
  { dst := some 0, k := .mv, xs := [.t 38] }]
def F39c6 : Ac := .ret
def F39c4 : Ac := (.seq (.ops F39o5) F39c6)
def F39c2 : Ac := (.seq (.ops F39o3) F39c4)
def F39c0 : Ac := (.seq (.ops F39o1) F39c2)
/-- hansom/hansomlaw22.awake -/
def F39 : Fn := { np := 0, pb := [], rs := [.t 0], body := F39c0 }
def F40o1 : List Ao := [
  { dst := some 2, k := .mv, xs := [.c (.nils)] },
  { dst := some 3, k := .mv, xs := [.c (.d (.int .i64 0))] }]
def F40o3 : List Ao := [
  { dst := some 9, k := .mv, xs := [.t 0] },
  { dst := some 10, k := (.callf 25), xs := [.t 9] },
  { dst := some 4, k := .mv, xs := [.t 10] }]
def F40o5 : List Ao := [
  { dst := some 11, k := .mv, xs := [.t 4] },
  { dst := some 12, k := (.callf 31), xs := [.t 11] },
  { dst := some 13, k := .mv, xs := [.t 4] },
  { dst := some 14, k := (.callf 31), xs := [.t 13] },
  { dst := some 15, k := (.build [.d (.int .i64 0), .d (.int .i64 0), .d (.int .u16 0), .d (.str []), .d (.int .u16 0)] [(0, 1), (1, 1)]), xs := [.t 12, .t 14] },
  { dst := some 5, k := (.alloc [.d (.int .i64 0), .d (.int .i64 0), .d (.int .u16 0), .d (.str []), .d (.int .u16 0)]), xs := [] },
  { dst := none, k := (.store 5), xs := [.t 5, .t 15] }]
def F40o8 : List Ao := [
  { dst := some 16, k := (.faddr 1), xs := [.t 5] },
  { dst := some 17, k := (.load none), xs := [.t 16] },
  { dst := some 18, k := (.bin .eql), xs := [.t 17, .c (.d (.int .i64 0))] }]
def F40o10 : List Ao := [
  { dst := some 19, k := .mv, xs := [.t 4] },
  { dst := some 20, k := (.callf 30), xs := [.t 19] },
  { dst := some 21, k := (.faddr 2), xs := [.t 5] },
  { dst := none, k := (.store 1), xs := [.t 21, .t 20] }]
def F40c9 : Ac := (.cond (.t 18) (.ops F40o10) .skip)
def F40o13 : List Ao := [
  { dst := some 6, k := .mv, xs := [.c (.nils)] }]
def F40o19 : List Ao := [
  { dst := some 22, k := .mv, xs := [.t 4] },
  { dst := some 23, k := (.callf 29), xs := [.t 22] },
  { dst := some 24, k := (.bin .gtr), xs := [.t 23, .c (.d (.int .i64 0))] }]
def F40c20 : Ac := (.cond (.t 24) .skip (.exit 0))
def F40o25 : List Ao := [
  { dst := some 25, k := (.load (some 5)), xs := [.t 5] },
  { dst := some 7, k := (.alloc [.d (.int .i64 0), .d (.int .i64 0), .d (.int .u16 0), .d (.str []), .d (.int .u16 0)]), xs := [] },
  { dst := none, k := (.store 5), xs := [.t 7, .t 25] }]
def F40o27 : List Ao := [
  { dst := some 26, k := .mv, xs := [.t 4] },
  { dst := some 27, k := (.callf 32), xs := [.t 26] },
  { dst := some 28, k := .mv, xs := [.t 4] },
  { dst := some 29, k := (.callf 30), xs := [.t 28] },
  { dst := some 30, k := (.faddr 3), xs := [.t 7] },
  { dst := none, k := (.store 1), xs := [.t 30, .t 27] },
  { dst := some 31, k := (.faddr 4), xs := [.t 7] },
  { dst := none, k := (.store 1), xs := [.t 31, .t 29] }]
def F40o29 : List Ao := [
  { dst := some 32, k := .mv, xs := [.t 4] },
  { dst := some 33, k := (.callf 31), xs := [.t 32] }]
def F40o30 : List Ao := [
  { dst := some 34, k := .mv, xs := [.t 6] },
  { dst := some 35, k := (.load (some 5)), xs := [.t 7] },
  { dst := some 36, k := (.bslice (.agg [.int .i64 0, .int .i64 0, .int .u16 0, .str [], .int .u16 0]) 1 [0]), xs := [.t 35] },
  { dst := some 37, k := (.append 5 48 false), xs := [.t 34, .t 36] },
  { dst := some 6, k := .mv, xs := [.t 37] }]
def F40c30 : Ac := (.ops F40o30)
def F40c28 : Ac := (.seq (.ops F40o29) F40c30)
def F40c26 : Ac := (.seq (.ops F40o27) F40c28)
def F40c23 : Ac := (.block 1 (.seq (.ops F40o25) F40c26))
def F40l16 : Ac := (.seq (.seq (.ops F40o19) F40c20) F40c23)
def F40o33 : List Ao := [
  { dst := some 38, k := .mv, xs := [.t 4] },
  { dst := some 39, k := (.callf 28), xs := [.t 38] },
  { dst := some 8, k := .mv, xs := [.t 39] }]
def F40o35 : List Ao := [
  { dst := some 40, k := .mv, xs := [.t 8] },
  { dst := some 41, k := (.bin .neq), xs := [.t 40, .c (.d (.int .i64 0))] }]
def F40o38 : List Ao := [
  { dst := some 42, k := .mv, xs := [.t 8] },
  { dst := some 2, k := .mv, xs := [.c (.nils)] },
  { dst := some 3, k := .mv, xs := [.t 42] }]
def F40c39 : Ac := (.seq (.gh [.frz 2]) .ret)
def F40c36 : Ac := (.cond (.t 41) (.seq (.ops F40o38) F40c39) .skip)
def F40c34 : Ac := (.seq (.ops F40o35) F40c36)
def F40o42 : List Ao := [
  { dst := some 43, k := .mv, xs := [.t 6] },
  { dst := some 2, k := .mv, xs := [.t 43] },
  { dst := some 3, k := .mv, xs := [.c (.d (.int .i64 0))] }]
def F40c43 : Ac := (.seq (.gh [.frz 2]) .ret)
def F40c41 : Ac := (.seq (.ops F40o42) F40c43)
def F40b31 : Ac := (.seq (.seq (.ops F40o33) F40c34) F40c41)
def F40c31 : Ac := (.seq (.gh []) (.seq (.keep [4, 6] [[6], [10]]) F40b31))
def F40b14 : Ac := (.seq (.block 0 (.loop (.seq (.gh []) (.seq (.keep [4, 5, 6] [[5], [6], [10]]) F40l16)))) F40c31)
def F40c14 : Ac := (.seq (.gh [.own 6 [6] 5]) (.seq (.keep [4, 5, 6] [[5], [6], [10]]) F40b14))
def F40b12 : Ac := (.seq (.ops F40o13) F40c14)
def F40c12 : Ac := (.seq (.gh []) (.seq (.keep [4, 5] [[5], [10]]) F40b12))
def F40c6 : Ac := (.seq (.seq (.ops F40o8) F40c9) F40c12)
def F40c4 : Ac := (.seq (.ops F40o5) F40c6)
def F40c2 : Ac := (.seq (.ops F40o3) F40c4)
def F40c0 : Ac := (.seq (.ops F40o1) F40c2)
/-- hansom/pubs.Given -/
def F40 : Fn := { np := 1, pb := [], rs := [.t 2, .t 3], body := F40c0 }
def F67o1 : List Ao := [
  { dst := some 2, k := .mv, xs := [.c (.d (.int .u8 0))] }]
def F67o3 : List Ao := [
  { dst := some 3, k := .mv, xs := [.t 0] },
  { dst := some 4, k := (.toInt .u8), xs := [.t 3] },
  { dst := some 2, k := .mv, xs := [.t 4] }]
def F67c4 : Ac := .ret
def F67c2 : Ac := (.seq (.ops F67o3) F67c4)
def F67c0 : Ac := (.seq (.ops F67o1) F67c2)
/-- hansom/bits.Low -/
def F67 : Fn := { np := 1, pb := [], rs := [.t 2], body := F67c0 }
def F68o1 : List Ao := [
  { dst := some 2, k := .mv, xs := [.c (.d (.int .u8 0))] }]
def F68o3 : List Ao := [
  { dst := some 3, k := .mv, xs := [.t 0] },
  { dst := some 4, k := (.bin .shr), xs := [.t 3, .c (.d (.int .u64 8))] },
  { dst := some 5, k := (.toInt .u8), xs := [.t 4] },
  { dst := some 2, k := .mv, xs := [.t 5] }]
def F68c4 : Ac := .ret
def F68c2 : Ac := (.seq (.ops F68o3) F68c4)
def F68c0 : Ac := (.seq (.ops F68o1) F68c2)
/-- hansom/bits.High -/
def F68 : Fn := { np := 1, pb := [], rs := [.t 2], body := F68c0 }
def F69o1 : List Ao := [
  { dst := some 4, k := .mv, xs := [.c (.d (.int .u16 0))] }]
def F69o3 : List Ao := [
  { dst := some 5, k := .mv, xs := [.t 0] },
  { dst := some 6, k := (.toInt .u16), xs := [.t 5] },
  { dst := some 7, k := .mv, xs := [.t 1] },
  { dst := some 8, k := (.toInt .u16), xs := [.t 7] },
  { dst := some 9, k := (.bin .shl), xs := [.t 8, .c (.d (.int .u64 8))] },
  { dst := some 10, k := (.bin .or), xs := [.t 6, .t 9] },
  { dst := some 4, k := .mv, xs := [.t 10] }]
def F69c4 : Ac := .ret
def F69c2 : Ac := (.seq (.ops F69o3) F69c4)
def F69c0 : Ac := (.seq (.ops F69o1) F69c2)
/-- hansom/bits.Word -/
def F69 : Fn := { np := 2, pb := [], rs := [.t 4], body := F69c0 }
def tab1 : Nat → Option Fn
  | 6 => some F6
  | 16 => some F16
  | 17 => some F17
  | 18 => some F18
  | 19 => some F19
  | 20 => some F20
  | 21 => some F21
  | 25 => some F25
  | 26 => some F26
  | 27 => some F27
  | 28 => some F28
  | 29 => some F29
  | 30 => some F30
  | 31 => some F31
  | 32 => some F32
  | 35 => some F35
  | 37 => some F37
  | 38 => some F38
  | 39 => some F39
  | 40 => some F40
  | 67 => some F67
  | 68 => some F68
  | 69 => some F69
  | _ => none
noncomputable def L : Cs := lim tab1 (fun _ _ => none)

theorem no_globals : GOk (fun _ _ => none) (fun _ => none) := fun n a h => by cases h
theorem ok6 : FnOk (fun _ _ => none) Try.prog 6 F6 := compF_spec no_globals Try.func6 (by kernel_rfl)
theorem ok16 : FnOk (fun _ _ => none) Try.prog 16 F16 := compF_spec no_globals Try.func16 (by kernel_rfl)
theorem ok17 : FnOk (fun _ _ => none) Try.prog 17 F17 := compF_spec no_globals Try.func17 (by kernel_rfl)
theorem ok18 : FnOk (fun _ _ => none) Try.prog 18 F18 := compF_spec no_globals Try.func18 (by kernel_rfl)
theorem ok19 : FnOk (fun _ _ => none) Try.prog 19 F19 := compF_spec no_globals Try.func19 (by kernel_rfl)
theorem ok20 : FnOk (fun _ _ => none) Try.prog 20 F20 := compF_spec no_globals Try.func20 (by kernel_rfl)
theorem ok21 : FnOk (fun _ _ => none) Try.prog 21 F21 := compF_spec no_globals Try.func21 (by kernel_rfl)
theorem ok25 : FnOk (fun _ _ => none) Try.prog 25 F25 := compF_spec no_globals Try.func25 (by kernel_rfl)
theorem ok26 : FnOk (fun _ _ => none) Try.prog 26 F26 := compF_spec no_globals Try.func26 (by kernel_rfl)
theorem ok27 : FnOk (fun _ _ => none) Try.prog 27 F27 := compF_spec no_globals Try.func27 (by kernel_rfl)
theorem ok28 : FnOk (fun _ _ => none) Try.prog 28 F28 := compF_spec no_globals Try.func28 (by kernel_rfl)
theorem ok29 : FnOk (fun _ _ => none) Try.prog 29 F29 := compF_spec no_globals Try.func29 (by kernel_rfl)
theorem ok30 : FnOk (fun _ _ => none) Try.prog 30 F30 := compF_spec no_globals Try.func30 (by kernel_rfl)
theorem ok31 : FnOk (fun _ _ => none) Try.prog 31 F31 := compF_spec no_globals Try.func31 (by kernel_rfl)
theorem ok32 : FnOk (fun _ _ => none) Try.prog 32 F32 := compF_spec no_globals Try.func32 (by kernel_rfl)
theorem ok35 : FnOk (fun _ _ => none) Try.prog 35 F35 := compF_spec no_globals Try.func35 (by kernel_rfl)
theorem ok37 : FnOk (fun _ _ => none) Try.prog 37 F37 := compF_spec no_globals Try.func37 (by kernel_rfl)
theorem ok38 : FnOk (fun _ _ => none) Try.prog 38 F38 := compF_spec no_globals Try.func38 (by kernel_rfl)
theorem ok39 : FnOk (fun _ _ => none) Try.prog 39 F39 := compF_spec no_globals Try.func39 (by kernel_rfl)
theorem ok40 : FnOk (fun _ _ => none) Try.prog 40 F40 := compF_spec no_globals Try.func40 (by kernel_rfl)
theorem ok67 : FnOk (fun _ _ => none) Try.prog 67 F67 := compF_spec no_globals Try.func67 (by kernel_rfl)
theorem ok68 : FnOk (fun _ _ => none) Try.prog 68 F68 := compF_spec no_globals Try.func68 (by kernel_rfl)
theorem ok69 : FnOk (fun _ _ => none) Try.prog 69 F69 := compF_spec no_globals Try.func69 (by kernel_rfl)
theorem tab1_ok : ∀ f fn, tab1 f = some fn → FnOk (fun _ _ => none) Try.prog f fn := by
  intro f fn h
  unfold tab1 at h
  split at h <;> cases h
  · exact ok6
  · exact ok16
  · exact ok17
  · exact ok18
  · exact ok19
  · exact ok20
  · exact ok21
  · exact ok25
  · exact ok26
  · exact ok27
  · exact ok28
  · exact ok29
  · exact ok30
  · exact ok31
  · exact ok32
  · exact ok35
  · exact ok37
  · exact ok38
  · exact ok39
  · exact ok40
  · exact ok67
  · exact ok68
  · exact ok69
theorem meets1 (f : Nat) : Meets (fun _ _ => none) Try.prog f (L f) := lim_meets tab1_ok (fun f _ m w args vs bs _ _ _ _ _ r a h => by cases h) f

end Go.Es.Pgv
