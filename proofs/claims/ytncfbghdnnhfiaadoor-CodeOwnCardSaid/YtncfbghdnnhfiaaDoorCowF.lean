/- The code of the functions that the statement CodeOwn reaches, as the interpreter reads it. No condition. -/
import Derived.Test.YtncfbghdnnhfiaaDoorEsD
import Derived.Test.YtncfbghdnnhfiaaDoorChecked
import Derived.KernelRfl
set_option linter.unusedVariables false
set_option linter.unusedSimpArgs false
set_option maxRecDepth 100000
set_option maxHeartbeats 4000000
namespace Go.Es.Cow
open Go.Proofs
def F4o1 : List Ao := [
  o3 2 (.box 10) [.t 0],
  o3 3 (.box 10) [.t 1],
  o3 4 .mv [.c (.d (.bool false))]]
def F4o3 : List Ao := [
  { dst := some 12, k := (.load (some 10)), xs := [.t 2], av := [[5], [6]] },
  { dst := some 13, k := (.callf 7), xs := [.t 12], av := [[5], [6]], al := some [] },
  { dst := some 14, k := (.load (some 10)), xs := [.t 3], av := [[13], [5], [6]] },
  { dst := some 15, k := (.callf 7), xs := [.t 14], av := [[5], [6]], al := some [] },
  { dst := some 5, k := (.alloc [.d (.bool false), .d (.int .i64 0), .d (.int .i64 0), .d (.int .u8 0), .d (.int .i64 0), .d (.int .i64 0), .d (.int .i64 0), .d (.int .u16 0), .d (.int .u16 0), .d (.int .u16 0)]), xs := [], av := [[13], [15], [6]] },
  { dst := some 6, k := (.alloc [.d (.bool false), .d (.int .i64 0), .d (.int .i64 0), .d (.int .u8 0), .d (.int .i64 0), .d (.int .i64 0), .d (.int .i64 0), .d (.int .u16 0), .d (.int .u16 0), .d (.int .u16 0)]), xs := [], av := [[13], [15], [5]] },
  o0 (.store 10) [.t 5, .t 13],
  o0 (.store 10) [.t 6, .t 15]]
def F4o5 : List Ao := [
  o3 17 (.load (some 10)) [.t 5],
  o3 18 (.callf 8) [.t 17],
  o3 16 .mv [.t 18],
  o3 19 (.extract 0) [.t 16],
  o3 20 (.extract 1) [.t 16],
  o3 7 .mv [.t 19],
  o3 8 .mv [.t 20]]
def F4o7 : List Ao := [
  o3 22 (.load (some 10)) [.t 6],
  o3 23 (.callf 8) [.t 22],
  o3 21 .mv [.t 23],
  o3 24 (.extract 0) [.t 21],
  o3 25 (.extract 1) [.t 21],
  o3 9 .mv [.t 24],
  o3 10 .mv [.t 25]]
def F4o9 : List Ao := [
  o3 26 .mv [.t 7],
  o3 27 .lenL [.t 26],
  o3 28 .mv [.t 9],
  o3 29 .lenL [.t 28],
  o3 30 .mn [.t 27, .t 29],
  o3 11 .mv [.t 30]]
def F4o11 : List Ao := [
  o3 31 (.callf 10) [],
  o3 32 .mv [.t 31],
  og 33 .mv [.t 8] 32 true,
  og 34 (.bin .eql) [.t 33, .c (.d (.int .i64 0))] 32 true,
  o3 35 .pick [.t 32, .t 34, .c (.d (.bool false))],
  o3 36 .mv [.t 35],
  og 37 .mv [.t 10] 36 true,
  og 38 (.bin .eql) [.t 37, .c (.d (.int .i64 0))] 36 true,
  o3 39 .pick [.t 36, .t 38, .c (.d (.bool false))],
  o3 40 .mv [.t 39],
  og 41 .mv [.t 11] 40 true,
  og 42 (.bin .gtr) [.t 41, .c (.d (.int .i64 0))] 40 true,
  o3 43 .pick [.t 40, .t 42, .c (.d (.bool false))],
  o3 44 .mv [.t 43],
  og 45 (.load (some 10)) [.t 5] 44 true,
  og 46 (.load (some 10)) [.t 6] 44 true,
  og 47 (.eqa false [.b, .i, .i, .i, .i, .i, .i, .i, .i, .i]) [.t 45, .t 46] 44 true,
  og 48 .mv [.t 7] 44 true,
  og 49 .mv [.t 11] 44 true,
  og 50 (.subsl 1 false true false) [.t 48, .t 49] 44 true,
  og 51 .bytesStr [.t 50] 44 true,
  og 52 .mv [.t 9] 44 true,
  og 53 .mv [.t 11] 44 true,
  og 54 (.subsl 1 false true false) [.t 52, .t 53] 44 true,
  og 55 .bytesStr [.t 54] 44 true,
  og 56 (.bin .eql) [.t 51, .t 55] 44 true,
  og 57 (.eqb false) [.t 47, .t 56] 44 true,
  o3 58 .pick [.t 44, .t 57, .c (.d (.bool false))],
  o3 4 .mv [.t 58]]
def F4c12 : Ac := .ret
def F4c10 : Ac := (.seq (.ops F4o11) F4c12)
def F4c8 : Ac := (.seq (.ops F4o9) F4c10)
def F4c6 : Ac := (.seq (.ops F4o7) F4c8)
def F4c4 : Ac := (.seq (.ops F4o5) F4c6)
def F4c2 : Ac := (.seq (.ops F4o3) F4c4)
def F4c0 : Ac := (.seq (.ops F4o1) F4c2)
/-- hansom/hansomlaw06.CodeOwn -/
def F4 : Fn := { np := 2, pb := [], rs := [.t 4], body := F4c0 }
def F7o1 : List Ao := [
  o3 1 (.box 10) [.t 0],
  o3 2 (.alloc [.d (.bool false), .d (.int .i64 0), .d (.int .i64 0), .d (.int .u8 0), .d (.int .i64 0), .d (.int .i64 0), .d (.int .i64 0), .d (.int .u16 0), .d (.int .u16 0), .d (.int .u16 0)]) []]
def F7o3 : List Ao := [
  o3 7 (.faddr 3) [.t 1],
  o3 8 (.load none) [.t 7],
  o3 9 (.faddr 0) [.t 1],
  o3 10 (.load none) [.t 9],
  o3 11 (.build [.d (.bool false), .d (.int .i64 0), .d (.int .i64 0), .d (.int .u8 0), .d (.int .i64 0), .d (.int .i64 0), .d (.int .i64 0), .d (.int .u16 0), .d (.int .u16 0), .d (.int .u16 0)] [(3, 1), (0, 1)]) [.t 8, .t 10],
  o0 (.store 10) [.t 2, .t 11]]
def F7o5 : List Ao := [
  o3 12 (.faddr 5) [.t 1],
  o3 13 (.load none) [.t 12],
  o3 14 (.bin .and) [.t 13, .c (.d (.int .i64 7))],
  o3 15 (.faddr 5) [.t 2],
  o0 (.store 1) [.t 15, .t 14]]
def F7o7 : List Ao := [
  o3 17 (.load (some 10)) [.t 2],
  o3 18 (.callf 13) [.t 17],
  o3 16 .mv [.t 18],
  o3 19 (.extract 0) [.t 16],
  o3 20 (.extract 1) [.t 16],
  o3 3 (.alloc [.d (.int .i64 0), .d (.int .i64 0), .d (.int .i64 0), .d (.bool false)]) [],
  o0 (.store 4) [.t 3, .t 19],
  o3 4 .mv [.t 20]]
def F7o10 : List Ao := [
  o3 21 .mv [.t 4],
  o3 22 (.un .not) [.t 21]]
def F7o13 : List Ao := [
  o3 23 (.build [.d (.bool false), .d (.int .i64 0), .d (.int .i64 0), .d (.int .u8 0), .d (.int .i64 0), .d (.int .i64 0), .d (.int .i64 0), .d (.int .u16 0), .d (.int .u16 0), .d (.int .u16 0)] [(3, 1)]) [.c (.d (.int .u8 144))],
  o0 (.store 10) [.t 2, .t 23]]
def F7c14 : Ac := .ret
def F7c11 : Ac := (.cond (.t 22) (.seq (.ops F7o13) F7c14) .skip)
def F7o18 : List Ao := [
  o3 24 (.faddr 3) [.t 3],
  o3 25 (.load none) [.t 24],
  o3 26 (.un .not) [.t 25]]
def F7o20 : List Ao := [
  o3 27 (.faddr 5) [.t 2],
  o0 (.store 1) [.t 27, .c (.d (.int .i64 0))]]
def F7o22 : List Ao := [
  o3 28 (.faddr 4) [.t 1],
  o3 29 (.load none) [.t 28],
  o3 30 (.bin .and) [.t 29, .c (.d (.int .i64 3))],
  o3 31 (.faddr 6) [.t 1],
  { dst := some 32, k := (.load none), xs := [.t 31], av := [[2]] },
  o3 33 (.bin .and) [.t 32, .c (.d (.int .i64 7))],
  o3 34 (.faddr 4) [.t 2],
  { dst := none, k := (.store 1), xs := [.t 34, .t 30], al := some [[2]] },
  o3 35 (.faddr 6) [.t 2],
  o0 (.store 1) [.t 35, .t 33]]
def F7o24 : List Ao := [
  o3 36 (.faddr 4) [.t 2],
  o3 37 (.load none) [.t 36],
  o3 38 (.faddr 6) [.t 2],
  o3 39 (.load none) [.t 38],
  o3 40 (.callf 17) [.t 37, .t 39]]
def F7o27 : List Ao := [
  o3 42 (.bin .eql) [.t 40, .c (.d (.int .i64 1))],
  o3 41 .mv [.t 42]]
def F7o29 : List Ao := [
  o3 43 (.faddr 7) [.t 1],
  o3 44 (.load none) [.t 43],
  o3 45 (.bin .rem) [.t 44, .c (.d (.int .u16 256))],
  o3 46 (.toInt .u8) [.t 45],
  o3 47 (.callf 18) [.t 46],
  o3 48 (.faddr 7) [.t 2],
  o0 (.store 1) [.t 48, .t 47]]
def F7o31 : List Ao := [
  o3 50 (.bin .eql) [.t 40, .c (.d (.int .i64 2))],
  o3 49 .mv [.t 50]]
def F7o33 : List Ao := [
  o3 51 (.faddr 7) [.t 1],
  o3 52 (.load none) [.t 51],
  o3 53 (.faddr 7) [.t 2],
  o0 (.store 1) [.t 53, .t 52]]
def F7c32 : Ac := (.cond (.t 49) (.ops F7o33) .skip)
def F7c28 : Ac := (.cond (.t 41) (.ops F7o29) (.seq (.ops F7o31) F7c32))
def F7c25 : Ac := (.block 0 (.seq (.ops F7o27) F7c28))
def F7c23 : Ac := (.seq (.ops F7o24) F7c25)
def F7c19 : Ac := (.cond (.t 26) (.ops F7o20) (.seq (.ops F7o22) F7c23))
def F7o36 : List Ao := [
  o3 54 (.faddr 1) [.t 3],
  o3 55 (.load none) [.t 54],
  o3 5 .mv [.t 55]]
def F7o39 : List Ao := [
  o3 56 .mv [.t 5],
  o3 57 (.callf 19) [.t 56],
  o3 58 (.bin .eql) [.t 57, .c (.d (.int .i64 0))]]
def F7o41 : List Ao := [
  o3 59 (.faddr 2) [.t 3],
  o3 60 (.load none) [.t 59],
  o3 5 .mv [.t 60]]
def F7c40 : Ac := (.cond (.t 58) (.ops F7o41) .skip)
def F7o45 : List Ao := [
  o3 61 .mv [.t 5]]
def F7o48 : List Ao := [
  o3 63 (.bin .eql) [.t 61, .c (.d (.int .i64 6))],
  o3 62 .mv [.t 63]]
def F7o51 : List Ao := [
  o3 64 (.faddr 8) [.t 1],
  o3 65 (.load none) [.t 64],
  o3 66 (.bin .rem) [.t 65, .c (.d (.int .u16 256))],
  o3 67 (.faddr 8) [.t 2],
  o0 (.store 1) [.t 67, .t 66]]
def F7o53 : List Ao := [
  o3 68 (.faddr 0) [.t 3],
  o3 69 (.load none) [.t 68],
  o3 70 (.bin .eql) [.t 69, .c (.d (.int .i64 70))],
  o3 71 .mv [.t 70],
  og 72 (.faddr 0) [.t 3] 71 false,
  og 73 (.load none) [.t 72] 71 false,
  og 74 (.bin .eql) [.t 73, .c (.d (.int .i64 71))] 71 false,
  o3 75 .pick [.t 71, .c (.d (.bool true)), .t 74]]
def F7o55 : List Ao := [
  o3 76 (.faddr 8) [.t 2],
  o0 (.store 1) [.t 76, .c (.d (.int .u16 10))]]
def F7c54 : Ac := (.cond (.t 75) (.ops F7o55) .skip)
def F7c52 : Ac := (.seq (.ops F7o53) F7c54)
def F7o59 : List Ao := [
  o3 78 (.bin .eql) [.t 61, .c (.d (.int .i64 8))],
  o3 77 .mv [.t 78]]
def F7o62 : List Ao := [
  o3 79 (.bin .eql) [.t 61, .c (.d (.int .i64 9))],
  o3 77 .mv [.t 79]]
def F7c60 : Ac := (.cond (.t 77) .skip (.ops F7o62))
def F7o64 : List Ao := [
  o3 80 (.faddr 8) [.t 1],
  o3 81 (.load none) [.t 80],
  o3 82 (.bin .rem) [.t 81, .c (.d (.int .u16 256))],
  o3 83 (.toInt .u8) [.t 82],
  o3 84 (.callf 18) [.t 83],
  o3 85 (.faddr 8) [.t 2],
  o0 (.store 1) [.t 85, .t 84]]
def F7o67 : List Ao := [
  o3 87 (.bin .eql) [.t 61, .c (.d (.int .i64 7))],
  o3 86 .mv [.t 87]]
def F7o71 : List Ao := [
  o3 88 (.bin .eql) [.t 61, .c (.d (.int .i64 10))],
  o3 86 .mv [.t 88]]
def F7o75 : List Ao := [
  o3 89 (.bin .eql) [.t 61, .c (.d (.int .i64 12))],
  o3 86 .mv [.t 89]]
def F7o78 : List Ao := [
  o3 90 (.bin .eql) [.t 61, .c (.d (.int .i64 13))],
  o3 86 .mv [.t 90]]
def F7c76 : Ac := (.cond (.t 86) .skip (.ops F7o78))
def F7c72 : Ac := (.cond (.t 86) .skip (.seq (.ops F7o75) F7c76))
def F7c68 : Ac := (.cond (.t 86) .skip (.seq (.ops F7o71) F7c72))
def F7o80 : List Ao := [
  o3 91 (.faddr 8) [.t 1],
  o3 92 (.load none) [.t 91],
  o3 93 (.faddr 8) [.t 2],
  o0 (.store 1) [.t 93, .t 92]]
def F7o82 : List Ao := [
  o3 95 (.bin .eql) [.t 61, .c (.d (.int .i64 11))],
  o3 94 .mv [.t 95]]
def F7o84 : List Ao := [
  o3 96 (.faddr 8) [.t 1],
  o3 97 (.load none) [.t 96],
  o3 98 (.faddr 9) [.t 1],
  { dst := some 99, k := (.load none), xs := [.t 98], av := [[2]] },
  o3 100 (.faddr 8) [.t 2],
  { dst := none, k := (.store 1), xs := [.t 100, .t 97], al := some [[2]] },
  o3 101 (.faddr 9) [.t 2],
  o0 (.store 1) [.t 101, .t 99]]
def F7c83 : Ac := (.cond (.t 94) (.ops F7o84) .skip)
def F7b79 : Ac := (.cond (.t 86) (.ops F7o80) (.seq (.ops F7o82) F7c83))
def F7c79 : Ac := (.seq (.gh []) (.seq (.keep [1, 2, 3, 61, 86] [[1], [2], [3]]) F7b79))
def F7b63 : Ac := (.cond (.t 77) (.ops F7o64) (.seq (.seq (.ops F7o67) F7c68) F7c79))
def F7c63 : Ac := (.seq (.gh []) (.seq (.keep [1, 2, 3, 61, 77] [[1], [2], [3]]) F7b63))
def F7c49 : Ac := (.cond (.t 62) (.seq (.ops F7o51) F7c52) (.seq (.seq (.ops F7o59) F7c60) F7c63))
def F7c46 : Ac := (.block 1 (.seq (.ops F7o48) F7c49))
def F7o88 : List Ao := [
  o3 102 (.faddr 0) [.t 3],
  o3 103 (.load none) [.t 102],
  o3 104 (.callf 20) [.t 103],
  o3 6 .mv [.t 104]]
def F7o90 : List Ao := [
  o3 105 .mv [.t 6],
  o3 106 (.bin .gtr) [.t 105, .c (.d (.int .i64 0))],
  o3 107 .mv [.t 106],
  og 108 (.faddr 1) [.t 1] 107 true,
  og 109 (.load none) [.t 108] 107 true,
  og 110 (.bin .and) [.t 109, .c (.d (.int .i64 3))] 107 true,
  og 111 (.bin .gtr) [.t 110, .c (.d (.int .i64 0))] 107 true,
  o3 112 .pick [.t 107, .t 111, .c (.d (.bool false))]]
def F7o93 : List Ao := [
  o3 113 (.faddr 1) [.t 2],
  o0 (.store 1) [.t 113, .c (.d (.int .i64 2))]]
def F7o95 : List Ao := [
  o3 114 .mv [.t 6],
  o3 115 (.bin .eql) [.t 114, .c (.d (.int .i64 2))],
  o3 116 .mv [.t 115],
  og 117 (.faddr 1) [.t 1] 116 true,
  og 118 (.load none) [.t 117] 116 true,
  og 119 (.bin .and) [.t 118, .c (.d (.int .i64 1))] 116 true,
  og 120 (.bin .eql) [.t 119, .c (.d (.int .i64 1))] 116 true,
  o3 121 .pick [.t 116, .t 120, .c (.d (.bool false))]]
def F7o97 : List Ao := [
  o3 122 (.faddr 1) [.t 2],
  o0 (.store 1) [.t 122, .c (.d (.int .i64 1))]]
def F7c96 : Ac := (.cond (.t 121) (.ops F7o97) .skip)
def F7c94 : Ac := (.seq (.ops F7o95) F7c96)
def F7c91 : Ac := (.cond (.t 112) (.seq (.ops F7o93) F7c94) .skip)
def F7c89 : Ac := (.seq (.ops F7o90) F7c91)
def F7o102 : List Ao := [
  o3 123 (.faddr 2) [.t 1],
  o3 124 (.load none) [.t 123],
  o3 125 (.bin .and) [.t 124, .c (.d (.int .i64 7))],
  o3 126 (.bin .leq) [.t 125, .c (.d (.int .i64 4))]]
def F7o104 : List Ao := [
  o3 127 (.faddr 2) [.t 1],
  o3 128 (.load none) [.t 127],
  o3 129 (.bin .and) [.t 128, .c (.d (.int .i64 7))],
  o3 130 (.faddr 2) [.t 2],
  o0 (.store 1) [.t 130, .t 129]]
def F7c103 : Ac := (.cond (.t 126) (.ops F7o104) .skip)
def F7o108 : List Ao := [
  o3 131 (.load (some 10)) [.t 2],
  o3 132 (.callf 9) [.t 131],
  o3 133 (.un .not) [.t 132]]
def F7o111 : List Ao := [
  o3 134 (.build [.d (.bool false), .d (.int .i64 0), .d (.int .i64 0), .d (.int .u8 0), .d (.int .i64 0), .d (.int .i64 0), .d (.int .i64 0), .d (.int .u16 0), .d (.int .u16 0), .d (.int .u16 0)] [(3, 1)]) [.c (.d (.int .u8 144))],
  o0 (.store 10) [.t 2, .t 134]]
def F7c112 : Ac := .ret
def F7c109 : Ac := (.cond (.t 133) (.seq (.ops F7o111) F7c112) .skip)
def F7o115 : List Ao := [
  o3 135 (.load (some 10)) [.t 2],
  o0 (.store 10) [.t 2, .t 135]]
def F7c116 : Ac := .ret
def F7c114 : Ac := (.seq (.ops F7o115) F7c116)
def F7c106 : Ac := (.seq (.seq (.ops F7o108) F7c109) F7c114)
def F7b100 : Ac := (.seq (.seq (.ops F7o102) F7c103) F7c106)
def F7c100 : Ac := (.seq (.gh []) (.seq (.keep [1, 2] [[1], [2]]) F7b100))
def F7b86 : Ac := (.seq (.seq (.ops F7o88) F7c89) F7c100)
def F7c86 : Ac := (.seq (.gh []) (.seq (.keep [1, 2, 3] [[1], [2], [3]]) F7b86))
def F7b43 : Ac := (.seq (.seq (.ops F7o45) F7c46) F7c86)
def F7c43 : Ac := (.seq (.gh []) (.seq (.keep [1, 2, 3, 5] [[1], [2], [3]]) F7b43))
def F7c37 : Ac := (.seq (.seq (.ops F7o39) F7c40) F7c43)
def F7b35 : Ac := (.seq (.ops F7o36) F7c37)
def F7c35 : Ac := (.seq (.gh []) (.seq (.keep [1, 2, 3] [[1], [2], [3]]) F7b35))
def F7c16 : Ac := (.seq (.seq (.ops F7o18) F7c19) F7c35)
def F7c8 : Ac := (.seq (.seq (.ops F7o10) F7c11) F7c16)
def F7c6 : Ac := (.seq (.ops F7o7) F7c8)
def F7c4 : Ac := (.seq (.ops F7o5) F7c6)
def F7c2 : Ac := (.seq (.ops F7o3) F7c4)
def F7c0 : Ac := (.seq (.ops F7o1) F7c2)
/-- hansom/hansomref05.Near -/
def F7 : Fn := { np := 1, pb := [], rs := [.c 2 (some 10)], body := F7c0 }
def F8o1 : List Ao := [
  o3 1 (.box 10) [.t 0],
  o3 2 .mv [.c (.nils)],
  o3 3 .mv [.c (.d (.int .i64 0))]]
def F8o4 : List Ao := [
  o3 7 (.load (some 10)) [.t 1],
  o3 8 (.callf 21) [.t 7],
  o3 9 (.un .not) [.t 8]]
def F8o7 : List Ao := [
  o3 2 .mv [.c (.nils)],
  o3 3 .mv [.c (.d (.int .i64 1))]]
def F8c8 : Ac := (.seq (.gh [.frz 2]) .ret)
def F8c5 : Ac := (.cond (.t 9) (.seq (.ops F8o7) F8c8) .skip)
def F8o11 : List Ao := [
  o3 11 (.load (some 10)) [.t 1],
  o3 12 (.callf 22) [.t 11],
  o3 10 .mv [.t 12],
  o3 13 (.extract 0) [.t 10],
  o3 14 (.extract 1) [.t 10],
  o3 4 (.alloc [.d (.int .i64 0), .d (.int .i64 0), .d (.int .i64 0), .d (.bool false)]) [],
  o0 (.store 4) [.t 4, .t 13],
  o3 5 .mv [.t 14]]
def F8o13 : List Ao := [
  { dst := some 15, k := (.load (some 10)), xs := [.t 1], av := [[19]] },
  { dst := some 16, k := (.callf 23), xs := [.t 15], av := [[19]], al := some [] },
  o3 17 (.faddr 3) [.t 1],
  { dst := some 18, k := (.load none), xs := [.t 17], av := [[16]] },
  { dst := some 19, k := (.bslice (.int .u8 0) 1 [0]), xs := [.t 18], av := [[16]] },
  o3 20 (.append 1 1 false) [.t 16, .t 19],
  o3 6 .mv [.t 20]]
def F8o16 : List Ao := [
  o3 21 (.faddr 3) [.t 4],
  o3 22 (.load none) [.t 21]]
def F8o19 : List Ao := [
  o3 23 .mv [.t 6],
  o3 24 (.faddr 4) [.t 1],
  o3 25 (.load none) [.t 24],
  o3 26 (.bin .shl) [.t 25, .c (.d (.int .u64 6))],
  o3 27 (.faddr 5) [.t 1],
  o3 28 (.load none) [.t 27],
  o3 29 (.bin .shl) [.t 28, .c (.d (.int .u64 3))],
  o3 30 (.bin .or) [.t 26, .t 29],
  o3 31 (.faddr 6) [.t 1],
  o3 32 (.load none) [.t 31],
  o3 33 (.bin .or) [.t 30, .t 32],
  o3 34 (.toInt .u8) [.t 33],
  o3 35 (.bslice (.int .u8 0) 1 [0]) [.t 34],
  o3 36 (.append 1 1 false) [.t 23, .t 35],
  o3 6 .mv [.t 36]]
def F8o21 : List Ao := [
  o3 37 (.faddr 4) [.t 1],
  o3 38 (.load none) [.t 37],
  o3 39 (.faddr 6) [.t 1],
  o3 40 (.load none) [.t 39],
  o3 41 (.callf 24) [.t 38, .t 40]]
def F8o24 : List Ao := [
  o3 43 (.bin .eql) [.t 41, .c (.d (.int .i64 1))],
  o3 42 .mv [.t 43]]
def F8o26 : List Ao := [
  o3 44 .mv [.t 6],
  o3 45 (.faddr 7) [.t 1],
  o3 46 (.load none) [.t 45],
  o3 47 (.callf 25) [.t 46],
  o3 48 (.bslice (.int .u8 0) 1 [0]) [.t 47],
  o3 49 (.append 1 1 false) [.t 44, .t 48],
  o3 6 .mv [.t 49]]
def F8o28 : List Ao := [
  o3 51 (.bin .eql) [.t 41, .c (.d (.int .i64 2))],
  o3 50 .mv [.t 51]]
def F8o30 : List Ao := [
  o3 52 .mv [.t 6],
  o3 53 (.faddr 7) [.t 1],
  o3 54 (.load none) [.t 53],
  { dst := some 55, k := (.callf 25), xs := [.t 54], al := some [] },
  o3 56 (.faddr 7) [.t 1],
  { dst := some 57, k := (.load none), xs := [.t 56], av := [[55]] },
  o3 58 (.callf 26) [.t 57],
  o3 59 (.bslice (.int .u8 0) 2 [0, 1]) [.t 55, .t 58],
  o3 60 (.append 1 1 false) [.t 52, .t 59],
  o3 6 .mv [.t 60]]
def F8c29 : Ac := (.cond (.t 50) (.ops F8o30) .skip)
def F8c25 : Ac := (.cond (.t 42) (.ops F8o26) (.seq (.ops F8o28) F8c29))
def F8c22 : Ac := (.block 0 (.seq (.ops F8o24) F8c25))
def F8c20 : Ac := (.seq (.ops F8o21) F8c22)
def F8c17 : Ac := (.cond (.t 22) (.seq (.ops F8o19) F8c20) .skip)
def F8o35 : List Ao := [
  o3 61 (.load (some 4)) [.t 4],
  o3 62 (.callf 27) [.t 61]]
def F8o38 : List Ao := [
  o3 64 (.bin .eql) [.t 62, .c (.d (.int .i64 1))],
  o3 63 .mv [.t 64]]
def F8o40 : List Ao := [
  o3 65 .mv [.t 6],
  o3 66 (.faddr 8) [.t 1],
  o3 67 (.load none) [.t 66],
  o3 68 (.callf 25) [.t 67],
  o3 69 (.bslice (.int .u8 0) 1 [0]) [.t 68],
  o3 70 (.append 1 1 false) [.t 65, .t 69],
  o3 6 .mv [.t 70]]
def F8o42 : List Ao := [
  o3 72 (.bin .eql) [.t 62, .c (.d (.int .i64 2))],
  o3 71 .mv [.t 72]]
def F8o44 : List Ao := [
  o3 73 .mv [.t 6],
  o3 74 (.faddr 8) [.t 1],
  o3 75 (.load none) [.t 74],
  { dst := some 76, k := (.callf 25), xs := [.t 75], al := some [] },
  o3 77 (.faddr 8) [.t 1],
  { dst := some 78, k := (.load none), xs := [.t 77], av := [[76]] },
  o3 79 (.callf 26) [.t 78],
  o3 80 (.bslice (.int .u8 0) 2 [0, 1]) [.t 76, .t 79],
  o3 81 (.append 1 1 false) [.t 73, .t 80],
  o3 6 .mv [.t 81]]
def F8o46 : List Ao := [
  o3 83 (.bin .eql) [.t 62, .c (.d (.int .i64 4))],
  o3 82 .mv [.t 83]]
def F8o48 : List Ao := [
  o3 84 .mv [.t 6],
  o3 85 (.faddr 8) [.t 1],
  o3 86 (.load none) [.t 85],
  { dst := some 87, k := (.callf 25), xs := [.t 86], al := some [] },
  o3 88 (.faddr 8) [.t 1],
  { dst := some 89, k := (.load none), xs := [.t 88], av := [[87]] },
  { dst := some 90, k := (.callf 26), xs := [.t 89], al := some [] },
  o3 91 (.faddr 9) [.t 1],
  { dst := some 92, k := (.load none), xs := [.t 91], av := [[87], [90]] },
  { dst := some 93, k := (.callf 25), xs := [.t 92], al := some [] },
  o3 94 (.faddr 9) [.t 1],
  { dst := some 95, k := (.load none), xs := [.t 94], av := [[87], [90], [93]] },
  o3 96 (.callf 26) [.t 95],
  o3 97 (.bslice (.int .u8 0) 4 [0, 1, 2, 3]) [.t 87, .t 90, .t 93, .t 96],
  o3 98 (.append 1 1 false) [.t 84, .t 97],
  o3 6 .mv [.t 98]]
def F8c47 : Ac := (.cond (.t 82) (.ops F8o48) .skip)
def F8c43 : Ac := (.cond (.t 71) (.ops F8o44) (.seq (.ops F8o46) F8c47))
def F8c39 : Ac := (.cond (.t 63) (.ops F8o40) (.seq (.ops F8o42) F8c43))
def F8c36 : Ac := (.block 1 (.seq (.ops F8o38) F8c39))
def F8o51 : List Ao := [
  o3 99 .mv [.t 6],
  o3 2 .mv [.t 99],
  o3 3 .mv [.c (.d (.int .i64 0))]]
def F8c52 : Ac := (.seq (.gh [.frz 2]) .ret)
def F8c50 : Ac := (.seq (.ops F8o51) F8c52)
def F8b33 : Ac := (.seq (.seq (.ops F8o35) F8c36) F8c50)
def F8c33 : Ac := (.seq (.gh []) (.seq (.keep [1, 4, 6] [[1], [4], [16]]) F8b33))
def F8c14 : Ac := (.seq (.seq (.ops F8o16) F8c17) F8c33)
def F8c12 : Ac := (.seq (.ops F8o13) F8c14)
def F8c10 : Ac := (.seq (.ops F8o11) F8c12)
def F8c2 : Ac := (.seq (.seq (.ops F8o4) F8c5) F8c10)
def F8c0 : Ac := (.seq (.ops F8o1) F8c2)
/-- hansom/code.Put -/
def F8 : Fn := { np := 1, pb := [], rs := [.t 2, .t 3], body := F8c0 }
def F9o1 : List Ao := [
  o3 1 (.box 10) [.t 0],
  o3 2 .mv [.c (.d (.bool false))]]
def F9o3 : List Ao := [
  o3 9 (.load (some 10)) [.t 1],
  o3 10 (.callf 13) [.t 9],
  o3 8 .mv [.t 10],
  o3 11 (.extract 0) [.t 8],
  o3 12 (.extract 1) [.t 8],
  o3 3 (.alloc [.d (.int .i64 0), .d (.int .i64 0), .d (.int .i64 0), .d (.bool false)]) [],
  o0 (.store 4) [.t 3, .t 11],
  o3 4 .mv [.t 12]]
def F9o6 : List Ao := [
  o3 13 .mv [.t 4],
  o3 14 (.un .not) [.t 13],
  o3 15 .mv [.t 14],
  og 16 (.faddr 2) [.t 1] 15 false,
  og 17 (.load none) [.t 16] 15 false,
  og 18 (.bin .lss) [.t 17, .c (.d (.int .i64 0))] 15 false,
  o3 19 .pick [.t 15, .c (.d (.bool true)), .t 18],
  o3 20 .mv [.t 19],
  og 21 (.faddr 2) [.t 1] 20 false,
  og 22 (.load none) [.t 21] 20 false,
  og 23 (.bin .gtr) [.t 22, .c (.d (.int .i64 4))] 20 false,
  o3 24 .pick [.t 20, .c (.d (.bool true)), .t 23]]
def F9o9 : List Ao := [
  o3 2 .mv [.c (.d (.bool false))]]
def F9c10 : Ac := .ret
def F9c7 : Ac := (.cond (.t 24) (.seq (.ops F9o9) F9c10) .skip)
def F9o13 : List Ao := [
  o3 25 (.faddr 0) [.t 3],
  o3 26 (.load none) [.t 25],
  o3 27 (.callf 20) [.t 26],
  o3 5 .mv [.t 27]]
def F9o16 : List Ao := [
  o3 28 (.faddr 1) [.t 1],
  o3 29 (.load none) [.t 28],
  o3 30 (.bin .lss) [.t 29, .c (.d (.int .i64 0))],
  o3 31 .mv [.t 30],
  og 32 (.faddr 1) [.t 1] 31 false,
  og 33 (.load none) [.t 32] 31 false,
  og 34 (.bin .gtr) [.t 33, .c (.d (.int .i64 2))] 31 false,
  o3 35 .pick [.t 31, .c (.d (.bool true)), .t 34],
  o3 36 .mv [.t 35],
  og 37 (.faddr 1) [.t 1] 36 false,
  og 38 (.load none) [.t 37] 36 false,
  og 39 (.bin .eql) [.t 38, .c (.d (.int .i64 1))] 36 false,
  og 40 .mv [.t 39] 36 false,
  og 41 .mv [.t 5] 40 true,
  og 42 (.bin .lss) [.t 41, .c (.d (.int .i64 2))] 40 true,
  og 43 .pick [.t 40, .t 42, .c (.d (.bool false))] 36 false,
  o3 44 .pick [.t 36, .c (.d (.bool true)), .t 43],
  o3 45 .mv [.t 44],
  og 46 (.faddr 1) [.t 1] 45 false,
  og 47 (.load none) [.t 46] 45 false,
  og 48 (.bin .eql) [.t 47, .c (.d (.int .i64 2))] 45 false,
  og 49 .mv [.t 48] 45 false,
  og 50 .mv [.t 5] 49 true,
  og 51 (.bin .lss) [.t 50, .c (.d (.int .i64 1))] 49 true,
  og 52 .pick [.t 49, .t 51, .c (.d (.bool false))] 45 false,
  o3 53 .pick [.t 45, .c (.d (.bool true)), .t 52]]
def F9o19 : List Ao := [
  o3 2 .mv [.c (.d (.bool false))]]
def F9c20 : Ac := .ret
def F9c17 : Ac := (.cond (.t 53) (.seq (.ops F9o19) F9c20) .skip)
def F9o24 : List Ao := [
  o3 54 (.faddr 3) [.t 3],
  o3 55 (.load none) [.t 54],
  o3 56 (.un .not) [.t 55]]
def F9o27 : List Ao := [
  o3 57 (.faddr 4) [.t 1],
  o3 58 (.load none) [.t 57],
  o3 59 (.bin .neq) [.t 58, .c (.d (.int .i64 0))],
  o3 60 .mv [.t 59],
  og 61 (.faddr 5) [.t 1] 60 false,
  og 62 (.load none) [.t 61] 60 false,
  og 63 (.bin .neq) [.t 62, .c (.d (.int .i64 0))] 60 false,
  o3 64 .pick [.t 60, .c (.d (.bool true)), .t 63],
  o3 65 .mv [.t 64],
  og 66 (.faddr 6) [.t 1] 65 false,
  og 67 (.load none) [.t 66] 65 false,
  og 68 (.bin .neq) [.t 67, .c (.d (.int .i64 0))] 65 false,
  o3 69 .pick [.t 65, .c (.d (.bool true)), .t 68],
  o3 70 .mv [.t 69],
  og 71 (.faddr 7) [.t 1] 70 false,
  og 72 (.load none) [.t 71] 70 false,
  og 73 (.bin .neq) [.t 72, .c (.d (.int .u16 0))] 70 false,
  o3 74 .pick [.t 70, .c (.d (.bool true)), .t 73]]
def F9o30 : List Ao := [
  o3 2 .mv [.c (.d (.bool false))]]
def F9c31 : Ac := .ret
def F9c28 : Ac := (.cond (.t 74) (.seq (.ops F9o30) F9c31) .skip)
def F9o35 : List Ao := [
  o3 75 (.faddr 4) [.t 1],
  o3 76 (.load none) [.t 75],
  o3 77 (.bin .lss) [.t 76, .c (.d (.int .i64 0))],
  o3 78 .mv [.t 77],
  og 79 (.faddr 4) [.t 1] 78 false,
  og 80 (.load none) [.t 79] 78 false,
  og 81 (.bin .gtr) [.t 80, .c (.d (.int .i64 3))] 78 false,
  o3 82 .pick [.t 78, .c (.d (.bool true)), .t 81],
  o3 83 .mv [.t 82],
  og 84 (.faddr 5) [.t 1] 83 false,
  og 85 (.load none) [.t 84] 83 false,
  og 86 (.bin .lss) [.t 85, .c (.d (.int .i64 0))] 83 false,
  o3 87 .pick [.t 83, .c (.d (.bool true)), .t 86],
  o3 88 .mv [.t 87],
  og 89 (.faddr 5) [.t 1] 88 false,
  og 90 (.load none) [.t 89] 88 false,
  og 91 (.bin .gtr) [.t 90, .c (.d (.int .i64 7))] 88 false,
  o3 92 .pick [.t 88, .c (.d (.bool true)), .t 91],
  o3 93 .mv [.t 92],
  og 94 (.faddr 6) [.t 1] 93 false,
  og 95 (.load none) [.t 94] 93 false,
  og 96 (.bin .lss) [.t 95, .c (.d (.int .i64 0))] 93 false,
  o3 97 .pick [.t 93, .c (.d (.bool true)), .t 96],
  o3 98 .mv [.t 97],
  og 99 (.faddr 6) [.t 1] 98 false,
  og 100 (.load none) [.t 99] 98 false,
  og 101 (.bin .gtr) [.t 100, .c (.d (.int .i64 7))] 98 false,
  o3 102 .pick [.t 98, .c (.d (.bool true)), .t 101]]
def F9o38 : List Ao := [
  o3 2 .mv [.c (.d (.bool false))]]
def F9c39 : Ac := .ret
def F9c36 : Ac := (.cond (.t 102) (.seq (.ops F9o38) F9c39) .skip)
def F9o43 : List Ao := [
  o3 103 (.faddr 4) [.t 1],
  o3 104 (.load none) [.t 103],
  o3 105 (.bin .eql) [.t 104, .c (.d (.int .i64 3))],
  o3 106 .mv [.t 105],
  og 107 (.faddr 1) [.t 3] 106 true,
  og 108 (.load none) [.t 107] 106 true,
  og 109 (.bin .eql) [.t 108, .c (.d (.int .i64 19))] 106 true,
  og 110 .mv [.t 109] 106 true,
  og 111 (.faddr 1) [.t 3] 110 false,
  og 112 (.load none) [.t 111] 110 false,
  og 113 (.bin .eql) [.t 112, .c (.d (.int .i64 20))] 110 false,
  og 114 .pick [.t 110, .c (.d (.bool true)), .t 113] 106 true,
  og 115 .mv [.t 114] 106 true,
  og 116 (.faddr 2) [.t 3] 115 false,
  og 117 (.load none) [.t 116] 115 false,
  og 118 (.bin .eql) [.t 117, .c (.d (.int .i64 19))] 115 false,
  og 119 .pick [.t 115, .c (.d (.bool true)), .t 118] 106 true,
  og 120 .mv [.t 119] 106 true,
  og 121 (.faddr 2) [.t 3] 120 false,
  og 122 (.load none) [.t 121] 120 false,
  og 123 (.bin .eql) [.t 122, .c (.d (.int .i64 20))] 120 false,
  og 124 .pick [.t 120, .c (.d (.bool true)), .t 123] 106 true,
  o3 125 .pick [.t 106, .t 124, .c (.d (.bool false))]]
def F9o46 : List Ao := [
  o3 2 .mv [.c (.d (.bool false))]]
def F9c47 : Ac := .ret
def F9c44 : Ac := (.cond (.t 125) (.seq (.ops F9o46) F9c47) .skip)
def F9o50 : List Ao := [
  o3 126 (.faddr 4) [.t 1],
  o3 127 (.load none) [.t 126],
  o3 128 (.faddr 6) [.t 1],
  o3 129 (.load none) [.t 128],
  o3 130 (.callf 17) [.t 127, .t 129],
  o3 6 .mv [.t 130]]
def F9o52 : List Ao := [
  o3 131 .mv [.t 6],
  o3 132 (.bin .eql) [.t 131, .c (.d (.int .i64 0))],
  o3 133 .mv [.t 132],
  og 134 (.faddr 7) [.t 1] 133 true,
  og 135 (.load none) [.t 134] 133 true,
  og 136 (.bin .neq) [.t 135, .c (.d (.int .u16 0))] 133 true,
  o3 137 .pick [.t 133, .t 136, .c (.d (.bool false))],
  o3 138 .mv [.t 137],
  og 139 .mv [.t 6] 138 false,
  og 140 (.bin .eql) [.t 139, .c (.d (.int .i64 1))] 138 false,
  og 141 .mv [.t 140] 138 false,
  og 142 (.faddr 7) [.t 1] 141 true,
  og 143 (.load none) [.t 142] 141 true,
  og 144 (.callf 28) [.t 143] 141 true,
  og 145 (.un .not) [.t 144] 141 true,
  og 146 .pick [.t 141, .t 145, .c (.d (.bool false))] 138 false,
  o3 147 .pick [.t 138, .c (.d (.bool true)), .t 146]]
def F9o55 : List Ao := [
  o3 2 .mv [.c (.d (.bool false))]]
def F9c56 : Ac := .ret
def F9c53 : Ac := (.cond (.t 147) (.seq (.ops F9o55) F9c56) .skip)
def F9c51 : Ac := (.seq (.ops F9o52) F9c53)
def F9b49 : Ac := (.seq (.ops F9o50) F9c51)
def F9c49 : Ac := (.seq (.gh []) (.seq (.keep [1, 3] [[1], [3]]) F9b49))
def F9c41 : Ac := (.seq (.seq (.ops F9o43) F9c44) F9c49)
def F9c25 : Ac := (.cond (.t 56) (.seq (.ops F9o27) F9c28) (.seq (.seq (.ops F9o35) F9c36) F9c41))
def F9o59 : List Ao := [
  o3 148 (.faddr 1) [.t 3],
  o3 149 (.load none) [.t 148],
  o3 7 .mv [.t 149]]
def F9o62 : List Ao := [
  o3 150 .mv [.t 7],
  o3 151 (.callf 19) [.t 150],
  o3 152 (.bin .eql) [.t 151, .c (.d (.int .i64 0))]]
def F9o64 : List Ao := [
  o3 153 (.faddr 2) [.t 3],
  o3 154 (.load none) [.t 153],
  o3 7 .mv [.t 154]]
def F9c63 : Ac := (.cond (.t 152) (.ops F9o64) .skip)
def F9o68 : List Ao := [
  o3 155 .mv [.t 7]]
def F9o71 : List Ao := [
  o3 157 (.bin .eql) [.t 155, .c (.d (.int .i64 6))],
  o3 156 .mv [.t 157]]
def F9o74 : List Ao := [
  o3 158 (.faddr 8) [.t 1],
  o3 159 (.load none) [.t 158],
  o3 160 (.bin .lss) [.t 159, .c (.d (.int .u16 256))],
  o3 161 .mv [.t 160],
  og 162 (.faddr 9) [.t 1] 161 true,
  og 163 (.load none) [.t 162] 161 true,
  og 164 (.bin .eql) [.t 163, .c (.d (.int .u16 0))] 161 true,
  o3 165 .pick [.t 161, .t 164, .c (.d (.bool false))],
  o3 166 .mv [.t 165],
  og 167 (.faddr 0) [.t 3] 166 true,
  og 168 (.load none) [.t 167] 166 true,
  og 169 (.bin .neq) [.t 168, .c (.d (.int .i64 70))] 166 true,
  og 170 .mv [.t 169] 166 true,
  og 171 (.faddr 0) [.t 3] 170 true,
  og 172 (.load none) [.t 171] 170 true,
  og 173 (.bin .neq) [.t 172, .c (.d (.int .i64 71))] 170 true,
  og 174 .pick [.t 170, .t 173, .c (.d (.bool false))] 166 true,
  og 175 .mv [.t 174] 166 true,
  og 176 (.faddr 8) [.t 1] 175 false,
  og 177 (.load none) [.t 176] 175 false,
  og 178 (.bin .eql) [.t 177, .c (.d (.int .u16 10))] 175 false,
  og 179 .pick [.t 175, .c (.d (.bool true)), .t 178] 166 true,
  o3 180 .pick [.t 166, .t 179, .c (.d (.bool false))],
  o3 2 .mv [.t 180]]
def F9c75 : Ac := .ret
def F9o78 : List Ao := [
  o3 182 (.bin .eql) [.t 155, .c (.d (.int .i64 8))],
  o3 181 .mv [.t 182]]
def F9o81 : List Ao := [
  o3 183 (.bin .eql) [.t 155, .c (.d (.int .i64 9))],
  o3 181 .mv [.t 183]]
def F9c79 : Ac := (.cond (.t 181) .skip (.ops F9o81))
def F9o84 : List Ao := [
  o3 184 (.faddr 8) [.t 1],
  o3 185 (.load none) [.t 184],
  o3 186 (.callf 28) [.t 185],
  o3 187 .mv [.t 186],
  og 188 (.faddr 9) [.t 1] 187 true,
  og 189 (.load none) [.t 188] 187 true,
  og 190 (.bin .eql) [.t 189, .c (.d (.int .u16 0))] 187 true,
  o3 191 .pick [.t 187, .t 190, .c (.d (.bool false))],
  o3 2 .mv [.t 191]]
def F9c85 : Ac := .ret
def F9o88 : List Ao := [
  o3 193 (.bin .eql) [.t 155, .c (.d (.int .i64 7))],
  o3 192 .mv [.t 193]]
def F9o92 : List Ao := [
  o3 194 (.bin .eql) [.t 155, .c (.d (.int .i64 10))],
  o3 192 .mv [.t 194]]
def F9o96 : List Ao := [
  o3 195 (.bin .eql) [.t 155, .c (.d (.int .i64 12))],
  o3 192 .mv [.t 195]]
def F9o99 : List Ao := [
  o3 196 (.bin .eql) [.t 155, .c (.d (.int .i64 13))],
  o3 192 .mv [.t 196]]
def F9c97 : Ac := (.cond (.t 192) .skip (.ops F9o99))
def F9c93 : Ac := (.cond (.t 192) .skip (.seq (.ops F9o96) F9c97))
def F9c89 : Ac := (.cond (.t 192) .skip (.seq (.ops F9o92) F9c93))
def F9o102 : List Ao := [
  o3 197 (.faddr 9) [.t 1],
  o3 198 (.load none) [.t 197],
  o3 199 (.bin .eql) [.t 198, .c (.d (.int .u16 0))],
  o3 2 .mv [.t 199]]
def F9c103 : Ac := .ret
def F9o105 : List Ao := [
  o3 201 (.bin .eql) [.t 155, .c (.d (.int .i64 11))],
  o3 200 .mv [.t 201]]
def F9o108 : List Ao := [
  o3 2 .mv [.c (.d (.bool true))]]
def F9c109 : Ac := .ret
def F9c106 : Ac := (.cond (.t 200) (.seq (.ops F9o108) F9c109) .skip)
def F9c100 : Ac := (.cond (.t 192) (.seq (.ops F9o102) F9c103) (.seq (.ops F9o105) F9c106))
def F9b82 : Ac := (.cond (.t 181) (.seq (.ops F9o84) F9c85) (.seq (.seq (.ops F9o88) F9c89) F9c100))
def F9c82 : Ac := (.seq (.gh []) (.seq (.keep [1, 155, 181] [[1]]) F9b82))
def F9c72 : Ac := (.cond (.t 156) (.seq (.ops F9o74) F9c75) (.seq (.seq (.ops F9o78) F9c79) F9c82))
def F9c69 : Ac := (.block 0 (.seq (.ops F9o71) F9c72))
def F9o112 : List Ao := [
  o3 202 (.faddr 8) [.t 1],
  o3 203 (.load none) [.t 202],
  o3 204 (.bin .eql) [.t 203, .c (.d (.int .u16 0))],
  o3 205 .mv [.t 204],
  og 206 (.faddr 9) [.t 1] 205 true,
  og 207 (.load none) [.t 206] 205 true,
  og 208 (.bin .eql) [.t 207, .c (.d (.int .u16 0))] 205 true,
  o3 209 .pick [.t 205, .t 208, .c (.d (.bool false))],
  o3 2 .mv [.t 209]]
def F9c113 : Ac := .ret
def F9c111 : Ac := (.seq (.ops F9o112) F9c113)
def F9b66 : Ac := (.seq (.seq (.ops F9o68) F9c69) F9c111)
def F9c66 : Ac := (.seq (.gh []) (.seq (.keep [1, 3, 7] [[1], [3]]) F9b66))
def F9c60 : Ac := (.seq (.seq (.ops F9o62) F9c63) F9c66)
def F9b58 : Ac := (.seq (.ops F9o59) F9c60)
def F9c58 : Ac := (.seq (.gh []) (.seq (.keep [1, 3] [[1], [3]]) F9b58))
def F9b22 : Ac := (.seq (.seq (.ops F9o24) F9c25) F9c58)
def F9c22 : Ac := (.seq (.gh []) (.seq (.keep [1, 3] [[1], [3]]) F9b22))
def F9c14 : Ac := (.seq (.seq (.ops F9o16) F9c17) F9c22)
def F9c12 : Ac := (.seq (.ops F9o13) F9c14)
def F9c4 : Ac := (.seq (.seq (.ops F9o6) F9c7) F9c12)
def F9c2 : Ac := (.seq (.ops F9o3) F9c4)
def F9c0 : Ac := (.seq (.ops F9o1) F9c2)
/-- hansom/hansomref05.May -/
def F9 : Fn := { np := 1, pb := [], rs := [.t 2], body := F9c0 }
def F10o1 : List Ao := [
  o3 0 .mv [.c (.d (.bool false))]]
def F10o3 : List Ao := [
  o3 4 (.build [.d (.bool false), .d (.int .i64 0), .d (.int .i64 0), .d (.int .u8 0), .d (.int .i64 0), .d (.int .i64 0), .d (.int .i64 0), .d (.int .u16 0), .d (.int .u16 0), .d (.int .u16 0)] [(3, 1), (8, 1)]) [.c (.d (.int .u8 184)), .c (.d (.int .u16 4660))],
  o3 5 (.callf 8) [.t 4],
  o3 3 .mv [.t 5],
  o3 6 (.extract 0) [.t 3],
  o3 7 (.extract 1) [.t 3],
  o3 1 .mv [.t 6],
  o3 2 .mv [.t 7]]
def F10o5 : List Ao := [
  o3 8 .mv [.t 2],
  o3 9 (.bin .eql) [.t 8, .c (.d (.int .i64 0))],
  o3 10 .mv [.t 9],
  og 11 .mv [.t 1] 10 true,
  og 12 .bytesStr [.t 11] 10 true,
  og 13 (.bin .eql) [.t 12, .c (.d (.str [184, 52, 18]))] 10 true,
  o3 14 .pick [.t 10, .t 13, .c (.d (.bool false))],
  o3 0 .mv [.t 14]]
def F10c6 : Ac := .ret
def F10c4 : Ac := (.seq (.ops F10o5) F10c6)
def F10c2 : Ac := (.seq (.ops F10o3) F10c4)
def F10c0 : Ac := (.seq (.ops F10o1) F10c2)
/-- hansom/hansomlaw06.awake -/
def F10 : Fn := { np := 0, pb := [], rs := [.t 0], body := F10c0 }
def F13o1 : List Ao := [
  o3 1 (.box 10) [.t 0],
  o3 2 (.alloc [.d (.int .i64 0), .d (.int .i64 0), .d (.int .i64 0), .d (.bool false)]) [],
  o3 3 .mv [.c (.d (.bool false))]]
def F13o4 : List Ao := [
  o3 4 (.faddr 3) [.t 1],
  o3 5 (.load none) [.t 4],
  o3 6 (.callf 30) [.t 5]]
def F13o7 : List Ao := [
  o3 7 (.build [.d (.int .i64 0), .d (.int .i64 0), .d (.int .i64 0), .d (.bool false)] []) [],
  o0 (.store 4) [.t 2, .t 7],
  o3 3 .mv [.c (.d (.bool false))]]
def F13c8 : Ac := .ret
def F13c5 : Ac := (.cond (.t 6) (.seq (.ops F13o7) F13c8) .skip)
def F13o11 : List Ao := [
  o3 8 (.faddr 3) [.t 1],
  o3 9 (.load none) [.t 8],
  o3 10 (.faddr 5) [.t 1],
  o3 11 (.load none) [.t 10],
  o3 12 (.callf 31) [.t 9, .t 11],
  o3 13 (.extract 0) [.t 12],
  o3 14 (.extract 1) [.t 12],
  o0 (.store 4) [.t 2, .t 13],
  o3 3 .mv [.t 14]]
def F13c12 : Ac := .ret
def F13c10 : Ac := (.seq (.ops F13o11) F13c12)
def F13c2 : Ac := (.seq (.seq (.ops F13o4) F13c5) F13c10)
def F13c0 : Ac := (.seq (.ops F13o1) F13c2)
/-- hansom/hansomref05.Row -/
def F13 : Fn := { np := 1, pb := [], rs := [.c 2 (some 4), .t 3], body := F13c0 }
def F17o1 : List Ao := [
  o3 4 .mv [.c (.d (.int .i64 0))]]
def F17o4 : List Ao := [
  o3 5 .mv [.t 0],
  o3 6 (.bin .eql) [.t 5, .c (.d (.int .i64 1))]]
def F17o7 : List Ao := [
  o3 4 .mv [.c (.d (.int .i64 1))]]
def F17c8 : Ac := .ret
def F17c5 : Ac := (.cond (.t 6) (.seq (.ops F17o7) F17c8) .skip)
def F17o12 : List Ao := [
  o3 7 .mv [.t 0],
  o3 8 (.bin .eql) [.t 7, .c (.d (.int .i64 2))],
  o3 9 .mv [.t 8],
  og 10 .mv [.t 0] 9 false,
  og 11 (.bin .eql) [.t 10, .c (.d (.int .i64 0))] 9 false,
  og 12 .mv [.t 11] 9 false,
  og 13 .mv [.t 1] 12 true,
  og 14 (.bin .eql) [.t 13, .c (.d (.int .i64 6))] 12 true,
  og 15 .pick [.t 12, .t 14, .c (.d (.bool false))] 9 false,
  o3 16 .pick [.t 9, .c (.d (.bool true)), .t 15]]
def F17o15 : List Ao := [
  o3 4 .mv [.c (.d (.int .i64 2))]]
def F17c16 : Ac := .ret
def F17c13 : Ac := (.cond (.t 16) (.seq (.ops F17o15) F17c16) .skip)
def F17o19 : List Ao := [
  o3 4 .mv [.c (.d (.int .i64 0))]]
def F17c20 : Ac := .ret
def F17c18 : Ac := (.seq (.ops F17o19) F17c20)
def F17c10 : Ac := (.seq (.seq (.ops F17o12) F17c13) F17c18)
def F17c2 : Ac := (.seq (.seq (.ops F17o4) F17c5) F17c10)
def F17c0 : Ac := (.seq (.ops F17o1) F17c2)
/-- hansom/hansomref05.Disps -/
def F17 : Fn := { np := 2, pb := [], rs := [.t 4], body := F17c0 }
def F18o1 : List Ao := [
  o3 2 .mv [.c (.d (.int .u16 0))]]
def F18o4 : List Ao := [
  o3 3 .mv [.t 0],
  o3 4 (.bin .lss) [.t 3, .c (.d (.int .u8 128))]]
def F18o7 : List Ao := [
  o3 5 .mv [.t 0],
  o3 6 (.toInt .u16) [.t 5],
  o3 2 .mv [.t 6]]
def F18c8 : Ac := .ret
def F18c5 : Ac := (.cond (.t 4) (.seq (.ops F18o7) F18c8) .skip)
def F18o11 : List Ao := [
  o3 7 .mv [.t 0],
  o3 8 (.toInt .u16) [.t 7],
  o3 9 (.bin .add) [.c (.d (.int .u16 65280)), .t 8],
  o3 2 .mv [.t 9]]
def F18c12 : Ac := .ret
def F18c10 : Ac := (.seq (.ops F18o11) F18c12)
def F18c2 : Ac := (.seq (.seq (.ops F18o4) F18c5) F18c10)
def F18c0 : Ac := (.seq (.ops F18o1) F18c2)
/-- hansom/hansomref01.Sign -/
def F18 : Fn := { np := 1, pb := [], rs := [.t 2], body := F18c0 }
def F19o1 : List Ao := [
  o3 2 .mv [.c (.d (.int .i64 0))]]
def F19o4 : List Ao := [
  o3 3 .mv [.t 0]]
def F19o8 : List Ao := [
  o3 5 (.bin .eql) [.t 3, .c (.d (.int .i64 6))],
  o3 4 .mv [.t 5]]
def F19o12 : List Ao := [
  o3 6 (.bin .eql) [.t 3, .c (.d (.int .i64 8))],
  o3 4 .mv [.t 6]]
def F19o15 : List Ao := [
  o3 7 (.bin .eql) [.t 3, .c (.d (.int .i64 9))],
  o3 4 .mv [.t 7]]
def F19c13 : Ac := (.cond (.t 4) .skip (.ops F19o15))
def F19c9 : Ac := (.cond (.t 4) .skip (.seq (.ops F19o12) F19c13))
def F19o18 : List Ao := [
  o3 2 .mv [.c (.d (.int .i64 1))]]
def F19c19 : Ac := .ret
def F19o22 : List Ao := [
  o3 9 (.bin .eql) [.t 3, .c (.d (.int .i64 7))],
  o3 8 .mv [.t 9]]
def F19o26 : List Ao := [
  o3 10 (.bin .eql) [.t 3, .c (.d (.int .i64 10))],
  o3 8 .mv [.t 10]]
def F19o30 : List Ao := [
  o3 11 (.bin .eql) [.t 3, .c (.d (.int .i64 12))],
  o3 8 .mv [.t 11]]
def F19o33 : List Ao := [
  o3 12 (.bin .eql) [.t 3, .c (.d (.int .i64 13))],
  o3 8 .mv [.t 12]]
def F19c31 : Ac := (.cond (.t 8) .skip (.ops F19o33))
def F19c27 : Ac := (.cond (.t 8) .skip (.seq (.ops F19o30) F19c31))
def F19c23 : Ac := (.cond (.t 8) .skip (.seq (.ops F19o26) F19c27))
def F19o36 : List Ao := [
  o3 2 .mv [.c (.d (.int .i64 2))]]
def F19c37 : Ac := .ret
def F19o39 : List Ao := [
  o3 14 (.bin .eql) [.t 3, .c (.d (.int .i64 11))],
  o3 13 .mv [.t 14]]
def F19o42 : List Ao := [
  o3 2 .mv [.c (.d (.int .i64 4))]]
def F19c43 : Ac := .ret
def F19c40 : Ac := (.cond (.t 13) (.seq (.ops F19o42) F19c43) .skip)
def F19c34 : Ac := (.cond (.t 8) (.seq (.ops F19o36) F19c37) (.seq (.ops F19o39) F19c40))
def F19b16 : Ac := (.cond (.t 4) (.seq (.ops F19o18) F19c19) (.seq (.seq (.ops F19o22) F19c23) F19c34))
def F19c16 : Ac := (.seq (.gh []) (.seq (.keep [3, 4] []) F19b16))
def F19c5 : Ac := (.block 0 (.seq (.seq (.ops F19o8) F19c9) F19c16))
def F19o46 : List Ao := [
  o3 2 .mv [.c (.d (.int .i64 0))]]
def F19c47 : Ac := .ret
def F19c45 : Ac := (.seq (.ops F19o46) F19c47)
def F19c2 : Ac := (.seq (.seq (.ops F19o4) F19c5) F19c45)
def F19c0 : Ac := (.seq (.ops F19o1) F19c2)
/-- hansom/hansomref04.Bytes -/
def F19 : Fn := { np := 1, pb := [], rs := [.t 2], body := F19c0 }
def F20o1 : List Ao := [
  o3 2 .mv [.c (.d (.int .i64 0))]]
def F20o4 : List Ao := [
  o3 3 .mv [.t 0],
  o3 4 (.callf 38) [.t 3]]
def F20o8 : List Ao := [
  o3 6 (.bin .eql) [.t 4, .c (.d (.str [77, 79, 86, 83, 66]))],
  o3 5 .mv [.t 6]]
def F20o12 : List Ao := [
  o3 7 (.bin .eql) [.t 4, .c (.d (.str [77, 79, 86, 83, 87]))],
  o3 5 .mv [.t 7]]
def F20o16 : List Ao := [
  o3 8 (.bin .eql) [.t 4, .c (.d (.str [83, 84, 79, 83, 66]))],
  o3 5 .mv [.t 8]]
def F20o20 : List Ao := [
  o3 9 (.bin .eql) [.t 4, .c (.d (.str [83, 84, 79, 83, 87]))],
  o3 5 .mv [.t 9]]
def F20o24 : List Ao := [
  o3 10 (.bin .eql) [.t 4, .c (.d (.str [76, 79, 68, 83, 66]))],
  o3 5 .mv [.t 10]]
def F20o27 : List Ao := [
  o3 11 (.bin .eql) [.t 4, .c (.d (.str [76, 79, 68, 83, 87]))],
  o3 5 .mv [.t 11]]
def F20c25 : Ac := (.cond (.t 5) .skip (.ops F20o27))
def F20c21 : Ac := (.cond (.t 5) .skip (.seq (.ops F20o24) F20c25))
def F20c17 : Ac := (.cond (.t 5) .skip (.seq (.ops F20o20) F20c21))
def F20c13 : Ac := (.cond (.t 5) .skip (.seq (.ops F20o16) F20c17))
def F20c9 : Ac := (.cond (.t 5) .skip (.seq (.ops F20o12) F20c13))
def F20o30 : List Ao := [
  o3 2 .mv [.c (.d (.int .i64 1))]]
def F20c31 : Ac := .ret
def F20o34 : List Ao := [
  o3 13 (.bin .eql) [.t 4, .c (.d (.str [67, 77, 80, 83, 66]))],
  o3 12 .mv [.t 13]]
def F20o38 : List Ao := [
  o3 14 (.bin .eql) [.t 4, .c (.d (.str [67, 77, 80, 83, 87]))],
  o3 12 .mv [.t 14]]
def F20o42 : List Ao := [
  o3 15 (.bin .eql) [.t 4, .c (.d (.str [83, 67, 65, 83, 66]))],
  o3 12 .mv [.t 15]]
def F20o45 : List Ao := [
  o3 16 (.bin .eql) [.t 4, .c (.d (.str [83, 67, 65, 83, 87]))],
  o3 12 .mv [.t 16]]
def F20c43 : Ac := (.cond (.t 12) .skip (.ops F20o45))
def F20c39 : Ac := (.cond (.t 12) .skip (.seq (.ops F20o42) F20c43))
def F20c35 : Ac := (.cond (.t 12) .skip (.seq (.ops F20o38) F20c39))
def F20o48 : List Ao := [
  o3 2 .mv [.c (.d (.int .i64 2))]]
def F20c49 : Ac := .ret
def F20c46 : Ac := (.cond (.t 12) (.seq (.ops F20o48) F20c49) .skip)
def F20b28 : Ac := (.cond (.t 5) (.seq (.ops F20o30) F20c31) (.seq (.seq (.ops F20o34) F20c35) F20c46))
def F20c28 : Ac := (.seq (.gh []) (.seq (.keep [4, 5] []) F20b28))
def F20c5 : Ac := (.block 0 (.seq (.seq (.ops F20o8) F20c9) F20c28))
def F20o52 : List Ao := [
  o3 2 .mv [.c (.d (.int .i64 0))]]
def F20c53 : Ac := .ret
def F20c51 : Ac := (.seq (.ops F20o52) F20c53)
def F20c2 : Ac := (.seq (.seq (.ops F20o4) F20c5) F20c51)
def F20c0 : Ac := (.seq (.ops F20o1) F20c2)
/-- hansom/hansomref04.Repeats -/
def F20 : Fn := { np := 1, pb := [], rs := [.t 2], body := F20c0 }
def F21o1 : List Ao := [
  o3 1 (.box 10) [.t 0],
  o3 2 .mv [.c (.d (.bool false))]]
def F21o3 : List Ao := [
  o3 6 (.load (some 10)) [.t 1],
  o3 7 (.callf 22) [.t 6],
  o3 5 .mv [.t 7],
  o3 8 (.extract 0) [.t 5],
  o3 9 (.extract 1) [.t 5],
  o3 3 (.alloc [.d (.int .i64 0), .d (.int .i64 0), .d (.int .i64 0), .d (.bool false)]) [],
  o0 (.store 4) [.t 3, .t 8],
  o3 4 .mv [.t 9]]
def F21o5 : List Ao := [
  o3 10 .mv [.t 4],
  o3 11 .mv [.t 10],
  og 12 (.load (some 10)) [.t 1] 11 true,
  og 13 (.load (some 4)) [.t 3] 11 true,
  og 14 (.callf 39) [.t 12, .t 13] 11 true,
  o3 15 .pick [.t 11, .t 14, .c (.d (.bool false))],
  o3 16 .mv [.t 15],
  og 17 (.load (some 10)) [.t 1] 16 true,
  og 18 (.load (some 4)) [.t 3] 16 true,
  og 19 (.callf 40) [.t 17, .t 18] 16 true,
  o3 20 .pick [.t 16, .t 19, .c (.d (.bool false))],
  o3 21 .mv [.t 20],
  og 22 (.load (some 10)) [.t 1] 21 true,
  og 23 (.load (some 4)) [.t 3] 21 true,
  og 24 (.callf 41) [.t 22, .t 23] 21 true,
  o3 25 .pick [.t 21, .t 24, .c (.d (.bool false))],
  o3 2 .mv [.t 25]]
def F21c6 : Ac := .ret
def F21c4 : Ac := (.seq (.ops F21o5) F21c6)
def F21c2 : Ac := (.seq (.ops F21o3) F21c4)
def F21c0 : Ac := (.seq (.ops F21o1) F21c2)
/-- hansom/inst.May -/
def F21 : Fn := { np := 1, pb := [], rs := [.t 2], body := F21c0 }
def F22o1 : List Ao := [
  o3 1 (.box 10) [.t 0],
  o3 2 (.alloc [.d (.int .i64 0), .d (.int .i64 0), .d (.int .i64 0), .d (.bool false)]) [],
  o3 3 .mv [.c (.d (.bool false))]]
def F22o4 : List Ao := [
  o3 4 (.faddr 3) [.t 1],
  o3 5 (.load none) [.t 4],
  o3 6 (.callf 42) [.t 5]]
def F22o7 : List Ao := [
  o3 7 (.build [.d (.int .i64 0), .d (.int .i64 0), .d (.int .i64 0), .d (.bool false)] []) [],
  o0 (.store 4) [.t 2, .t 7],
  o3 3 .mv [.c (.d (.bool false))]]
def F22c8 : Ac := .ret
def F22c5 : Ac := (.cond (.t 6) (.seq (.ops F22o7) F22c8) .skip)
def F22o11 : List Ao := [
  o3 8 (.faddr 3) [.t 1],
  o3 9 (.load none) [.t 8],
  o3 10 (.faddr 5) [.t 1],
  o3 11 (.load none) [.t 10],
  o3 12 (.callf 43) [.t 9, .t 11],
  o3 13 (.extract 0) [.t 12],
  o3 14 (.extract 1) [.t 12],
  o0 (.store 4) [.t 2, .t 13],
  o3 3 .mv [.t 14]]
def F22c12 : Ac := .ret
def F22c10 : Ac := (.seq (.ops F22o11) F22c12)
def F22c2 : Ac := (.seq (.seq (.ops F22o4) F22c5) F22c10)
def F22c0 : Ac := (.seq (.ops F22o1) F22c2)
/-- hansom/inst.Row -/
def F22 : Fn := { np := 1, pb := [], rs := [.c 2 (some 4), .t 3], body := F22c0 }
def F23o1 : List Ao := [
  o3 1 (.box 10) [.t 0],
  o3 2 .mv [.c (.nils)]]
def F23o3 : List Ao := [
  o3 3 .mv [.c (.nils)]]
def F23o6 : List Ao := [
  o3 4 (.faddr 0) [.t 1],
  o3 5 (.load none) [.t 4]]
def F23o8 : List Ao := [
  o3 6 .mv [.t 3],
  o3 7 (.bslice (.int .u8 0) 1 [0]) [.c (.d (.int .u8 240))],
  o3 8 (.append 1 1 false) [.t 6, .t 7],
  o3 3 .mv [.t 8]]
def F23c7 : Ac := (.cond (.t 5) (.ops F23o8) .skip)
def F23o12 : List Ao := [
  o3 9 (.faddr 1) [.t 1],
  o3 10 (.load none) [.t 9],
  o3 11 (.bin .gtr) [.t 10, .c (.d (.int .i64 0))]]
def F23o14 : List Ao := [
  o3 12 .mv [.t 3],
  o3 13 (.faddr 1) [.t 1],
  o3 14 (.load none) [.t 13],
  o3 15 (.bin .add) [.c (.d (.int .i64 241)), .t 14],
  o3 16 (.toInt .u8) [.t 15],
  o3 17 (.bslice (.int .u8 0) 1 [0]) [.t 16],
  o3 18 (.append 1 1 false) [.t 12, .t 17],
  o3 3 .mv [.t 18]]
def F23c13 : Ac := (.cond (.t 11) (.ops F23o14) .skip)
def F23o18 : List Ao := [
  o3 19 (.faddr 2) [.t 1],
  o3 20 (.load none) [.t 19],
  o3 21 (.bin .gtr) [.t 20, .c (.d (.int .i64 0))]]
def F23o20 : List Ao := [
  o3 22 .mv [.t 3],
  o3 23 (.faddr 2) [.t 1],
  o3 24 (.load none) [.t 23],
  o3 25 (.iaddrA 5 1) [.c (.elt (.agg [.int .u8 0, .int .u8 38, .int .u8 46, .int .u8 54, .int .u8 62]) 0), .t 24],
  o3 26 (.load none) [.t 25],
  o3 27 (.bslice (.int .u8 0) 1 [0]) [.t 26],
  o3 28 (.append 1 1 false) [.t 22, .t 27],
  o3 3 .mv [.t 28]]
def F23c19 : Ac := (.cond (.t 21) (.ops F23o20) .skip)
def F23o23 : List Ao := [
  o3 29 .mv [.t 3],
  o3 2 .mv [.t 29]]
def F23c24 : Ac := .ret
def F23c22 : Ac := (.seq (.ops F23o23) F23c24)
def F23c16 : Ac := (.seq (.seq (.ops F23o18) F23c19) F23c22)
def F23b10 : Ac := (.seq (.seq (.ops F23o12) F23c13) F23c16)
def F23c10 : Ac := (.seq (.gh []) (.seq (.keep [1, 3] [[1], [3]]) F23b10))
def F23b4 : Ac := (.seq (.seq (.ops F23o6) F23c7) F23c10)
def F23c4 : Ac := (.seq (.gh [.own 3 [3] 1]) (.seq (.keep [1, 3] [[1], [3]]) F23b4))
def F23c2 : Ac := (.seq (.ops F23o3) F23c4)
def F23c0 : Ac := (.seq (.ops F23o1) F23c2)
/-- hansom/code.ahead -/
def F23 : Fn := { np := 1, pb := [], rs := [.t 2], body := F23c0 }
def F24o1 : List Ao := [
  o3 4 .mv [.c (.d (.int .i64 0))]]
def F24o5 : List Ao := [
  o3 6 .mv [.t 0],
  o3 7 (.bin .eql) [.t 6, .c (.d (.int .i64 1))],
  o3 5 .mv [.t 7]]
def F24o8 : List Ao := [
  o3 4 .mv [.c (.d (.int .i64 1))]]
def F24c9 : Ac := .ret
def F24o12 : List Ao := [
  o3 9 .mv [.t 0],
  o3 10 (.bin .eql) [.t 9, .c (.d (.int .i64 2))],
  o3 8 .mv [.t 10]]
def F24o15 : List Ao := [
  o3 11 .mv [.t 0],
  o3 12 (.bin .eql) [.t 11, .c (.d (.int .i64 0))],
  o3 13 .mv [.t 12],
  og 14 .mv [.t 1] 13 true,
  og 15 (.bin .eql) [.t 14, .c (.d (.int .i64 6))] 13 true,
  o3 16 .pick [.t 13, .t 15, .c (.d (.bool false))],
  o3 8 .mv [.t 16]]
def F24c13 : Ac := (.cond (.t 8) .skip (.ops F24o15))
def F24o18 : List Ao := [
  o3 4 .mv [.c (.d (.int .i64 2))]]
def F24c19 : Ac := .ret
def F24c16 : Ac := (.cond (.t 8) (.seq (.ops F24o18) F24c19) .skip)
def F24c6 : Ac := (.cond (.t 5) (.seq (.ops F24o8) F24c9) (.seq (.seq (.ops F24o12) F24c13) F24c16))
def F24o22 : List Ao := [
  o3 4 .mv [.c (.d (.int .i64 0))]]
def F24c23 : Ac := .ret
def F24c21 : Ac := (.seq (.ops F24o22) F24c23)
def F24c2 : Ac := (.seq (.block 0 (.seq (.ops F24o5) F24c6)) F24c21)
def F24c0 : Ac := (.seq (.ops F24o1) F24c2)
/-- hansom/inst.Disps -/
def F24 : Fn := { np := 2, pb := [], rs := [.t 4], body := F24c0 }
def F25o1 : List Ao := [
  o3 2 .mv [.c (.d (.int .u8 0))]]
def F25o3 : List Ao := [
  o3 3 .mv [.t 0],
  o3 4 (.toInt .u8) [.t 3],
  o3 2 .mv [.t 4]]
def F25c4 : Ac := .ret
def F25c2 : Ac := (.seq (.ops F25o3) F25c4)
def F25c0 : Ac := (.seq (.ops F25o1) F25c2)
/-- hansom/bits.Low -/
def F25 : Fn := { np := 1, pb := [], rs := [.t 2], body := F25c0 }
def F26o1 : List Ao := [
  o3 2 .mv [.c (.d (.int .u8 0))]]
def F26o3 : List Ao := [
  o3 3 .mv [.t 0],
  o3 4 (.bin .shr) [.t 3, .c (.d (.int .u64 8))],
  o3 5 (.toInt .u8) [.t 4],
  o3 2 .mv [.t 5]]
def F26c4 : Ac := .ret
def F26c2 : Ac := (.seq (.ops F26o3) F26c4)
def F26c0 : Ac := (.seq (.ops F26o1) F26c2)
/-- hansom/bits.High -/
def F26 : Fn := { np := 1, pb := [], rs := [.t 2], body := F26c0 }
def F27o1 : List Ao := [
  o3 1 (.box 4) [.t 0],
  o3 2 .mv [.c (.d (.int .i64 0))]]
def F27o3 : List Ao := [
  o3 3 (.faddr 1) [.t 1],
  o3 4 (.load none) [.t 3],
  { dst := some 5, k := (.callf 44), xs := [.t 4], al := some [] },
  o3 6 (.faddr 2) [.t 1],
  { dst := some 7, k := (.load none), xs := [.t 6], av := [[5]] },
  o3 8 (.callf 44) [.t 7],
  o3 9 (.bin .add) [.t 5, .t 8],
  o3 2 .mv [.t 9]]
def F27c4 : Ac := .ret
def F27c2 : Ac := (.seq (.ops F27o3) F27c4)
def F27c0 : Ac := (.seq (.ops F27o1) F27c2)
/-- hansom/inst.Imms -/
def F27 : Fn := { np := 1, pb := [], rs := [.t 2], body := F27c0 }
def F28o1 : List Ao := [
  o3 2 .mv [.c (.d (.bool false))]]
def F28o3 : List Ao := [
  o3 3 .mv [.t 0],
  o3 4 (.bin .lss) [.t 3, .c (.d (.int .u16 128))],
  o3 5 .mv [.t 4],
  og 6 .mv [.t 0] 5 false,
  og 7 (.bin .geq) [.t 6, .c (.d (.int .u16 65408))] 5 false,
  o3 8 .pick [.t 5, .c (.d (.bool true)), .t 7],
  o3 2 .mv [.t 8]]
def F28c4 : Ac := .ret
def F28c2 : Ac := (.seq (.ops F28o3) F28c4)
def F28c0 : Ac := (.seq (.ops F28o1) F28c2)
/-- hansom/hansomref01.Fits -/
def F28 : Fn := { np := 1, pb := [], rs := [.t 2], body := F28c0 }
def F30o1 : List Ao := [
  o3 2 .mv [.c (.d (.bool false))]]
def F30o3 : List Ao := [
  o3 3 .mv [.t 0],
  o3 4 (.bin .eql) [.t 3, .c (.d (.int .u8 38))],
  o3 5 .mv [.t 4],
  og 6 .mv [.t 0] 5 false,
  og 7 (.bin .eql) [.t 6, .c (.d (.int .u8 46))] 5 false,
  o3 8 .pick [.t 5, .c (.d (.bool true)), .t 7],
  o3 9 .mv [.t 8],
  og 10 .mv [.t 0] 9 false,
  og 11 (.bin .eql) [.t 10, .c (.d (.int .u8 54))] 9 false,
  o3 12 .pick [.t 9, .c (.d (.bool true)), .t 11],
  o3 13 .mv [.t 12],
  og 14 .mv [.t 0] 13 false,
  og 15 (.bin .eql) [.t 14, .c (.d (.int .u8 62))] 13 false,
  o3 16 .pick [.t 13, .c (.d (.bool true)), .t 15],
  o3 17 .mv [.t 16],
  og 18 .mv [.t 0] 17 false,
  og 19 (.bin .eql) [.t 18, .c (.d (.int .u8 240))] 17 false,
  o3 20 .pick [.t 17, .c (.d (.bool true)), .t 19],
  o3 21 .mv [.t 20],
  og 22 .mv [.t 0] 21 false,
  og 23 (.bin .eql) [.t 22, .c (.d (.int .u8 242))] 21 false,
  o3 24 .pick [.t 21, .c (.d (.bool true)), .t 23],
  o3 25 .mv [.t 24],
  og 26 .mv [.t 0] 25 false,
  og 27 (.bin .eql) [.t 26, .c (.d (.int .u8 243))] 25 false,
  o3 28 .pick [.t 25, .c (.d (.bool true)), .t 27],
  o3 2 .mv [.t 28]]
def F30c4 : Ac := .ret
def F30c2 : Ac := (.seq (.ops F30o3) F30c4)
def F30c0 : Ac := (.seq (.ops F30o1) F30c2)
/-- hansom/hansomref05.prefix -/
def F30 : Fn := { np := 1, pb := [], rs := [.t 2], body := F30c0 }
def F31o1 : List Ao := [
  o3 4 (.alloc [.d (.int .i64 0), .d (.int .i64 0), .d (.int .i64 0), .d (.bool false)]) [],
  o3 5 .mv [.c (.d (.bool false))]]
def F31o3 : List Ao := [
  o3 8 .mv [.t 0],
  o3 9 .mv [.t 1],
  o3 10 (.callf 45) [.t 8, .t 9],
  o3 6 .mv [.t 10]]
def F31o6 : List Ao := [
  o3 11 .mv [.t 6],
  o3 12 (.bin .eql) [.t 11, .c (.d (.str [45]))],
  o3 13 .mv [.t 12],
  og 14 .mv [.t 6] 13 false,
  og 15 (.bin .eql) [.t 14, .c (.d (.str []))] 13 false,
  o3 16 .pick [.t 13, .c (.d (.bool true)), .t 15]]
def F31o9 : List Ao := [
  o3 17 (.build [.d (.int .i64 0), .d (.int .i64 0), .d (.int .i64 0), .d (.bool false)] []) [],
  o0 (.store 4) [.t 4, .t 17],
  o3 5 .mv [.c (.d (.bool false))]]
def F31c10 : Ac := .ret
def F31c7 : Ac := (.cond (.t 16) (.seq (.ops F31o9) F31c10) .skip)
def F31o13 : List Ao := [
  o3 18 .mv [.t 6],
  o3 19 (.callf 47) [.t 18, .c (.d (.int .u8 58)), .c (.d (.int .i64 0))],
  o3 20 (.callf 46) [.t 19],
  o3 21 .mv [.t 6],
  o3 22 (.callf 47) [.t 21, .c (.d (.int .u8 58)), .c (.d (.int .i64 1))],
  o3 23 (.callf 48) [.c (.d (.str [69, 98, 32, 69, 118, 32, 71, 98, 32, 71, 118, 32, 83, 119, 32, 73, 98, 32, 73, 118, 32, 73, 115, 32, 74, 98, 32, 74, 118, 32, 65, 112, 32, 79, 98, 32, 79, 118, 32, 65, 76, 32, 67, 76, 32, 65, 88, 32, 68, 88, 32, 79, 110, 101, 32, 77, 112, 32, 77, 32, 90, 98, 32, 90, 118, 32, 90, 115, 32, 84, 104, 114, 101, 101, 32])), .t 22],
  o3 24 .mv [.t 6],
  o3 25 (.callf 47) [.t 24, .c (.d (.int .u8 58)), .c (.d (.int .i64 2))],
  o3 26 (.callf 48) [.c (.d (.str [69, 98, 32, 69, 118, 32, 71, 98, 32, 71, 118, 32, 83, 119, 32, 73, 98, 32, 73, 118, 32, 73, 115, 32, 74, 98, 32, 74, 118, 32, 65, 112, 32, 79, 98, 32, 79, 118, 32, 65, 76, 32, 67, 76, 32, 65, 88, 32, 68, 88, 32, 79, 110, 101, 32, 77, 112, 32, 77, 32, 90, 98, 32, 90, 118, 32, 90, 115, 32, 84, 104, 114, 101, 101, 32])), .t 25],
  o3 27 (.build [.d (.int .i64 0), .d (.int .i64 0), .d (.int .i64 0), .d (.bool false)] [(0, 1), (1, 1), (2, 1)]) [.t 20, .t 23, .t 26],
  o3 7 (.alloc [.d (.int .i64 0), .d (.int .i64 0), .d (.int .i64 0), .d (.bool false)]) [],
  o0 (.store 4) [.t 7, .t 27]]
def F31o15 : List Ao := [
  o3 28 (.faddr 1) [.t 7],
  o3 29 (.load none) [.t 28],
  o3 30 (.callf 49) [.t 29],
  o3 31 .mv [.t 30],
  og 32 (.faddr 2) [.t 7] 31 false,
  og 33 (.load none) [.t 32] 31 false,
  og 34 (.callf 49) [.t 33] 31 false,
  o3 35 .pick [.t 31, .c (.d (.bool true)), .t 34],
  o3 36 (.faddr 3) [.t 7],
  o0 (.store 1) [.t 36, .t 35]]
def F31o17 : List Ao := [
  o3 37 (.load (some 4)) [.t 7],
  o0 (.store 4) [.t 4, .t 37],
  o3 5 .mv [.c (.d (.bool true))]]
def F31c18 : Ac := .ret
def F31c16 : Ac := (.seq (.ops F31o17) F31c18)
def F31c14 : Ac := (.seq (.ops F31o15) F31c16)
def F31c12 : Ac := (.seq (.ops F31o13) F31c14)
def F31c4 : Ac := (.seq (.seq (.ops F31o6) F31c7) F31c12)
def F31c2 : Ac := (.seq (.ops F31o3) F31c4)
def F31c0 : Ac := (.seq (.ops F31o1) F31c2)
/-- hansom/hansomref04.Row -/
def F31 : Fn := { np := 2, pb := [], rs := [.c 4 (some 4), .t 5], body := F31c0 }
def F38o1 : List Ao := [
  o3 2 .mv [.c (.d (.str []))]]
def F38o4 : List Ao := [
  o3 3 .mv [.t 0],
  o3 4 (.bin .lss) [.t 3, .c (.d (.int .i64 1))],
  o3 5 .mv [.t 4],
  og 6 .mv [.t 0] 5 false,
  og 7 (.bin .gtr) [.t 6, .c (.d (.int .i64 95))] 5 false,
  o3 8 .pick [.t 5, .c (.d (.bool true)), .t 7]]
def F38o7 : List Ao := [
  o3 2 .mv [.c (.d (.str [63]))]]
def F38c8 : Ac := .ret
def F38c5 : Ac := (.cond (.t 8) (.seq (.ops F38o7) F38c8) .skip)
def F38o11 : List Ao := [
  o3 9 .mv [.t 0],
  o3 10 (.bin .sub) [.t 9, .c (.d (.int .i64 1))],
  o3 11 (.callf 51) [.c (.d (.str [65, 68, 68, 32, 79, 82, 32, 65, 68, 67, 32, 83, 66, 66, 32, 65, 78, 68, 32, 83, 85, 66, 32, 88, 79, 82, 32, 67, 77, 80, 32, 80, 85, 83, 72, 32, 80, 79, 80, 32, 68, 65, 65, 32, 68, 65, 83, 32, 65, 65, 65, 32, 65, 65, 83, 32, 73, 78, 67, 32, 68, 69, 67, 32, 74, 79, 32, 74, 78, 79, 32, 74, 66, 32, 74, 78, 66, 32, 74, 90, 32, 74, 78, 90, 32, 74, 66, 69, 32, 74, 65, 32, 74, 83, 32, 74, 78, 83, 32, 74, 80, 32, 74, 78, 80, 32, 74, 76, 32, 74, 71, 69, 32, 74, 76, 69, 32, 74, 71, 32, 84, 69, 83, 84, 32, 88, 67, 72, 71, 32, 77, 79, 86, 32, 76, 69, 65, 32, 67, 66, 87, 32, 67, 87, 68, 32, 67, 65, 76, 76, 32, 67, 65, 76, 76, 70, 32, 87, 65, 73, 84, 32, 80, 85, 83, 72, 70, 32, 80, 79, 80, 70, 32, 83, 65, 72, 70, 32, 76, 65, 72, 70, 32, 77, 79, 86, 83, 66, 32, 77, 79, 86, 83, 87, 32, 67, 77, 80, 83, 66, 32, 67, 77, 80, 83, 87, 32, 83, 84, 79, 83, 66, 32, 83, 84, 79, 83, 87, 32, 76, 79, 68, 83, 66, 32, 76, 79, 68, 83, 87, 32, 83, 67, 65, 83, 66, 32, 83, 67, 65, 83, 87, 32, 82, 69, 84, 32, 82, 69, 84, 70, 32, 76, 69, 83, 32, 76, 68, 83, 32, 73, 78, 84, 32, 73, 78, 84, 79, 32, 73, 82, 69, 84, 32, 82, 79, 76, 32, 82, 79, 82, 32, 82, 67, 76, 32, 82, 67, 82, 32, 83, 72, 76, 32, 83, 72, 82, 32, 83, 65, 82, 32, 65, 65, 77, 32, 65, 65, 68, 32, 88, 76, 65, 84, 32, 69, 83, 67, 32, 76, 79, 79, 80, 78, 90, 32, 76, 79, 79, 80, 90, 32, 76, 79, 79, 80, 32, 74, 67, 88, 90, 32, 73, 78, 32, 79, 85, 84, 32, 74, 77, 80, 32, 74, 77, 80, 70, 32, 72, 76, 84, 32, 67, 77, 67, 32, 78, 79, 84, 32, 78, 69, 71, 32, 77, 85, 76, 32, 73, 77, 85, 76, 32, 68, 73, 86, 32, 73, 68, 73, 86, 32, 67, 76, 67, 32, 83, 84, 67, 32, 67, 76, 73, 32, 83, 84, 73, 32, 67, 76, 68, 32, 83, 84, 68, 32])), .t 10],
  o3 2 .mv [.t 11]]
def F38c12 : Ac := .ret
def F38c10 : Ac := (.seq (.ops F38o11) F38c12)
def F38c2 : Ac := (.seq (.seq (.ops F38o4) F38c5) F38c10)
def F38c0 : Ac := (.seq (.ops F38o1) F38c2)
/-- hansom/hansomref04.Name -/
def F38 : Fn := { np := 1, pb := [], rs := [.t 2], body := F38c0 }
def F39o1 : List Ao := [
  o3 2 (.box 10) [.t 0],
  o3 3 (.box 4) [.t 1],
  o3 4 .mv [.c (.d (.bool false))]]
def F39o4 : List Ao := [
  o3 5 (.faddr 3) [.t 3],
  o3 6 (.load none) [.t 5],
  o3 7 (.un .not) [.t 6]]
def F39o7 : List Ao := [
  o3 8 (.faddr 4) [.t 2],
  o3 9 (.load none) [.t 8],
  o3 10 (.bin .eql) [.t 9, .c (.d (.int .i64 0))],
  o3 11 .mv [.t 10],
  og 12 (.faddr 5) [.t 2] 11 true,
  og 13 (.load none) [.t 12] 11 true,
  og 14 (.bin .eql) [.t 13, .c (.d (.int .i64 0))] 11 true,
  o3 15 .pick [.t 11, .t 14, .c (.d (.bool false))],
  o3 16 .mv [.t 15],
  og 17 (.faddr 6) [.t 2] 16 true,
  og 18 (.load none) [.t 17] 16 true,
  og 19 (.bin .eql) [.t 18, .c (.d (.int .i64 0))] 16 true,
  o3 20 .pick [.t 16, .t 19, .c (.d (.bool false))],
  o3 21 .mv [.t 20],
  og 22 (.faddr 7) [.t 2] 21 true,
  og 23 (.load none) [.t 22] 21 true,
  og 24 (.bin .eql) [.t 23, .c (.d (.int .u16 0))] 21 true,
  o3 25 .pick [.t 21, .t 24, .c (.d (.bool false))],
  o3 4 .mv [.t 25]]
def F39c8 : Ac := .ret
def F39c5 : Ac := (.cond (.t 7) (.seq (.ops F39o7) F39c8) .skip)
def F39o12 : List Ao := [
  o3 26 (.faddr 4) [.t 2],
  o3 27 (.load none) [.t 26],
  o3 28 (.bin .lss) [.t 27, .c (.d (.int .i64 0))],
  o3 29 .mv [.t 28],
  og 30 (.faddr 4) [.t 2] 29 false,
  og 31 (.load none) [.t 30] 29 false,
  og 32 (.bin .gtr) [.t 31, .c (.d (.int .i64 3))] 29 false,
  o3 33 .pick [.t 29, .c (.d (.bool true)), .t 32],
  o3 34 .mv [.t 33],
  og 35 (.faddr 5) [.t 2] 34 false,
  og 36 (.load none) [.t 35] 34 false,
  og 37 (.bin .lss) [.t 36, .c (.d (.int .i64 0))] 34 false,
  o3 38 .pick [.t 34, .c (.d (.bool true)), .t 37],
  o3 39 .mv [.t 38],
  og 40 (.faddr 5) [.t 2] 39 false,
  og 41 (.load none) [.t 40] 39 false,
  og 42 (.bin .gtr) [.t 41, .c (.d (.int .i64 7))] 39 false,
  o3 43 .pick [.t 39, .c (.d (.bool true)), .t 42],
  o3 44 .mv [.t 43],
  og 45 (.faddr 6) [.t 2] 44 false,
  og 46 (.load none) [.t 45] 44 false,
  og 47 (.bin .lss) [.t 46, .c (.d (.int .i64 0))] 44 false,
  o3 48 .pick [.t 44, .c (.d (.bool true)), .t 47],
  o3 49 .mv [.t 48],
  og 50 (.faddr 6) [.t 2] 49 false,
  og 51 (.load none) [.t 50] 49 false,
  og 52 (.bin .gtr) [.t 51, .c (.d (.int .i64 7))] 49 false,
  o3 53 .pick [.t 49, .c (.d (.bool true)), .t 52]]
def F39o15 : List Ao := [
  o3 4 .mv [.c (.d (.bool false))]]
def F39c16 : Ac := .ret
def F39c13 : Ac := (.cond (.t 53) (.seq (.ops F39o15) F39c16) .skip)
def F39o20 : List Ao := [
  o3 54 (.faddr 4) [.t 2],
  o3 55 (.load none) [.t 54],
  o3 56 (.bin .eql) [.t 55, .c (.d (.int .i64 3))],
  o3 57 .mv [.t 56],
  og 58 (.faddr 1) [.t 3] 57 true,
  og 59 (.load none) [.t 58] 57 true,
  og 60 (.bin .eql) [.t 59, .c (.d (.int .i64 19))] 57 true,
  og 61 .mv [.t 60] 57 true,
  og 62 (.faddr 2) [.t 3] 61 false,
  og 63 (.load none) [.t 62] 61 false,
  og 64 (.bin .eql) [.t 63, .c (.d (.int .i64 19))] 61 false,
  og 65 .pick [.t 61, .c (.d (.bool true)), .t 64] 57 true,
  og 66 .mv [.t 65] 57 true,
  og 67 (.faddr 2) [.t 3] 66 false,
  og 68 (.load none) [.t 67] 66 false,
  og 69 (.bin .eql) [.t 68, .c (.d (.int .i64 20))] 66 false,
  og 70 .pick [.t 66, .c (.d (.bool true)), .t 69] 57 true,
  o3 71 .pick [.t 57, .t 70, .c (.d (.bool false))]]
def F39o23 : List Ao := [
  o3 4 .mv [.c (.d (.bool false))]]
def F39c24 : Ac := .ret
def F39c21 : Ac := (.cond (.t 71) (.seq (.ops F39o23) F39c24) .skip)
def F39o28 : List Ao := [
  o3 72 (.faddr 4) [.t 2],
  o3 73 (.load none) [.t 72],
  o3 74 (.faddr 6) [.t 2],
  o3 75 (.load none) [.t 74],
  o3 76 (.callf 24) [.t 73, .t 75]]
def F39o31 : List Ao := [
  o3 78 (.bin .eql) [.t 76, .c (.d (.int .i64 0))],
  o3 77 .mv [.t 78]]
def F39o34 : List Ao := [
  o3 79 (.faddr 7) [.t 2],
  o3 80 (.load none) [.t 79],
  o3 81 (.bin .eql) [.t 80, .c (.d (.int .u16 0))],
  o3 4 .mv [.t 81]]
def F39c35 : Ac := .ret
def F39o37 : List Ao := [
  o3 83 (.bin .eql) [.t 76, .c (.d (.int .i64 1))],
  o3 82 .mv [.t 83]]
def F39o40 : List Ao := [
  o3 84 (.faddr 7) [.t 2],
  o3 85 (.load none) [.t 84],
  o3 86 (.callf 52) [.t 85],
  o3 4 .mv [.t 86]]
def F39c41 : Ac := .ret
def F39c38 : Ac := (.cond (.t 82) (.seq (.ops F39o40) F39c41) .skip)
def F39c32 : Ac := (.cond (.t 77) (.seq (.ops F39o34) F39c35) (.seq (.ops F39o37) F39c38))
def F39c29 : Ac := (.block 0 (.seq (.ops F39o31) F39c32))
def F39o44 : List Ao := [
  o3 4 .mv [.c (.d (.bool true))]]
def F39c45 : Ac := .ret
def F39c43 : Ac := (.seq (.ops F39o44) F39c45)
def F39b26 : Ac := (.seq (.seq (.ops F39o28) F39c29) F39c43)
def F39c26 : Ac := (.seq (.gh []) (.seq (.keep [2] [[2]]) F39b26))
def F39c18 : Ac := (.seq (.seq (.ops F39o20) F39c21) F39c26)
def F39c10 : Ac := (.seq (.seq (.ops F39o12) F39c13) F39c18)
def F39c2 : Ac := (.seq (.seq (.ops F39o4) F39c5) F39c10)
def F39c0 : Ac := (.seq (.ops F39o1) F39c2)
/-- hansom/inst.second -/
def F39 : Fn := { np := 2, pb := [], rs := [.t 4], body := F39c0 }
def F40o1 : List Ao := [
  o3 2 (.box 10) [.t 0],
  o3 3 (.box 4) [.t 1],
  o3 4 .mv [.c (.d (.bool false))]]
def F40o4 : List Ao := [
  o3 7 (.faddr 1) [.t 3],
  o3 8 (.load none) [.t 7],
  o3 9 (.faddr 2) [.t 3],
  o3 10 (.load none) [.t 9],
  o3 11 (.build [.d (.int .i64 0), .d (.int .i64 0)] [(0, 1), (1, 1)]) [.t 8, .t 10],
  o3 12 .mv [.c (.d (.int .i64 0))]]
def F40o8 : List Ao := [
  o3 13 (.bin .lss) [.t 12, .c (.d (.int .i64 2))]]
def F40o16 : List Ao := [
  o3 14 (.indexA 2 1 none) [.t 11, .t 12],
  o3 6 .mv [.t 14]]
def F40o18 : List Ao := [
  o3 15 .mv [.t 6]]
def F40o21 : List Ao := [
  o3 17 (.bin .eql) [.t 15, .c (.d (.int .i64 6))],
  o3 16 .mv [.t 17]]
def F40o24 : List Ao := [
  o3 18 (.faddr 8) [.t 2],
  o3 19 (.load none) [.t 18],
  o3 20 (.bin .lss) [.t 19, .c (.d (.int .u16 256))],
  o3 21 .mv [.t 20],
  og 22 (.faddr 9) [.t 2] 21 true,
  og 23 (.load none) [.t 22] 21 true,
  og 24 (.bin .eql) [.t 23, .c (.d (.int .u16 0))] 21 true,
  o3 25 .pick [.t 21, .t 24, .c (.d (.bool false))],
  o3 26 .mv [.t 25],
  og 27 (.faddr 0) [.t 3] 26 true,
  og 28 (.load none) [.t 27] 26 true,
  og 29 (.bin .neq) [.t 28, .c (.d (.int .i64 70))] 26 true,
  og 30 .mv [.t 29] 26 true,
  og 31 (.faddr 0) [.t 3] 30 true,
  og 32 (.load none) [.t 31] 30 true,
  og 33 (.bin .neq) [.t 32, .c (.d (.int .i64 71))] 30 true,
  og 34 .pick [.t 30, .t 33, .c (.d (.bool false))] 26 true,
  og 35 .mv [.t 34] 26 true,
  og 36 (.faddr 8) [.t 2] 35 false,
  og 37 (.load none) [.t 36] 35 false,
  og 38 (.bin .eql) [.t 37, .c (.d (.int .u16 10))] 35 false,
  og 39 .pick [.t 35, .c (.d (.bool true)), .t 38] 26 true,
  o3 40 .pick [.t 26, .t 39, .c (.d (.bool false))],
  o3 4 .mv [.t 40]]
def F40c25 : Ac := .ret
def F40o28 : List Ao := [
  o3 42 (.bin .eql) [.t 15, .c (.d (.int .i64 8))],
  o3 41 .mv [.t 42]]
def F40o31 : List Ao := [
  o3 43 (.bin .eql) [.t 15, .c (.d (.int .i64 9))],
  o3 41 .mv [.t 43]]
def F40c29 : Ac := (.cond (.t 41) .skip (.ops F40o31))
def F40o34 : List Ao := [
  o3 44 (.faddr 8) [.t 2],
  o3 45 (.load none) [.t 44],
  o3 46 (.callf 52) [.t 45],
  o3 47 .mv [.t 46],
  og 48 (.faddr 9) [.t 2] 47 true,
  og 49 (.load none) [.t 48] 47 true,
  og 50 (.bin .eql) [.t 49, .c (.d (.int .u16 0))] 47 true,
  o3 51 .pick [.t 47, .t 50, .c (.d (.bool false))],
  o3 4 .mv [.t 51]]
def F40c35 : Ac := .ret
def F40o38 : List Ao := [
  o3 53 (.bin .eql) [.t 15, .c (.d (.int .i64 7))],
  o3 52 .mv [.t 53]]
def F40o42 : List Ao := [
  o3 54 (.bin .eql) [.t 15, .c (.d (.int .i64 10))],
  o3 52 .mv [.t 54]]
def F40o46 : List Ao := [
  o3 55 (.bin .eql) [.t 15, .c (.d (.int .i64 12))],
  o3 52 .mv [.t 55]]
def F40o49 : List Ao := [
  o3 56 (.bin .eql) [.t 15, .c (.d (.int .i64 13))],
  o3 52 .mv [.t 56]]
def F40c47 : Ac := (.cond (.t 52) .skip (.ops F40o49))
def F40c43 : Ac := (.cond (.t 52) .skip (.seq (.ops F40o46) F40c47))
def F40c39 : Ac := (.cond (.t 52) .skip (.seq (.ops F40o42) F40c43))
def F40o52 : List Ao := [
  o3 57 (.faddr 9) [.t 2],
  o3 58 (.load none) [.t 57],
  o3 59 (.bin .eql) [.t 58, .c (.d (.int .u16 0))],
  o3 4 .mv [.t 59]]
def F40c53 : Ac := .ret
def F40o55 : List Ao := [
  o3 61 (.bin .eql) [.t 15, .c (.d (.int .i64 11))],
  o3 60 .mv [.t 61]]
def F40o58 : List Ao := [
  o3 4 .mv [.c (.d (.bool true))]]
def F40c59 : Ac := .ret
def F40c56 : Ac := (.cond (.t 60) (.seq (.ops F40o58) F40c59) .skip)
def F40c50 : Ac := (.cond (.t 52) (.seq (.ops F40o52) F40c53) (.seq (.ops F40o55) F40c56))
def F40b32 : Ac := (.cond (.t 41) (.seq (.ops F40o34) F40c35) (.seq (.seq (.ops F40o38) F40c39) F40c50))
def F40c32 : Ac := (.seq (.gh []) (.seq (.keep [2, 3, 11, 12, 15, 41] [[2], [3]]) F40b32))
def F40c22 : Ac := (.cond (.t 16) (.seq (.ops F40o24) F40c25) (.seq (.seq (.ops F40o28) F40c29) F40c32))
def F40c19 : Ac := (.block 2 (.seq (.ops F40o21) F40c22))
def F40c17 : Ac := (.seq (.ops F40o18) F40c19)
def F40o61 : List Ao := [
  o3 62 (.bin .add) [.t 12, .c (.d (.int .i64 1))],
  o3 12 .mv [.t 62]]
def F40c61 : Ac := (.ops F40o61)
def F40c13 : Ac := (.seq (.block 1 (.seq (.ops F40o16) F40c17)) F40c61)
def F40c9 : Ac := (.seq (.cond (.t 13) .skip (.exit 0)) F40c13)
def F40l6 : Ac := (.seq (.ops F40o8) F40c9)
def F40c5 : Ac := (.block 0 (.loop (.seq (.gh []) (.seq (.keep [2, 3, 11, 12] [[2], [3]]) F40l6))))
def F40o63 : List Ao := [
  o3 63 (.faddr 8) [.t 2],
  o3 64 (.load none) [.t 63],
  o3 65 (.bin .eql) [.t 64, .c (.d (.int .u16 0))],
  o3 66 .mv [.t 65],
  og 67 (.faddr 9) [.t 2] 66 true,
  og 68 (.load none) [.t 67] 66 true,
  og 69 (.bin .eql) [.t 68, .c (.d (.int .u16 0))] 66 true,
  o3 70 .pick [.t 66, .t 69, .c (.d (.bool false))],
  o3 4 .mv [.t 70]]
def F40c64 : Ac := .ret
def F40b62 : Ac := (.seq (.ops F40o63) F40c64)
def F40c62 : Ac := (.seq (.gh []) (.seq (.keep [2] [[2]]) F40b62))
def F40c2 : Ac := (.seq (.seq (.ops F40o4) F40c5) F40c62)
def F40c0 : Ac := (.seq (.ops F40o1) F40c2)
/-- hansom/inst.behind -/
def F40 : Fn := { np := 2, pb := [], rs := [.t 4], body := F40c0 }
def F41o1 : List Ao := [
  o3 2 (.box 10) [.t 0],
  o3 3 (.box 4) [.t 1],
  o3 4 .mv [.c (.d (.bool false))]]
def F41o3 : List Ao := [
  o3 6 (.faddr 0) [.t 3],
  o3 7 (.load none) [.t 6],
  o3 8 (.callf 53) [.t 7],
  o3 5 .mv [.t 8]]
def F41o6 : List Ao := [
  o3 9 (.faddr 1) [.t 2],
  o3 10 (.load none) [.t 9]]
def F41o9 : List Ao := [
  o3 12 (.bin .eql) [.t 10, .c (.d (.int .i64 0))],
  o3 11 .mv [.t 12]]
def F41o13 : List Ao := [
  o3 14 (.bin .eql) [.t 10, .c (.d (.int .i64 1))],
  o3 13 .mv [.t 14]]
def F41o16 : List Ao := [
  o3 15 .mv [.t 5],
  o3 16 (.bin .lss) [.t 15, .c (.d (.int .i64 2))]]
def F41o19 : List Ao := [
  o3 4 .mv [.c (.d (.bool false))]]
def F41c20 : Ac := .ret
def F41c17 : Ac := (.cond (.t 16) (.seq (.ops F41o19) F41c20) .skip)
def F41o23 : List Ao := [
  o3 18 (.bin .eql) [.t 10, .c (.d (.int .i64 2))],
  o3 17 .mv [.t 18]]
def F41o26 : List Ao := [
  o3 19 .mv [.t 5],
  o3 20 (.bin .lss) [.t 19, .c (.d (.int .i64 1))]]
def F41o29 : List Ao := [
  o3 4 .mv [.c (.d (.bool false))]]
def F41c30 : Ac := .ret
def F41c27 : Ac := (.cond (.t 20) (.seq (.ops F41o29) F41c30) .skip)
def F41o33 : List Ao := [
  o3 4 .mv [.c (.d (.bool false))]]
def F41c34 : Ac := .ret
def F41c24 : Ac := (.cond (.t 17) (.seq (.ops F41o26) F41c27) (.seq (.ops F41o33) F41c34))
def F41c14 : Ac := (.cond (.t 13) (.seq (.ops F41o16) F41c17) (.seq (.ops F41o23) F41c24))
def F41c10 : Ac := (.cond (.t 11) .skip (.seq (.ops F41o13) F41c14))
def F41c7 : Ac := (.block 0 (.seq (.ops F41o9) F41c10))
def F41o36 : List Ao := [
  o3 21 (.faddr 2) [.t 2],
  o3 22 (.load none) [.t 21],
  o3 23 (.bin .geq) [.t 22, .c (.d (.int .i64 0))],
  o3 24 .mv [.t 23],
  og 25 (.faddr 2) [.t 2] 24 true,
  og 26 (.load none) [.t 25] 24 true,
  og 27 (.bin .leq) [.t 26, .c (.d (.int .i64 4))] 24 true,
  o3 28 .pick [.t 24, .t 27, .c (.d (.bool false))],
  o3 4 .mv [.t 28]]
def F41c37 : Ac := .ret
def F41c35 : Ac := (.seq (.ops F41o36) F41c37)
def F41c4 : Ac := (.seq (.seq (.ops F41o6) F41c7) F41c35)
def F41c2 : Ac := (.seq (.ops F41o3) F41c4)
def F41c0 : Ac := (.seq (.ops F41o1) F41c2)
/-- hansom/inst.prefixes -/
def F41 : Fn := { np := 2, pb := [], rs := [.t 4], body := F41c0 }
def F42o1 : List Ao := [
  o3 2 .mv [.c (.d (.bool false))]]
def F42o4 : List Ao := [
  o3 3 .mv [.t 0]]
def F42o8 : List Ao := [
  o3 5 (.bin .eql) [.t 3, .c (.d (.int .u8 38))],
  o3 4 .mv [.t 5]]
def F42o12 : List Ao := [
  o3 6 (.bin .eql) [.t 3, .c (.d (.int .u8 46))],
  o3 4 .mv [.t 6]]
def F42o16 : List Ao := [
  o3 7 (.bin .eql) [.t 3, .c (.d (.int .u8 54))],
  o3 4 .mv [.t 7]]
def F42o20 : List Ao := [
  o3 8 (.bin .eql) [.t 3, .c (.d (.int .u8 62))],
  o3 4 .mv [.t 8]]
def F42o24 : List Ao := [
  o3 9 (.bin .eql) [.t 3, .c (.d (.int .u8 240))],
  o3 4 .mv [.t 9]]
def F42o28 : List Ao := [
  o3 10 (.bin .eql) [.t 3, .c (.d (.int .u8 242))],
  o3 4 .mv [.t 10]]
def F42o31 : List Ao := [
  o3 11 (.bin .eql) [.t 3, .c (.d (.int .u8 243))],
  o3 4 .mv [.t 11]]
def F42c29 : Ac := (.cond (.t 4) .skip (.ops F42o31))
def F42c25 : Ac := (.cond (.t 4) .skip (.seq (.ops F42o28) F42c29))
def F42c21 : Ac := (.cond (.t 4) .skip (.seq (.ops F42o24) F42c25))
def F42c17 : Ac := (.cond (.t 4) .skip (.seq (.ops F42o20) F42c21))
def F42c13 : Ac := (.cond (.t 4) .skip (.seq (.ops F42o16) F42c17))
def F42c9 : Ac := (.cond (.t 4) .skip (.seq (.ops F42o12) F42c13))
def F42o34 : List Ao := [
  o3 2 .mv [.c (.d (.bool true))]]
def F42c35 : Ac := .ret
def F42c32 : Ac := (.cond (.t 4) (.seq (.ops F42o34) F42c35) .skip)
def F42c5 : Ac := (.block 0 (.seq (.seq (.ops F42o8) F42c9) F42c32))
def F42o38 : List Ao := [
  o3 2 .mv [.c (.d (.bool false))]]
def F42c39 : Ac := .ret
def F42c37 : Ac := (.seq (.ops F42o38) F42c39)
def F42c2 : Ac := (.seq (.seq (.ops F42o4) F42c5) F42c37)
def F42c0 : Ac := (.seq (.ops F42o1) F42c2)
/-- hansom/isa.Prefix -/
def F42 : Fn := { np := 1, pb := [], rs := [.t 2], body := F42c0 }
def F43o1 : List Ao := [
  o3 4 (.alloc [.d (.int .i64 0), .d (.int .i64 0), .d (.int .i64 0), .d (.bool false)]) [],
  o3 5 .mv [.c (.d (.bool false))]]
def F43o3 : List Ao := [
  o3 7 .mv [.t 1],
  o3 8 (.bin .and) [.t 7, .c (.d (.int .i64 7))],
  o3 1 .mv [.t 8]]
def F43o7 : List Ao := [
  o3 10 .mv [.t 0],
  o3 11 (.bin .lss) [.t 10, .c (.d (.int .u8 64))],
  o3 9 .mv [.t 11]]
def F43o10 : List Ao := [
  o3 12 .mv [.t 0],
  o3 13 (.callf 54) [.t 12],
  o3 14 (.extract 0) [.t 13],
  o3 15 (.extract 1) [.t 13],
  o0 (.store 4) [.t 4, .t 14],
  o3 5 .mv [.t 15]]
def F43c11 : Ac := .ret
def F43o13 : List Ao := [
  o3 17 .mv [.t 0],
  o3 18 (.bin .lss) [.t 17, .c (.d (.int .u8 96))],
  o3 16 .mv [.t 18]]
def F43o16 : List Ao := [
  o3 19 (.bslice (.int .i64 0) 4 [0, 1, 2, 3]) [.c (.d (.int .i64 15)), .c (.d (.int .i64 16)), .c (.d (.int .i64 9)), .c (.d (.int .i64 10))],
  o3 20 .mv [.t 0],
  o3 21 (.bin .sub) [.t 20, .c (.d (.int .u8 64))],
  o3 22 (.bin .shr) [.t 21, .c (.d (.int .u64 3))],
  o3 23 (.iaddrS 1) [.t 19, .t 22],
  o3 24 (.load none) [.t 23],
  o3 6 .mv [.t 24]]
def F43o18 : List Ao := [
  o3 25 .mv [.t 6],
  o3 26 (.callf 55) [.t 25, .c (.d (.int .i64 22)), .c (.d (.int .i64 0))],
  o3 27 (.extract 0) [.t 26],
  o3 28 (.extract 1) [.t 26],
  o0 (.store 4) [.t 4, .t 27],
  o3 5 .mv [.t 28]]
def F43c19 : Ac := .ret
def F43c17 : Ac := (.seq (.ops F43o18) F43c19)
def F43o21 : List Ao := [
  o3 30 .mv [.t 0],
  o3 31 (.bin .lss) [.t 30, .c (.d (.int .u8 112))],
  o3 29 .mv [.t 31]]
def F43o24 : List Ao := [
  o3 32 (.callf 56) [],
  o3 33 (.extract 0) [.t 32],
  o3 34 (.extract 1) [.t 32],
  o0 (.store 4) [.t 4, .t 33],
  o3 5 .mv [.t 34]]
def F43c25 : Ac := .ret
def F43o27 : List Ao := [
  o3 36 .mv [.t 0],
  o3 37 (.bin .lss) [.t 36, .c (.d (.int .u8 128))],
  o3 35 .mv [.t 37]]
def F43o30 : List Ao := [
  o3 38 .mv [.t 0],
  o3 39 (.bin .sub) [.t 38, .c (.d (.int .u8 112))],
  o3 40 (.toInt .i64) [.t 39],
  o3 41 (.bin .add) [.c (.d (.int .i64 17)), .t 40],
  o3 42 (.callf 55) [.t 41, .c (.d (.int .i64 9)), .c (.d (.int .i64 0))],
  o3 43 (.extract 0) [.t 42],
  o3 44 (.extract 1) [.t 42],
  o0 (.store 4) [.t 4, .t 43],
  o3 5 .mv [.t 44]]
def F43c31 : Ac := .ret
def F43o33 : List Ao := [
  o3 46 .mv [.t 0],
  o3 47 (.bin .lss) [.t 46, .c (.d (.int .u8 144))],
  o3 45 .mv [.t 47]]
def F43o36 : List Ao := [
  o3 48 .mv [.t 0],
  o3 49 .mv [.t 1],
  o3 50 (.callf 57) [.t 48, .t 49],
  o3 51 (.extract 0) [.t 50],
  o3 52 (.extract 1) [.t 50],
  o0 (.store 4) [.t 4, .t 51],
  o3 5 .mv [.t 52]]
def F43c37 : Ac := .ret
def F43o39 : List Ao := [
  o3 54 .mv [.t 0],
  o3 55 (.bin .lss) [.t 54, .c (.d (.int .u8 160))],
  o3 53 .mv [.t 55]]
def F43o42 : List Ao := [
  o3 56 .mv [.t 0],
  o3 57 (.callf 58) [.t 56],
  o3 58 (.extract 0) [.t 57],
  o3 59 (.extract 1) [.t 57],
  o0 (.store 4) [.t 4, .t 58],
  o3 5 .mv [.t 59]]
def F43c43 : Ac := .ret
def F43o45 : List Ao := [
  o3 61 .mv [.t 0],
  o3 62 (.bin .lss) [.t 61, .c (.d (.int .u8 176))],
  o3 60 .mv [.t 62]]
def F43o48 : List Ao := [
  o3 63 .mv [.t 0],
  o3 64 (.callf 59) [.t 63],
  o3 65 (.extract 0) [.t 64],
  o3 66 (.extract 1) [.t 64],
  o0 (.store 4) [.t 4, .t 65],
  o3 5 .mv [.t 66]]
def F43c49 : Ac := .ret
def F43o51 : List Ao := [
  o3 68 .mv [.t 0],
  o3 69 (.bin .lss) [.t 68, .c (.d (.int .u8 184))],
  o3 67 .mv [.t 69]]
def F43o54 : List Ao := [
  o3 70 (.callf 55) [.c (.d (.int .i64 35)), .c (.d (.int .i64 21)), .c (.d (.int .i64 6))],
  o3 71 (.extract 0) [.t 70],
  o3 72 (.extract 1) [.t 70],
  o0 (.store 4) [.t 4, .t 71],
  o3 5 .mv [.t 72]]
def F43c55 : Ac := .ret
def F43o57 : List Ao := [
  o3 74 .mv [.t 0],
  o3 75 (.bin .lss) [.t 74, .c (.d (.int .u8 192))],
  o3 73 .mv [.t 75]]
def F43o60 : List Ao := [
  o3 76 (.callf 55) [.c (.d (.int .i64 35)), .c (.d (.int .i64 22)), .c (.d (.int .i64 7))],
  o3 77 (.extract 0) [.t 76],
  o3 78 (.extract 1) [.t 76],
  o0 (.store 4) [.t 4, .t 77],
  o3 5 .mv [.t 78]]
def F43c61 : Ac := .ret
def F43o63 : List Ao := [
  o3 80 .mv [.t 0],
  o3 81 (.bin .lss) [.t 80, .c (.d (.int .u8 208))],
  o3 79 .mv [.t 81]]
def F43o66 : List Ao := [
  o3 82 .mv [.t 0],
  o3 83 .mv [.t 1],
  o3 84 (.callf 60) [.t 82, .t 83],
  o3 85 (.extract 0) [.t 84],
  o3 86 (.extract 1) [.t 84],
  o0 (.store 4) [.t 4, .t 85],
  o3 5 .mv [.t 86]]
def F43c67 : Ac := .ret
def F43o69 : List Ao := [
  o3 88 .mv [.t 0],
  o3 89 (.bin .lss) [.t 88, .c (.d (.int .u8 224))],
  o3 87 .mv [.t 89]]
def F43o72 : List Ao := [
  o3 90 .mv [.t 0],
  o3 91 .mv [.t 1],
  o3 92 (.callf 61) [.t 90, .t 91],
  o3 93 (.extract 0) [.t 92],
  o3 94 (.extract 1) [.t 92],
  o0 (.store 4) [.t 4, .t 93],
  o3 5 .mv [.t 94]]
def F43c73 : Ac := .ret
def F43o75 : List Ao := [
  o3 96 .mv [.t 0],
  o3 97 (.bin .lss) [.t 96, .c (.d (.int .u8 240))],
  o3 95 .mv [.t 97]]
def F43o78 : List Ao := [
  o3 98 .mv [.t 0],
  o3 99 (.callf 62) [.t 98],
  o3 100 (.extract 0) [.t 99],
  o3 101 (.extract 1) [.t 99],
  o0 (.store 4) [.t 4, .t 100],
  o3 5 .mv [.t 101]]
def F43c79 : Ac := .ret
def F43c76 : Ac := (.cond (.t 95) (.seq (.ops F43o78) F43c79) .skip)
def F43c70 : Ac := (.cond (.t 87) (.seq (.ops F43o72) F43c73) (.seq (.ops F43o75) F43c76))
def F43c64 : Ac := (.cond (.t 79) (.seq (.ops F43o66) F43c67) (.seq (.ops F43o69) F43c70))
def F43c58 : Ac := (.cond (.t 73) (.seq (.ops F43o60) F43c61) (.seq (.ops F43o63) F43c64))
def F43c52 : Ac := (.cond (.t 67) (.seq (.ops F43o54) F43c55) (.seq (.ops F43o57) F43c58))
def F43c46 : Ac := (.cond (.t 60) (.seq (.ops F43o48) F43c49) (.seq (.ops F43o51) F43c52))
def F43c40 : Ac := (.cond (.t 53) (.seq (.ops F43o42) F43c43) (.seq (.ops F43o45) F43c46))
def F43c34 : Ac := (.cond (.t 45) (.seq (.ops F43o36) F43c37) (.seq (.ops F43o39) F43c40))
def F43c28 : Ac := (.cond (.t 35) (.seq (.ops F43o30) F43c31) (.seq (.ops F43o33) F43c34))
def F43c22 : Ac := (.cond (.t 29) (.seq (.ops F43o24) F43c25) (.seq (.ops F43o27) F43c28))
def F43c14 : Ac := (.cond (.t 16) (.seq (.ops F43o16) F43c17) (.seq (.ops F43o21) F43c22))
def F43c8 : Ac := (.cond (.t 9) (.seq (.ops F43o10) F43c11) (.seq (.ops F43o13) F43c14))
def F43o82 : List Ao := [
  o3 102 .mv [.t 0],
  o3 103 .mv [.t 1],
  o3 104 (.callf 63) [.t 102, .t 103],
  o3 105 (.extract 0) [.t 104],
  o3 106 (.extract 1) [.t 104],
  o0 (.store 4) [.t 4, .t 105],
  o3 5 .mv [.t 106]]
def F43c83 : Ac := .ret
def F43c81 : Ac := (.seq (.ops F43o82) F43c83)
def F43c4 : Ac := (.seq (.block 0 (.seq (.ops F43o7) F43c8)) F43c81)
def F43c2 : Ac := (.seq (.ops F43o3) F43c4)
def F43c0 : Ac := (.seq (.ops F43o1) F43c2)
/-- hansom/isa.Of -/
def F43 : Fn := { np := 2, pb := [], rs := [.c 4 (some 4), .t 5], body := F43c0 }
def F44o1 : List Ao := [
  o3 2 .mv [.c (.d (.int .i64 0))]]
def F44o4 : List Ao := [
  o3 3 .mv [.t 0]]
def F44o8 : List Ao := [
  o3 5 (.bin .eql) [.t 3, .c (.d (.int .i64 6))],
  o3 4 .mv [.t 5]]
def F44o12 : List Ao := [
  o3 6 (.bin .eql) [.t 3, .c (.d (.int .i64 8))],
  o3 4 .mv [.t 6]]
def F44o15 : List Ao := [
  o3 7 (.bin .eql) [.t 3, .c (.d (.int .i64 9))],
  o3 4 .mv [.t 7]]
def F44c13 : Ac := (.cond (.t 4) .skip (.ops F44o15))
def F44c9 : Ac := (.cond (.t 4) .skip (.seq (.ops F44o12) F44c13))
def F44o18 : List Ao := [
  o3 2 .mv [.c (.d (.int .i64 1))]]
def F44c19 : Ac := .ret
def F44o22 : List Ao := [
  o3 9 (.bin .eql) [.t 3, .c (.d (.int .i64 7))],
  o3 8 .mv [.t 9]]
def F44o26 : List Ao := [
  o3 10 (.bin .eql) [.t 3, .c (.d (.int .i64 10))],
  o3 8 .mv [.t 10]]
def F44o30 : List Ao := [
  o3 11 (.bin .eql) [.t 3, .c (.d (.int .i64 12))],
  o3 8 .mv [.t 11]]
def F44o33 : List Ao := [
  o3 12 (.bin .eql) [.t 3, .c (.d (.int .i64 13))],
  o3 8 .mv [.t 12]]
def F44c31 : Ac := (.cond (.t 8) .skip (.ops F44o33))
def F44c27 : Ac := (.cond (.t 8) .skip (.seq (.ops F44o30) F44c31))
def F44c23 : Ac := (.cond (.t 8) .skip (.seq (.ops F44o26) F44c27))
def F44o36 : List Ao := [
  o3 2 .mv [.c (.d (.int .i64 2))]]
def F44c37 : Ac := .ret
def F44o39 : List Ao := [
  o3 14 (.bin .eql) [.t 3, .c (.d (.int .i64 11))],
  o3 13 .mv [.t 14]]
def F44o42 : List Ao := [
  o3 2 .mv [.c (.d (.int .i64 4))]]
def F44c43 : Ac := .ret
def F44c40 : Ac := (.cond (.t 13) (.seq (.ops F44o42) F44c43) .skip)
def F44c34 : Ac := (.cond (.t 8) (.seq (.ops F44o36) F44c37) (.seq (.ops F44o39) F44c40))
def F44b16 : Ac := (.cond (.t 4) (.seq (.ops F44o18) F44c19) (.seq (.seq (.ops F44o22) F44c23) F44c34))
def F44c16 : Ac := (.seq (.gh []) (.seq (.keep [3, 4] []) F44b16))
def F44c5 : Ac := (.block 0 (.seq (.seq (.ops F44o8) F44c9) F44c16))
def F44o46 : List Ao := [
  o3 2 .mv [.c (.d (.int .i64 0))]]
def F44c47 : Ac := .ret
def F44c45 : Ac := (.seq (.ops F44o46) F44c47)
def F44c2 : Ac := (.seq (.seq (.ops F44o4) F44c5) F44c45)
def F44c0 : Ac := (.seq (.ops F44o1) F44c2)
/-- hansom/isa.Immediate -/
def F44 : Fn := { np := 1, pb := [], rs := [.t 2], body := F44c0 }
def F45o1 : List Ao := [
  o3 4 .mv [.c (.d (.str []))]]
def F45o3 : List Ao := [
  o3 6 .mv [.t 0],
  o3 7 (.toInt .i64) [.t 6],
  o3 8 (.callf 51) [.c (.d (.str [65, 68, 68, 58, 69, 98, 58, 71, 98, 32, 65, 68, 68, 58, 69, 118, 58, 71, 118, 32, 65, 68, 68, 58, 71, 98, 58, 69, 98, 32, 65, 68, 68, 58, 71, 118, 58, 69, 118, 32, 65, 68, 68, 58, 65, 76, 58, 73, 98, 32, 65, 68, 68, 58, 65, 88, 58, 73, 118, 32, 80, 85, 83, 72, 58, 90, 115, 32, 80, 79, 80, 58, 90, 115, 32, 79, 82, 58, 69, 98, 58, 71, 98, 32, 79, 82, 58, 69, 118, 58, 71, 118, 32, 79, 82, 58, 71, 98, 58, 69, 98, 32, 79, 82, 58, 71, 118, 58, 69, 118, 32, 79, 82, 58, 65, 76, 58, 73, 98, 32, 79, 82, 58, 65, 88, 58, 73, 118, 32, 80, 85, 83, 72, 58, 90, 115, 32, 45, 32, 65, 68, 67, 58, 69, 98, 58, 71, 98, 32, 65, 68, 67, 58, 69, 118, 58, 71, 118, 32, 65, 68, 67, 58, 71, 98, 58, 69, 98, 32, 65, 68, 67, 58, 71, 118, 58, 69, 118, 32, 65, 68, 67, 58, 65, 76, 58, 73, 98, 32, 65, 68, 67, 58, 65, 88, 58, 73, 118, 32, 80, 85, 83, 72, 58, 90, 115, 32, 80, 79, 80, 58, 90, 115, 32, 83, 66, 66, 58, 69, 98, 58, 71, 98, 32, 83, 66, 66, 58, 69, 118, 58, 71, 118, 32, 83, 66, 66, 58, 71, 98, 58, 69, 98, 32, 83, 66, 66, 58, 71, 118, 58, 69, 118, 32, 83, 66, 66, 58, 65, 76, 58, 73, 98, 32, 83, 66, 66, 58, 65, 88, 58, 73, 118, 32, 80, 85, 83, 72, 58, 90, 115, 32, 80, 79, 80, 58, 90, 115, 32, 65, 78, 68, 58, 69, 98, 58, 71, 98, 32, 65, 78, 68, 58, 69, 118, 58, 71, 118, 32, 65, 78, 68, 58, 71, 98, 58, 69, 98, 32, 65, 78, 68, 58, 71, 118, 58, 69, 118, 32, 65, 78, 68, 58, 65, 76, 58, 73, 98, 32, 65, 78, 68, 58, 65, 88, 58, 73, 118, 32, 45, 32, 68, 65, 65, 32, 83, 85, 66, 58, 69, 98, 58, 71, 98, 32, 83, 85, 66, 58, 69, 118, 58, 71, 118, 32, 83, 85, 66, 58, 71, 98, 58, 69, 98, 32, 83, 85, 66, 58, 71, 118, 58, 69, 118, 32, 83, 85, 66, 58, 65, 76, 58, 73, 98, 32, 83, 85, 66, 58, 65, 88, 58, 73, 118, 32, 45, 32, 68, 65, 83, 32, 88, 79, 82, 58, 69, 98, 58, 71, 98, 32, 88, 79, 82, 58, 69, 118, 58, 71, 118, 32, 88, 79, 82, 58, 71, 98, 58, 69, 98, 32, 88, 79, 82, 58, 71, 118, 58, 69, 118, 32, 88, 79, 82, 58, 65, 76, 58, 73, 98, 32, 88, 79, 82, 58, 65, 88, 58, 73, 118, 32, 45, 32, 65, 65, 65, 32, 67, 77, 80, 58, 69, 98, 58, 71, 98, 32, 67, 77, 80, 58, 69, 118, 58, 71, 118, 32, 67, 77, 80, 58, 71, 98, 58, 69, 98, 32, 67, 77, 80, 58, 71, 118, 58, 69, 118, 32, 67, 77, 80, 58, 65, 76, 58, 73, 98, 32, 67, 77, 80, 58, 65, 88, 58, 73, 118, 32, 45, 32, 65, 65, 83, 32, 73, 78, 67, 58, 90, 118, 32, 73, 78, 67, 58, 90, 118, 32, 73, 78, 67, 58, 90, 118, 32, 73, 78, 67, 58, 90, 118, 32, 73, 78, 67, 58, 90, 118, 32, 73, 78, 67, 58, 90, 118, 32, 73, 78, 67, 58, 90, 118, 32, 73, 78, 67, 58, 90, 118, 32, 68, 69, 67, 58, 90, 118, 32, 68, 69, 67, 58, 90, 118, 32, 68, 69, 67, 58, 90, 118, 32, 68, 69, 67, 58, 90, 118, 32, 68, 69, 67, 58, 90, 118, 32, 68, 69, 67, 58, 90, 118, 32, 68, 69, 67, 58, 90, 118, 32, 68, 69, 67, 58, 90, 118, 32, 80, 85, 83, 72, 58, 90, 118, 32, 80, 85, 83, 72, 58, 90, 118, 32, 80, 85, 83, 72, 58, 90, 118, 32, 80, 85, 83, 72, 58, 90, 118, 32, 80, 85, 83, 72, 58, 90, 118, 32, 80, 85, 83, 72, 58, 90, 118, 32, 80, 85, 83, 72, 58, 90, 118, 32, 80, 85, 83, 72, 58, 90, 118, 32, 80, 79, 80, 58, 90, 118, 32, 80, 79, 80, 58, 90, 118, 32, 80, 79, 80, 58, 90, 118, 32, 80, 79, 80, 58, 90, 118, 32, 80, 79, 80, 58, 90, 118, 32, 80, 79, 80, 58, 90, 118, 32, 80, 79, 80, 58, 90, 118, 32, 80, 79, 80, 58, 90, 118, 32, 45, 32, 45, 32, 45, 32, 45, 32, 45, 32, 45, 32, 45, 32, 45, 32, 45, 32, 45, 32, 45, 32, 45, 32, 45, 32, 45, 32, 45, 32, 45, 32, 74, 79, 58, 74, 98, 32, 74, 78, 79, 58, 74, 98, 32, 74, 66, 58, 74, 98, 32, 74, 78, 66, 58, 74, 98, 32, 74, 90, 58, 74, 98, 32, 74, 78, 90, 58, 74, 98, 32, 74, 66, 69, 58, 74, 98, 32, 74, 65, 58, 74, 98, 32, 74, 83, 58, 74, 98, 32, 74, 78, 83, 58, 74, 98, 32, 74, 80, 58, 74, 98, 32, 74, 78, 80, 58, 74, 98, 32, 74, 76, 58, 74, 98, 32, 74, 71, 69, 58, 74, 98, 32, 74, 76, 69, 58, 74, 98, 32, 74, 71, 58, 74, 98, 32, 47, 65, 68, 68, 58, 69, 98, 58, 73, 98, 47, 79, 82, 58, 69, 98, 58, 73, 98, 47, 65, 68, 67, 58, 69, 98, 58, 73, 98, 47, 83, 66, 66, 58, 69, 98, 58, 73, 98, 47, 65, 78, 68, 58, 69, 98, 58, 73, 98, 47, 83, 85, 66, 58, 69, 98, 58, 73, 98, 47, 88, 79, 82, 58, 69, 98, 58, 73, 98, 47, 67, 77, 80, 58, 69, 98, 58, 73, 98, 32, 47, 65, 68, 68, 58, 69, 118, 58, 73, 118, 47, 79, 82, 58, 69, 118, 58, 73, 118, 47, 65, 68, 67, 58, 69, 118, 58, 73, 118, 47, 83, 66, 66, 58, 69, 118, 58, 73, 118, 47, 65, 78, 68, 58, 69, 118, 58, 73, 118, 47, 83, 85, 66, 58, 69, 118, 58, 73, 118, 47, 88, 79, 82, 58, 69, 118, 58, 73, 118, 47, 67, 77, 80, 58, 69, 118, 58, 73, 118, 32, 45, 32, 47, 65, 68, 68, 58, 69, 118, 58, 73, 115, 47, 45, 47, 65, 68, 67, 58, 69, 118, 58, 73, 115, 47, 83, 66, 66, 58, 69, 118, 58, 73, 115, 47, 45, 47, 83, 85, 66, 58, 69, 118, 58, 73, 115, 47, 45, 47, 67, 77, 80, 58, 69, 118, 58, 73, 115, 32, 84, 69, 83, 84, 58, 69, 98, 58, 71, 98, 32, 84, 69, 83, 84, 58, 69, 118, 58, 71, 118, 32, 88, 67, 72, 71, 58, 69, 98, 58, 71, 98, 32, 88, 67, 72, 71, 58, 69, 118, 58, 71, 118, 32, 77, 79, 86, 58, 69, 98, 58, 71, 98, 32, 77, 79, 86, 58, 69, 118, 58, 71, 118, 32, 77, 79, 86, 58, 71, 98, 58, 69, 98, 32, 77, 79, 86, 58, 71, 118, 58, 69, 118, 32, 47, 77, 79, 86, 58, 69, 118, 58, 83, 119, 47, 77, 79, 86, 58, 69, 118, 58, 83, 119, 47, 77, 79, 86, 58, 69, 118, 58, 83, 119, 47, 77, 79, 86, 58, 69, 118, 58, 83, 119, 47, 45, 47, 45, 47, 45, 47, 45, 32, 76, 69, 65, 58, 71, 118, 58, 77, 32, 47, 77, 79, 86, 58, 83, 119, 58, 69, 118, 47, 45, 47, 77, 79, 86, 58, 83, 119, 58, 69, 118, 47, 77, 79, 86, 58, 83, 119, 58, 69, 118, 47, 45, 47, 45, 47, 45, 47, 45, 32, 47, 80, 79, 80, 58, 69, 118, 47, 45, 47, 45, 47, 45, 47, 45, 47, 45, 47, 45, 47, 45, 32, 88, 67, 72, 71, 58, 65, 88, 58, 90, 118, 32, 88, 67, 72, 71, 58, 65, 88, 58, 90, 118, 32, 88, 67, 72, 71, 58, 65, 88, 58, 90, 118, 32, 88, 67, 72, 71, 58, 65, 88, 58, 90, 118, 32, 88, 67, 72, 71, 58, 65, 88, 58, 90, 118, 32, 88, 67, 72, 71, 58, 65, 88, 58, 90, 118, 32, 88, 67, 72, 71, 58, 65, 88, 58, 90, 118, 32, 88, 67, 72, 71, 58, 65, 88, 58, 90, 118, 32, 67, 66, 87, 32, 67, 87, 68, 32, 67, 65, 76, 76, 70, 58, 65, 112, 32, 87, 65, 73, 84, 32, 80, 85, 83, 72, 70, 32, 80, 79, 80, 70, 32, 83, 65, 72, 70, 32, 76, 65, 72, 70, 32, 77, 79, 86, 58, 65, 76, 58, 79, 98, 32, 77, 79, 86, 58, 65, 88, 58, 79, 118, 32, 77, 79, 86, 58, 79, 98, 58, 65, 76, 32, 77, 79, 86, 58, 79, 118, 58, 65, 88, 32, 77, 79, 86, 83, 66, 32, 77, 79, 86, 83, 87, 32, 67, 77, 80, 83, 66, 32, 67, 77, 80, 83, 87, 32, 84, 69, 83, 84, 58, 65, 76, 58, 73, 98, 32, 84, 69, 83, 84, 58, 65, 88, 58, 73, 118, 32, 83, 84, 79, 83, 66, 32, 83, 84, 79, 83, 87, 32, 76, 79, 68, 83, 66, 32, 76, 79, 68, 83, 87, 32, 83, 67, 65, 83, 66, 32, 83, 67, 65, 83, 87, 32, 77, 79, 86, 58, 90, 98, 58, 73, 98, 32, 77, 79, 86, 58, 90, 98, 58, 73, 98, 32, 77, 79, 86, 58, 90, 98, 58, 73, 98, 32, 77, 79, 86, 58, 90, 98, 58, 73, 98, 32, 77, 79, 86, 58, 90, 98, 58, 73, 98, 32, 77, 79, 86, 58, 90, 98, 58, 73, 98, 32, 77, 79, 86, 58, 90, 98, 58, 73, 98, 32, 77, 79, 86, 58, 90, 98, 58, 73, 98, 32, 77, 79, 86, 58, 90, 118, 58, 73, 118, 32, 77, 79, 86, 58, 90, 118, 58, 73, 118, 32, 77, 79, 86, 58, 90, 118, 58, 73, 118, 32, 77, 79, 86, 58, 90, 118, 58, 73, 118, 32, 77, 79, 86, 58, 90, 118, 58, 73, 118, 32, 77, 79, 86, 58, 90, 118, 58, 73, 118, 32, 77, 79, 86, 58, 90, 118, 58, 73, 118, 32, 77, 79, 86, 58, 90, 118, 58, 73, 118, 32, 45, 32, 45, 32, 82, 69, 84, 58, 73, 118, 32, 82, 69, 84, 32, 76, 69, 83, 58, 71, 118, 58, 77, 112, 32, 76, 68, 83, 58, 71, 118, 58, 77, 112, 32, 47, 77, 79, 86, 58, 69, 98, 58, 73, 98, 47, 45, 47, 45, 47, 45, 47, 45, 47, 45, 47, 45, 47, 45, 32, 47, 77, 79, 86, 58, 69, 118, 58, 73, 118, 47, 45, 47, 45, 47, 45, 47, 45, 47, 45, 47, 45, 47, 45, 32, 45, 32, 45, 32, 82, 69, 84, 70, 58, 73, 118, 32, 82, 69, 84, 70, 32, 73, 78, 84, 58, 84, 104, 114, 101, 101, 32, 73, 78, 84, 58, 73, 98, 32, 73, 78, 84, 79, 32, 73, 82, 69, 84, 32, 47, 82, 79, 76, 58, 69, 98, 58, 79, 110, 101, 47, 82, 79, 82, 58, 69, 98, 58, 79, 110, 101, 47, 82, 67, 76, 58, 69, 98, 58, 79, 110, 101, 47, 82, 67, 82, 58, 69, 98, 58, 79, 110, 101, 47, 83, 72, 76, 58, 69, 98, 58, 79, 110, 101, 47, 83, 72, 82, 58, 69, 98, 58, 79, 110, 101, 47, 45, 47, 83, 65, 82, 58, 69, 98, 58, 79, 110, 101, 32, 47, 82, 79, 76, 58, 69, 118, 58, 79, 110, 101, 47, 82, 79, 82, 58, 69, 118, 58, 79, 110, 101, 47, 82, 67, 76, 58, 69, 118, 58, 79, 110, 101, 47, 82, 67, 82, 58, 69, 118, 58, 79, 110, 101, 47, 83, 72, 76, 58, 69, 118, 58, 79, 110, 101, 47, 83, 72, 82, 58, 69, 118, 58, 79, 110, 101, 47, 45, 47, 83, 65, 82, 58, 69, 118, 58, 79, 110, 101, 32, 47, 82, 79, 76, 58, 69, 98, 58, 67, 76, 47, 82, 79, 82, 58, 69, 98, 58, 67, 76, 47, 82, 67, 76, 58, 69, 98, 58, 67, 76, 47, 82, 67, 82, 58, 69, 98, 58, 67, 76, 47, 83, 72, 76, 58, 69, 98, 58, 67, 76, 47, 83, 72, 82, 58, 69, 98, 58, 67, 76, 47, 45, 47, 83, 65, 82, 58, 69, 98, 58, 67, 76, 32, 47, 82, 79, 76, 58, 69, 118, 58, 67, 76, 47, 82, 79, 82, 58, 69, 118, 58, 67, 76, 47, 82, 67, 76, 58, 69, 118, 58, 67, 76, 47, 82, 67, 82, 58, 69, 118, 58, 67, 76, 47, 83, 72, 76, 58, 69, 118, 58, 67, 76, 47, 83, 72, 82, 58, 69, 118, 58, 67, 76, 47, 45, 47, 83, 65, 82, 58, 69, 118, 58, 67, 76, 32, 65, 65, 77, 58, 73, 98, 32, 65, 65, 68, 58, 73, 98, 32, 45, 32, 88, 76, 65, 84, 32, 69, 83, 67, 58, 69, 118, 32, 69, 83, 67, 58, 69, 118, 32, 69, 83, 67, 58, 69, 118, 32, 69, 83, 67, 58, 69, 118, 32, 69, 83, 67, 58, 69, 118, 32, 69, 83, 67, 58, 69, 118, 32, 69, 83, 67, 58, 69, 118, 32, 69, 83, 67, 58, 69, 118, 32, 76, 79, 79, 80, 78, 90, 58, 74, 98, 32, 76, 79, 79, 80, 90, 58, 74, 98, 32, 76, 79, 79, 80, 58, 74, 98, 32, 74, 67, 88, 90, 58, 74, 98, 32, 73, 78, 58, 65, 76, 58, 73, 98, 32, 73, 78, 58, 65, 88, 58, 73, 98, 32, 79, 85, 84, 58, 73, 98, 58, 65, 76, 32, 79, 85, 84, 58, 73, 98, 58, 65, 88, 32, 67, 65, 76, 76, 58, 74, 118, 32, 74, 77, 80, 58, 74, 118, 32, 74, 77, 80, 70, 58, 65, 112, 32, 74, 77, 80, 58, 74, 98, 32, 73, 78, 58, 65, 76, 58, 68, 88, 32, 73, 78, 58, 65, 88, 58, 68, 88, 32, 79, 85, 84, 58, 68, 88, 58, 65, 76, 32, 79, 85, 84, 58, 68, 88, 58, 65, 88, 32, 45, 32, 45, 32, 45, 32, 45, 32, 72, 76, 84, 32, 67, 77, 67, 32, 47, 84, 69, 83, 84, 58, 69, 98, 58, 73, 98, 47, 45, 47, 78, 79, 84, 58, 69, 98, 47, 78, 69, 71, 58, 69, 98, 47, 77, 85, 76, 58, 69, 98, 47, 73, 77, 85, 76, 58, 69, 98, 47, 68, 73, 86, 58, 69, 98, 47, 73, 68, 73, 86, 58, 69, 98, 32, 47, 84, 69, 83, 84, 58, 69, 118, 58, 73, 118, 47, 45, 47, 78, 79, 84, 58, 69, 118, 47, 78, 69, 71, 58, 69, 118, 47, 77, 85, 76, 58, 69, 118, 47, 73, 77, 85, 76, 58, 69, 118, 47, 68, 73, 86, 58, 69, 118, 47, 73, 68, 73, 86, 58, 69, 118, 32, 67, 76, 67, 32, 83, 84, 67, 32, 67, 76, 73, 32, 83, 84, 73, 32, 67, 76, 68, 32, 83, 84, 68, 32, 47, 73, 78, 67, 58, 69, 98, 47, 68, 69, 67, 58, 69, 98, 47, 45, 47, 45, 47, 45, 47, 45, 47, 45, 47, 45, 32, 47, 73, 78, 67, 58, 69, 118, 47, 68, 69, 67, 58, 69, 118, 47, 67, 65, 76, 76, 58, 69, 118, 47, 67, 65, 76, 76, 70, 58, 77, 112, 47, 74, 77, 80, 58, 69, 118, 47, 74, 77, 80, 70, 58, 77, 112, 47, 80, 85, 83, 72, 58, 69, 118, 47, 45, 32])), .t 7],
  o3 5 .mv [.t 8]]
def F45o6 : List Ao := [
  o3 9 .mv [.t 5],
  o3 10 .lenS [.t 9],
  o3 11 (.bin .gtr) [.t 10, .c (.d (.int .i64 0))],
  o3 12 .mv [.t 11],
  og 13 .mv [.t 5] 12 true,
  og 14 .indexS [.t 13, .c (.d (.int .i64 0))] 12 true,
  og 15 (.bin .eql) [.t 14, .c (.d (.int .u8 47))] 12 true,
  o3 16 .pick [.t 12, .t 15, .c (.d (.bool false))]]
def F45o9 : List Ao := [
  o3 17 .mv [.t 5],
  o3 18 .mv [.t 1],
  o3 19 (.bin .and) [.t 18, .c (.d (.int .i64 7))],
  o3 20 (.bin .add) [.t 19, .c (.d (.int .i64 1))],
  o3 21 (.callf 47) [.t 17, .c (.d (.int .u8 47)), .t 20],
  o3 4 .mv [.t 21]]
def F45c10 : Ac := .ret
def F45c7 : Ac := (.cond (.t 16) (.seq (.ops F45o9) F45c10) .skip)
def F45o13 : List Ao := [
  o3 22 .mv [.t 5],
  o3 4 .mv [.t 22]]
def F45c14 : Ac := .ret
def F45c12 : Ac := (.seq (.ops F45o13) F45c14)
def F45c4 : Ac := (.seq (.seq (.ops F45o6) F45c7) F45c12)
def F45c2 : Ac := (.seq (.ops F45o3) F45c4)
def F45c0 : Ac := (.seq (.ops F45o1) F45c2)
/-- hansom/hansomref04.Entry -/
def F45 : Fn := { np := 2, pb := [], rs := [.t 4], body := F45c0 }
def F46o1 : List Ao := [
  o3 2 .mv [.c (.d (.int .i64 0))]]
def F46o3 : List Ao := [
  o3 3 .mv [.t 0],
  o3 4 (.callf 48) [.c (.d (.str [65, 68, 68, 32, 79, 82, 32, 65, 68, 67, 32, 83, 66, 66, 32, 65, 78, 68, 32, 83, 85, 66, 32, 88, 79, 82, 32, 67, 77, 80, 32, 80, 85, 83, 72, 32, 80, 79, 80, 32, 68, 65, 65, 32, 68, 65, 83, 32, 65, 65, 65, 32, 65, 65, 83, 32, 73, 78, 67, 32, 68, 69, 67, 32, 74, 79, 32, 74, 78, 79, 32, 74, 66, 32, 74, 78, 66, 32, 74, 90, 32, 74, 78, 90, 32, 74, 66, 69, 32, 74, 65, 32, 74, 83, 32, 74, 78, 83, 32, 74, 80, 32, 74, 78, 80, 32, 74, 76, 32, 74, 71, 69, 32, 74, 76, 69, 32, 74, 71, 32, 84, 69, 83, 84, 32, 88, 67, 72, 71, 32, 77, 79, 86, 32, 76, 69, 65, 32, 67, 66, 87, 32, 67, 87, 68, 32, 67, 65, 76, 76, 32, 67, 65, 76, 76, 70, 32, 87, 65, 73, 84, 32, 80, 85, 83, 72, 70, 32, 80, 79, 80, 70, 32, 83, 65, 72, 70, 32, 76, 65, 72, 70, 32, 77, 79, 86, 83, 66, 32, 77, 79, 86, 83, 87, 32, 67, 77, 80, 83, 66, 32, 67, 77, 80, 83, 87, 32, 83, 84, 79, 83, 66, 32, 83, 84, 79, 83, 87, 32, 76, 79, 68, 83, 66, 32, 76, 79, 68, 83, 87, 32, 83, 67, 65, 83, 66, 32, 83, 67, 65, 83, 87, 32, 82, 69, 84, 32, 82, 69, 84, 70, 32, 76, 69, 83, 32, 76, 68, 83, 32, 73, 78, 84, 32, 73, 78, 84, 79, 32, 73, 82, 69, 84, 32, 82, 79, 76, 32, 82, 79, 82, 32, 82, 67, 76, 32, 82, 67, 82, 32, 83, 72, 76, 32, 83, 72, 82, 32, 83, 65, 82, 32, 65, 65, 77, 32, 65, 65, 68, 32, 88, 76, 65, 84, 32, 69, 83, 67, 32, 76, 79, 79, 80, 78, 90, 32, 76, 79, 79, 80, 90, 32, 76, 79, 79, 80, 32, 74, 67, 88, 90, 32, 73, 78, 32, 79, 85, 84, 32, 74, 77, 80, 32, 74, 77, 80, 70, 32, 72, 76, 84, 32, 67, 77, 67, 32, 78, 79, 84, 32, 78, 69, 71, 32, 77, 85, 76, 32, 73, 77, 85, 76, 32, 68, 73, 86, 32, 73, 68, 73, 86, 32, 67, 76, 67, 32, 83, 84, 67, 32, 67, 76, 73, 32, 83, 84, 73, 32, 67, 76, 68, 32, 83, 84, 68, 32])), .t 3],
  o3 2 .mv [.t 4]]
def F46c4 : Ac := .ret
def F46c2 : Ac := (.seq (.ops F46o3) F46c4)
def F46c0 : Ac := (.seq (.ops F46o1) F46c2)
/-- hansom/hansomref04.Find -/
def F46 : Fn := { np := 1, pb := [], rs := [.t 2], body := F46c0 }
def F47o1 : List Ao := [
  o3 6 .mv [.c (.d (.str []))]]
def F47o3 : List Ao := [
  o3 7 .mv [.c (.d (.int .i64 0))]]
def F47o6 : List Ao := [
  o3 8 .mv [.c (.d (.int .i64 0))]]
def F47o11 : List Ao := [
  o3 9 .mv [.t 8],
  o3 10 .mv [.t 0],
  o3 11 .lenS [.t 10],
  o3 12 (.bin .leq) [.t 9, .t 11]]
def F47c12 : Ac := (.cond (.t 12) .skip (.exit 0))
def F47o19 : List Ao := [
  o3 15 .mv [.t 8],
  o3 16 .mv [.t 0],
  o3 17 .lenS [.t 16],
  o3 18 (.bin .lss) [.t 15, .t 17],
  o3 19 .mv [.t 18],
  og 20 .mv [.t 0] 19 true,
  og 21 .mv [.t 8] 19 true,
  og 22 .indexS [.t 20, .t 21] 19 true,
  og 23 .mv [.t 1] 19 true,
  og 24 (.bin .neq) [.t 22, .t 23] 19 true,
  o3 25 .pick [.t 19, .t 24, .c (.d (.bool false))]]
def F47c20 : Ac := (.cond (.t 25) (.exit 1) .skip)
def F47o25 : List Ao := [
  o3 26 .mv [.t 2],
  o3 27 (.bin .eql) [.t 26, .c (.d (.int .i64 0))]]
def F47o28 : List Ao := [
  o3 28 .mv [.t 0],
  o3 29 .mv [.t 7],
  o3 30 .mv [.t 8],
  o3 31 (.substr true true) [.t 28, .t 29, .t 30],
  o3 6 .mv [.t 31]]
def F47c29 : Ac := .ret
def F47c26 : Ac := (.cond (.t 27) (.seq (.ops F47o28) F47c29) .skip)
def F47o32 : List Ao := [
  o3 32 .mv [.t 2],
  o3 33 (.bin .sub) [.t 32, .c (.d (.int .i64 1))],
  o3 2 .mv [.t 33]]
def F47o33 : List Ao := [
  o3 34 .mv [.t 8],
  o3 35 (.bin .add) [.t 34, .c (.d (.int .i64 1))],
  o3 7 .mv [.t 35]]
def F47c33 : Ac := (.ops F47o33)
def F47c31 : Ac := (.seq (.ops F47o32) F47c33)
def F47c23 : Ac := (.seq (.seq (.ops F47o25) F47c26) F47c31)
def F47o34 : List Ao := [
  o3 13 .mv [.t 8],
  o3 14 (.bin .add) [.t 13, .c (.d (.int .i64 1))],
  o3 8 .mv [.t 14]]
def F47c34 : Ac := (.ops F47o34)
def F47c15 : Ac := (.seq (.block 1 (.seq (.seq (.ops F47o19) F47c20) F47c23)) F47c34)
def F47l8 : Ac := (.seq (.seq (.ops F47o11) F47c12) F47c15)
def F47c7 : Ac := (.block 0 (.loop (.seq (.gh []) (.seq (.keep [0, 1, 2, 7, 8] []) F47l8))))
def F47o36 : List Ao := [
  o3 6 .mv [.c (.d (.str []))]]
def F47c37 : Ac := .ret
def F47b35 : Ac := (.seq (.ops F47o36) F47c37)
def F47c35 : Ac := (.seq (.gh []) (.seq (.keep [] []) F47b35))
def F47c4 : Ac := (.seq (.seq (.ops F47o6) F47c7) F47c35)
def F47c2 : Ac := (.seq (.ops F47o3) F47c4)
def F47c0 : Ac := (.seq (.ops F47o1) F47c2)
/-- hansom/hansomref04.part -/
def F47 : Fn := { np := 3, pb := [], rs := [.t 6], body := F47c0 }
def F48o1 : List Ao := [
  o3 4 .mv [.c (.d (.int .i64 0))]]
def F48o3 : List Ao := [
  o3 5 .mv [.c (.d (.int .i64 1))],
  o3 6 .mv [.c (.d (.int .i64 0))]]
def F48o6 : List Ao := [
  o3 7 .mv [.c (.d (.int .i64 0))]]
def F48o11 : List Ao := [
  o3 8 .mv [.t 7],
  o3 9 .mv [.t 0],
  o3 10 .lenS [.t 9],
  o3 11 (.bin .lss) [.t 8, .t 10]]
def F48c12 : Ac := (.cond (.t 11) .skip (.exit 0))
def F48o19 : List Ao := [
  o3 14 .mv [.t 0],
  o3 15 .mv [.t 7],
  o3 16 .indexS [.t 14, .t 15],
  o3 17 (.bin .neq) [.t 16, .c (.d (.int .u8 32))]]
def F48c20 : Ac := (.cond (.t 17) (.exit 1) .skip)
def F48o25 : List Ao := [
  o3 18 .mv [.t 0],
  o3 19 .mv [.t 6],
  o3 20 .mv [.t 7],
  o3 21 (.substr true true) [.t 18, .t 19, .t 20],
  o3 22 .mv [.t 1],
  o3 23 (.bin .eql) [.t 21, .t 22]]
def F48o28 : List Ao := [
  o3 24 .mv [.t 5],
  o3 4 .mv [.t 24]]
def F48c29 : Ac := .ret
def F48c26 : Ac := (.cond (.t 23) (.seq (.ops F48o28) F48c29) .skip)
def F48o32 : List Ao := [
  o3 25 .mv [.t 5],
  o3 26 (.bin .add) [.t 25, .c (.d (.int .i64 1))],
  o3 5 .mv [.t 26]]
def F48o33 : List Ao := [
  o3 27 .mv [.t 7],
  o3 28 (.bin .add) [.t 27, .c (.d (.int .i64 1))],
  o3 6 .mv [.t 28]]
def F48c33 : Ac := (.ops F48o33)
def F48c31 : Ac := (.seq (.ops F48o32) F48c33)
def F48c23 : Ac := (.seq (.seq (.ops F48o25) F48c26) F48c31)
def F48o34 : List Ao := [
  o3 12 .mv [.t 7],
  o3 13 (.bin .add) [.t 12, .c (.d (.int .i64 1))],
  o3 7 .mv [.t 13]]
def F48c34 : Ac := (.ops F48o34)
def F48c15 : Ac := (.seq (.block 1 (.seq (.seq (.ops F48o19) F48c20) F48c23)) F48c34)
def F48l8 : Ac := (.seq (.seq (.ops F48o11) F48c12) F48c15)
def F48c7 : Ac := (.block 0 (.loop (.seq (.gh []) (.seq (.keep [0, 1, 5, 6, 7] []) F48l8))))
def F48o36 : List Ao := [
  o3 4 .mv [.c (.d (.int .i64 0))]]
def F48c37 : Ac := .ret
def F48b35 : Ac := (.seq (.ops F48o36) F48c37)
def F48c35 : Ac := (.seq (.gh []) (.seq (.keep [] []) F48b35))
def F48c4 : Ac := (.seq (.seq (.ops F48o6) F48c7) F48c35)
def F48c2 : Ac := (.seq (.ops F48o3) F48c4)
def F48c0 : Ac := (.seq (.ops F48o1) F48c2)
/-- hansom/hansomref04.find -/
def F48 : Fn := { np := 2, pb := [], rs := [.t 4], body := F48c0 }
def F49o1 : List Ao := [
  o3 2 .mv [.c (.d (.bool false))]]
def F49o3 : List Ao := [
  o3 3 .mv [.t 0],
  o3 4 (.bin .geq) [.t 3, .c (.d (.int .i64 1))],
  o3 5 .mv [.t 4],
  og 6 .mv [.t 0] 5 true,
  og 7 (.bin .leq) [.t 6, .c (.d (.int .i64 5))] 5 true,
  o3 8 .pick [.t 5, .t 7, .c (.d (.bool false))],
  o3 9 .mv [.t 8],
  og 10 .mv [.t 0] 9 false,
  og 11 (.bin .eql) [.t 10, .c (.d (.int .i64 19))] 9 false,
  o3 12 .pick [.t 9, .c (.d (.bool true)), .t 11],
  o3 13 .mv [.t 12],
  og 14 .mv [.t 0] 13 false,
  og 15 (.bin .eql) [.t 14, .c (.d (.int .i64 20))] 13 false,
  o3 16 .pick [.t 13, .c (.d (.bool true)), .t 15],
  o3 2 .mv [.t 16]]
def F49c4 : Ac := .ret
def F49c2 : Ac := (.seq (.ops F49o3) F49c4)
def F49c0 : Ac := (.seq (.ops F49o1) F49c2)
/-- hansom/hansomref04.second -/
def F49 : Fn := { np := 1, pb := [], rs := [.t 2], body := F49c0 }
def F51o1 : List Ao := [
  o3 4 .mv [.c (.d (.str []))]]
def F51o3 : List Ao := [
  o3 5 .mv [.c (.d (.int .i64 0))]]
def F51o6 : List Ao := [
  o3 6 .mv [.c (.d (.int .i64 0))]]
def F51o11 : List Ao := [
  o3 8 .mv [.t 6],
  o3 9 .mv [.t 1],
  o3 10 (.bin .lss) [.t 8, .t 9],
  o3 11 .mv [.t 10],
  og 12 .mv [.t 5] 11 true,
  og 13 .mv [.t 0] 11 true,
  og 14 .lenS [.t 13] 11 true,
  og 15 (.bin .lss) [.t 12, .t 14] 11 true,
  o3 16 .pick [.t 11, .t 15, .c (.d (.bool false))]]
def F51c12 : Ac := (.cond (.t 16) .skip (.exit 0))
def F51o22 : List Ao := [
  o3 19 .mv [.t 5],
  o3 20 .mv [.t 0],
  o3 21 .lenS [.t 20],
  o3 22 (.bin .lss) [.t 19, .t 21],
  o3 23 .mv [.t 22],
  og 24 .mv [.t 0] 23 true,
  og 25 .mv [.t 5] 23 true,
  og 26 .indexS [.t 24, .t 25] 23 true,
  og 27 (.bin .neq) [.t 26, .c (.d (.int .u8 32))] 23 true,
  o3 28 .pick [.t 23, .t 27, .c (.d (.bool false))]]
def F51c23 : Ac := (.cond (.t 28) .skip (.exit 2))
def F51o27 : List Ao := [
  o3 29 .mv [.t 5],
  o3 30 (.bin .add) [.t 29, .c (.d (.int .i64 1))],
  o3 5 .mv [.t 30]]
def F51c26 : Ac := (.block 3 (.ops F51o27))
def F51l19 : Ac := (.seq (.seq (.ops F51o22) F51c23) F51c26)
def F51o28 : List Ao := [
  o3 31 .mv [.t 5],
  o3 32 (.bin .add) [.t 31, .c (.d (.int .i64 1))],
  o3 5 .mv [.t 32]]
def F51b28 : Ac := (.ops F51o28)
def F51c28 : Ac := (.seq (.gh []) (.seq (.keep [0, 1, 5, 6] []) F51b28))
def F51o29 : List Ao := [
  o3 17 .mv [.t 6],
  o3 18 (.bin .add) [.t 17, .c (.d (.int .i64 1))],
  o3 6 .mv [.t 18]]
def F51c29 : Ac := (.ops F51o29)
def F51c15 : Ac := (.seq (.block 1 (.seq (.block 2 (.loop (.seq (.gh []) (.seq (.keep [0, 1, 5, 6] []) F51l19)))) F51c28)) F51c29)
def F51l8 : Ac := (.seq (.seq (.ops F51o11) F51c12) F51c15)
def F51c7 : Ac := (.block 0 (.loop (.seq (.gh []) (.seq (.keep [0, 1, 5, 6] []) F51l8))))
def F51o31 : List Ao := [
  o3 33 .mv [.t 5],
  o3 7 .mv [.t 33]]
def F51o37 : List Ao := [
  o3 34 .mv [.t 7],
  o3 35 .mv [.t 0],
  o3 36 .lenS [.t 35],
  o3 37 (.bin .lss) [.t 34, .t 36],
  o3 38 .mv [.t 37],
  og 39 .mv [.t 0] 38 true,
  og 40 .mv [.t 7] 38 true,
  og 41 .indexS [.t 39, .t 40] 38 true,
  og 42 (.bin .neq) [.t 41, .c (.d (.int .u8 32))] 38 true,
  o3 43 .pick [.t 38, .t 42, .c (.d (.bool false))]]
def F51c38 : Ac := (.cond (.t 43) .skip (.exit 4))
def F51o42 : List Ao := [
  o3 44 .mv [.t 7],
  o3 45 (.bin .add) [.t 44, .c (.d (.int .i64 1))],
  o3 7 .mv [.t 45]]
def F51c41 : Ac := (.block 5 (.ops F51o42))
def F51l34 : Ac := (.seq (.seq (.ops F51o37) F51c38) F51c41)
def F51o45 : List Ao := [
  o3 46 .mv [.t 5],
  o3 47 .mv [.t 0],
  o3 48 .lenS [.t 47],
  o3 49 (.bin .geq) [.t 46, .t 48]]
def F51o48 : List Ao := [
  o3 4 .mv [.c (.d (.str []))]]
def F51c49 : Ac := .ret
def F51c46 : Ac := (.cond (.t 49) (.seq (.ops F51o48) F51c49) .skip)
def F51o52 : List Ao := [
  o3 50 .mv [.t 0],
  o3 51 .mv [.t 5],
  o3 52 .mv [.t 7],
  o3 53 (.substr true true) [.t 50, .t 51, .t 52],
  o3 4 .mv [.t 53]]
def F51c53 : Ac := .ret
def F51c51 : Ac := (.seq (.ops F51o52) F51c53)
def F51b43 : Ac := (.seq (.seq (.ops F51o45) F51c46) F51c51)
def F51c43 : Ac := (.seq (.gh []) (.seq (.keep [0, 5, 7] []) F51b43))
def F51c32 : Ac := (.seq (.block 4 (.loop (.seq (.gh []) (.seq (.keep [0, 5, 7] []) F51l34)))) F51c43)
def F51b30 : Ac := (.seq (.ops F51o31) F51c32)
def F51c30 : Ac := (.seq (.gh []) (.seq (.keep [0, 5] []) F51b30))
def F51c4 : Ac := (.seq (.seq (.ops F51o6) F51c7) F51c30)
def F51c2 : Ac := (.seq (.ops F51o3) F51c4)
def F51c0 : Ac := (.seq (.ops F51o1) F51c2)
/-- hansom/hansomref04.word -/
def F51 : Fn := { np := 2, pb := [], rs := [.t 4], body := F51c0 }
def F52o1 : List Ao := [
  o3 2 .mv [.c (.d (.bool false))]]
def F52o3 : List Ao := [
  o3 3 .mv [.t 0],
  o3 4 (.callf 25) [.t 3],
  o3 5 (.callf 64) [.t 4],
  o3 6 .mv [.t 0],
  o3 7 (.bin .eql) [.t 5, .t 6],
  o3 2 .mv [.t 7]]
def F52c4 : Ac := .ret
def F52c2 : Ac := (.seq (.ops F52o3) F52c4)
def F52c0 : Ac := (.seq (.ops F52o1) F52c2)
/-- hansom/bits.Fits -/
def F52 : Fn := { np := 1, pb := [], rs := [.t 2], body := F52c0 }
def F53o1 : List Ao := [
  o3 2 .mv [.c (.d (.int .i64 0))]]
def F53o4 : List Ao := [
  o3 3 .mv [.t 0]]
def F53o8 : List Ao := [
  o3 5 (.bin .eql) [.t 3, .c (.d (.int .i64 46))],
  o3 4 .mv [.t 5]]
def F53o12 : List Ao := [
  o3 6 (.bin .eql) [.t 3, .c (.d (.int .i64 47))],
  o3 4 .mv [.t 6]]
def F53o16 : List Ao := [
  o3 7 (.bin .eql) [.t 3, .c (.d (.int .i64 50))],
  o3 4 .mv [.t 7]]
def F53o20 : List Ao := [
  o3 8 (.bin .eql) [.t 3, .c (.d (.int .i64 51))],
  o3 4 .mv [.t 8]]
def F53o24 : List Ao := [
  o3 9 (.bin .eql) [.t 3, .c (.d (.int .i64 52))],
  o3 4 .mv [.t 9]]
def F53o27 : List Ao := [
  o3 10 (.bin .eql) [.t 3, .c (.d (.int .i64 53))],
  o3 4 .mv [.t 10]]
def F53c25 : Ac := (.cond (.t 4) .skip (.ops F53o27))
def F53c21 : Ac := (.cond (.t 4) .skip (.seq (.ops F53o24) F53c25))
def F53c17 : Ac := (.cond (.t 4) .skip (.seq (.ops F53o20) F53c21))
def F53c13 : Ac := (.cond (.t 4) .skip (.seq (.ops F53o16) F53c17))
def F53c9 : Ac := (.cond (.t 4) .skip (.seq (.ops F53o12) F53c13))
def F53o30 : List Ao := [
  o3 2 .mv [.c (.d (.int .i64 1))]]
def F53c31 : Ac := .ret
def F53o34 : List Ao := [
  o3 12 (.bin .eql) [.t 3, .c (.d (.int .i64 48))],
  o3 11 .mv [.t 12]]
def F53o38 : List Ao := [
  o3 13 (.bin .eql) [.t 3, .c (.d (.int .i64 49))],
  o3 11 .mv [.t 13]]
def F53o42 : List Ao := [
  o3 14 (.bin .eql) [.t 3, .c (.d (.int .i64 54))],
  o3 11 .mv [.t 14]]
def F53o45 : List Ao := [
  o3 15 (.bin .eql) [.t 3, .c (.d (.int .i64 55))],
  o3 11 .mv [.t 15]]
def F53c43 : Ac := (.cond (.t 11) .skip (.ops F53o45))
def F53c39 : Ac := (.cond (.t 11) .skip (.seq (.ops F53o42) F53c43))
def F53c35 : Ac := (.cond (.t 11) .skip (.seq (.ops F53o38) F53c39))
def F53o48 : List Ao := [
  o3 2 .mv [.c (.d (.int .i64 2))]]
def F53c49 : Ac := .ret
def F53c46 : Ac := (.cond (.t 11) (.seq (.ops F53o48) F53c49) .skip)
def F53b28 : Ac := (.cond (.t 4) (.seq (.ops F53o30) F53c31) (.seq (.seq (.ops F53o34) F53c35) F53c46))
def F53c28 : Ac := (.seq (.gh []) (.seq (.keep [3, 4] []) F53b28))
def F53c5 : Ac := (.block 0 (.seq (.seq (.ops F53o8) F53c9) F53c28))
def F53o52 : List Ao := [
  o3 2 .mv [.c (.d (.int .i64 0))]]
def F53c53 : Ac := .ret
def F53c51 : Ac := (.seq (.ops F53o52) F53c53)
def F53c2 : Ac := (.seq (.seq (.ops F53o4) F53c5) F53c51)
def F53c0 : Ac := (.seq (.ops F53o1) F53c2)
/-- hansom/isa.Repeats -/
def F53 : Fn := { np := 1, pb := [], rs := [.t 2], body := F53c0 }
def F54o1 : List Ao := [
  o3 2 (.alloc [.d (.int .i64 0), .d (.int .i64 0), .d (.int .i64 0), .d (.bool false)]) [],
  o3 3 .mv [.c (.d (.bool false))]]
def F54o3 : List Ao := [
  o3 5 .mv [.t 0],
  o3 6 (.bin .shr) [.t 5, .c (.d (.int .u64 3))],
  o3 7 (.toInt .i64) [.t 6],
  o3 8 (.bin .add) [.c (.d (.int .i64 1)), .t 7],
  o3 4 .mv [.t 8]]
def F54o6 : List Ao := [
  o3 9 .mv [.t 0],
  o3 10 (.bin .and) [.t 9, .c (.d (.int .u8 7))]]
def F54o9 : List Ao := [
  o3 12 (.bin .eql) [.t 10, .c (.d (.int .u8 0))],
  o3 11 .mv [.t 12]]
def F54o12 : List Ao := [
  o3 13 .mv [.t 4],
  o3 14 (.callf 65) [.t 13, .c (.d (.int .i64 1)), .c (.d (.int .i64 3))],
  o3 15 (.extract 0) [.t 14],
  o3 16 (.extract 1) [.t 14],
  o0 (.store 4) [.t 2, .t 15],
  o3 3 .mv [.t 16]]
def F54c13 : Ac := .ret
def F54o15 : List Ao := [
  o3 18 (.bin .eql) [.t 10, .c (.d (.int .u8 1))],
  o3 17 .mv [.t 18]]
def F54o18 : List Ao := [
  o3 19 .mv [.t 4],
  o3 20 (.callf 65) [.t 19, .c (.d (.int .i64 2)), .c (.d (.int .i64 4))],
  o3 21 (.extract 0) [.t 20],
  o3 22 (.extract 1) [.t 20],
  o0 (.store 4) [.t 2, .t 21],
  o3 3 .mv [.t 22]]
def F54c19 : Ac := .ret
def F54o21 : List Ao := [
  o3 24 (.bin .eql) [.t 10, .c (.d (.int .u8 2))],
  o3 23 .mv [.t 24]]
def F54o24 : List Ao := [
  o3 25 .mv [.t 4],
  o3 26 (.callf 65) [.t 25, .c (.d (.int .i64 3)), .c (.d (.int .i64 1))],
  o3 27 (.extract 0) [.t 26],
  o3 28 (.extract 1) [.t 26],
  o0 (.store 4) [.t 2, .t 27],
  o3 3 .mv [.t 28]]
def F54c25 : Ac := .ret
def F54o27 : List Ao := [
  o3 30 (.bin .eql) [.t 10, .c (.d (.int .u8 3))],
  o3 29 .mv [.t 30]]
def F54o30 : List Ao := [
  o3 31 .mv [.t 4],
  o3 32 (.callf 65) [.t 31, .c (.d (.int .i64 4)), .c (.d (.int .i64 2))],
  o3 33 (.extract 0) [.t 32],
  o3 34 (.extract 1) [.t 32],
  o0 (.store 4) [.t 2, .t 33],
  o3 3 .mv [.t 34]]
def F54c31 : Ac := .ret
def F54o33 : List Ao := [
  o3 36 (.bin .eql) [.t 10, .c (.d (.int .u8 4))],
  o3 35 .mv [.t 36]]
def F54o36 : List Ao := [
  o3 37 .mv [.t 4],
  o3 38 (.callf 55) [.t 37, .c (.d (.int .i64 14)), .c (.d (.int .i64 6))],
  o3 39 (.extract 0) [.t 38],
  o3 40 (.extract 1) [.t 38],
  o0 (.store 4) [.t 2, .t 39],
  o3 3 .mv [.t 40]]
def F54c37 : Ac := .ret
def F54o39 : List Ao := [
  o3 42 (.bin .eql) [.t 10, .c (.d (.int .u8 5))],
  o3 41 .mv [.t 42]]
def F54o42 : List Ao := [
  o3 43 .mv [.t 4],
  o3 44 (.callf 55) [.t 43, .c (.d (.int .i64 16)), .c (.d (.int .i64 7))],
  o3 45 (.extract 0) [.t 44],
  o3 46 (.extract 1) [.t 44],
  o0 (.store 4) [.t 2, .t 45],
  o3 3 .mv [.t 46]]
def F54c43 : Ac := .ret
def F54c40 : Ac := (.cond (.t 41) (.seq (.ops F54o42) F54c43) .skip)
def F54c34 : Ac := (.cond (.t 35) (.seq (.ops F54o36) F54c37) (.seq (.ops F54o39) F54c40))
def F54c28 : Ac := (.cond (.t 29) (.seq (.ops F54o30) F54c31) (.seq (.ops F54o33) F54c34))
def F54c22 : Ac := (.cond (.t 23) (.seq (.ops F54o24) F54c25) (.seq (.ops F54o27) F54c28))
def F54c16 : Ac := (.cond (.t 17) (.seq (.ops F54o18) F54c19) (.seq (.ops F54o21) F54c22))
def F54c10 : Ac := (.cond (.t 11) (.seq (.ops F54o12) F54c13) (.seq (.ops F54o15) F54c16))
def F54c7 : Ac := (.block 0 (.seq (.ops F54o9) F54c10))
def F54o47 : List Ao := [
  o3 47 .mv [.t 0]]
def F54o51 : List Ao := [
  o3 49 (.bin .eql) [.t 47, .c (.d (.int .u8 6))],
  o3 48 .mv [.t 49]]
def F54o55 : List Ao := [
  o3 50 (.bin .eql) [.t 47, .c (.d (.int .u8 14))],
  o3 48 .mv [.t 50]]
def F54o59 : List Ao := [
  o3 51 (.bin .eql) [.t 47, .c (.d (.int .u8 22))],
  o3 48 .mv [.t 51]]
def F54o62 : List Ao := [
  o3 52 (.bin .eql) [.t 47, .c (.d (.int .u8 30))],
  o3 48 .mv [.t 52]]
def F54c60 : Ac := (.cond (.t 48) .skip (.ops F54o62))
def F54c56 : Ac := (.cond (.t 48) .skip (.seq (.ops F54o59) F54c60))
def F54c52 : Ac := (.cond (.t 48) .skip (.seq (.ops F54o55) F54c56))
def F54o65 : List Ao := [
  o3 53 (.callf 55) [.c (.d (.int .i64 9)), .c (.d (.int .i64 23)), .c (.d (.int .i64 0))],
  o3 54 (.extract 0) [.t 53],
  o3 55 (.extract 1) [.t 53],
  o0 (.store 4) [.t 2, .t 54],
  o3 3 .mv [.t 55]]
def F54c66 : Ac := .ret
def F54o69 : List Ao := [
  o3 57 (.bin .eql) [.t 47, .c (.d (.int .u8 7))],
  o3 56 .mv [.t 57]]
def F54o73 : List Ao := [
  o3 58 (.bin .eql) [.t 47, .c (.d (.int .u8 23))],
  o3 56 .mv [.t 58]]
def F54o76 : List Ao := [
  o3 59 (.bin .eql) [.t 47, .c (.d (.int .u8 31))],
  o3 56 .mv [.t 59]]
def F54c74 : Ac := (.cond (.t 56) .skip (.ops F54o76))
def F54c70 : Ac := (.cond (.t 56) .skip (.seq (.ops F54o73) F54c74))
def F54o79 : List Ao := [
  o3 60 (.callf 55) [.c (.d (.int .i64 10)), .c (.d (.int .i64 23)), .c (.d (.int .i64 0))],
  o3 61 (.extract 0) [.t 60],
  o3 62 (.extract 1) [.t 60],
  o0 (.store 4) [.t 2, .t 61],
  o3 3 .mv [.t 62]]
def F54c80 : Ac := .ret
def F54o82 : List Ao := [
  o3 64 (.bin .eql) [.t 47, .c (.d (.int .u8 39))],
  o3 63 .mv [.t 64]]
def F54o85 : List Ao := [
  o3 65 (.callf 55) [.c (.d (.int .i64 11)), .c (.d (.int .i64 0)), .c (.d (.int .i64 0))],
  o3 66 (.extract 0) [.t 65],
  o3 67 (.extract 1) [.t 65],
  o0 (.store 4) [.t 2, .t 66],
  o3 3 .mv [.t 67]]
def F54c86 : Ac := .ret
def F54o88 : List Ao := [
  o3 69 (.bin .eql) [.t 47, .c (.d (.int .u8 47))],
  o3 68 .mv [.t 69]]
def F54o91 : List Ao := [
  o3 70 (.callf 55) [.c (.d (.int .i64 12)), .c (.d (.int .i64 0)), .c (.d (.int .i64 0))],
  o3 71 (.extract 0) [.t 70],
  o3 72 (.extract 1) [.t 70],
  o0 (.store 4) [.t 2, .t 71],
  o3 3 .mv [.t 72]]
def F54c92 : Ac := .ret
def F54o94 : List Ao := [
  o3 74 (.bin .eql) [.t 47, .c (.d (.int .u8 55))],
  o3 73 .mv [.t 74]]
def F54o97 : List Ao := [
  o3 75 (.callf 55) [.c (.d (.int .i64 13)), .c (.d (.int .i64 0)), .c (.d (.int .i64 0))],
  o3 76 (.extract 0) [.t 75],
  o3 77 (.extract 1) [.t 75],
  o0 (.store 4) [.t 2, .t 76],
  o3 3 .mv [.t 77]]
def F54c98 : Ac := .ret
def F54o100 : List Ao := [
  o3 79 (.bin .eql) [.t 47, .c (.d (.int .u8 63))],
  o3 78 .mv [.t 79]]
def F54o103 : List Ao := [
  o3 80 (.callf 55) [.c (.d (.int .i64 14)), .c (.d (.int .i64 0)), .c (.d (.int .i64 0))],
  o3 81 (.extract 0) [.t 80],
  o3 82 (.extract 1) [.t 80],
  o0 (.store 4) [.t 2, .t 81],
  o3 3 .mv [.t 82]]
def F54c104 : Ac := .ret
def F54c101 : Ac := (.cond (.t 78) (.seq (.ops F54o103) F54c104) .skip)
def F54c95 : Ac := (.cond (.t 73) (.seq (.ops F54o97) F54c98) (.seq (.ops F54o100) F54c101))
def F54c89 : Ac := (.cond (.t 68) (.seq (.ops F54o91) F54c92) (.seq (.ops F54o94) F54c95))
def F54c83 : Ac := (.cond (.t 63) (.seq (.ops F54o85) F54c86) (.seq (.ops F54o88) F54c89))
def F54b77 : Ac := (.cond (.t 56) (.seq (.ops F54o79) F54c80) (.seq (.ops F54o82) F54c83))
def F54c77 : Ac := (.seq (.gh []) (.seq (.keep [2, 47, 56] [[2]]) F54b77))
def F54b63 : Ac := (.cond (.t 48) (.seq (.ops F54o65) F54c66) (.seq (.seq (.ops F54o69) F54c70) F54c77))
def F54c63 : Ac := (.seq (.gh []) (.seq (.keep [2, 47, 48] [[2]]) F54b63))
def F54c48 : Ac := (.block 1 (.seq (.seq (.ops F54o51) F54c52) F54c63))
def F54o107 : List Ao := [
  o3 83 (.callf 56) [],
  o3 84 (.extract 0) [.t 83],
  o3 85 (.extract 1) [.t 83],
  o0 (.store 4) [.t 2, .t 84],
  o3 3 .mv [.t 85]]
def F54c108 : Ac := .ret
def F54c106 : Ac := (.seq (.ops F54o107) F54c108)
def F54c45 : Ac := (.seq (.seq (.ops F54o47) F54c48) F54c106)
def F54c4 : Ac := (.seq (.seq (.ops F54o6) F54c7) F54c45)
def F54c2 : Ac := (.seq (.ops F54o3) F54c4)
def F54c0 : Ac := (.seq (.ops F54o1) F54c2)
/-- hansom/isa.sums -/
def F54 : Fn := { np := 1, pb := [], rs := [.c 2 (some 4), .t 3], body := F54c0 }
def F55o1 : List Ao := [
  o3 6 (.alloc [.d (.int .i64 0), .d (.int .i64 0), .d (.int .i64 0), .d (.bool false)]) [],
  o3 7 .mv [.c (.d (.bool false))]]
def F55o3 : List Ao := [
  o3 8 .mv [.t 0],
  o3 9 .mv [.t 1],
  o3 10 .mv [.t 2],
  o3 11 (.build [.d (.int .i64 0), .d (.int .i64 0), .d (.int .i64 0), .d (.bool false)] [(0, 1), (1, 1), (2, 1)]) [.t 8, .t 9, .t 10],
  o0 (.store 4) [.t 6, .t 11],
  o3 7 .mv [.c (.d (.bool true))]]
def F55c4 : Ac := .ret
def F55c2 : Ac := (.seq (.ops F55o3) F55c4)
def F55c0 : Ac := (.seq (.ops F55o1) F55c2)
/-- hansom/isa.row -/
def F55 : Fn := { np := 3, pb := [], rs := [.c 6 (some 4), .t 7], body := F55c0 }
def F56o1 : List Ao := [
  o3 0 (.alloc [.d (.int .i64 0), .d (.int .i64 0), .d (.int .i64 0), .d (.bool false)]) [],
  o3 1 .mv [.c (.d (.bool false))]]
def F56o3 : List Ao := [
  o3 2 (.build [.d (.int .i64 0), .d (.int .i64 0), .d (.int .i64 0), .d (.bool false)] []) [],
  o0 (.store 4) [.t 0, .t 2],
  o3 1 .mv [.c (.d (.bool false))]]
def F56c4 : Ac := .ret
def F56c2 : Ac := (.seq (.ops F56o3) F56c4)
def F56c0 : Ac := (.seq (.ops F56o1) F56c2)
/-- hansom/isa.bad -/
def F56 : Fn := { np := 0, pb := [], rs := [.c 0 (some 4), .t 1], body := F56c0 }
def F57o1 : List Ao := [
  o3 4 (.alloc [.d (.int .i64 0), .d (.int .i64 0), .d (.int .i64 0), .d (.bool false)]) [],
  o3 5 .mv [.c (.d (.bool false))]]
def F57o4 : List Ao := [
  o3 6 .mv [.t 0]]
def F57o7 : List Ao := [
  o3 8 (.bin .eql) [.t 6, .c (.d (.int .u8 128))],
  o3 7 .mv [.t 8]]
def F57o10 : List Ao := [
  o3 9 .mv [.t 1],
  o3 10 (.bin .add) [.c (.d (.int .i64 1)), .t 9],
  o3 11 (.callf 65) [.t 10, .c (.d (.int .i64 1)), .c (.d (.int .i64 6))],
  o3 12 (.extract 0) [.t 11],
  o3 13 (.extract 1) [.t 11],
  o0 (.store 4) [.t 4, .t 12],
  o3 5 .mv [.t 13]]
def F57c11 : Ac := .ret
def F57o13 : List Ao := [
  o3 15 (.bin .eql) [.t 6, .c (.d (.int .u8 129))],
  o3 14 .mv [.t 15]]
def F57o16 : List Ao := [
  o3 16 .mv [.t 1],
  o3 17 (.bin .add) [.c (.d (.int .i64 1)), .t 16],
  o3 18 (.callf 65) [.t 17, .c (.d (.int .i64 2)), .c (.d (.int .i64 7))],
  o3 19 (.extract 0) [.t 18],
  o3 20 (.extract 1) [.t 18],
  o0 (.store 4) [.t 4, .t 19],
  o3 5 .mv [.t 20]]
def F57c17 : Ac := .ret
def F57o19 : List Ao := [
  o3 22 (.bin .eql) [.t 6, .c (.d (.int .u8 131))],
  o3 21 .mv [.t 22]]
def F57o23 : List Ao := [
  o3 23 .mv [.t 1],
  o3 24 (.bin .eql) [.t 23, .c (.d (.int .i64 1))],
  o3 25 .mv [.t 24],
  og 26 .mv [.t 1] 25 false,
  og 27 (.bin .eql) [.t 26, .c (.d (.int .i64 4))] 25 false,
  o3 28 .pick [.t 25, .c (.d (.bool true)), .t 27],
  o3 29 .mv [.t 28],
  og 30 .mv [.t 1] 29 false,
  og 31 (.bin .eql) [.t 30, .c (.d (.int .i64 6))] 29 false,
  o3 32 .pick [.t 29, .c (.d (.bool true)), .t 31]]
def F57o26 : List Ao := [
  o3 33 (.callf 56) [],
  o3 34 (.extract 0) [.t 33],
  o3 35 (.extract 1) [.t 33],
  o0 (.store 4) [.t 4, .t 34],
  o3 5 .mv [.t 35]]
def F57c27 : Ac := .ret
def F57c24 : Ac := (.cond (.t 32) (.seq (.ops F57o26) F57c27) .skip)
def F57o30 : List Ao := [
  o3 36 .mv [.t 1],
  o3 37 (.bin .add) [.c (.d (.int .i64 1)), .t 36],
  o3 38 (.callf 65) [.t 37, .c (.d (.int .i64 2)), .c (.d (.int .i64 8))],
  o3 39 (.extract 0) [.t 38],
  o3 40 (.extract 1) [.t 38],
  o0 (.store 4) [.t 4, .t 39],
  o3 5 .mv [.t 40]]
def F57c31 : Ac := .ret
def F57c29 : Ac := (.seq (.ops F57o30) F57c31)
def F57o33 : List Ao := [
  o3 42 (.bin .eql) [.t 6, .c (.d (.int .u8 132))],
  o3 41 .mv [.t 42]]
def F57o36 : List Ao := [
  o3 43 (.callf 65) [.c (.d (.int .i64 33)), .c (.d (.int .i64 1)), .c (.d (.int .i64 3))],
  o3 44 (.extract 0) [.t 43],
  o3 45 (.extract 1) [.t 43],
  o0 (.store 4) [.t 4, .t 44],
  o3 5 .mv [.t 45]]
def F57c37 : Ac := .ret
def F57o39 : List Ao := [
  o3 47 (.bin .eql) [.t 6, .c (.d (.int .u8 133))],
  o3 46 .mv [.t 47]]
def F57o42 : List Ao := [
  o3 48 (.callf 65) [.c (.d (.int .i64 33)), .c (.d (.int .i64 2)), .c (.d (.int .i64 4))],
  o3 49 (.extract 0) [.t 48],
  o3 50 (.extract 1) [.t 48],
  o0 (.store 4) [.t 4, .t 49],
  o3 5 .mv [.t 50]]
def F57c43 : Ac := .ret
def F57o45 : List Ao := [
  o3 52 (.bin .eql) [.t 6, .c (.d (.int .u8 134))],
  o3 51 .mv [.t 52]]
def F57o48 : List Ao := [
  o3 53 (.callf 65) [.c (.d (.int .i64 34)), .c (.d (.int .i64 1)), .c (.d (.int .i64 3))],
  o3 54 (.extract 0) [.t 53],
  o3 55 (.extract 1) [.t 53],
  o0 (.store 4) [.t 4, .t 54],
  o3 5 .mv [.t 55]]
def F57c49 : Ac := .ret
def F57o51 : List Ao := [
  o3 57 (.bin .eql) [.t 6, .c (.d (.int .u8 135))],
  o3 56 .mv [.t 57]]
def F57o54 : List Ao := [
  o3 58 (.callf 65) [.c (.d (.int .i64 34)), .c (.d (.int .i64 2)), .c (.d (.int .i64 4))],
  o3 59 (.extract 0) [.t 58],
  o3 60 (.extract 1) [.t 58],
  o0 (.store 4) [.t 4, .t 59],
  o3 5 .mv [.t 60]]
def F57c55 : Ac := .ret
def F57o57 : List Ao := [
  o3 62 (.bin .eql) [.t 6, .c (.d (.int .u8 136))],
  o3 61 .mv [.t 62]]
def F57o60 : List Ao := [
  o3 63 (.callf 65) [.c (.d (.int .i64 35)), .c (.d (.int .i64 1)), .c (.d (.int .i64 3))],
  o3 64 (.extract 0) [.t 63],
  o3 65 (.extract 1) [.t 63],
  o0 (.store 4) [.t 4, .t 64],
  o3 5 .mv [.t 65]]
def F57c61 : Ac := .ret
def F57o63 : List Ao := [
  o3 67 (.bin .eql) [.t 6, .c (.d (.int .u8 137))],
  o3 66 .mv [.t 67]]
def F57o66 : List Ao := [
  o3 68 (.callf 65) [.c (.d (.int .i64 35)), .c (.d (.int .i64 2)), .c (.d (.int .i64 4))],
  o3 69 (.extract 0) [.t 68],
  o3 70 (.extract 1) [.t 68],
  o0 (.store 4) [.t 4, .t 69],
  o3 5 .mv [.t 70]]
def F57c67 : Ac := .ret
def F57o69 : List Ao := [
  o3 72 (.bin .eql) [.t 6, .c (.d (.int .u8 138))],
  o3 71 .mv [.t 72]]
def F57o72 : List Ao := [
  o3 73 (.callf 65) [.c (.d (.int .i64 35)), .c (.d (.int .i64 3)), .c (.d (.int .i64 1))],
  o3 74 (.extract 0) [.t 73],
  o3 75 (.extract 1) [.t 73],
  o0 (.store 4) [.t 4, .t 74],
  o3 5 .mv [.t 75]]
def F57c73 : Ac := .ret
def F57o75 : List Ao := [
  o3 77 (.bin .eql) [.t 6, .c (.d (.int .u8 139))],
  o3 76 .mv [.t 77]]
def F57o78 : List Ao := [
  o3 78 (.callf 65) [.c (.d (.int .i64 35)), .c (.d (.int .i64 4)), .c (.d (.int .i64 2))],
  o3 79 (.extract 0) [.t 78],
  o3 80 (.extract 1) [.t 78],
  o0 (.store 4) [.t 4, .t 79],
  o3 5 .mv [.t 80]]
def F57c79 : Ac := .ret
def F57o81 : List Ao := [
  o3 82 (.bin .eql) [.t 6, .c (.d (.int .u8 140))],
  o3 81 .mv [.t 82]]
def F57o84 : List Ao := [
  o3 83 .mv [.t 1],
  o3 84 (.bin .lss) [.t 83, .c (.d (.int .i64 4))]]
def F57o87 : List Ao := [
  o3 85 (.callf 65) [.c (.d (.int .i64 35)), .c (.d (.int .i64 2)), .c (.d (.int .i64 5))],
  o3 86 (.extract 0) [.t 85],
  o3 87 (.extract 1) [.t 85],
  o0 (.store 4) [.t 4, .t 86],
  o3 5 .mv [.t 87]]
def F57c88 : Ac := .ret
def F57c85 : Ac := (.cond (.t 84) (.seq (.ops F57o87) F57c88) .skip)
def F57o91 : List Ao := [
  o3 89 (.bin .eql) [.t 6, .c (.d (.int .u8 141))],
  o3 88 .mv [.t 89]]
def F57o94 : List Ao := [
  o3 90 (.callf 65) [.c (.d (.int .i64 36)), .c (.d (.int .i64 4)), .c (.d (.int .i64 20))],
  o3 91 (.extract 0) [.t 90],
  o3 92 (.extract 1) [.t 90],
  o0 (.store 4) [.t 4, .t 91],
  o3 5 .mv [.t 92]]
def F57c95 : Ac := .ret
def F57o97 : List Ao := [
  o3 94 (.bin .eql) [.t 6, .c (.d (.int .u8 142))],
  o3 93 .mv [.t 94]]
def F57o100 : List Ao := [
  o3 95 .mv [.t 1],
  o3 96 (.bin .lss) [.t 95, .c (.d (.int .i64 4))],
  o3 97 .mv [.t 96],
  og 98 .mv [.t 1] 97 true,
  og 99 (.bin .neq) [.t 98, .c (.d (.int .i64 1))] 97 true,
  o3 100 .pick [.t 97, .t 99, .c (.d (.bool false))]]
def F57o103 : List Ao := [
  o3 101 (.callf 65) [.c (.d (.int .i64 35)), .c (.d (.int .i64 5)), .c (.d (.int .i64 2))],
  o3 102 (.extract 0) [.t 101],
  o3 103 (.extract 1) [.t 101],
  o0 (.store 4) [.t 4, .t 102],
  o3 5 .mv [.t 103]]
def F57c104 : Ac := .ret
def F57c101 : Ac := (.cond (.t 100) (.seq (.ops F57o103) F57c104) .skip)
def F57o107 : List Ao := [
  o3 105 (.bin .eql) [.t 6, .c (.d (.int .u8 143))],
  o3 104 .mv [.t 105]]
def F57o110 : List Ao := [
  o3 106 .mv [.t 1],
  o3 107 (.bin .eql) [.t 106, .c (.d (.int .i64 0))]]
def F57o113 : List Ao := [
  o3 108 (.callf 65) [.c (.d (.int .i64 10)), .c (.d (.int .i64 2)), .c (.d (.int .i64 0))],
  o3 109 (.extract 0) [.t 108],
  o3 110 (.extract 1) [.t 108],
  o0 (.store 4) [.t 4, .t 109],
  o3 5 .mv [.t 110]]
def F57c114 : Ac := .ret
def F57c111 : Ac := (.cond (.t 107) (.seq (.ops F57o113) F57c114) .skip)
def F57c108 : Ac := (.cond (.t 104) (.seq (.ops F57o110) F57c111) .skip)
def F57c98 : Ac := (.cond (.t 93) (.seq (.ops F57o100) F57c101) (.seq (.ops F57o107) F57c108))
def F57c92 : Ac := (.cond (.t 88) (.seq (.ops F57o94) F57c95) (.seq (.ops F57o97) F57c98))
def F57c82 : Ac := (.cond (.t 81) (.seq (.ops F57o84) F57c85) (.seq (.ops F57o91) F57c92))
def F57c76 : Ac := (.cond (.t 76) (.seq (.ops F57o78) F57c79) (.seq (.ops F57o81) F57c82))
def F57c70 : Ac := (.cond (.t 71) (.seq (.ops F57o72) F57c73) (.seq (.ops F57o75) F57c76))
def F57c64 : Ac := (.cond (.t 66) (.seq (.ops F57o66) F57c67) (.seq (.ops F57o69) F57c70))
def F57c58 : Ac := (.cond (.t 61) (.seq (.ops F57o60) F57c61) (.seq (.ops F57o63) F57c64))
def F57c52 : Ac := (.cond (.t 56) (.seq (.ops F57o54) F57c55) (.seq (.ops F57o57) F57c58))
def F57c46 : Ac := (.cond (.t 51) (.seq (.ops F57o48) F57c49) (.seq (.ops F57o51) F57c52))
def F57c40 : Ac := (.cond (.t 46) (.seq (.ops F57o42) F57c43) (.seq (.ops F57o45) F57c46))
def F57c34 : Ac := (.cond (.t 41) (.seq (.ops F57o36) F57c37) (.seq (.ops F57o39) F57c40))
def F57c20 : Ac := (.cond (.t 21) (.seq (.seq (.ops F57o23) F57c24) F57c29) (.seq (.ops F57o33) F57c34))
def F57c14 : Ac := (.cond (.t 14) (.seq (.ops F57o16) F57c17) (.seq (.ops F57o19) F57c20))
def F57c8 : Ac := (.cond (.t 7) (.seq (.ops F57o10) F57c11) (.seq (.ops F57o13) F57c14))
def F57c5 : Ac := (.block 0 (.seq (.ops F57o7) F57c8))
def F57o118 : List Ao := [
  o3 111 (.callf 56) [],
  o3 112 (.extract 0) [.t 111],
  o3 113 (.extract 1) [.t 111],
  o0 (.store 4) [.t 4, .t 112],
  o3 5 .mv [.t 113]]
def F57c119 : Ac := .ret
def F57c117 : Ac := (.seq (.ops F57o118) F57c119)
def F57c2 : Ac := (.seq (.seq (.ops F57o4) F57c5) F57c117)
def F57c0 : Ac := (.seq (.ops F57o1) F57c2)
/-- hansom/isa.moves -/
def F57 : Fn := { np := 2, pb := [], rs := [.c 4 (some 4), .t 5], body := F57c0 }
def F58o1 : List Ao := [
  o3 2 (.alloc [.d (.int .i64 0), .d (.int .i64 0), .d (.int .i64 0), .d (.bool false)]) [],
  o3 3 .mv [.c (.d (.bool false))]]
def F58o4 : List Ao := [
  o3 5 .mv [.t 0],
  o3 6 (.bin .lss) [.t 5, .c (.d (.int .u8 152))]]
def F58o7 : List Ao := [
  o3 7 (.callf 55) [.c (.d (.int .i64 34)), .c (.d (.int .i64 16)), .c (.d (.int .i64 22))],
  o3 8 (.extract 0) [.t 7],
  o3 9 (.extract 1) [.t 7],
  o0 (.store 4) [.t 2, .t 8],
  o3 3 .mv [.t 9]]
def F58c8 : Ac := .ret
def F58c5 : Ac := (.cond (.t 6) (.seq (.ops F58o7) F58c8) .skip)
def F58o12 : List Ao := [
  o3 10 .mv [.t 0],
  o3 11 (.bin .eql) [.t 10, .c (.d (.int .u8 154))]]
def F58o15 : List Ao := [
  o3 12 (.callf 55) [.c (.d (.int .i64 40)), .c (.d (.int .i64 11)), .c (.d (.int .i64 0))],
  o3 13 (.extract 0) [.t 12],
  o3 14 (.extract 1) [.t 12],
  o0 (.store 4) [.t 2, .t 13],
  o3 3 .mv [.t 14]]
def F58c16 : Ac := .ret
def F58c13 : Ac := (.cond (.t 11) (.seq (.ops F58o15) F58c16) .skip)
def F58o19 : List Ao := [
  o3 15 (.bslice (.int .i64 0) 8 [0, 1, 2, 3, 4, 5, 6, 7]) [.c (.d (.int .i64 37)), .c (.d (.int .i64 38)), .c (.d (.int .i64 0)), .c (.d (.int .i64 41)), .c (.d (.int .i64 42)), .c (.d (.int .i64 43)), .c (.d (.int .i64 44)), .c (.d (.int .i64 45))],
  o3 16 .mv [.t 0],
  o3 17 (.bin .sub) [.t 16, .c (.d (.int .u8 152))],
  o3 18 (.iaddrS 1) [.t 15, .t 17],
  o3 19 (.load none) [.t 18],
  o3 4 .mv [.t 19]]
def F58o21 : List Ao := [
  o3 20 .mv [.t 4],
  o3 21 (.callf 55) [.t 20, .c (.d (.int .i64 0)), .c (.d (.int .i64 0))],
  o3 22 (.extract 0) [.t 21],
  o3 23 (.extract 1) [.t 21],
  o0 (.store 4) [.t 2, .t 22],
  o3 3 .mv [.t 23]]
def F58c22 : Ac := .ret
def F58c20 : Ac := (.seq (.ops F58o21) F58c22)
def F58c18 : Ac := (.seq (.ops F58o19) F58c20)
def F58c10 : Ac := (.seq (.seq (.ops F58o12) F58c13) F58c18)
def F58c2 : Ac := (.seq (.seq (.ops F58o4) F58c5) F58c10)
def F58c0 : Ac := (.seq (.ops F58o1) F58c2)
/-- hansom/isa.words -/
def F58 : Fn := { np := 1, pb := [], rs := [.c 2 (some 4), .t 3], body := F58c0 }
def F59o1 : List Ao := [
  o3 2 (.alloc [.d (.int .i64 0), .d (.int .i64 0), .d (.int .i64 0), .d (.bool false)]) [],
  o3 3 .mv [.c (.d (.bool false))]]
def F59o4 : List Ao := [
  o3 4 .mv [.t 0]]
def F59o7 : List Ao := [
  o3 6 (.bin .eql) [.t 4, .c (.d (.int .u8 160))],
  o3 5 .mv [.t 6]]
def F59o10 : List Ao := [
  o3 7 (.callf 55) [.c (.d (.int .i64 35)), .c (.d (.int .i64 14)), .c (.d (.int .i64 12))],
  o3 8 (.extract 0) [.t 7],
  o3 9 (.extract 1) [.t 7],
  o0 (.store 4) [.t 2, .t 8],
  o3 3 .mv [.t 9]]
def F59c11 : Ac := .ret
def F59o13 : List Ao := [
  o3 11 (.bin .eql) [.t 4, .c (.d (.int .u8 161))],
  o3 10 .mv [.t 11]]
def F59o16 : List Ao := [
  o3 12 (.callf 55) [.c (.d (.int .i64 35)), .c (.d (.int .i64 16)), .c (.d (.int .i64 13))],
  o3 13 (.extract 0) [.t 12],
  o3 14 (.extract 1) [.t 12],
  o0 (.store 4) [.t 2, .t 13],
  o3 3 .mv [.t 14]]
def F59c17 : Ac := .ret
def F59o19 : List Ao := [
  o3 16 (.bin .eql) [.t 4, .c (.d (.int .u8 162))],
  o3 15 .mv [.t 16]]
def F59o22 : List Ao := [
  o3 17 (.callf 55) [.c (.d (.int .i64 35)), .c (.d (.int .i64 12)), .c (.d (.int .i64 14))],
  o3 18 (.extract 0) [.t 17],
  o3 19 (.extract 1) [.t 17],
  o0 (.store 4) [.t 2, .t 18],
  o3 3 .mv [.t 19]]
def F59c23 : Ac := .ret
def F59o25 : List Ao := [
  o3 21 (.bin .eql) [.t 4, .c (.d (.int .u8 163))],
  o3 20 .mv [.t 21]]
def F59o28 : List Ao := [
  o3 22 (.callf 55) [.c (.d (.int .i64 35)), .c (.d (.int .i64 13)), .c (.d (.int .i64 16))],
  o3 23 (.extract 0) [.t 22],
  o3 24 (.extract 1) [.t 22],
  o0 (.store 4) [.t 2, .t 23],
  o3 3 .mv [.t 24]]
def F59c29 : Ac := .ret
def F59o31 : List Ao := [
  o3 26 (.bin .eql) [.t 4, .c (.d (.int .u8 168))],
  o3 25 .mv [.t 26]]
def F59o34 : List Ao := [
  o3 27 (.callf 55) [.c (.d (.int .i64 33)), .c (.d (.int .i64 14)), .c (.d (.int .i64 6))],
  o3 28 (.extract 0) [.t 27],
  o3 29 (.extract 1) [.t 27],
  o0 (.store 4) [.t 2, .t 28],
  o3 3 .mv [.t 29]]
def F59c35 : Ac := .ret
def F59o37 : List Ao := [
  o3 31 (.bin .eql) [.t 4, .c (.d (.int .u8 169))],
  o3 30 .mv [.t 31]]
def F59o40 : List Ao := [
  o3 32 (.callf 55) [.c (.d (.int .i64 33)), .c (.d (.int .i64 16)), .c (.d (.int .i64 7))],
  o3 33 (.extract 0) [.t 32],
  o3 34 (.extract 1) [.t 32],
  o0 (.store 4) [.t 2, .t 33],
  o3 3 .mv [.t 34]]
def F59c41 : Ac := .ret
def F59c38 : Ac := (.cond (.t 30) (.seq (.ops F59o40) F59c41) .skip)
def F59c32 : Ac := (.cond (.t 25) (.seq (.ops F59o34) F59c35) (.seq (.ops F59o37) F59c38))
def F59c26 : Ac := (.cond (.t 20) (.seq (.ops F59o28) F59c29) (.seq (.ops F59o31) F59c32))
def F59c20 : Ac := (.cond (.t 15) (.seq (.ops F59o22) F59c23) (.seq (.ops F59o25) F59c26))
def F59c14 : Ac := (.cond (.t 10) (.seq (.ops F59o16) F59c17) (.seq (.ops F59o19) F59c20))
def F59c8 : Ac := (.cond (.t 5) (.seq (.ops F59o10) F59c11) (.seq (.ops F59o13) F59c14))
def F59c5 : Ac := (.block 0 (.seq (.ops F59o7) F59c8))
def F59o45 : List Ao := [
  o3 35 .mv [.t 0],
  o3 36 (.bin .lss) [.t 35, .c (.d (.int .u8 168))]]
def F59o48 : List Ao := [
  o3 37 .mv [.t 0],
  o3 38 (.bin .sub) [.t 37, .c (.d (.int .u8 164))],
  o3 39 (.toInt .i64) [.t 38],
  o3 40 (.bin .add) [.c (.d (.int .i64 46)), .t 39],
  o3 41 (.callf 55) [.t 40, .c (.d (.int .i64 0)), .c (.d (.int .i64 0))],
  o3 42 (.extract 0) [.t 41],
  o3 43 (.extract 1) [.t 41],
  o0 (.store 4) [.t 2, .t 42],
  o3 3 .mv [.t 43]]
def F59c49 : Ac := .ret
def F59c46 : Ac := (.cond (.t 36) (.seq (.ops F59o48) F59c49) .skip)
def F59o52 : List Ao := [
  o3 44 .mv [.t 0],
  o3 45 (.bin .sub) [.t 44, .c (.d (.int .u8 170))],
  o3 46 (.toInt .i64) [.t 45],
  o3 47 (.bin .add) [.c (.d (.int .i64 50)), .t 46],
  o3 48 (.callf 55) [.t 47, .c (.d (.int .i64 0)), .c (.d (.int .i64 0))],
  o3 49 (.extract 0) [.t 48],
  o3 50 (.extract 1) [.t 48],
  o0 (.store 4) [.t 2, .t 49],
  o3 3 .mv [.t 50]]
def F59c53 : Ac := .ret
def F59c51 : Ac := (.seq (.ops F59o52) F59c53)
def F59c43 : Ac := (.seq (.seq (.ops F59o45) F59c46) F59c51)
def F59c2 : Ac := (.seq (.seq (.ops F59o4) F59c5) F59c43)
def F59c0 : Ac := (.seq (.ops F59o1) F59c2)
/-- hansom/isa.texts -/
def F59 : Fn := { np := 1, pb := [], rs := [.c 2 (some 4), .t 3], body := F59c0 }
def F60o1 : List Ao := [
  o3 4 (.alloc [.d (.int .i64 0), .d (.int .i64 0), .d (.int .i64 0), .d (.bool false)]) [],
  o3 5 .mv [.c (.d (.bool false))]]
def F60o4 : List Ao := [
  o3 6 .mv [.t 0]]
def F60o7 : List Ao := [
  o3 8 (.bin .eql) [.t 6, .c (.d (.int .u8 194))],
  o3 7 .mv [.t 8]]
def F60o10 : List Ao := [
  o3 9 (.callf 55) [.c (.d (.int .i64 56)), .c (.d (.int .i64 7)), .c (.d (.int .i64 0))],
  o3 10 (.extract 0) [.t 9],
  o3 11 (.extract 1) [.t 9],
  o0 (.store 4) [.t 4, .t 10],
  o3 5 .mv [.t 11]]
def F60c11 : Ac := .ret
def F60o13 : List Ao := [
  o3 13 (.bin .eql) [.t 6, .c (.d (.int .u8 195))],
  o3 12 .mv [.t 13]]
def F60o16 : List Ao := [
  o3 14 (.callf 55) [.c (.d (.int .i64 56)), .c (.d (.int .i64 0)), .c (.d (.int .i64 0))],
  o3 15 (.extract 0) [.t 14],
  o3 16 (.extract 1) [.t 14],
  o0 (.store 4) [.t 4, .t 15],
  o3 5 .mv [.t 16]]
def F60c17 : Ac := .ret
def F60o19 : List Ao := [
  o3 18 (.bin .eql) [.t 6, .c (.d (.int .u8 196))],
  o3 17 .mv [.t 18]]
def F60o22 : List Ao := [
  o3 19 (.callf 65) [.c (.d (.int .i64 58)), .c (.d (.int .i64 4)), .c (.d (.int .i64 19))],
  o3 20 (.extract 0) [.t 19],
  o3 21 (.extract 1) [.t 19],
  o0 (.store 4) [.t 4, .t 20],
  o3 5 .mv [.t 21]]
def F60c23 : Ac := .ret
def F60o25 : List Ao := [
  o3 23 (.bin .eql) [.t 6, .c (.d (.int .u8 197))],
  o3 22 .mv [.t 23]]
def F60o28 : List Ao := [
  o3 24 (.callf 65) [.c (.d (.int .i64 59)), .c (.d (.int .i64 4)), .c (.d (.int .i64 19))],
  o3 25 (.extract 0) [.t 24],
  o3 26 (.extract 1) [.t 24],
  o0 (.store 4) [.t 4, .t 25],
  o3 5 .mv [.t 26]]
def F60c29 : Ac := .ret
def F60o31 : List Ao := [
  o3 28 (.bin .eql) [.t 6, .c (.d (.int .u8 198))],
  o3 27 .mv [.t 28]]
def F60o34 : List Ao := [
  o3 29 .mv [.t 1],
  o3 30 (.bin .eql) [.t 29, .c (.d (.int .i64 0))]]
def F60o37 : List Ao := [
  o3 31 (.callf 65) [.c (.d (.int .i64 35)), .c (.d (.int .i64 1)), .c (.d (.int .i64 6))],
  o3 32 (.extract 0) [.t 31],
  o3 33 (.extract 1) [.t 31],
  o0 (.store 4) [.t 4, .t 32],
  o3 5 .mv [.t 33]]
def F60c38 : Ac := .ret
def F60c35 : Ac := (.cond (.t 30) (.seq (.ops F60o37) F60c38) .skip)
def F60o41 : List Ao := [
  o3 35 (.bin .eql) [.t 6, .c (.d (.int .u8 199))],
  o3 34 .mv [.t 35]]
def F60o44 : List Ao := [
  o3 36 .mv [.t 1],
  o3 37 (.bin .eql) [.t 36, .c (.d (.int .i64 0))]]
def F60o47 : List Ao := [
  o3 38 (.callf 65) [.c (.d (.int .i64 35)), .c (.d (.int .i64 2)), .c (.d (.int .i64 7))],
  o3 39 (.extract 0) [.t 38],
  o3 40 (.extract 1) [.t 38],
  o0 (.store 4) [.t 4, .t 39],
  o3 5 .mv [.t 40]]
def F60c48 : Ac := .ret
def F60c45 : Ac := (.cond (.t 37) (.seq (.ops F60o47) F60c48) .skip)
def F60o51 : List Ao := [
  o3 42 (.bin .eql) [.t 6, .c (.d (.int .u8 202))],
  o3 41 .mv [.t 42]]
def F60o54 : List Ao := [
  o3 43 (.callf 55) [.c (.d (.int .i64 57)), .c (.d (.int .i64 7)), .c (.d (.int .i64 0))],
  o3 44 (.extract 0) [.t 43],
  o3 45 (.extract 1) [.t 43],
  o0 (.store 4) [.t 4, .t 44],
  o3 5 .mv [.t 45]]
def F60c55 : Ac := .ret
def F60o57 : List Ao := [
  o3 47 (.bin .eql) [.t 6, .c (.d (.int .u8 203))],
  o3 46 .mv [.t 47]]
def F60o60 : List Ao := [
  o3 48 (.callf 55) [.c (.d (.int .i64 57)), .c (.d (.int .i64 0)), .c (.d (.int .i64 0))],
  o3 49 (.extract 0) [.t 48],
  o3 50 (.extract 1) [.t 48],
  o0 (.store 4) [.t 4, .t 49],
  o3 5 .mv [.t 50]]
def F60c61 : Ac := .ret
def F60o63 : List Ao := [
  o3 52 (.bin .eql) [.t 6, .c (.d (.int .u8 204))],
  o3 51 .mv [.t 52]]
def F60o66 : List Ao := [
  o3 53 (.callf 55) [.c (.d (.int .i64 60)), .c (.d (.int .i64 24)), .c (.d (.int .i64 0))],
  o3 54 (.extract 0) [.t 53],
  o3 55 (.extract 1) [.t 53],
  o0 (.store 4) [.t 4, .t 54],
  o3 5 .mv [.t 55]]
def F60c67 : Ac := .ret
def F60o69 : List Ao := [
  o3 57 (.bin .eql) [.t 6, .c (.d (.int .u8 205))],
  o3 56 .mv [.t 57]]
def F60o72 : List Ao := [
  o3 58 (.callf 55) [.c (.d (.int .i64 60)), .c (.d (.int .i64 6)), .c (.d (.int .i64 0))],
  o3 59 (.extract 0) [.t 58],
  o3 60 (.extract 1) [.t 58],
  o0 (.store 4) [.t 4, .t 59],
  o3 5 .mv [.t 60]]
def F60c73 : Ac := .ret
def F60o75 : List Ao := [
  o3 62 (.bin .eql) [.t 6, .c (.d (.int .u8 206))],
  o3 61 .mv [.t 62]]
def F60o78 : List Ao := [
  o3 63 (.callf 55) [.c (.d (.int .i64 61)), .c (.d (.int .i64 0)), .c (.d (.int .i64 0))],
  o3 64 (.extract 0) [.t 63],
  o3 65 (.extract 1) [.t 63],
  o0 (.store 4) [.t 4, .t 64],
  o3 5 .mv [.t 65]]
def F60c79 : Ac := .ret
def F60o81 : List Ao := [
  o3 67 (.bin .eql) [.t 6, .c (.d (.int .u8 207))],
  o3 66 .mv [.t 67]]
def F60o84 : List Ao := [
  o3 68 (.callf 55) [.c (.d (.int .i64 62)), .c (.d (.int .i64 0)), .c (.d (.int .i64 0))],
  o3 69 (.extract 0) [.t 68],
  o3 70 (.extract 1) [.t 68],
  o0 (.store 4) [.t 4, .t 69],
  o3 5 .mv [.t 70]]
def F60c85 : Ac := .ret
def F60c82 : Ac := (.cond (.t 66) (.seq (.ops F60o84) F60c85) .skip)
def F60c76 : Ac := (.cond (.t 61) (.seq (.ops F60o78) F60c79) (.seq (.ops F60o81) F60c82))
def F60c70 : Ac := (.cond (.t 56) (.seq (.ops F60o72) F60c73) (.seq (.ops F60o75) F60c76))
def F60c64 : Ac := (.cond (.t 51) (.seq (.ops F60o66) F60c67) (.seq (.ops F60o69) F60c70))
def F60c58 : Ac := (.cond (.t 46) (.seq (.ops F60o60) F60c61) (.seq (.ops F60o63) F60c64))
def F60c52 : Ac := (.cond (.t 41) (.seq (.ops F60o54) F60c55) (.seq (.ops F60o57) F60c58))
def F60c42 : Ac := (.cond (.t 34) (.seq (.ops F60o44) F60c45) (.seq (.ops F60o51) F60c52))
def F60c32 : Ac := (.cond (.t 27) (.seq (.ops F60o34) F60c35) (.seq (.ops F60o41) F60c42))
def F60c26 : Ac := (.cond (.t 22) (.seq (.ops F60o28) F60c29) (.seq (.ops F60o31) F60c32))
def F60c20 : Ac := (.cond (.t 17) (.seq (.ops F60o22) F60c23) (.seq (.ops F60o25) F60c26))
def F60c14 : Ac := (.cond (.t 12) (.seq (.ops F60o16) F60c17) (.seq (.ops F60o19) F60c20))
def F60c8 : Ac := (.cond (.t 7) (.seq (.ops F60o10) F60c11) (.seq (.ops F60o13) F60c14))
def F60c5 : Ac := (.block 0 (.seq (.ops F60o7) F60c8))
def F60o88 : List Ao := [
  o3 71 (.callf 56) [],
  o3 72 (.extract 0) [.t 71],
  o3 73 (.extract 1) [.t 71],
  o0 (.store 4) [.t 4, .t 72],
  o3 5 .mv [.t 73]]
def F60c89 : Ac := .ret
def F60c87 : Ac := (.seq (.ops F60o88) F60c89)
def F60c2 : Ac := (.seq (.seq (.ops F60o4) F60c5) F60c87)
def F60c0 : Ac := (.seq (.ops F60o1) F60c2)
/-- hansom/isa.backs -/
def F60 : Fn := { np := 2, pb := [], rs := [.c 4 (some 4), .t 5], body := F60c0 }
def F61o1 : List Ao := [
  o3 4 (.alloc [.d (.int .i64 0), .d (.int .i64 0), .d (.int .i64 0), .d (.bool false)]) [],
  o3 5 .mv [.c (.d (.bool false))]]
def F61o4 : List Ao := [
  o3 9 .mv [.t 0],
  o3 10 (.bin .lss) [.t 9, .c (.d (.int .u8 212))]]
def F61o8 : List Ao := [
  o3 11 .mv [.t 1],
  o3 12 (.bin .eql) [.t 11, .c (.d (.int .i64 6))]]
def F61o11 : List Ao := [
  o3 13 (.callf 56) [],
  o3 14 (.extract 0) [.t 13],
  o3 15 (.extract 1) [.t 13],
  o0 (.store 4) [.t 4, .t 14],
  o3 5 .mv [.t 15]]
def F61c12 : Ac := .ret
def F61c9 : Ac := (.cond (.t 12) (.seq (.ops F61o11) F61c12) .skip)
def F61o15 : List Ao := [
  o3 16 (.bslice (.int .i64 0) 8 [0, 1, 2, 3, 4, 5, 6, 7]) [.c (.d (.int .i64 63)), .c (.d (.int .i64 64)), .c (.d (.int .i64 65)), .c (.d (.int .i64 66)), .c (.d (.int .i64 67)), .c (.d (.int .i64 68)), .c (.d (.int .i64 0)), .c (.d (.int .i64 69))],
  o3 17 .mv [.t 1],
  o3 18 (.iaddrS 1) [.t 16, .t 17],
  o3 19 (.load none) [.t 18],
  o3 6 .mv [.t 19]]
def F61o17 : List Ao := [
  o3 7 .mv [.c (.d (.int .i64 1))],
  o3 8 .mv [.c (.d (.int .i64 18))]]
def F61o20 : List Ao := [
  o3 20 .mv [.t 0],
  o3 21 (.bin .and) [.t 20, .c (.d (.int .u8 1))],
  o3 22 (.bin .eql) [.t 21, .c (.d (.int .u8 1))]]
def F61o22 : List Ao := [
  o3 7 .mv [.c (.d (.int .i64 2))]]
def F61c21 : Ac := (.cond (.t 22) (.ops F61o22) .skip)
def F61o26 : List Ao := [
  o3 23 .mv [.t 0],
  o3 24 (.bin .and) [.t 23, .c (.d (.int .u8 2))],
  o3 25 (.bin .neq) [.t 24, .c (.d (.int .u8 0))]]
def F61o28 : List Ao := [
  o3 8 .mv [.c (.d (.int .i64 15))]]
def F61c27 : Ac := (.cond (.t 25) (.ops F61o28) .skip)
def F61o31 : List Ao := [
  o3 26 .mv [.t 6],
  o3 27 .mv [.t 7],
  o3 28 .mv [.t 8],
  o3 29 (.callf 65) [.t 26, .t 27, .t 28],
  o3 30 (.extract 0) [.t 29],
  o3 31 (.extract 1) [.t 29],
  o0 (.store 4) [.t 4, .t 30],
  o3 5 .mv [.t 31]]
def F61c32 : Ac := .ret
def F61c30 : Ac := (.seq (.ops F61o31) F61c32)
def F61c24 : Ac := (.seq (.seq (.ops F61o26) F61c27) F61c30)
def F61c18 : Ac := (.seq (.seq (.ops F61o20) F61c21) F61c24)
def F61c16 : Ac := (.seq (.ops F61o17) F61c18)
def F61c14 : Ac := (.seq (.ops F61o15) F61c16)
def F61c5 : Ac := (.cond (.t 10) (.seq (.seq (.ops F61o8) F61c9) F61c14) .skip)
def F61o37 : List Ao := [
  o3 33 .mv [.t 0],
  o3 34 (.bin .eql) [.t 33, .c (.d (.int .u8 212))],
  o3 32 .mv [.t 34]]
def F61o40 : List Ao := [
  o3 35 (.callf 55) [.c (.d (.int .i64 70)), .c (.d (.int .i64 6)), .c (.d (.int .i64 0))],
  o3 36 (.extract 0) [.t 35],
  o3 37 (.extract 1) [.t 35],
  o0 (.store 4) [.t 4, .t 36],
  o3 5 .mv [.t 37]]
def F61c41 : Ac := .ret
def F61o43 : List Ao := [
  o3 39 .mv [.t 0],
  o3 40 (.bin .eql) [.t 39, .c (.d (.int .u8 213))],
  o3 38 .mv [.t 40]]
def F61o46 : List Ao := [
  o3 41 (.callf 55) [.c (.d (.int .i64 71)), .c (.d (.int .i64 6)), .c (.d (.int .i64 0))],
  o3 42 (.extract 0) [.t 41],
  o3 43 (.extract 1) [.t 41],
  o0 (.store 4) [.t 4, .t 42],
  o3 5 .mv [.t 43]]
def F61c47 : Ac := .ret
def F61o49 : List Ao := [
  o3 45 .mv [.t 0],
  o3 46 (.bin .eql) [.t 45, .c (.d (.int .u8 215))],
  o3 44 .mv [.t 46]]
def F61o52 : List Ao := [
  o3 47 (.callf 55) [.c (.d (.int .i64 72)), .c (.d (.int .i64 0)), .c (.d (.int .i64 0))],
  o3 48 (.extract 0) [.t 47],
  o3 49 (.extract 1) [.t 47],
  o0 (.store 4) [.t 4, .t 48],
  o3 5 .mv [.t 49]]
def F61c53 : Ac := .ret
def F61o55 : List Ao := [
  o3 51 .mv [.t 0],
  o3 52 (.bin .geq) [.t 51, .c (.d (.int .u8 216))],
  o3 50 .mv [.t 52]]
def F61o58 : List Ao := [
  o3 53 (.callf 65) [.c (.d (.int .i64 73)), .c (.d (.int .i64 2)), .c (.d (.int .i64 0))],
  o3 54 (.extract 0) [.t 53],
  o3 55 (.extract 1) [.t 53],
  o0 (.store 4) [.t 4, .t 54],
  o3 5 .mv [.t 55]]
def F61c59 : Ac := .ret
def F61c56 : Ac := (.cond (.t 50) (.seq (.ops F61o58) F61c59) .skip)
def F61c50 : Ac := (.cond (.t 44) (.seq (.ops F61o52) F61c53) (.seq (.ops F61o55) F61c56))
def F61c44 : Ac := (.cond (.t 38) (.seq (.ops F61o46) F61c47) (.seq (.ops F61o49) F61c50))
def F61c38 : Ac := (.cond (.t 32) (.seq (.ops F61o40) F61c41) (.seq (.ops F61o43) F61c44))
def F61o62 : List Ao := [
  o3 56 (.callf 56) [],
  o3 57 (.extract 0) [.t 56],
  o3 58 (.extract 1) [.t 56],
  o0 (.store 4) [.t 4, .t 57],
  o3 5 .mv [.t 58]]
def F61c63 : Ac := .ret
def F61c61 : Ac := (.seq (.ops F61o62) F61c63)
def F61c34 : Ac := (.seq (.block 0 (.seq (.ops F61o37) F61c38)) F61c61)
def F61c2 : Ac := (.seq (.seq (.ops F61o4) F61c5) F61c34)
def F61c0 : Ac := (.seq (.ops F61o1) F61c2)
/-- hansom/isa.turns -/
def F61 : Fn := { np := 2, pb := [], rs := [.c 4 (some 4), .t 5], body := F61c0 }
def F62o1 : List Ao := [
  o3 2 (.alloc [.d (.int .i64 0), .d (.int .i64 0), .d (.int .i64 0), .d (.bool false)]) [],
  o3 3 .mv [.c (.d (.bool false))]]
def F62o4 : List Ao := [
  o3 4 .mv [.t 0]]
def F62o8 : List Ao := [
  o3 6 (.bin .eql) [.t 4, .c (.d (.int .u8 224))],
  o3 5 .mv [.t 6]]
def F62o12 : List Ao := [
  o3 7 (.bin .eql) [.t 4, .c (.d (.int .u8 225))],
  o3 5 .mv [.t 7]]
def F62o16 : List Ao := [
  o3 8 (.bin .eql) [.t 4, .c (.d (.int .u8 226))],
  o3 5 .mv [.t 8]]
def F62o19 : List Ao := [
  o3 9 (.bin .eql) [.t 4, .c (.d (.int .u8 227))],
  o3 5 .mv [.t 9]]
def F62c17 : Ac := (.cond (.t 5) .skip (.ops F62o19))
def F62c13 : Ac := (.cond (.t 5) .skip (.seq (.ops F62o16) F62c17))
def F62c9 : Ac := (.cond (.t 5) .skip (.seq (.ops F62o12) F62c13))
def F62o22 : List Ao := [
  o3 10 .mv [.t 0],
  o3 11 (.bin .sub) [.t 10, .c (.d (.int .u8 224))],
  o3 12 (.toInt .i64) [.t 11],
  o3 13 (.bin .add) [.c (.d (.int .i64 74)), .t 12],
  o3 14 (.callf 55) [.t 13, .c (.d (.int .i64 9)), .c (.d (.int .i64 0))],
  o3 15 (.extract 0) [.t 14],
  o3 16 (.extract 1) [.t 14],
  o0 (.store 4) [.t 2, .t 15],
  o3 3 .mv [.t 16]]
def F62c23 : Ac := .ret
def F62o25 : List Ao := [
  o3 18 (.bin .eql) [.t 4, .c (.d (.int .u8 228))],
  o3 17 .mv [.t 18]]
def F62o28 : List Ao := [
  o3 19 (.callf 55) [.c (.d (.int .i64 78)), .c (.d (.int .i64 14)), .c (.d (.int .i64 6))],
  o3 20 (.extract 0) [.t 19],
  o3 21 (.extract 1) [.t 19],
  o0 (.store 4) [.t 2, .t 20],
  o3 3 .mv [.t 21]]
def F62c29 : Ac := .ret
def F62o31 : List Ao := [
  o3 23 (.bin .eql) [.t 4, .c (.d (.int .u8 229))],
  o3 22 .mv [.t 23]]
def F62o34 : List Ao := [
  o3 24 (.callf 55) [.c (.d (.int .i64 78)), .c (.d (.int .i64 16)), .c (.d (.int .i64 6))],
  o3 25 (.extract 0) [.t 24],
  o3 26 (.extract 1) [.t 24],
  o0 (.store 4) [.t 2, .t 25],
  o3 3 .mv [.t 26]]
def F62c35 : Ac := .ret
def F62o37 : List Ao := [
  o3 28 (.bin .eql) [.t 4, .c (.d (.int .u8 230))],
  o3 27 .mv [.t 28]]
def F62o40 : List Ao := [
  o3 29 (.callf 55) [.c (.d (.int .i64 79)), .c (.d (.int .i64 6)), .c (.d (.int .i64 14))],
  o3 30 (.extract 0) [.t 29],
  o3 31 (.extract 1) [.t 29],
  o0 (.store 4) [.t 2, .t 30],
  o3 3 .mv [.t 31]]
def F62c41 : Ac := .ret
def F62o43 : List Ao := [
  o3 33 (.bin .eql) [.t 4, .c (.d (.int .u8 231))],
  o3 32 .mv [.t 33]]
def F62o46 : List Ao := [
  o3 34 (.callf 55) [.c (.d (.int .i64 79)), .c (.d (.int .i64 6)), .c (.d (.int .i64 16))],
  o3 35 (.extract 0) [.t 34],
  o3 36 (.extract 1) [.t 34],
  o0 (.store 4) [.t 2, .t 35],
  o3 3 .mv [.t 36]]
def F62c47 : Ac := .ret
def F62o49 : List Ao := [
  o3 38 (.bin .eql) [.t 4, .c (.d (.int .u8 232))],
  o3 37 .mv [.t 38]]
def F62o52 : List Ao := [
  o3 39 (.callf 55) [.c (.d (.int .i64 39)), .c (.d (.int .i64 10)), .c (.d (.int .i64 0))],
  o3 40 (.extract 0) [.t 39],
  o3 41 (.extract 1) [.t 39],
  o0 (.store 4) [.t 2, .t 40],
  o3 3 .mv [.t 41]]
def F62c53 : Ac := .ret
def F62o55 : List Ao := [
  o3 43 (.bin .eql) [.t 4, .c (.d (.int .u8 233))],
  o3 42 .mv [.t 43]]
def F62o58 : List Ao := [
  o3 44 (.callf 55) [.c (.d (.int .i64 80)), .c (.d (.int .i64 10)), .c (.d (.int .i64 0))],
  o3 45 (.extract 0) [.t 44],
  o3 46 (.extract 1) [.t 44],
  o0 (.store 4) [.t 2, .t 45],
  o3 3 .mv [.t 46]]
def F62c59 : Ac := .ret
def F62o61 : List Ao := [
  o3 48 (.bin .eql) [.t 4, .c (.d (.int .u8 234))],
  o3 47 .mv [.t 48]]
def F62o64 : List Ao := [
  o3 49 (.callf 55) [.c (.d (.int .i64 81)), .c (.d (.int .i64 11)), .c (.d (.int .i64 0))],
  o3 50 (.extract 0) [.t 49],
  o3 51 (.extract 1) [.t 49],
  o0 (.store 4) [.t 2, .t 50],
  o3 3 .mv [.t 51]]
def F62c65 : Ac := .ret
def F62o67 : List Ao := [
  o3 53 (.bin .eql) [.t 4, .c (.d (.int .u8 235))],
  o3 52 .mv [.t 53]]
def F62o70 : List Ao := [
  o3 54 (.callf 55) [.c (.d (.int .i64 80)), .c (.d (.int .i64 9)), .c (.d (.int .i64 0))],
  o3 55 (.extract 0) [.t 54],
  o3 56 (.extract 1) [.t 54],
  o0 (.store 4) [.t 2, .t 55],
  o3 3 .mv [.t 56]]
def F62c71 : Ac := .ret
def F62o73 : List Ao := [
  o3 58 (.bin .eql) [.t 4, .c (.d (.int .u8 236))],
  o3 57 .mv [.t 58]]
def F62o76 : List Ao := [
  o3 59 (.callf 55) [.c (.d (.int .i64 78)), .c (.d (.int .i64 14)), .c (.d (.int .i64 17))],
  o3 60 (.extract 0) [.t 59],
  o3 61 (.extract 1) [.t 59],
  o0 (.store 4) [.t 2, .t 60],
  o3 3 .mv [.t 61]]
def F62c77 : Ac := .ret
def F62o79 : List Ao := [
  o3 63 (.bin .eql) [.t 4, .c (.d (.int .u8 237))],
  o3 62 .mv [.t 63]]
def F62o82 : List Ao := [
  o3 64 (.callf 55) [.c (.d (.int .i64 78)), .c (.d (.int .i64 16)), .c (.d (.int .i64 17))],
  o3 65 (.extract 0) [.t 64],
  o3 66 (.extract 1) [.t 64],
  o0 (.store 4) [.t 2, .t 65],
  o3 3 .mv [.t 66]]
def F62c83 : Ac := .ret
def F62o85 : List Ao := [
  o3 68 (.bin .eql) [.t 4, .c (.d (.int .u8 238))],
  o3 67 .mv [.t 68]]
def F62o88 : List Ao := [
  o3 69 (.callf 55) [.c (.d (.int .i64 79)), .c (.d (.int .i64 17)), .c (.d (.int .i64 14))],
  o3 70 (.extract 0) [.t 69],
  o3 71 (.extract 1) [.t 69],
  o0 (.store 4) [.t 2, .t 70],
  o3 3 .mv [.t 71]]
def F62c89 : Ac := .ret
def F62c86 : Ac := (.cond (.t 67) (.seq (.ops F62o88) F62c89) .skip)
def F62c80 : Ac := (.cond (.t 62) (.seq (.ops F62o82) F62c83) (.seq (.ops F62o85) F62c86))
def F62c74 : Ac := (.cond (.t 57) (.seq (.ops F62o76) F62c77) (.seq (.ops F62o79) F62c80))
def F62c68 : Ac := (.cond (.t 52) (.seq (.ops F62o70) F62c71) (.seq (.ops F62o73) F62c74))
def F62c62 : Ac := (.cond (.t 47) (.seq (.ops F62o64) F62c65) (.seq (.ops F62o67) F62c68))
def F62c56 : Ac := (.cond (.t 42) (.seq (.ops F62o58) F62c59) (.seq (.ops F62o61) F62c62))
def F62c50 : Ac := (.cond (.t 37) (.seq (.ops F62o52) F62c53) (.seq (.ops F62o55) F62c56))
def F62c44 : Ac := (.cond (.t 32) (.seq (.ops F62o46) F62c47) (.seq (.ops F62o49) F62c50))
def F62c38 : Ac := (.cond (.t 27) (.seq (.ops F62o40) F62c41) (.seq (.ops F62o43) F62c44))
def F62c32 : Ac := (.cond (.t 22) (.seq (.ops F62o34) F62c35) (.seq (.ops F62o37) F62c38))
def F62c26 : Ac := (.cond (.t 17) (.seq (.ops F62o28) F62c29) (.seq (.ops F62o31) F62c32))
def F62b20 : Ac := (.cond (.t 5) (.seq (.ops F62o22) F62c23) (.seq (.ops F62o25) F62c26))
def F62c20 : Ac := (.seq (.gh []) (.seq (.keep [0, 2, 4, 5] [[2]]) F62b20))
def F62c5 : Ac := (.block 0 (.seq (.seq (.ops F62o8) F62c9) F62c20))
def F62o92 : List Ao := [
  o3 72 (.callf 55) [.c (.d (.int .i64 79)), .c (.d (.int .i64 17)), .c (.d (.int .i64 16))],
  o3 73 (.extract 0) [.t 72],
  o3 74 (.extract 1) [.t 72],
  o0 (.store 4) [.t 2, .t 73],
  o3 3 .mv [.t 74]]
def F62c93 : Ac := .ret
def F62c91 : Ac := (.seq (.ops F62o92) F62c93)
def F62c2 : Ac := (.seq (.seq (.ops F62o4) F62c5) F62c91)
def F62c0 : Ac := (.seq (.ops F62o1) F62c2)
/-- hansom/isa.goes -/
def F62 : Fn := { np := 1, pb := [], rs := [.c 2 (some 4), .t 3], body := F62c0 }
def F63o1 : List Ao := [
  o3 4 (.alloc [.d (.int .i64 0), .d (.int .i64 0), .d (.int .i64 0), .d (.bool false)]) [],
  o3 5 .mv [.c (.d (.bool false))]]
def F63o5 : List Ao := [
  o3 10 .mv [.t 0],
  o3 11 (.bin .eql) [.t 10, .c (.d (.int .u8 244))],
  o3 9 .mv [.t 11]]
def F63o8 : List Ao := [
  o3 12 (.callf 55) [.c (.d (.int .i64 82)), .c (.d (.int .i64 0)), .c (.d (.int .i64 0))],
  o3 13 (.extract 0) [.t 12],
  o3 14 (.extract 1) [.t 12],
  o0 (.store 4) [.t 4, .t 13],
  o3 5 .mv [.t 14]]
def F63c9 : Ac := .ret
def F63o11 : List Ao := [
  o3 16 .mv [.t 0],
  o3 17 (.bin .eql) [.t 16, .c (.d (.int .u8 245))],
  o3 15 .mv [.t 17]]
def F63o14 : List Ao := [
  o3 18 (.callf 55) [.c (.d (.int .i64 83)), .c (.d (.int .i64 0)), .c (.d (.int .i64 0))],
  o3 19 (.extract 0) [.t 18],
  o3 20 (.extract 1) [.t 18],
  o0 (.store 4) [.t 4, .t 19],
  o3 5 .mv [.t 20]]
def F63c15 : Ac := .ret
def F63o17 : List Ao := [
  o3 22 .mv [.t 0],
  o3 23 (.bin .geq) [.t 22, .c (.d (.int .u8 248))],
  o3 24 .mv [.t 23],
  og 25 .mv [.t 0] 24 true,
  og 26 (.bin .lss) [.t 25, .c (.d (.int .u8 254))] 24 true,
  o3 27 .pick [.t 24, .t 26, .c (.d (.bool false))],
  o3 21 .mv [.t 27]]
def F63o20 : List Ao := [
  o3 28 .mv [.t 0],
  o3 29 (.bin .sub) [.t 28, .c (.d (.int .u8 248))],
  o3 30 (.toInt .i64) [.t 29],
  o3 31 (.bin .add) [.c (.d (.int .i64 90)), .t 30],
  o3 32 (.callf 55) [.t 31, .c (.d (.int .i64 0)), .c (.d (.int .i64 0))],
  o3 33 (.extract 0) [.t 32],
  o3 34 (.extract 1) [.t 32],
  o0 (.store 4) [.t 4, .t 33],
  o3 5 .mv [.t 34]]
def F63c21 : Ac := .ret
def F63o23 : List Ao := [
  o3 36 .mv [.t 0],
  o3 37 (.bin .lss) [.t 36, .c (.d (.int .u8 246))],
  o3 35 .mv [.t 37]]
def F63o26 : List Ao := [
  o3 38 (.callf 56) [],
  o3 39 (.extract 0) [.t 38],
  o3 40 (.extract 1) [.t 38],
  o0 (.store 4) [.t 4, .t 39],
  o3 5 .mv [.t 40]]
def F63c27 : Ac := .ret
def F63c24 : Ac := (.cond (.t 35) (.seq (.ops F63o26) F63c27) .skip)
def F63b18 : Ac := (.cond (.t 21) (.seq (.ops F63o20) F63c21) (.seq (.ops F63o23) F63c24))
def F63c18 : Ac := (.seq (.gh []) (.seq (.keep [0, 1, 4, 21] [[4]]) F63b18))
def F63c12 : Ac := (.cond (.t 15) (.seq (.ops F63o14) F63c15) (.seq (.ops F63o17) F63c18))
def F63c6 : Ac := (.cond (.t 9) (.seq (.ops F63o8) F63c9) (.seq (.ops F63o11) F63c12))
def F63o30 : List Ao := [
  o3 6 .mv [.c (.d (.int .i64 1))],
  o3 7 .mv [.c (.d (.int .i64 6))]]
def F63o33 : List Ao := [
  o3 41 .mv [.t 0],
  o3 42 (.bin .and) [.t 41, .c (.d (.int .u8 1))],
  o3 43 (.bin .eql) [.t 42, .c (.d (.int .u8 1))]]
def F63o35 : List Ao := [
  o3 6 .mv [.c (.d (.int .i64 2))],
  o3 7 .mv [.c (.d (.int .i64 7))]]
def F63c34 : Ac := (.cond (.t 43) (.ops F63o35) .skip)
def F63o39 : List Ao := [
  o3 44 .mv [.t 0],
  o3 45 (.bin .lss) [.t 44, .c (.d (.int .u8 248))]]
def F63o43 : List Ao := [
  o3 46 .mv [.t 1]]
def F63o46 : List Ao := [
  o3 48 (.bin .eql) [.t 46, .c (.d (.int .i64 0))],
  o3 47 .mv [.t 48]]
def F63o49 : List Ao := [
  o3 49 .mv [.t 6],
  o3 50 .mv [.t 7],
  o3 51 (.callf 65) [.c (.d (.int .i64 33)), .t 49, .t 50],
  o3 52 (.extract 0) [.t 51],
  o3 53 (.extract 1) [.t 51],
  o0 (.store 4) [.t 4, .t 52],
  o3 5 .mv [.t 53]]
def F63c50 : Ac := .ret
def F63o52 : List Ao := [
  o3 55 (.bin .eql) [.t 46, .c (.d (.int .i64 1))],
  o3 54 .mv [.t 55]]
def F63o55 : List Ao := [
  o3 56 (.callf 56) [],
  o3 57 (.extract 0) [.t 56],
  o3 58 (.extract 1) [.t 56],
  o0 (.store 4) [.t 4, .t 57],
  o3 5 .mv [.t 58]]
def F63c56 : Ac := .ret
def F63c53 : Ac := (.cond (.t 54) (.seq (.ops F63o55) F63c56) .skip)
def F63c47 : Ac := (.cond (.t 47) (.seq (.ops F63o49) F63c50) (.seq (.ops F63o52) F63c53))
def F63c44 : Ac := (.block 1 (.seq (.ops F63o46) F63c47))
def F63o59 : List Ao := [
  o3 59 .mv [.t 1],
  o3 60 (.bin .add) [.c (.d (.int .i64 84)), .t 59],
  o3 61 (.bin .sub) [.t 60, .c (.d (.int .i64 2))],
  o3 62 .mv [.t 6],
  o3 63 (.callf 65) [.t 61, .t 62, .c (.d (.int .i64 0))],
  o3 64 (.extract 0) [.t 63],
  o3 65 (.extract 1) [.t 63],
  o0 (.store 4) [.t 4, .t 64],
  o3 5 .mv [.t 65]]
def F63c60 : Ac := .ret
def F63c58 : Ac := (.seq (.ops F63o59) F63c60)
def F63c40 : Ac := (.cond (.t 45) (.seq (.seq (.ops F63o43) F63c44) F63c58) .skip)
def F63o65 : List Ao := [
  o3 67 .mv [.t 1],
  o3 68 (.bin .lss) [.t 67, .c (.d (.int .i64 2))],
  o3 66 .mv [.t 68]]
def F63o68 : List Ao := [
  o3 69 .mv [.t 1],
  o3 70 (.bin .add) [.c (.d (.int .i64 15)), .t 69],
  o3 71 .mv [.t 6],
  o3 72 (.callf 65) [.t 70, .t 71, .c (.d (.int .i64 0))],
  o3 73 (.extract 0) [.t 72],
  o3 74 (.extract 1) [.t 72],
  o0 (.store 4) [.t 4, .t 73],
  o3 5 .mv [.t 74]]
def F63c69 : Ac := .ret
def F63o71 : List Ao := [
  o3 76 .mv [.t 0],
  o3 77 (.bin .eql) [.t 76, .c (.d (.int .u8 254))],
  o3 78 .mv [.t 77],
  og 79 .mv [.t 1] 78 false,
  og 80 (.bin .eql) [.t 79, .c (.d (.int .i64 7))] 78 false,
  o3 81 .pick [.t 78, .c (.d (.bool true)), .t 80],
  o3 75 .mv [.t 81]]
def F63o74 : List Ao := [
  o3 82 (.callf 56) [],
  o3 83 (.extract 0) [.t 82],
  o3 84 (.extract 1) [.t 82],
  o0 (.store 4) [.t 4, .t 83],
  o3 5 .mv [.t 84]]
def F63c75 : Ac := .ret
def F63c72 : Ac := (.cond (.t 75) (.seq (.ops F63o74) F63c75) .skip)
def F63c66 : Ac := (.cond (.t 66) (.seq (.ops F63o68) F63c69) (.seq (.ops F63o71) F63c72))
def F63o78 : List Ao := [
  o3 85 (.bslice (.int .i64 0) 5 [0, 1, 2, 3, 4]) [.c (.d (.int .i64 39)), .c (.d (.int .i64 40)), .c (.d (.int .i64 80)), .c (.d (.int .i64 81)), .c (.d (.int .i64 9))],
  o3 86 .mv [.t 1],
  o3 87 (.bin .sub) [.t 86, .c (.d (.int .i64 2))],
  o3 88 (.iaddrS 1) [.t 85, .t 87],
  o3 89 (.load none) [.t 88],
  o3 8 .mv [.t 89]]
def F63o81 : List Ao := [
  o3 90 .mv [.t 1],
  o3 91 (.bin .eql) [.t 90, .c (.d (.int .i64 3))],
  o3 92 .mv [.t 91],
  og 93 .mv [.t 1] 92 false,
  og 94 (.bin .eql) [.t 93, .c (.d (.int .i64 5))] 92 false,
  o3 95 .pick [.t 92, .c (.d (.bool true)), .t 94]]
def F63o83 : List Ao := [
  o3 6 .mv [.c (.d (.int .i64 19))]]
def F63c82 : Ac := (.cond (.t 95) (.ops F63o83) .skip)
def F63o86 : List Ao := [
  o3 96 .mv [.t 8],
  o3 97 .mv [.t 6],
  o3 98 (.callf 65) [.t 96, .t 97, .c (.d (.int .i64 0))],
  o3 99 (.extract 0) [.t 98],
  o3 100 (.extract 1) [.t 98],
  o0 (.store 4) [.t 4, .t 99],
  o3 5 .mv [.t 100]]
def F63c87 : Ac := .ret
def F63c85 : Ac := (.seq (.ops F63o86) F63c87)
def F63c79 : Ac := (.seq (.seq (.ops F63o81) F63c82) F63c85)
def F63c77 : Ac := (.seq (.ops F63o78) F63c79)
def F63c62 : Ac := (.seq (.block 2 (.seq (.ops F63o65) F63c66)) F63c77)
def F63b37 : Ac := (.seq (.seq (.ops F63o39) F63c40) F63c62)
def F63c37 : Ac := (.seq (.gh []) (.seq (.keep [0, 1, 4, 6, 7] [[4]]) F63b37))
def F63c31 : Ac := (.seq (.seq (.ops F63o33) F63c34) F63c37)
def F63c29 : Ac := (.seq (.ops F63o30) F63c31)
def F63c2 : Ac := (.seq (.block 0 (.seq (.ops F63o5) F63c6)) F63c29)
def F63c0 : Ac := (.seq (.ops F63o1) F63c2)
/-- hansom/isa.rest -/
def F63 : Fn := { np := 2, pb := [], rs := [.c 4 (some 4), .t 5], body := F63c0 }
def F64o1 : List Ao := [
  o3 2 .mv [.c (.d (.int .u16 0))]]
def F64o3 : List Ao := [
  o3 3 .mv [.t 0],
  o3 4 (.toInt .i8) [.t 3],
  o3 5 (.toInt .i16) [.t 4],
  o3 6 (.toInt .u16) [.t 5],
  o3 2 .mv [.t 6]]
def F64c4 : Ac := .ret
def F64c2 : Ac := (.seq (.ops F64o3) F64c4)
def F64c0 : Ac := (.seq (.ops F64o1) F64c2)
/-- hansom/bits.Sign -/
def F64 : Fn := { np := 1, pb := [], rs := [.t 2], body := F64c0 }
def F65o1 : List Ao := [
  o3 6 (.alloc [.d (.int .i64 0), .d (.int .i64 0), .d (.int .i64 0), .d (.bool false)]) [],
  o3 7 .mv [.c (.d (.bool false))]]
def F65o3 : List Ao := [
  o3 8 .mv [.t 0],
  o3 9 .mv [.t 1],
  o3 10 .mv [.t 2],
  o3 11 (.build [.d (.int .i64 0), .d (.int .i64 0), .d (.int .i64 0), .d (.bool false)] [(0, 1), (1, 1), (2, 1), (3, 1)]) [.t 8, .t 9, .t 10, .c (.d (.bool true))],
  o0 (.store 4) [.t 6, .t 11],
  o3 7 .mv [.c (.d (.bool true))]]
def F65c4 : Ac := .ret
def F65c2 : Ac := (.seq (.ops F65o3) F65c4)
def F65c0 : Ac := (.seq (.ops F65o1) F65c2)
/-- hansom/isa.mod -/
def F65 : Fn := { np := 3, pb := [], rs := [.c 6 (some 4), .t 7], body := F65c0 }
def tab1 : Nat → Option Fn
  | 4 => some F4
  | 7 => some F7
  | 8 => some F8
  | 9 => some F9
  | 10 => some F10
  | 13 => some F13
  | 17 => some F17
  | 18 => some F18
  | 19 => some F19
  | 20 => some F20
  | 21 => some F21
  | 22 => some F22
  | 23 => some F23
  | 24 => some F24
  | 25 => some F25
  | 26 => some F26
  | 27 => some F27
  | 28 => some F28
  | 30 => some F30
  | 31 => some F31
  | 38 => some F38
  | 39 => some F39
  | 40 => some F40
  | 41 => some F41
  | 42 => some F42
  | 43 => some F43
  | 44 => some F44
  | 45 => some F45
  | 46 => some F46
  | 47 => some F47
  | 48 => some F48
  | 49 => some F49
  | 51 => some F51
  | 52 => some F52
  | 53 => some F53
  | 54 => some F54
  | 55 => some F55
  | 56 => some F56
  | 57 => some F57
  | 58 => some F58
  | 59 => some F59
  | 60 => some F60
  | 61 => some F61
  | 62 => some F62
  | 63 => some F63
  | 64 => some F64
  | 65 => some F65
  | _ => none
noncomputable def L : Cs := lim tab1 (fun _ _ => none)

/-- What stands in the package-level variables, as tables of numbers. -/
def mg1 : Mm := fun b o => match b with
  | 0 => (([0, 38, 46, 54, 62] : List Int)[o]?).map (Value.int .u8)
  | _ => none
def G1 : Nat → Option A
  | 0 => some (.elt (.agg [.int .u8 0, .int .u8 38, .int .u8 46, .int .u8 54, .int .u8 62]) 0)
  | _ => none
theorem globals_ok : GOk mg1 G1 := by
  intro n a h g bx hle
  unfold G1 at h
  split at h
  · cases h
    exact tab_elt (l := [0, 38, 46, 54, 62]) (k := .u8) (fun j hj => hle 0 j _ (by simp only [mg1]; rw [List.getElem?_eq_getElem hj]; rfl))
  · cases h
theorem ok4 : FnOk mg1 Tryd.prog 4 F4 := compF_spec globals_ok Tryd.func4 (by kernel_rfl)
theorem ok7 : FnOk mg1 Tryd.prog 7 F7 := compF_spec globals_ok Tryd.func7 (by kernel_rfl)
theorem ok8 : FnOk mg1 Tryd.prog 8 F8 := compF_spec globals_ok Tryd.func8 (by kernel_rfl)
theorem ok9 : FnOk mg1 Tryd.prog 9 F9 := compF_spec globals_ok Tryd.func9 (by kernel_rfl)
theorem ok10 : FnOk mg1 Tryd.prog 10 F10 := compF_spec globals_ok Tryd.func10 (by kernel_rfl)
theorem ok13 : FnOk mg1 Tryd.prog 13 F13 := compF_spec globals_ok Tryd.func13 (by kernel_rfl)
theorem ok17 : FnOk mg1 Tryd.prog 17 F17 := compF_spec globals_ok Tryd.func17 (by kernel_rfl)
theorem ok18 : FnOk mg1 Tryd.prog 18 F18 := compF_spec globals_ok Tryd.func18 (by kernel_rfl)
theorem ok19 : FnOk mg1 Tryd.prog 19 F19 := compF_spec globals_ok Tryd.func19 (by kernel_rfl)
theorem ok20 : FnOk mg1 Tryd.prog 20 F20 := compF_spec globals_ok Tryd.func20 (by kernel_rfl)
theorem ok21 : FnOk mg1 Tryd.prog 21 F21 := compF_spec globals_ok Tryd.func21 (by kernel_rfl)
theorem ok22 : FnOk mg1 Tryd.prog 22 F22 := compF_spec globals_ok Tryd.func22 (by kernel_rfl)
theorem ok23 : FnOk mg1 Tryd.prog 23 F23 := compF_spec globals_ok Tryd.func23 (by kernel_rfl)
theorem ok24 : FnOk mg1 Tryd.prog 24 F24 := compF_spec globals_ok Tryd.func24 (by kernel_rfl)
theorem ok25 : FnOk mg1 Tryd.prog 25 F25 := compF_spec globals_ok Tryd.func25 (by kernel_rfl)
theorem ok26 : FnOk mg1 Tryd.prog 26 F26 := compF_spec globals_ok Tryd.func26 (by kernel_rfl)
theorem ok27 : FnOk mg1 Tryd.prog 27 F27 := compF_spec globals_ok Tryd.func27 (by kernel_rfl)
theorem ok28 : FnOk mg1 Tryd.prog 28 F28 := compF_spec globals_ok Tryd.func28 (by kernel_rfl)
theorem ok30 : FnOk mg1 Tryd.prog 30 F30 := compF_spec globals_ok Tryd.func30 (by kernel_rfl)
theorem ok31 : FnOk mg1 Tryd.prog 31 F31 := compF_spec globals_ok Tryd.func31 (by kernel_rfl)
theorem ok38 : FnOk mg1 Tryd.prog 38 F38 := compF_spec globals_ok Tryd.func38 (by kernel_rfl)
theorem ok39 : FnOk mg1 Tryd.prog 39 F39 := compF_spec globals_ok Tryd.func39 (by kernel_rfl)
theorem ok40 : FnOk mg1 Tryd.prog 40 F40 := compF_spec globals_ok Tryd.func40 (by kernel_rfl)
theorem ok41 : FnOk mg1 Tryd.prog 41 F41 := compF_spec globals_ok Tryd.func41 (by kernel_rfl)
theorem ok42 : FnOk mg1 Tryd.prog 42 F42 := compF_spec globals_ok Tryd.func42 (by kernel_rfl)
theorem ok43 : FnOk mg1 Tryd.prog 43 F43 := compF_spec globals_ok Tryd.func43 (by kernel_rfl)
theorem ok44 : FnOk mg1 Tryd.prog 44 F44 := compF_spec globals_ok Tryd.func44 (by kernel_rfl)
theorem ok45 : FnOk mg1 Tryd.prog 45 F45 := compF_spec globals_ok Tryd.func45 (by kernel_rfl)
theorem ok46 : FnOk mg1 Tryd.prog 46 F46 := compF_spec globals_ok Tryd.func46 (by kernel_rfl)
theorem ok47 : FnOk mg1 Tryd.prog 47 F47 := compF_spec globals_ok Tryd.func47 (by kernel_rfl)
theorem ok48 : FnOk mg1 Tryd.prog 48 F48 := compF_spec globals_ok Tryd.func48 (by kernel_rfl)
theorem ok49 : FnOk mg1 Tryd.prog 49 F49 := compF_spec globals_ok Tryd.func49 (by kernel_rfl)
theorem ok51 : FnOk mg1 Tryd.prog 51 F51 := compF_spec globals_ok Tryd.func51 (by kernel_rfl)
theorem ok52 : FnOk mg1 Tryd.prog 52 F52 := compF_spec globals_ok Tryd.func52 (by kernel_rfl)
theorem ok53 : FnOk mg1 Tryd.prog 53 F53 := compF_spec globals_ok Tryd.func53 (by kernel_rfl)
theorem ok54 : FnOk mg1 Tryd.prog 54 F54 := compF_spec globals_ok Tryd.func54 (by kernel_rfl)
theorem ok55 : FnOk mg1 Tryd.prog 55 F55 := compF_spec globals_ok Tryd.func55 (by kernel_rfl)
theorem ok56 : FnOk mg1 Tryd.prog 56 F56 := compF_spec globals_ok Tryd.func56 (by kernel_rfl)
theorem ok57 : FnOk mg1 Tryd.prog 57 F57 := compF_spec globals_ok Tryd.func57 (by kernel_rfl)
theorem ok58 : FnOk mg1 Tryd.prog 58 F58 := compF_spec globals_ok Tryd.func58 (by kernel_rfl)
theorem ok59 : FnOk mg1 Tryd.prog 59 F59 := compF_spec globals_ok Tryd.func59 (by kernel_rfl)
theorem ok60 : FnOk mg1 Tryd.prog 60 F60 := compF_spec globals_ok Tryd.func60 (by kernel_rfl)
theorem ok61 : FnOk mg1 Tryd.prog 61 F61 := compF_spec globals_ok Tryd.func61 (by kernel_rfl)
theorem ok62 : FnOk mg1 Tryd.prog 62 F62 := compF_spec globals_ok Tryd.func62 (by kernel_rfl)
theorem ok63 : FnOk mg1 Tryd.prog 63 F63 := compF_spec globals_ok Tryd.func63 (by kernel_rfl)
theorem ok64 : FnOk mg1 Tryd.prog 64 F64 := compF_spec globals_ok Tryd.func64 (by kernel_rfl)
theorem ok65 : FnOk mg1 Tryd.prog 65 F65 := compF_spec globals_ok Tryd.func65 (by kernel_rfl)
theorem tab1_ok : ∀ f fn, tab1 f = some fn → FnOk mg1 Tryd.prog f fn := by
  intro f fn h
  unfold tab1 at h
  split at h <;> cases h
  · exact ok4
  · exact ok7
  · exact ok8
  · exact ok9
  · exact ok10
  · exact ok13
  · exact ok17
  · exact ok18
  · exact ok19
  · exact ok20
  · exact ok21
  · exact ok22
  · exact ok23
  · exact ok24
  · exact ok25
  · exact ok26
  · exact ok27
  · exact ok28
  · exact ok30
  · exact ok31
  · exact ok38
  · exact ok39
  · exact ok40
  · exact ok41
  · exact ok42
  · exact ok43
  · exact ok44
  · exact ok45
  · exact ok46
  · exact ok47
  · exact ok48
  · exact ok49
  · exact ok51
  · exact ok52
  · exact ok53
  · exact ok54
  · exact ok55
  · exact ok56
  · exact ok57
  · exact ok58
  · exact ok59
  · exact ok60
  · exact ok61
  · exact ok62
  · exact ok63
  · exact ok64
  · exact ok65
theorem meets1 (f : Nat) : Meets mg1 Tryd.prog f (L f) := lim_meets tab1_ok (fun f _ m w args vs bs _ _ _ _ _ r a h => by cases h) f

end Go.Es.Cow
