/- The code of the functions that the statement PickJumps reaches, as the interpreter reads it. No condition. -/
import Derived.Test.YtbdmoaofbacfpaaDoorEsD
import Derived.Test.YtbdmoaofbacfpaaDoorChecked
import Derived.KernelRfl
set_option linter.unusedVariables false
set_option linter.unusedSimpArgs false
set_option maxRecDepth 100000
set_option maxHeartbeats 4000000
namespace Go.Es.Pkj
open Go.Proofs
def F5o1 := [
 o3 6 .mv [.b false]]
def F5o3 := [
 om 19 0,
 o3 20 (.bin .and) [.t 19, .i 65535],
 o3 21 (.build [.d (.int .i64 0), .d (.int .i64 0), .d (.int .i64 0), .d (.int .i64 0), .d (.int .i64 0), .d (.bool false)] [(0, 1), (1, 1), (2, 1), (3, 1), (5, 1)]) [.t 20, .i 1, .i 1, .i 101, .b true],
 o3 22 (.build [.d (.int .i64 0), .d (.int .i64 0), .d (.int .i64 0), .d (.int .i64 0), .d (.int .i64 0), .d (.int .i64 0), .d (.int .i64 0), .d (.int .i64 0), .d (.bool false), .d (.int .i64 0), .d (.int .i64 0), .d (.bool false)] [(0, 1), (2, 1), (9, 1), (3, 6)]) [.i 4, .i 8, .i 101, .t 21],
 o3 7 (.alloc [.d (.int .i64 0), .d (.int .i64 0), .d (.int .i64 0), .d (.int .i64 0), .d (.int .i64 0), .d (.int .i64 0), .d (.int .i64 0), .d (.int .i64 0), .d (.bool false), .d (.int .i64 0), .d (.int .i64 0), .d (.bool false)]) [],
 o0 (.store 12) [.t 7, .t 22]]
def F5o6 := [
 om 23 2]
def F5o8 := [
 o3 24 (.faddr 9) [.t 7],
 o0 (.store 1) [.t 24, .i 102]]
def F5c7 : Ac := (cd 23 (.ops F5o8) .skip)
def F5o11 := [
 o3 25 (.load (some 12)) [.t 7],
 o3 26 (.build [.d (.int .i64 0), .d (.int .i64 0), .d (.int .i64 0), .d (.int .i64 0), .d (.int .i64 0), .d (.int .i64 0), .d (.int .i64 0), .d (.int .i64 0), .d (.bool false), .d (.int .i64 0), .d (.int .i64 0), .d (.bool false), .d (.int .i64 0), .d (.int .i64 0), .d (.int .i64 0), .d (.int .i64 0), .d (.int .i64 0), .d (.int .i64 0), .d (.int .i64 0), .d (.int .i64 0), .d (.bool false), .d (.int .i64 0), .d (.int .i64 0), .d (.bool false)] [(0, 12)]) [.t 25],
 o3 8 (.alloc [.d (.int .i64 0), .d (.int .i64 0), .d (.int .i64 0), .d (.int .i64 0), .d (.int .i64 0), .d (.int .i64 0), .d (.int .i64 0), .d (.int .i64 0), .d (.bool false), .d (.int .i64 0), .d (.int .i64 0), .d (.bool false), .d (.int .i64 0), .d (.int .i64 0), .d (.int .i64 0), .d (.int .i64 0), .d (.int .i64 0), .d (.int .i64 0), .d (.int .i64 0), .d (.int .i64 0), .d (.bool false), .d (.int .i64 0), .d (.int .i64 0), .d (.bool false)]) [],
 o0 (.store 24) [.t 8, .t 26]]
def F5o13 := [
 o3 28 (.load (some 24)) [.t 8],
 om 29 1,
 o3 30 (.callf 17) [.c (.d (.str [74, 77, 80])), .t 28, .t 29],
 om 27 30,
 oe 31 0 27,
 oe 32 1 27,
 o3 9 (.alloc [.d (.bool false), .d (.int .i64 0), .d (.int .i64 0), .d (.int .u8 0), .d (.int .i64 0), .d (.int .i64 0), .d (.int .i64 0), .d (.int .u16 0), .d (.int .u16 0), .d (.int .u16 0), .d (.int .i64 0), .d (.int .i64 0), .d (.int .i64 0), .d (.int .i64 0), .d (.int .i64 0), .d (.bool false), .d (.int .i64 0), .d (.int .i64 0), .d (.int .i64 0), .d (.int .i64 0), .d (.int .i64 0), .d (.bool false), .d (.bool false), .d (.bool false), .d (.bool false)]) [],
 o0 (.store 25) [.t 9, .t 31],
 om 10 32]
def F5o15 := [
 o3 34 (.load (some 24)) [.t 8],
 om 35 1,
 o3 36 (.callf 17) [.c (.d (.str [74, 90])), .t 34, .t 35],
 om 33 36,
 oe 37 0 33,
 oe 38 1 33,
 o3 11 (.alloc [.d (.bool false), .d (.int .i64 0), .d (.int .i64 0), .d (.int .u8 0), .d (.int .i64 0), .d (.int .i64 0), .d (.int .i64 0), .d (.int .u16 0), .d (.int .u16 0), .d (.int .u16 0), .d (.int .i64 0), .d (.int .i64 0), .d (.int .i64 0), .d (.int .i64 0), .d (.int .i64 0), .d (.bool false), .d (.int .i64 0), .d (.int .i64 0), .d (.int .i64 0), .d (.int .i64 0), .d (.int .i64 0), .d (.bool false), .d (.bool false), .d (.bool false), .d (.bool false)]) [],
 o0 (.store 25) [.t 11, .t 37],
 om 12 38]
def F5o17 := [
 o3 40 (.load (some 24)) [.t 8],
 om 41 1,
 o3 42 (.callf 17) [.c (.d (.str [67, 65, 76, 76])), .t 40, .t 41],
 om 39 42,
 oe 43 0 39,
 oe 44 1 39,
 o3 13 (.alloc [.d (.bool false), .d (.int .i64 0), .d (.int .i64 0), .d (.int .u8 0), .d (.int .i64 0), .d (.int .i64 0), .d (.int .i64 0), .d (.int .u16 0), .d (.int .u16 0), .d (.int .u16 0), .d (.int .i64 0), .d (.int .i64 0), .d (.int .i64 0), .d (.int .i64 0), .d (.int .i64 0), .d (.bool false), .d (.int .i64 0), .d (.int .i64 0), .d (.int .i64 0), .d (.int .i64 0), .d (.int .i64 0), .d (.bool false), .d (.bool false), .d (.bool false), .d (.bool false)]) [],
 o0 (.store 25) [.t 13, .t 43],
 om 14 44]
def F5o19 := [
 o3 45 (.load (some 12)) [.t 7],
 o3 15 (.alloc [.d (.int .i64 0), .d (.int .i64 0), .d (.int .i64 0), .d (.int .i64 0), .d (.int .i64 0), .d (.int .i64 0), .d (.int .i64 0), .d (.int .i64 0), .d (.bool false), .d (.int .i64 0), .d (.int .i64 0), .d (.bool false)]) [],
 o0 (.store 12) [.t 15, .t 45]]
def F5o21 := [
 o3 46 (.faddr 11) [.t 15],
 o0 (.store 1) [.t 46, .b true]]
def F5o23 := [
 o3 48 (.load (some 12)) [.t 15],
 o3 49 (.build [.d (.int .i64 0), .d (.int .i64 0), .d (.int .i64 0), .d (.int .i64 0), .d (.int .i64 0), .d (.int .i64 0), .d (.int .i64 0), .d (.int .i64 0), .d (.bool false), .d (.int .i64 0), .d (.int .i64 0), .d (.bool false), .d (.int .i64 0), .d (.int .i64 0), .d (.int .i64 0), .d (.int .i64 0), .d (.int .i64 0), .d (.int .i64 0), .d (.int .i64 0), .d (.int .i64 0), .d (.bool false), .d (.int .i64 0), .d (.int .i64 0), .d (.bool false)] [(0, 12)]) [.t 48],
 o3 50 (.callf 17) [.c (.d (.str [67, 65, 76, 76])), .t 49, .b false],
 om 47 50,
 oe 51 0 47,
 oe 52 1 47,
 o3 16 (.alloc [.d (.bool false), .d (.int .i64 0), .d (.int .i64 0), .d (.int .u8 0), .d (.int .i64 0), .d (.int .i64 0), .d (.int .i64 0), .d (.int .u16 0), .d (.int .u16 0), .d (.int .u16 0), .d (.int .i64 0), .d (.int .i64 0), .d (.int .i64 0), .d (.int .i64 0), .d (.int .i64 0), .d (.bool false), .d (.int .i64 0), .d (.int .i64 0), .d (.int .i64 0), .d (.int .i64 0), .d (.int .i64 0), .d (.bool false), .d (.bool false), .d (.bool false), .d (.bool false)]) [],
 o0 (.store 25) [.t 16, .t 51],
 om 17 52]
def F5o26 := [
 om 53 2]
def F5o29 := [
 o3 54 (.callf 9) [],
 om 55 54,
 og 56 .mv [.t 10] 55 true,
 og 57 (.bin .eql) [.t 56, .i 0] 55 true,
 o3 58 .pick [.t 55, .t 57, .b false],
 om 59 58,
 og 60 (.faddr 0) [.t 9] 59 true,
 og 61 (.faddr 3) [.t 60] 59 true,
 og 62 (.load none) [.t 61] 59 true,
 og 63 (.bin .eql) [.t 62, .y 234] 59 true,
 o3 64 .pick [.t 59, .t 63, .b false],
 om 65 64,
 og 66 (.faddr 24) [.t 9] 65 true,
 og 67 (.load none) [.t 66] 65 true,
 og 68 (.un .not) [.t 67] 65 true,
 o3 69 .pick [.t 65, .t 68, .b false],
 om 70 69,
 og 71 (.faddr 23) [.t 9] 70 true,
 og 72 (.load none) [.t 71] 70 true,
 o3 73 .pick [.t 70, .t 72, .b false],
 om 74 73,
 og 75 .mv [.t 12] 74 true,
 og 76 (.bin .eql) [.t 75, .i 6] 74 true,
 o3 77 .pick [.t 74, .t 76, .b false],
 om 78 77,
 og 79 .mv [.t 14] 78 true,
 og 80 (.bin .eql) [.t 79, .i 0] 78 true,
 o3 81 .pick [.t 78, .t 80, .b false],
 om 82 81,
 og 83 (.faddr 0) [.t 13] 82 true,
 og 84 (.faddr 3) [.t 83] 82 true,
 og 85 (.load none) [.t 84] 82 true,
 og 86 (.bin .eql) [.t 85, .y 154] 82 true,
 o3 87 .pick [.t 82, .t 86, .b false],
 om 88 87,
 og 89 .mv [.t 17] 88 true,
 og 90 (.bin .eql) [.t 89, .i 6] 88 true,
 o3 91 .pick [.t 88, .t 90, .b false],
 om 6 91]
def F5c30 : Ac := .ret
def F5c27 : Ac := (cd 53 (so F5o29 F5c30) .skip)
def F5o33 := [
 o3 18 .mv [.y 235]]
def F5o36 := [
 om 92 1]
def F5o38 := [
 o3 18 .mv [.y 233]]
def F5c37 : Ac := (cd 92 (.ops F5o38) .skip)
def F5o41 := [
 o3 93 (.callf 9) [],
 om 94 93,
 og 95 .mv [.t 10] 94 true,
 og 96 (.bin .eql) [.t 95, .i 0] 94 true,
 o3 97 .pick [.t 94, .t 96, .b false],
 om 98 97,
 og 99 (.faddr 0) [.t 9] 98 true,
 og 100 (.faddr 3) [.t 99] 98 true,
 og 101 (.load none) [.t 100] 98 true,
 og 102 .mv [.t 18] 98 true,
 og 103 (.bin .eql) [.t 101, .t 102] 98 true,
 o3 104 .pick [.t 98, .t 103, .b false],
 om 105 104,
 og 106 (.faddr 24) [.t 9] 105 true,
 og 107 (.load none) [.t 106] 105 true,
 o3 108 .pick [.t 105, .t 107, .b false],
 om 109 108,
 og 110 (.faddr 16) [.t 9] 109 true,
 og 111 (.load (some 6)) [.t 110] 109 true,
 og 112 (.faddr 3) [.t 7] 109 true,
 og 113 (.load (some 6)) [.t 112] 109 true,
 og 114 (.eqa false [.i, .i, .i, .i, .i, .b]) [.t 111, .t 113] 109 true,
 o3 115 .pick [.t 109, .t 114, .b false],
 om 116 115,
 og 117 .mv [.t 12] 116 true,
 og 118 (.bin .eql) [.t 117, .i 0] 116 true,
 o3 119 .pick [.t 116, .t 118, .b false],
 om 120 119,
 og 121 (.faddr 0) [.t 11] 120 true,
 og 122 (.faddr 3) [.t 121] 120 true,
 og 123 (.load none) [.t 122] 120 true,
 og 124 (.bin .eql) [.t 123, .y 116] 120 true,
 o3 125 .pick [.t 120, .t 124, .b false],
 om 126 125,
 og 127 .mv [.t 14] 126 true,
 og 128 (.bin .eql) [.t 127, .i 0] 126 true,
 o3 129 .pick [.t 126, .t 128, .b false],
 om 130 129,
 og 131 (.faddr 0) [.t 13] 130 true,
 og 132 (.faddr 3) [.t 131] 130 true,
 og 133 (.load none) [.t 132] 130 true,
 og 134 (.bin .eql) [.t 133, .y 232] 130 true,
 o3 135 .pick [.t 130, .t 134, .b false],
 om 136 135,
 og 137 (.faddr 24) [.t 13] 136 true,
 og 138 (.load none) [.t 137] 136 true,
 o3 139 .pick [.t 136, .t 138, .b false],
 om 140 139,
 og 141 .mv [.t 17] 140 true,
 og 142 (.bin .eql) [.t 141, .i 6] 140 true,
 o3 143 .pick [.t 140, .t 142, .b false],
 om 6 143]
def F5c42 : Ac := .ret
def F5b40 : Ac := (so F5o41 F5c42)
def F5c40 : Ac := (.seq (.gh []) (.seq (.keep [7, 9, 10, 11, 12, 13, 14, 17, 18] [[7], [9], [11], [13]]) F5b40))
def F5c34 : Ac := (.seq (so F5o36 F5c37) F5c40)
def F5c32 : Ac := (so F5o33 F5c34)
def F5c24 : Ac := (.seq (so F5o26 F5c27) F5c32)
def F5c22 : Ac := (so F5o23 F5c24)
def F5c20 : Ac := (so F5o21 F5c22)
def F5c18 : Ac := (so F5o19 F5c20)
def F5c16 : Ac := (so F5o17 F5c18)
def F5c14 : Ac := (so F5o15 F5c16)
def F5c12 : Ac := (so F5o13 F5c14)
def F5b10 : Ac := (so F5o11 F5c12)
def F5c10 : Ac := (.seq (.gh []) (.seq (.keep [1, 2, 7] [[7]]) F5b10))
def F5c4 : Ac := (.seq (so F5o6 F5c7) F5c10)
def F5c2 : Ac := (so F5o3 F5c4)
def F5c0 : Ac := (so F5o1 F5c2)
/-- hansom/hansomlaw34.PickJumps -/
def F5 : Fn := { np := 3, pb := [], rs := [.t 6], body := F5c0 }
def F9o1 := [
 o3 0 .mv [.b false]]
def F9o3 := [
 o3 6 (.build [.d (.int .i64 0), .d (.int .i64 0), .d (.int .i64 0), .d (.int .i64 0), .d (.int .i64 0), .d (.int .i64 0), .d (.int .i64 0), .d (.int .i64 0), .d (.bool false), .d (.int .i64 0), .d (.int .i64 0), .d (.bool false)] [(0, 1)]) [.i 2],
 o3 7 (.build [.d (.int .i64 0), .d (.int .i64 0), .d (.int .i64 0), .d (.int .i64 0), .d (.int .i64 0), .d (.int .i64 0), .d (.int .i64 0), .d (.int .i64 0), .d (.bool false), .d (.int .i64 0), .d (.int .i64 0), .d (.bool false), .d (.int .i64 0), .d (.int .i64 0), .d (.int .i64 0), .d (.int .i64 0), .d (.int .i64 0), .d (.int .i64 0), .d (.int .i64 0), .d (.int .i64 0), .d (.bool false), .d (.int .i64 0), .d (.int .i64 0), .d (.bool false)] [(0, 12)]) [.t 6],
 o3 8 (.callf 17) [.c (.d (.str [73, 78, 67])), .t 7, .b false],
 om 5 8,
 oe 9 0 5,
 oe 10 1 5,
 o3 1 (.alloc [.d (.bool false), .d (.int .i64 0), .d (.int .i64 0), .d (.int .u8 0), .d (.int .i64 0), .d (.int .i64 0), .d (.int .i64 0), .d (.int .u16 0), .d (.int .u16 0), .d (.int .u16 0), .d (.int .i64 0), .d (.int .i64 0), .d (.int .i64 0), .d (.int .i64 0), .d (.int .i64 0), .d (.bool false), .d (.int .i64 0), .d (.int .i64 0), .d (.int .i64 0), .d (.int .i64 0), .d (.int .i64 0), .d (.bool false), .d (.bool false), .d (.bool false), .d (.bool false)]) [],
 o0 (.store 25) [.t 1, .t 9],
 om 2 10]
def F9o5 := [
 o3 12 (.build [.d (.int .i64 0), .d (.int .i64 0), .d (.int .i64 0), .d (.int .i64 0), .d (.int .i64 0), .d (.int .i64 0), .d (.int .i64 0), .d (.int .i64 0), .d (.bool false), .d (.int .i64 0), .d (.int .i64 0), .d (.bool false)] [(0, 1), (1, 1)]) [.i 3, .i 1],
 o3 13 (.build [.d (.int .i64 0), .d (.int .i64 0), .d (.int .i64 0), .d (.int .i64 0), .d (.int .i64 0), .d (.int .i64 0), .d (.int .i64 0), .d (.int .i64 0), .d (.bool false), .d (.int .i64 0), .d (.int .i64 0), .d (.bool false)] [(0, 1)]) [.i 2],
 o3 14 (.build [.d (.int .i64 0), .d (.int .i64 0), .d (.int .i64 0), .d (.int .i64 0), .d (.int .i64 0), .d (.int .i64 0), .d (.int .i64 0), .d (.int .i64 0), .d (.bool false), .d (.int .i64 0), .d (.int .i64 0), .d (.bool false), .d (.int .i64 0), .d (.int .i64 0), .d (.int .i64 0), .d (.int .i64 0), .d (.int .i64 0), .d (.int .i64 0), .d (.int .i64 0), .d (.int .i64 0), .d (.bool false), .d (.int .i64 0), .d (.int .i64 0), .d (.bool false)] [(0, 12), (12, 12)]) [.t 12, .t 13],
 o3 15 (.callf 17) [.c (.d (.str [77, 79, 86])), .t 14, .b false],
 om 11 15,
 oe 16 0 11,
 oe 17 1 11,
 o3 3 (.alloc [.d (.bool false), .d (.int .i64 0), .d (.int .i64 0), .d (.int .u8 0), .d (.int .i64 0), .d (.int .i64 0), .d (.int .i64 0), .d (.int .u16 0), .d (.int .u16 0), .d (.int .u16 0), .d (.int .i64 0), .d (.int .i64 0), .d (.int .i64 0), .d (.int .i64 0), .d (.int .i64 0), .d (.bool false), .d (.int .i64 0), .d (.int .i64 0), .d (.int .i64 0), .d (.int .i64 0), .d (.int .i64 0), .d (.bool false), .d (.bool false), .d (.bool false), .d (.bool false)]) [],
 o0 (.store 25) [.t 3, .t 16],
 om 4 17]
def F9o7 := [
 om 18 2,
 o3 19 (.bin .eql) [.t 18, .i 0],
 om 20 19,
 og 21 (.faddr 0) [.t 1] 20 true,
 og 22 (.faddr 3) [.t 21] 20 true,
 og 23 (.load none) [.t 22] 20 true,
 og 24 (.bin .eql) [.t 23, .y 64] 20 true,
 o3 25 .pick [.t 20, .t 24, .b false],
 om 26 25,
 og 27 .mv [.t 4] 26 true,
 og 28 (.bin .eql) [.t 27, .i 6] 26 true,
 o3 29 .pick [.t 26, .t 28, .b false],
 om 0 29]
def F9c8 : Ac := .ret
def F9c6 : Ac := (so F9o7 F9c8)
def F9c4 : Ac := (so F9o5 F9c6)
def F9c2 : Ac := (so F9o3 F9c4)
def F9c0 : Ac := (so F9o1 F9c2)
/-- hansom/hansomlaw34.awake -/
def F9 : Fn := { np := 0, pb := [], rs := [.t 0], body := F9c0 }
def F10o1 := [
 o3 3 (.box 24) [.t 1],
 o3 4 .mv [.c (.nils)]]
def F10o3 := [
 o3 5 .mv [.c (.nils)]]
def F10o6 := [
 o3 12 .mv [.i 0]]
def F10o10 := [
 o3 13 (.bin .lss) [.t 12, .i 2048]]
def F10o18 := [
 om 14 12,
 om 6 14]
def F10o20 := [
 om 15 6,
 o3 16 (.bin .shr) [.t 15, .c (.d (.int .u64 3))],
 o3 17 (.toInt .u8) [.t 16],
 om 18 6,
 o3 19 (.bin .and) [.t 18, .i 7],
 om 7 17,
 om 8 19]
def F10o23 := [
 om 20 8,
 o3 21 (.bin .gtr) [.t 20, .i 0],
 om 22 21,
 og 23 .mv [.t 7] 22 true,
 og 24 (.callf 25) [.t 23] 22 true,
 og 25 (.un .not) [.t 24] 22 true,
 o3 26 .pick [.t 22, .t 25, .b false],
 om 27 26,
 og 28 .mv [.t 7] 27 false,
 og 29 (.callf 26) [.t 28] 27 false,
 o3 30 .pick [.t 27, .b true, .t 29]]
def F10c24 : Ac := (cd 30 (.exit 1) .skip)
def F10o28 := [
 om 32 7,
 om 33 8,
 o3 34 (.callf 27) [.t 32, .t 33],
 om 31 34,
 oe 35 0 31,
 oe 36 1 31,
 o3 9 (.alloc [.d (.int .i64 0), .d (.int .i64 0), .d (.int .i64 0), .d (.bool false)]) [],
 o0 (.store 4) [.t 9, .t 35],
 om 10 36]
def F10o31 := [
 om 37 10,
 o3 38 (.un .not) [.t 37],
 om 39 38,
 og 40 (.faddr 0) [.t 9] 39 false,
 og 41 (.load none) [.t 40] 39 false,
 og 42 .mv [.t 0] 39 false,
 og 43 (.bin .neq) [.t 41, .t 42] 39 false,
 o3 44 .pick [.t 39, .b true, .t 43]]
def F10c32 : Ac := (cd 44 (.exit 1) .skip)
def F10o37 := [
 o3 45 (.faddr 1) [.t 9],
 o3 46 (.load none) [.t 45],
 o3 47 (.iaddrA 2 12) [.t 3, .i 0],
 o3 48 (.load (some 12)) [.t 47],
 om 49 7,
 o3 50 (.callf 28) [.t 46, .t 48, .t 49],
 o3 51 (.un .not) [.t 50],
 om 52 51,
 og 53 (.faddr 2) [.t 9] 52 false,
 og 54 (.load none) [.t 53] 52 false,
 og 55 (.iaddrA 2 12) [.t 3, .i 1] 52 false,
 og 56 (.load (some 12)) [.t 55] 52 false,
 og 57 .mv [.t 7] 52 false,
 og 58 (.callf 28) [.t 54, .t 56, .t 57] 52 false,
 og 59 (.un .not) [.t 58] 52 false,
 o3 60 .pick [.t 52, .b true, .t 59],
 om 61 60,
 og 62 (.load (some 4)) [.t 9] 61 false,
 og 63 (.load (some 24)) [.t 3] 61 false,
 og 64 (.callf 29) [.t 62, .t 63] 61 false,
 og 65 (.un .not) [.t 64] 61 false,
 o3 66 .pick [.t 61, .b true, .t 65]]
def F10c38 : Ac := (cd 66 (.exit 1) .skip)
def F10o42 := [
 om 67 7,
 om 68 8,
 o3 69 (.load (some 4)) [.t 9],
 o3 70 (.load (some 24)) [.t 3],
 o3 71 (.callf 30) [.t 67, .t 68, .t 69, .t 70],
 o3 11 (.alloc [.d (.bool false), .d (.int .i64 0), .d (.int .i64 0), .d (.int .u8 0), .d (.int .i64 0), .d (.int .i64 0), .d (.int .i64 0), .d (.int .u16 0), .d (.int .u16 0), .d (.int .u16 0), .d (.int .i64 0), .d (.int .i64 0), .d (.int .i64 0), .d (.int .i64 0), .d (.int .i64 0), .d (.bool false), .d (.int .i64 0), .d (.int .i64 0), .d (.int .i64 0), .d (.int .i64 0), .d (.int .i64 0), .d (.bool false), .d (.bool false), .d (.bool false), .d (.bool false)]) [],
 o0 (.store 25) [.t 11, .t 71]]
def F10o44 := [
 o3 72 (.faddr 0) [.t 11],
 o3 73 (.load (some 10)) [.t 72],
 o3 74 (.callf 31) [.t 73]]
def F10o46 := [
 om 75 5,
 o3 76 (.load (some 25)) [.t 11],
 o3 77 (.bslice (.agg [.bool false, .int .i64 0, .int .i64 0, .int .u8 0, .int .i64 0, .int .i64 0, .int .i64 0, .int .u16 0, .int .u16 0, .int .u16 0, .int .i64 0, .int .i64 0, .int .i64 0, .int .i64 0, .int .i64 0, .bool false, .int .i64 0, .int .i64 0, .int .i64 0, .int .i64 0, .int .i64 0, .bool false, .bool false, .bool false, .bool false]) 1 [0]) [.t 76],
 o3 78 (.append 25 168 false) [.t 75, .t 77],
 om 5 78]
def F10c45 : Ac := (cd 74 (.ops F10o46) .skip)
def F10c43 : Ac := (so F10o44 F10c45)
def F10c41 : Ac := (so F10o42 F10c43)
def F10c35 : Ac := (.seq (so F10o37 F10c38) F10c41)
def F10c29 : Ac := (.seq (so F10o31 F10c32) F10c35)
def F10b27 : Ac := (so F10o28 F10c29)
def F10c27 : Ac := (.seq (.gh []) (.seq (.keep [0, 3, 5, 7, 8, 12] [[3], [5]]) F10b27))
def F10c21 : Ac := (.seq (so F10o23 F10c24) F10c27)
def F10c19 : Ac := (so F10o20 F10c21)
def F10o48 := [
 o3 79 (.bin .add) [.t 12, .i 1],
 om 12 79]
def F10c48 : Ac := (.ops F10o48)
def F10c15 : Ac := (.seq (.block 1 (so F10o18 F10c19)) F10c48)
def F10c11 : Ac := (.seq (cd 13 .skip (.exit 0)) F10c15)
def F10l8 : Ac := (so F10o10 F10c11)
def F10c7 : Ac := (.block 0 (.loop (.seq (.gh []) (.seq (.keep [0, 3, 5, 12] [[3], [5]]) F10l8))))
def F10o50 := [
 om 80 5,
 o3 81 (.callf 32) [.t 80],
 om 4 81]
def F10c51 : Ac := .ret
def F10b49 : Ac := (so F10o50 F10c51)
def F10c49 : Ac := (.seq (.gh []) (.seq (.keep [5] [[5]]) F10b49))
def F10b4 : Ac := (.seq (so F10o6 F10c7) F10c49)
def F10c4 : Ac := (.seq (.gh [.own 5 [5] 25]) (.seq (.keep [0, 3, 5] [[3], [5]]) F10b4))
def F10c2 : Ac := (so F10o3 F10c4)
def F10c0 : Ac := (so F10o1 F10c2)
/-- hansom/pick.All -/
def F10 : Fn := { np := 2, pb := [], rs := [.t 4], body := F10c0 }
def F12o1 := [
 o3 1 (.box 10) [.t 0],
 o3 2 .mv [.i 0]]
def F12o4 := [
 o3 6 (.load (some 10)) [.t 1],
 o3 7 (.callf 31) [.t 6],
 o3 8 (.un .not) [.t 7]]
def F12o7 := [
 o3 2 .mv [.i 0]]
def F12c8 : Ac := .ret
def F12c5 : Ac := (cd 8 (so F12o7 F12c8) .skip)
def F12o11 := [
 o3 10 (.load (some 10)) [.t 1],
 o3 11 (.callf 34) [.t 10],
 om 9 11,
 oe 12 0 9,
 oe 13 1 9,
 o3 3 (.alloc [.d (.int .i64 0), .d (.int .i64 0), .d (.int .i64 0), .d (.bool false)]) [],
 o0 (.store 4) [.t 3, .t 12],
 om 4 13]
def F12o13 := [
 o3 14 (.load (some 4)) [.t 3],
 o3 15 (.callf 35) [.t 14],
 o3 16 (.bin .add) [.i 1, .t 15],
 om 5 16]
def F12o16 := [
 o3 17 (.faddr 0) [.t 1],
 o3 18 (.load none) [.t 17]]
def F12o18 := [
 om 19 5,
 o3 20 (.bin .add) [.t 19, .i 1],
 om 5 20]
def F12c17 : Ac := (cd 18 (.ops F12o18) .skip)
def F12o22 := [
 o3 21 (.faddr 1) [.t 1],
 o3 22 (.load none) [.t 21],
 o3 23 (.bin .gtr) [.t 22, .i 0]]
def F12o24 := [
 om 24 5,
 o3 25 (.bin .add) [.t 24, .i 1],
 om 5 25]
def F12c23 : Ac := (cd 23 (.ops F12o24) .skip)
def F12o28 := [
 o3 26 (.faddr 2) [.t 1],
 o3 27 (.load none) [.t 26],
 o3 28 (.bin .gtr) [.t 27, .i 0]]
def F12o30 := [
 om 29 5,
 o3 30 (.bin .add) [.t 29, .i 1],
 om 5 30]
def F12c29 : Ac := (cd 28 (.ops F12o30) .skip)
def F12o34 := [
 o3 31 (.faddr 3) [.t 3],
 o3 32 (.load none) [.t 31]]
def F12o36 := [
 om 33 5,
 o3 34 (.faddr 4) [.t 1],
 o3 35 (.load none) [.t 34],
 o3 36 (.faddr 6) [.t 1],
 o3 37 (.load none) [.t 36],
 o3 38 (.callf 36) [.t 35, .t 37],
 o3 39 (.bin .add) [.i 1, .t 38],
 o3 40 (.bin .add) [.t 33, .t 39],
 om 5 40]
def F12c35 : Ac := (cd 32 (.ops F12o36) .skip)
def F12o39 := [
 om 41 5,
 om 2 41]
def F12c40 : Ac := .ret
def F12c38 : Ac := (so F12o39 F12c40)
def F12c32 : Ac := (.seq (so F12o34 F12c35) F12c38)
def F12b26 : Ac := (.seq (so F12o28 F12c29) F12c32)
def F12c26 : Ac := (.seq (.gh []) (.seq (.keep [1, 3, 5] [[1], [3]]) F12b26))
def F12b20 : Ac := (.seq (so F12o22 F12c23) F12c26)
def F12c20 : Ac := (.seq (.gh []) (.seq (.keep [1, 3, 5] [[1], [3]]) F12b20))
def F12c14 : Ac := (.seq (so F12o16 F12c17) F12c20)
def F12c12 : Ac := (so F12o13 F12c14)
def F12c10 : Ac := (so F12o11 F12c12)
def F12c2 : Ac := (.seq (so F12o4 F12c5) F12c10)
def F12c0 : Ac := (so F12o1 F12c2)
/-- hansom/inst.Len -/
def F12 : Fn := { np := 1, pb := [], rs := [.t 2], body := F12c0 }
def F13o1 := [
 o3 2 .mv [.i 0],
 o3 3 .mv [.i 0]]
def F13o3 := [
 om 5 0,
 o3 6 (.callf 37) [.t 5],
 o3 7 (.callf 16) [.t 6],
 om 4 7]
def F13o6 := [
 om 8 4]
def F13o9 := [
 o3 10 (.bin .eql) [.t 8, .i 80],
 om 9 10]
def F13o12 := [
 om 11 4,
 om 2 11,
 o3 3 .mv [.i 81]]
def F13c13 : Ac := .ret
def F13o15 := [
 o3 13 (.bin .eql) [.t 8, .i 39],
 om 12 13]
def F13o18 := [
 om 14 4,
 om 2 14,
 o3 3 .mv [.i 40]]
def F13c19 : Ac := .ret
def F13c16 : Ac := (cd 12 (so F13o18 F13c19) .skip)
def F13c10 : Ac := (cd 9 (so F13o12 F13c13) (so F13o15 F13c16))
def F13c7 : Ac := (.block 0 (so F13o9 F13c10))
def F13o22 := [
 om 15 4,
 om 2 15,
 o3 3 .mv [.i 0]]
def F13c23 : Ac := .ret
def F13c21 : Ac := (so F13o22 F13c23)
def F13c4 : Ac := (.seq (so F13o6 F13c7) F13c21)
def F13c2 : Ac := (so F13o3 F13c4)
def F13c0 : Ac := (so F13o1 F13c2)
/-- hansom/pick.Find -/
def F13 : Fn := { np := 1, pb := [], rs := [.t 2, .t 3], body := F13c0 }
def F16o1 := [
 o3 2 .mv [.i 0]]
def F16o4 := [
 o3 5 (.callf 40) [.c (.d (.str [65, 68, 68, 32, 79, 82, 32, 65, 68, 67, 32, 83, 66, 66, 32, 65, 78, 68, 32, 83, 85, 66, 32, 88, 79, 82, 32, 67, 77, 80, 32, 80, 85, 83, 72, 32, 80, 79, 80, 32, 68, 65, 65, 32, 68, 65, 83, 32, 65, 65, 65, 32, 65, 65, 83, 32, 73, 78, 67, 32, 68, 69, 67, 32, 74, 79, 32, 74, 78, 79, 32, 74, 66, 32, 74, 78, 66, 32, 74, 90, 32, 74, 78, 90, 32, 74, 66, 69, 32, 74, 65, 32, 74, 83, 32, 74, 78, 83, 32, 74, 80, 32, 74, 78, 80, 32, 74, 76, 32, 74, 71, 69, 32, 74, 76, 69, 32, 74, 71, 32, 84, 69, 83, 84, 32, 88, 67, 72, 71, 32, 77, 79, 86, 32, 76, 69, 65, 32, 67, 66, 87, 32, 67, 87, 68, 32, 67, 65, 76, 76, 32, 67, 65, 76, 76, 70, 32, 87, 65, 73, 84, 32, 80, 85, 83, 72, 70, 32, 80, 79, 80, 70, 32, 83, 65, 72, 70, 32, 76, 65, 72, 70, 32, 77, 79, 86, 83, 66, 32, 77, 79, 86, 83, 87, 32, 67, 77, 80, 83, 66, 32, 67, 77, 80, 83, 87, 32, 83, 84, 79, 83, 66, 32, 83, 84, 79, 83, 87, 32, 76, 79, 68, 83, 66, 32, 76, 79, 68, 83, 87, 32, 83, 67, 65, 83, 66, 32, 83, 67, 65, 83, 87, 32, 82, 69, 84, 32, 82, 69, 84, 70, 32, 76, 69, 83, 32, 76, 68, 83, 32, 73, 78, 84, 32, 73, 78, 84, 79, 32, 73, 82, 69, 84, 32, 82, 79, 76, 32, 82, 79, 82, 32, 82, 67, 76, 32, 82, 67, 82, 32, 83, 72, 76, 32, 83, 72, 82, 32, 83, 65, 82, 32, 65, 65, 77, 32, 65, 65, 68, 32, 88, 76, 65, 84, 32, 69, 83, 67, 32, 76, 79, 79, 80, 78, 90, 32, 76, 79, 79, 80, 90, 32, 76, 79, 79, 80, 32, 74, 67, 88, 90, 32, 73, 78, 32, 79, 85, 84, 32, 74, 77, 80, 32, 74, 77, 80, 70, 32, 72, 76, 84, 32, 67, 77, 67, 32, 78, 79, 84, 32, 78, 69, 71, 32, 77, 85, 76, 32, 73, 77, 85, 76, 32, 68, 73, 86, 32, 73, 68, 73, 86, 32, 67, 76, 67, 32, 83, 84, 67, 32, 67, 76, 73, 32, 83, 84, 73, 32, 67, 76, 68, 32, 83, 84, 68]))],
 o3 6 .lenL [.t 5],
 o3 7 .mv [.i 0]]
def F16o8 := [
 o3 8 (.bin .lss) [.t 7, .t 6]]
def F16o16 := [
 om 9 7,
 o3 10 (.iaddrS 1) [.t 5, .t 7],
 o3 11 (.load none) [.t 10],
 om 3 9,
 om 4 11]
def F16o18 := [
 om 12 4,
 om 13 0,
 o3 14 (.bin .eql) [.t 12, .t 13]]
def F16o21 := [
 om 15 3,
 o3 16 (.bin .add) [.t 15, .i 1],
 om 2 16]
def F16c22 : Ac := .ret
def F16c19 : Ac := (cd 14 (so F16o21 F16c22) .skip)
def F16c17 : Ac := (so F16o18 F16c19)
def F16o24 := [
 o3 17 (.bin .add) [.t 7, .i 1],
 om 7 17]
def F16c24 : Ac := (.ops F16o24)
def F16c13 : Ac := (.seq (.block 1 (so F16o16 F16c17)) F16c24)
def F16c9 : Ac := (.seq (cd 8 .skip (.exit 0)) F16c13)
def F16l6 : Ac := (so F16o8 F16c9)
def F16c5 : Ac := (.block 0 (.loop (.seq (.gh [.frz 5]) (.seq (.keep [0, 5, 6, 7] []) F16l6))))
def F16o26 := [
 o3 2 .mv [.i 0]]
def F16c27 : Ac := .ret
def F16b25 : Ac := (so F16o26 F16c27)
def F16c25 : Ac := (.seq (.gh []) (.seq (.keep [] []) F16b25))
def F16c2 : Ac := (.seq (so F16o4 F16c5) F16c25)
def F16c0 : Ac := (so F16o1 F16c2)
/-- hansom/disp.Find -/
def F16 : Fn := { np := 1, pb := [], rs := [.t 2], body := F16c0 }
def F17o1 := [
 o3 4 (.box 24) [.t 1],
 o3 6 (.alloc [.d (.bool false), .d (.int .i64 0), .d (.int .i64 0), .d (.int .u8 0), .d (.int .i64 0), .d (.int .i64 0), .d (.int .i64 0), .d (.int .u16 0), .d (.int .u16 0), .d (.int .u16 0), .d (.int .i64 0), .d (.int .i64 0), .d (.int .i64 0), .d (.int .i64 0), .d (.int .i64 0), .d (.bool false), .d (.int .i64 0), .d (.int .i64 0), .d (.int .i64 0), .d (.int .i64 0), .d (.int .i64 0), .d (.bool false), .d (.bool false), .d (.bool false), .d (.bool false)]) [],
 o3 7 .mv [.i 0]]
def F17o3 := [
 om 12 0,
 o3 13 (.callf 13) [.t 12],
 om 11 13,
 oe 14 0 11,
 oe 15 1 11,
 om 8 14,
 om 9 15]
def F17o5 := [
 om 16 8,
 o3 17 (.load (some 24)) [.t 4],
 o3 18 (.callf 10) [.t 16, .t 17],
 om 10 18]
def F17o8 := [
 om 19 9,
 o3 20 (.bin .gtr) [.t 19, .i 0]]
def F17o10 := [
 om 21 10,
 om 22 9,
 o3 23 (.load (some 24)) [.t 4],
 o3 24 (.callf 10) [.t 22, .t 23],
 o3 25 (.append 25 168 false) [.t 21, .t 24],
 om 10 25]
def F17c9 : Ac := (cd 20 (.ops F17o10) .skip)
def F17o14 := [
 om 26 10,
 o3 27 .lenL [.t 26],
 o3 28 (.bin .eql) [.t 27, .i 0]]
def F17o17 := [
 o3 29 (.build [.d (.bool false), .d (.int .i64 0), .d (.int .i64 0), .d (.int .u8 0), .d (.int .i64 0), .d (.int .i64 0), .d (.int .i64 0), .d (.int .u16 0), .d (.int .u16 0), .d (.int .u16 0), .d (.int .i64 0), .d (.int .i64 0), .d (.int .i64 0), .d (.int .i64 0), .d (.int .i64 0), .d (.bool false), .d (.int .i64 0), .d (.int .i64 0), .d (.int .i64 0), .d (.int .i64 0), .d (.int .i64 0), .d (.bool false), .d (.bool false), .d (.bool false), .d (.bool false)] []) [],
 o0 (.store 25) [.t 6, .t 29],
 o3 7 .mv [.i 6]]
def F17c18 : Ac := .ret
def F17c15 : Ac := (cd 28 (so F17o17 F17c18) .skip)
def F17o22 := [
 om 30 2,
 om 31 30,
 og 32 .mv [.t 10] 31 true,
 og 33 (.iaddrS 25) [.t 32, .i 0] 31 true,
 og 34 (.faddr 24) [.t 33] 31 true,
 og 35 (.load none) [.t 34] 31 true,
 o3 36 .pick [.t 31, .t 35, .b false],
 om 37 36,
 og 38 .mv [.t 10] 37 true,
 og 39 .lenL [.t 38] 37 true,
 og 40 (.bin .gtr) [.t 39, .i 1] 37 true,
 o3 41 .pick [.t 37, .t 40, .b false]]
def F17o25 := [
 om 42 10,
 o3 43 (.iaddrS 25) [.t 42, .i 1],
 o3 44 (.load (some 25)) [.t 43],
 o0 (.store 25) [.t 6, .t 44],
 o3 7 .mv [.i 0]]
def F17c26 : Ac := .ret
def F17c23 : Ac := (cd 41 (so F17o25 F17c26) .skip)
def F17o29 := [
 om 45 10,
 o3 46 (.iaddrS 25) [.t 45, .i 0],
 o3 47 (.load (some 25)) [.t 46],
 o0 (.store 25) [.t 6, .t 47],
 o3 7 .mv [.i 0]]
def F17c30 : Ac := .ret
def F17c28 : Ac := (so F17o29 F17c30)
def F17c20 : Ac := (.seq (so F17o22 F17c23) F17c28)
def F17b12 : Ac := (.seq (so F17o14 F17c15) F17c20)
def F17c12 : Ac := (.seq (.gh []) (.seq (.keep [2, 6, 10] [[6], [18]]) F17b12))
def F17c6 : Ac := (.seq (so F17o8 F17c9) F17c12)
def F17c4 : Ac := (so F17o5 F17c6)
def F17c2 : Ac := (so F17o3 F17c4)
def F17c0 : Ac := (so F17o1 F17c2)
/-- hansom/pick.Pick -/
def F17 : Fn := { np := 3, pb := [], rs := [.c 6 (some 25), .t 7], body := F17c0 }
def F25o1 := [
 o3 2 .mv [.b false]]
def F25o4 := [
 om 3 0]
def F25o8 := [
 o3 5 (.bin .eql) [.t 3, .y 128],
 om 4 5]
def F25o12 := [
 o3 6 (.bin .eql) [.t 3, .y 129],
 om 4 6]
def F25o16 := [
 o3 7 (.bin .eql) [.t 3, .y 131],
 om 4 7]
def F25o20 := [
 o3 8 (.bin .eql) [.t 3, .y 143],
 om 4 8]
def F25o24 := [
 o3 9 (.bin .eql) [.t 3, .y 198],
 om 4 9]
def F25o28 := [
 o3 10 (.bin .eql) [.t 3, .y 199],
 om 4 10]
def F25o32 := [
 o3 11 (.bin .eql) [.t 3, .y 208],
 om 4 11]
def F25o36 := [
 o3 12 (.bin .eql) [.t 3, .y 209],
 om 4 12]
def F25o40 := [
 o3 13 (.bin .eql) [.t 3, .y 210],
 om 4 13]
def F25o44 := [
 o3 14 (.bin .eql) [.t 3, .y 211],
 om 4 14]
def F25o48 := [
 o3 15 (.bin .eql) [.t 3, .y 246],
 om 4 15]
def F25o52 := [
 o3 16 (.bin .eql) [.t 3, .y 247],
 om 4 16]
def F25o56 := [
 o3 17 (.bin .eql) [.t 3, .y 254],
 om 4 17]
def F25o59 := [
 o3 18 (.bin .eql) [.t 3, .y 255],
 om 4 18]
def F25c57 : Ac := (cd 4 .skip (.ops F25o59))
def F25c53 : Ac := (cd 4 .skip (so F25o56 F25c57))
def F25c49 : Ac := (cd 4 .skip (so F25o52 F25c53))
def F25c45 : Ac := (cd 4 .skip (so F25o48 F25c49))
def F25c41 : Ac := (cd 4 .skip (so F25o44 F25c45))
def F25c37 : Ac := (cd 4 .skip (so F25o40 F25c41))
def F25c33 : Ac := (cd 4 .skip (so F25o36 F25c37))
def F25c29 : Ac := (cd 4 .skip (so F25o32 F25c33))
def F25c25 : Ac := (cd 4 .skip (so F25o28 F25c29))
def F25c21 : Ac := (cd 4 .skip (so F25o24 F25c25))
def F25c17 : Ac := (cd 4 .skip (so F25o20 F25c21))
def F25c13 : Ac := (cd 4 .skip (so F25o16 F25c17))
def F25c9 : Ac := (cd 4 .skip (so F25o12 F25c13))
def F25o62 := [
 o3 2 .mv [.b true]]
def F25c63 : Ac := .ret
def F25c60 : Ac := (cd 4 (so F25o62 F25c63) .skip)
def F25c5 : Ac := (.block 0 (.seq (so F25o8 F25c9) F25c60))
def F25o66 := [
 o3 2 .mv [.b false]]
def F25c67 : Ac := .ret
def F25c65 : Ac := (so F25o66 F25c67)
def F25c2 : Ac := (.seq (so F25o4 F25c5) F25c65)
def F25c0 : Ac := (so F25o1 F25c2)
/-- hansom/isa.Grouped -/
def F25 : Fn := { np := 1, pb := [], rs := [.t 2], body := F25c0 }
def F26o1 := [
 o3 2 .mv [.b false]]
def F26o4 := [
 om 3 0]
def F26o8 := [
 o3 5 (.bin .eql) [.t 3, .y 38],
 om 4 5]
def F26o12 := [
 o3 6 (.bin .eql) [.t 3, .y 46],
 om 4 6]
def F26o16 := [
 o3 7 (.bin .eql) [.t 3, .y 54],
 om 4 7]
def F26o20 := [
 o3 8 (.bin .eql) [.t 3, .y 62],
 om 4 8]
def F26o24 := [
 o3 9 (.bin .eql) [.t 3, .y 240],
 om 4 9]
def F26o28 := [
 o3 10 (.bin .eql) [.t 3, .y 242],
 om 4 10]
def F26o31 := [
 o3 11 (.bin .eql) [.t 3, .y 243],
 om 4 11]
def F26c29 : Ac := (cd 4 .skip (.ops F26o31))
def F26c25 : Ac := (cd 4 .skip (so F26o28 F26c29))
def F26c21 : Ac := (cd 4 .skip (so F26o24 F26c25))
def F26c17 : Ac := (cd 4 .skip (so F26o20 F26c21))
def F26c13 : Ac := (cd 4 .skip (so F26o16 F26c17))
def F26c9 : Ac := (cd 4 .skip (so F26o12 F26c13))
def F26o34 := [
 o3 2 .mv [.b true]]
def F26c35 : Ac := .ret
def F26c32 : Ac := (cd 4 (so F26o34 F26c35) .skip)
def F26c5 : Ac := (.block 0 (.seq (so F26o8 F26c9) F26c32))
def F26o38 := [
 o3 2 .mv [.b false]]
def F26c39 : Ac := .ret
def F26c37 : Ac := (so F26o38 F26c39)
def F26c2 : Ac := (.seq (so F26o4 F26c5) F26c37)
def F26c0 : Ac := (so F26o1 F26c2)
/-- hansom/isa.Prefix -/
def F26 : Fn := { np := 1, pb := [], rs := [.t 2], body := F26c0 }
def F27o1 := [
 o3 4 (.alloc [.d (.int .i64 0), .d (.int .i64 0), .d (.int .i64 0), .d (.bool false)]) [],
 o3 5 .mv [.b false]]
def F27o3 := [
 om 7 1,
 o3 8 (.bin .and) [.t 7, .i 7],
 om 1 8]
def F27o7 := [
 om 10 0,
 o3 11 (.bin .lss) [.t 10, .y 64],
 om 9 11]
def F27o10 := [
 om 12 0,
 o3 13 (.callf 46) [.t 12],
 oe 14 0 13,
 oe 15 1 13,
 o0 (.store 4) [.t 4, .t 14],
 om 5 15]
def F27c11 : Ac := .ret
def F27o13 := [
 om 17 0,
 o3 18 (.bin .lss) [.t 17, .y 96],
 om 16 18]
def F27o16 := [
 o3 19 (.bslice (.int .i64 0) 4 [0, 1, 2, 3]) [.i 15, .i 16, .i 9, .i 10],
 om 20 0,
 o3 21 (.bin .sub) [.t 20, .y 64],
 o3 22 (.bin .shr) [.t 21, .c (.d (.int .u64 3))],
 o3 23 (.iaddrS 1) [.t 19, .t 22],
 o3 24 (.load none) [.t 23],
 om 6 24]
def F27o18 := [
 om 25 6,
 o3 26 (.callf 47) [.t 25, .i 22, .i 0],
 oe 27 0 26,
 oe 28 1 26,
 o0 (.store 4) [.t 4, .t 27],
 om 5 28]
def F27c19 : Ac := .ret
def F27c17 : Ac := (so F27o18 F27c19)
def F27o21 := [
 om 30 0,
 o3 31 (.bin .lss) [.t 30, .y 112],
 om 29 31]
def F27o24 := [
 o3 32 (.callf 48) [],
 oe 33 0 32,
 oe 34 1 32,
 o0 (.store 4) [.t 4, .t 33],
 om 5 34]
def F27c25 : Ac := .ret
def F27o27 := [
 om 36 0,
 o3 37 (.bin .lss) [.t 36, .y 128],
 om 35 37]
def F27o30 := [
 om 38 0,
 o3 39 (.bin .sub) [.t 38, .y 112],
 o3 40 (.toInt .i64) [.t 39],
 o3 41 (.bin .add) [.i 17, .t 40],
 o3 42 (.callf 47) [.t 41, .i 9, .i 0],
 oe 43 0 42,
 oe 44 1 42,
 o0 (.store 4) [.t 4, .t 43],
 om 5 44]
def F27c31 : Ac := .ret
def F27o33 := [
 om 46 0,
 o3 47 (.bin .lss) [.t 46, .y 144],
 om 45 47]
def F27o36 := [
 om 48 0,
 om 49 1,
 o3 50 (.callf 49) [.t 48, .t 49],
 oe 51 0 50,
 oe 52 1 50,
 o0 (.store 4) [.t 4, .t 51],
 om 5 52]
def F27c37 : Ac := .ret
def F27o39 := [
 om 54 0,
 o3 55 (.bin .lss) [.t 54, .y 160],
 om 53 55]
def F27o42 := [
 om 56 0,
 o3 57 (.callf 50) [.t 56],
 oe 58 0 57,
 oe 59 1 57,
 o0 (.store 4) [.t 4, .t 58],
 om 5 59]
def F27c43 : Ac := .ret
def F27o45 := [
 om 61 0,
 o3 62 (.bin .lss) [.t 61, .y 176],
 om 60 62]
def F27o48 := [
 om 63 0,
 o3 64 (.callf 51) [.t 63],
 oe 65 0 64,
 oe 66 1 64,
 o0 (.store 4) [.t 4, .t 65],
 om 5 66]
def F27c49 : Ac := .ret
def F27o51 := [
 om 68 0,
 o3 69 (.bin .lss) [.t 68, .y 184],
 om 67 69]
def F27o54 := [
 o3 70 (.callf 47) [.i 35, .i 21, .i 6],
 oe 71 0 70,
 oe 72 1 70,
 o0 (.store 4) [.t 4, .t 71],
 om 5 72]
def F27c55 : Ac := .ret
def F27o57 := [
 om 74 0,
 o3 75 (.bin .lss) [.t 74, .y 192],
 om 73 75]
def F27o60 := [
 o3 76 (.callf 47) [.i 35, .i 22, .i 7],
 oe 77 0 76,
 oe 78 1 76,
 o0 (.store 4) [.t 4, .t 77],
 om 5 78]
def F27c61 : Ac := .ret
def F27o63 := [
 om 80 0,
 o3 81 (.bin .lss) [.t 80, .y 208],
 om 79 81]
def F27o66 := [
 om 82 0,
 om 83 1,
 o3 84 (.callf 52) [.t 82, .t 83],
 oe 85 0 84,
 oe 86 1 84,
 o0 (.store 4) [.t 4, .t 85],
 om 5 86]
def F27c67 : Ac := .ret
def F27o69 := [
 om 88 0,
 o3 89 (.bin .lss) [.t 88, .y 224],
 om 87 89]
def F27o72 := [
 om 90 0,
 om 91 1,
 o3 92 (.callf 53) [.t 90, .t 91],
 oe 93 0 92,
 oe 94 1 92,
 o0 (.store 4) [.t 4, .t 93],
 om 5 94]
def F27c73 : Ac := .ret
def F27o75 := [
 om 96 0,
 o3 97 (.bin .lss) [.t 96, .y 240],
 om 95 97]
def F27o78 := [
 om 98 0,
 o3 99 (.callf 54) [.t 98],
 oe 100 0 99,
 oe 101 1 99,
 o0 (.store 4) [.t 4, .t 100],
 om 5 101]
def F27c79 : Ac := .ret
def F27c76 : Ac := (cd 95 (so F27o78 F27c79) .skip)
def F27c70 : Ac := (cd 87 (so F27o72 F27c73) (so F27o75 F27c76))
def F27c64 : Ac := (cd 79 (so F27o66 F27c67) (so F27o69 F27c70))
def F27c58 : Ac := (cd 73 (so F27o60 F27c61) (so F27o63 F27c64))
def F27c52 : Ac := (cd 67 (so F27o54 F27c55) (so F27o57 F27c58))
def F27c46 : Ac := (cd 60 (so F27o48 F27c49) (so F27o51 F27c52))
def F27c40 : Ac := (cd 53 (so F27o42 F27c43) (so F27o45 F27c46))
def F27c34 : Ac := (cd 45 (so F27o36 F27c37) (so F27o39 F27c40))
def F27c28 : Ac := (cd 35 (so F27o30 F27c31) (so F27o33 F27c34))
def F27c22 : Ac := (cd 29 (so F27o24 F27c25) (so F27o27 F27c28))
def F27c14 : Ac := (cd 16 (so F27o16 F27c17) (so F27o21 F27c22))
def F27c8 : Ac := (cd 9 (so F27o10 F27c11) (so F27o13 F27c14))
def F27o82 := [
 om 102 0,
 om 103 1,
 o3 104 (.callf 55) [.t 102, .t 103],
 oe 105 0 104,
 oe 106 1 104,
 o0 (.store 4) [.t 4, .t 105],
 om 5 106]
def F27c83 : Ac := .ret
def F27c81 : Ac := (so F27o82 F27c83)
def F27c4 : Ac := (.seq (.block 0 (so F27o7 F27c8)) F27c81)
def F27c2 : Ac := (so F27o3 F27c4)
def F27c0 : Ac := (so F27o1 F27c2)
/-- hansom/isa.Of -/
def F27 : Fn := { np := 2, pb := [], rs := [.c 4 (some 4), .t 5], body := F27c0 }
def F28o1 := [
 o3 4 (.box 12) [.t 1],
 o3 6 .mv [.b false]]
def F28o4 := [
 om 7 0]
def F28o7 := [
 o3 9 (.bin .eql) [.t 7, .i 0],
 om 8 9]
def F28o10 := [
 o3 10 (.faddr 0) [.t 4],
 o3 11 (.load none) [.t 10],
 o3 12 (.bin .eql) [.t 11, .i 0],
 om 6 12]
def F28c11 : Ac := .ret
def F28o13 := [
 o3 14 (.bin .eql) [.t 7, .i 1],
 om 13 14]
def F28o16 := [
 o3 15 (.faddr 0) [.t 4],
 o3 16 (.load none) [.t 15],
 o3 17 (.bin .eql) [.t 16, .i 1],
 om 18 17,
 og 19 (.load (some 12)) [.t 4] 18 false,
 og 20 (.callf 56) [.t 19, .i 1] 18 false,
 o3 21 .pick [.t 18, .b true, .t 20],
 om 6 21]
def F28c17 : Ac := .ret
def F28o19 := [
 o3 23 (.bin .eql) [.t 7, .i 2],
 om 22 23]
def F28o22 := [
 o3 24 (.faddr 0) [.t 4],
 o3 25 (.load none) [.t 24],
 o3 26 (.bin .eql) [.t 25, .i 2],
 om 27 26,
 og 28 (.load (some 12)) [.t 4] 27 false,
 og 29 (.callf 56) [.t 28, .i 2] 27 false,
 o3 30 .pick [.t 27, .b true, .t 29],
 om 6 30]
def F28c23 : Ac := .ret
def F28o25 := [
 o3 32 (.bin .eql) [.t 7, .i 3],
 om 31 32]
def F28o28 := [
 o3 33 (.faddr 0) [.t 4],
 o3 34 (.load none) [.t 33],
 o3 35 (.bin .eql) [.t 34, .i 1],
 om 6 35]
def F28c29 : Ac := .ret
def F28o31 := [
 o3 37 (.bin .eql) [.t 7, .i 4],
 om 36 37]
def F28o34 := [
 o3 38 (.faddr 0) [.t 4],
 o3 39 (.load none) [.t 38],
 o3 40 (.bin .eql) [.t 39, .i 2],
 om 6 40]
def F28c35 : Ac := .ret
def F28o37 := [
 o3 42 (.bin .eql) [.t 7, .i 5],
 om 41 42]
def F28o40 := [
 o3 43 (.faddr 0) [.t 4],
 o3 44 (.load none) [.t 43],
 o3 45 (.bin .eql) [.t 44, .i 3],
 om 6 45]
def F28c41 : Ac := .ret
def F28o43 := [
 o3 47 (.bin .eql) [.t 7, .i 6],
 om 46 47]
def F28o46 := [
 o3 48 (.load (some 12)) [.t 4],
 o3 49 (.callf 57) [.t 48],
 om 50 49,
 og 51 (.faddr 3) [.t 4] 50 true,
 og 52 (.faddr 0) [.t 51] 50 true,
 og 53 (.load none) [.t 52] 50 true,
 og 54 (.callf 58) [.t 53, .i 1] 50 true,
 o3 55 .pick [.t 50, .t 54, .b false],
 om 6 55]
def F28c47 : Ac := .ret
def F28o49 := [
 o3 57 (.bin .eql) [.t 7, .i 7],
 om 56 57]
def F28o52 := [
 o3 58 (.load (some 12)) [.t 4],
 o3 59 (.callf 59) [.t 58],
 om 60 59,
 og 61 (.faddr 3) [.t 4] 60 true,
 og 62 (.load (some 6)) [.t 61] 60 true,
 og 63 (.callf 60) [.t 62] 60 true,
 og 64 (.un .not) [.t 63] 60 true,
 og 65 .mv [.t 64] 60 true,
 og 66 (.faddr 3) [.t 4] 65 false,
 og 67 (.faddr 0) [.t 66] 65 false,
 og 68 (.load none) [.t 67] 65 false,
 og 69 (.callf 58) [.t 68, .i 2] 65 false,
 og 70 .pick [.t 65, .b true, .t 69] 60 true,
 o3 71 .pick [.t 60, .t 70, .b false],
 om 6 71]
def F28c53 : Ac := .ret
def F28o55 := [
 o3 73 (.bin .eql) [.t 7, .i 8],
 om 72 73]
def F28o58 := [
 o3 74 (.load (some 12)) [.t 4],
 o3 75 (.callf 57) [.t 74],
 om 76 75,
 og 77 (.faddr 3) [.t 4] 76 true,
 og 78 (.faddr 0) [.t 77] 76 true,
 og 79 (.load none) [.t 78] 76 true,
 og 80 (.callf 61) [.t 79] 76 true,
 o3 81 .pick [.t 76, .t 80, .b false],
 om 6 81]
def F28c59 : Ac := .ret
def F28o61 := [
 o3 83 (.bin .eql) [.t 7, .i 9],
 om 82 83]
def F28o64 := [
 o3 84 (.load (some 12)) [.t 4],
 o3 85 (.callf 62) [.t 84, .b false],
 om 6 85]
def F28c65 : Ac := .ret
def F28o67 := [
 o3 87 (.bin .eql) [.t 7, .i 10],
 om 86 87]
def F28o70 := [
 o3 88 (.load (some 12)) [.t 4],
 o3 89 (.callf 62) [.t 88, .b false],
 om 90 89,
 og 91 (.faddr 11) [.t 4] 90 true,
 og 92 (.load none) [.t 91] 90 true,
 og 93 (.un .not) [.t 92] 90 true,
 o3 94 .pick [.t 90, .t 93, .b false],
 om 6 94]
def F28c71 : Ac := .ret
def F28o73 := [
 o3 96 (.bin .eql) [.t 7, .i 11],
 om 95 96]
def F28o76 := [
 o3 97 (.load (some 12)) [.t 4],
 o3 98 (.callf 62) [.t 97, .b true],
 om 99 98,
 og 100 (.faddr 11) [.t 4] 99 true,
 og 101 (.load none) [.t 100] 99 true,
 og 102 (.un .not) [.t 101] 99 true,
 o3 103 .pick [.t 99, .t 102, .b false],
 om 6 103]
def F28c77 : Ac := .ret
def F28o79 := [
 o3 105 (.bin .eql) [.t 7, .i 12],
 om 104 105]
def F28o82 := [
 o3 106 (.load (some 12)) [.t 4],
 o3 107 (.callf 63) [.t 106, .i 1],
 om 6 107]
def F28c83 : Ac := .ret
def F28o85 := [
 o3 109 (.bin .eql) [.t 7, .i 13],
 om 108 109]
def F28o88 := [
 o3 110 (.load (some 12)) [.t 4],
 o3 111 (.callf 63) [.t 110, .i 2],
 om 6 111]
def F28c89 : Ac := .ret
def F28o91 := [
 o3 113 (.bin .eql) [.t 7, .i 20],
 om 112 113]
def F28o94 := [
 o3 114 (.load (some 12)) [.t 4],
 o3 115 (.callf 56) [.t 114, .i 0],
 om 6 115]
def F28c95 : Ac := .ret
def F28o97 := [
 o3 117 (.bin .eql) [.t 7, .i 19],
 om 116 117]
def F28o100 := [
 o3 118 (.faddr 0) [.t 4],
 o3 119 (.load none) [.t 118],
 o3 120 (.bin .eql) [.t 119, .i 5],
 om 121 120,
 og 122 (.faddr 9) [.t 4] 121 true,
 og 123 (.load none) [.t 122] 121 true,
 og 124 (.bin .eql) [.t 123, .i 4] 121 true,
 og 125 .mv [.t 124] 121 true,
 og 126 (.faddr 9) [.t 4] 125 false,
 og 127 (.load none) [.t 126] 125 false,
 og 128 (.bin .eql) [.t 127, .i 0] 125 false,
 og 129 .pick [.t 125, .b true, .t 128] 121 true,
 o3 130 .pick [.t 121, .t 129, .b false],
 om 6 130]
def F28c101 : Ac := .ret
def F28c98 : Ac := (cd 116 (so F28o100 F28c101) .skip)
def F28c92 : Ac := (cd 112 (so F28o94 F28c95) (so F28o97 F28c98))
def F28c86 : Ac := (cd 108 (so F28o88 F28c89) (so F28o91 F28c92))
def F28c80 : Ac := (cd 104 (so F28o82 F28c83) (so F28o85 F28c86))
def F28c74 : Ac := (cd 95 (so F28o76 F28c77) (so F28o79 F28c80))
def F28c68 : Ac := (cd 86 (so F28o70 F28c71) (so F28o73 F28c74))
def F28c62 : Ac := (cd 82 (so F28o64 F28c65) (so F28o67 F28c68))
def F28c56 : Ac := (cd 72 (so F28o58 F28c59) (so F28o61 F28c62))
def F28c50 : Ac := (cd 56 (so F28o52 F28c53) (so F28o55 F28c56))
def F28c44 : Ac := (cd 46 (so F28o46 F28c47) (so F28o49 F28c50))
def F28c38 : Ac := (cd 41 (so F28o40 F28c41) (so F28o43 F28c44))
def F28c32 : Ac := (cd 36 (so F28o34 F28c35) (so F28o37 F28c38))
def F28c26 : Ac := (cd 31 (so F28o28 F28c29) (so F28o31 F28c32))
def F28c20 : Ac := (cd 22 (so F28o22 F28c23) (so F28o25 F28c26))
def F28c14 : Ac := (cd 13 (so F28o16 F28c17) (so F28o19 F28c20))
def F28c8 : Ac := (cd 8 (so F28o10 F28c11) (so F28o13 F28c14))
def F28c5 : Ac := (.block 0 (so F28o7 F28c8))
def F28o104 := [
 om 131 0,
 o3 132 (.load (some 12)) [.t 4],
 om 133 2,
 o3 134 (.callf 64) [.t 131, .t 132, .t 133],
 om 6 134]
def F28c105 : Ac := .ret
def F28c103 : Ac := (so F28o104 F28c105)
def F28c2 : Ac := (.seq (so F28o4 F28c5) F28c103)
def F28c0 : Ac := (so F28o1 F28c2)
/-- hansom/pick.Fits -/
def F28 : Fn := { np := 3, pb := [], rs := [.t 6], body := F28c0 }
def F29o1 := [
 o3 2 (.box 4) [.t 0],
 o3 3 (.box 24) [.t 1],
 o3 4 .mv [.b false]]
def F29o4 := [
 o3 8 (.faddr 1) [.t 2],
 o3 9 (.load none) [.t 8],
 o3 10 (.faddr 2) [.t 2],
 o3 11 (.load none) [.t 10],
 o3 12 (.build [.d (.int .i64 0), .d (.int .i64 0)] [(0, 1), (1, 1)]) [.t 9, .t 11],
 o3 13 .mv [.i 0]]
def F29o8 := [
 o3 14 (.bin .lss) [.t 13, .i 2]]
def F29o16 := [
 om 15 13,
 o3 16 (.indexA 2 1 none) [.t 12, .t 13],
 om 5 15,
 om 6 16]
def F29o18 := [
 om 17 6,
 o3 18 (.bin .eql) [.t 17, .i 1],
 om 19 18,
 og 20 .mv [.t 6] 19 false,
 og 21 (.bin .eql) [.t 20, .i 2] 19 false,
 o3 22 .pick [.t 19, .b true, .t 21],
 om 23 22,
 og 24 .mv [.t 6] 23 false,
 og 25 (.bin .eql) [.t 24, .i 19] 23 false,
 og 26 .mv [.t 25] 23 false,
 og 27 (.faddr 0) [.t 2] 26 true,
 og 28 (.load none) [.t 27] 26 true,
 og 29 (.bin .neq) [.t 28, .i 58] 26 true,
 og 30 .pick [.t 26, .t 29, .b false] 23 false,
 og 31 .mv [.t 30] 23 false,
 og 32 (.faddr 0) [.t 2] 31 true,
 og 33 (.load none) [.t 32] 31 true,
 og 34 (.bin .neq) [.t 33, .i 59] 31 true,
 og 35 .pick [.t 31, .t 34, .b false] 23 false,
 o3 36 .pick [.t 23, .b true, .t 35],
 om 37 36,
 og 38 .mv [.t 5] 37 true,
 og 39 (.iaddrA 2 12) [.t 3, .t 38] 37 true,
 og 40 (.faddr 0) [.t 39] 37 true,
 og 41 (.load none) [.t 40] 37 true,
 og 42 (.bin .eql) [.t 41, .i 5] 37 true,
 o3 43 .pick [.t 37, .t 42, .b false],
 om 44 43,
 og 45 .mv [.t 5] 44 true,
 og 46 (.iaddrA 2 12) [.t 3, .t 45] 44 true,
 og 47 (.faddr 9) [.t 46] 44 true,
 og 48 (.load none) [.t 47] 44 true,
 og 49 (.bin .eql) [.t 48, .i 0] 44 true,
 o3 50 .pick [.t 44, .t 49, .b false]]
def F29o21 := [
 om 51 5,
 o3 52 (.bin .sub) [.i 1, .t 51],
 o3 53 (.iaddrA 2 12) [.t 3, .t 52],
 o3 54 (.load (some 12)) [.t 53],
 o3 7 (.alloc [.d (.int .i64 0), .d (.int .i64 0), .d (.int .i64 0), .d (.int .i64 0), .d (.int .i64 0), .d (.int .i64 0), .d (.int .i64 0), .d (.int .i64 0), .d (.bool false), .d (.int .i64 0), .d (.int .i64 0), .d (.bool false)]) [],
 o0 (.store 12) [.t 7, .t 54]]
def F29o23 := [
 o3 55 (.faddr 0) [.t 7],
 o3 56 (.load none) [.t 55],
 o3 57 (.bin .neq) [.t 56, .i 1],
 om 58 57,
 og 59 (.faddr 0) [.t 7] 58 true,
 og 60 (.load none) [.t 59] 58 true,
 og 61 (.bin .neq) [.t 60, .i 2] 58 true,
 o3 62 .pick [.t 58, .t 61, .b false],
 om 63 62,
 og 64 (.faddr 0) [.t 7] 63 true,
 og 65 (.load none) [.t 64] 63 true,
 og 66 (.bin .neq) [.t 65, .i 3] 63 true,
 o3 67 .pick [.t 63, .t 66, .b false],
 om 68 67,
 og 69 (.faddr 2) [.t 2] 68 false,
 og 70 (.load none) [.t 69] 68 false,
 og 71 (.callf 65) [.t 70] 68 false,
 og 72 (.bin .eql) [.t 71, .i 0] 68 false,
 og 73 .mv [.t 72] 68 false,
 og 74 (.faddr 2) [.t 2] 73 true,
 og 75 (.load none) [.t 74] 73 true,
 og 76 (.bin .eql) [.t 75, .i 15] 73 true,
 og 77 .pick [.t 73, .t 76, .b false] 68 false,
 o3 78 .pick [.t 68, .b true, .t 77]]
def F29o26 := [
 o3 4 .mv [.b false]]
def F29c27 : Ac := .ret
def F29c24 : Ac := (cd 78 (so F29o26 F29c27) .skip)
def F29c22 : Ac := (so F29o23 F29c24)
def F29b19 : Ac := (cd 50 (so F29o21 F29c22) .skip)
def F29c19 : Ac := (.seq (.gh []) (.seq (.keep [2, 3, 5, 12, 13, 50] [[2], [3]]) F29b19))
def F29c17 : Ac := (so F29o18 F29c19)
def F29o30 := [
 o3 79 (.bin .add) [.t 13, .i 1],
 om 13 79]
def F29c30 : Ac := (.ops F29o30)
def F29c13 : Ac := (.seq (.block 1 (so F29o16 F29c17)) F29c30)
def F29c9 : Ac := (.seq (cd 14 .skip (.exit 0)) F29c13)
def F29l6 : Ac := (so F29o8 F29c9)
def F29c5 : Ac := (.block 0 (.loop (.seq (.gh []) (.seq (.keep [2, 3, 12, 13] [[2], [3]]) F29l6))))
def F29o32 := [
 o3 4 .mv [.b true]]
def F29c33 : Ac := .ret
def F29b31 : Ac := (so F29o32 F29c33)
def F29c31 : Ac := (.seq (.gh []) (.seq (.keep [] []) F29b31))
def F29c2 : Ac := (.seq (so F29o4 F29c5) F29c31)
def F29c0 : Ac := (so F29o1 F29c2)
/-- hansom/pick.sized -/
def F29 : Fn := { np := 2, pb := [], rs := [.t 4], body := F29c0 }
def F30o1 := [
 o3 6 (.box 4) [.t 2],
 o3 7 (.box 24) [.t 3],
 o3 8 (.alloc [.d (.bool false), .d (.int .i64 0), .d (.int .i64 0), .d (.int .u8 0), .d (.int .i64 0), .d (.int .i64 0), .d (.int .i64 0), .d (.int .u16 0), .d (.int .u16 0), .d (.int .u16 0), .d (.int .i64 0), .d (.int .i64 0), .d (.int .i64 0), .d (.int .i64 0), .d (.int .i64 0), .d (.bool false), .d (.int .i64 0), .d (.int .i64 0), .d (.int .i64 0), .d (.int .i64 0), .d (.int .i64 0), .d (.bool false), .d (.bool false), .d (.bool false), .d (.bool false)]) []]
def F30o3 := [
 om 12 0,
 o3 13 (.build [.d (.bool false), .d (.int .i64 0), .d (.int .i64 0), .d (.int .u8 0), .d (.int .i64 0), .d (.int .i64 0), .d (.int .i64 0), .d (.int .u16 0), .d (.int .u16 0), .d (.int .u16 0)] [(3, 1)]) [.t 12],
 o3 14 (.build [.d (.bool false), .d (.int .i64 0), .d (.int .i64 0), .d (.int .u8 0), .d (.int .i64 0), .d (.int .i64 0), .d (.int .i64 0), .d (.int .u16 0), .d (.int .u16 0), .d (.int .u16 0), .d (.int .i64 0), .d (.int .i64 0), .d (.int .i64 0), .d (.int .i64 0), .d (.int .i64 0), .d (.bool false), .d (.int .i64 0), .d (.int .i64 0), .d (.int .i64 0), .d (.int .i64 0), .d (.int .i64 0), .d (.bool false), .d (.bool false), .d (.bool false), .d (.bool false)] [(0, 10)]) [.t 13],
 o3 9 (.alloc [.d (.bool false), .d (.int .i64 0), .d (.int .i64 0), .d (.int .u8 0), .d (.int .i64 0), .d (.int .i64 0), .d (.int .i64 0), .d (.int .u16 0), .d (.int .u16 0), .d (.int .u16 0), .d (.int .i64 0), .d (.int .i64 0), .d (.int .i64 0), .d (.int .i64 0), .d (.int .i64 0), .d (.bool false), .d (.int .i64 0), .d (.int .i64 0), .d (.int .i64 0), .d (.int .i64 0), .d (.int .i64 0), .d (.bool false), .d (.bool false), .d (.bool false), .d (.bool false)]) [],
 o0 (.store 25) [.t 9, .t 14]]
def F30o6 := [
 o3 15 (.faddr 3) [.t 6],
 o3 16 (.load none) [.t 15],
 om 17 16,
 og 18 .mv [.t 0] 17 true,
 og 19 (.callf 25) [.t 18] 17 true,
 o3 20 .pick [.t 17, .t 19, .b false]]
def F30o8 := [
 om 21 1,
 o3 22 (.faddr 0) [.t 9],
 o3 23 (.faddr 5) [.t 22],
 o0 (.store 1) [.t 23, .t 21]]
def F30c7 : Ac := (cd 20 (.ops F30o8) .skip)
def F30o12 := [
 o3 24 (.faddr 1) [.t 6],
 o3 25 (.load none) [.t 24],
 o3 26 (.faddr 2) [.t 6],
 o3 27 (.load none) [.t 26],
 o3 28 (.build [.d (.int .i64 0), .d (.int .i64 0)] [(0, 1), (1, 1)]) [.t 25, .t 27],
 o3 29 .mv [.i 0]]
def F30o16 := [
 o3 30 (.bin .lss) [.t 29, .i 2]]
def F30o24 := [
 om 31 29,
 o3 32 (.indexA 2 1 none) [.t 28, .t 29],
 om 10 31,
 om 11 32]
def F30o25 := [
 o3 33 (.load (some 25)) [.t 9],
 om 34 11,
 om 35 10,
 o3 36 (.iaddrA 2 12) [.t 7, .t 35],
 o3 37 (.load (some 12)) [.t 36],
  { dst := some 38, k := (.callf 67), xs := [.t 33, .t 34, .t 37], al := some [] },
 om 39 11,
 om 40 10,
 o3 41 (.iaddrA 2 12) [.t 7, .t 40],
  { dst := some 42, k := (.load (some 12)), xs := [.t 41], av := [[38]] },
 o3 43 (.callf 66) [.t 38, .t 39, .t 42],
 o0 (.store 25) [.t 9, .t 43]]
def F30c25 : Ac := (.ops F30o25)
def F30o26 := [
 o3 44 (.bin .add) [.t 29, .i 1],
 om 29 44]
def F30c26 : Ac := (.ops F30o26)
def F30c21 : Ac := (.seq (.block 1 (so F30o24 F30c25)) F30c26)
def F30c17 : Ac := (.seq (cd 30 .skip (.exit 0)) F30c21)
def F30l14 : Ac := (so F30o16 F30c17)
def F30c13 : Ac := (.block 0 (.loop (.seq (.gh []) (.seq (.keep [7, 8, 9, 28, 29] [[7], [8], [9]]) F30l14))))
def F30o28 := [
 o3 45 (.load (some 25)) [.t 9],
 o0 (.store 25) [.t 8, .t 45]]
def F30c29 : Ac := .ret
def F30b27 : Ac := (so F30o28 F30c29)
def F30c27 : Ac := (.seq (.gh []) (.seq (.keep [8, 9] [[8], [9]]) F30b27))
def F30b10 : Ac := (.seq (so F30o12 F30c13) F30c27)
def F30c10 : Ac := (.seq (.gh []) (.seq (.keep [6, 7, 8, 9] [[6], [7], [8], [9]]) F30b10))
def F30c4 : Ac := (.seq (so F30o6 F30c7) F30c10)
def F30c2 : Ac := (so F30o3 F30c4)
def F30c0 : Ac := (so F30o1 F30c2)
/-- hansom/pick.build -/
def F30 : Fn := { np := 4, pb := [], rs := [.c 8 (some 25)], body := F30c0 }
def F31o1 := [
 o3 1 (.box 10) [.t 0],
 o3 2 .mv [.b false]]
def F31o3 := [
 o3 6 (.load (some 10)) [.t 1],
 o3 7 (.callf 34) [.t 6],
 om 5 7,
 oe 8 0 5,
 oe 9 1 5,
 o3 3 (.alloc [.d (.int .i64 0), .d (.int .i64 0), .d (.int .i64 0), .d (.bool false)]) [],
 o0 (.store 4) [.t 3, .t 8],
 om 4 9]
def F31o5 := [
 om 10 4,
 om 11 10,
 og 12 (.load (some 10)) [.t 1] 11 true,
 og 13 (.load (some 4)) [.t 3] 11 true,
 og 14 (.callf 68) [.t 12, .t 13] 11 true,
 o3 15 .pick [.t 11, .t 14, .b false],
 om 16 15,
 og 17 (.load (some 10)) [.t 1] 16 true,
 og 18 (.load (some 4)) [.t 3] 16 true,
 og 19 (.callf 69) [.t 17, .t 18] 16 true,
 o3 20 .pick [.t 16, .t 19, .b false],
 om 21 20,
 og 22 (.load (some 10)) [.t 1] 21 true,
 og 23 (.load (some 4)) [.t 3] 21 true,
 og 24 (.callf 70) [.t 22, .t 23] 21 true,
 o3 25 .pick [.t 21, .t 24, .b false],
 om 2 25]
def F31c6 : Ac := .ret
def F31c4 : Ac := (so F31o5 F31c6)
def F31c2 : Ac := (so F31o3 F31c4)
def F31c0 : Ac := (so F31o1 F31c2)
/-- hansom/inst.May -/
def F31 : Fn := { np := 1, pb := [], rs := [.t 2], body := F31c0 }
def F32o1 := [
 o3 2 .mv [.c (.nils)]]
def F32o3 := [
 o3 3 .mv [.c (.nils)]]
def F32o6 := [
 o3 4 .mv [.i 1]]
def F32o11 := [
 om 7 4,
 o3 8 (.bin .leq) [.t 7, .i 12]]
def F32c12 : Ac := (cd 8 .skip (.exit 0))
def F32o18 := [
 om 11 0,
 o3 12 .lenL [.t 11],
 o3 13 .mv [.i 0]]
def F32o22 := [
 o3 14 (.bin .lss) [.t 13, .t 12]]
def F32o30 := [
 o3 15 (.iaddrS 25) [.t 11, .t 13],
 o3 16 (.load (some 25)) [.t 15],
 o3 6 (.alloc [.d (.bool false), .d (.int .i64 0), .d (.int .i64 0), .d (.int .u8 0), .d (.int .i64 0), .d (.int .i64 0), .d (.int .i64 0), .d (.int .u16 0), .d (.int .u16 0), .d (.int .u16 0), .d (.int .i64 0), .d (.int .i64 0), .d (.int .i64 0), .d (.int .i64 0), .d (.int .i64 0), .d (.bool false), .d (.int .i64 0), .d (.int .i64 0), .d (.int .i64 0), .d (.int .i64 0), .d (.int .i64 0), .d (.bool false), .d (.bool false), .d (.bool false), .d (.bool false)]) [],
 o0 (.store 25) [.t 6, .t 16]]
def F32o32 := [
 o3 17 (.faddr 0) [.t 6],
 o3 18 (.load (some 10)) [.t 17],
 o3 19 (.callf 12) [.t 18],
 om 20 4,
 o3 21 (.bin .eql) [.t 19, .t 20]]
def F32o34 := [
 om 22 3,
 o3 23 (.load (some 25)) [.t 6],
 o3 24 (.bslice (.agg [.bool false, .int .i64 0, .int .i64 0, .int .u8 0, .int .i64 0, .int .i64 0, .int .i64 0, .int .u16 0, .int .u16 0, .int .u16 0, .int .i64 0, .int .i64 0, .int .i64 0, .int .i64 0, .int .i64 0, .bool false, .int .i64 0, .int .i64 0, .int .i64 0, .int .i64 0, .int .i64 0, .bool false, .bool false, .bool false, .bool false]) 1 [0]) [.t 23],
 o3 25 (.append 25 168 false) [.t 22, .t 24],
 om 3 25]
def F32c33 : Ac := (cd 21 (.ops F32o34) .skip)
def F32c31 : Ac := (so F32o32 F32c33)
def F32o36 := [
 o3 26 (.bin .add) [.t 13, .i 1],
 om 13 26]
def F32c36 : Ac := (.ops F32o36)
def F32c27 : Ac := (.seq (.block 3 (so F32o30 F32c31)) F32c36)
def F32c23 : Ac := (.seq (cd 14 .skip (.exit 2)) F32c27)
def F32l20 : Ac := (so F32o22 F32c23)
def F32c19 : Ac := (.block 2 (.loop (.seq (.gh []) (.seq (.keep [0, 3, 4, 11, 12, 13] [[3]]) F32l20))))
def F32o37 := [
 om 9 4,
 o3 10 (.bin .add) [.t 9, .i 1],
 om 4 10]
def F32b37 : Ac := (.ops F32o37)
def F32c37 : Ac := (.seq (.gh []) (.seq (.keep [0, 3, 4] [[3]]) F32b37))
def F32c15 : Ac := (.seq (.block 1 (so F32o18 F32c19)) F32c37)
def F32l8 : Ac := (.seq (so F32o11 F32c12) F32c15)
def F32c7 : Ac := (.block 0 (.loop (.seq (.gh []) (.seq (.keep [0, 3, 4] [[3]]) F32l8))))
def F32o39 := [
 om 27 3,
 om 2 27]
def F32c40 : Ac := .ret
def F32b38 : Ac := (so F32o39 F32c40)
def F32c38 : Ac := (.seq (.gh []) (.seq (.keep [3] [[3]]) F32b38))
def F32b4 : Ac := (.seq (so F32o6 F32c7) F32c38)
def F32c4 : Ac := (.seq (.gh [.own 3 [3] 25]) (.seq (.keep [0, 3] [[3]]) F32b4))
def F32c2 : Ac := (so F32o3 F32c4)
def F32c0 : Ac := (so F32o1 F32c2)
/-- hansom/pick.sorted -/
def F32 : Fn := { np := 1, pb := [], rs := [.t 2], body := F32c0 }
def F34o1 := [
 o3 1 (.box 10) [.t 0],
 o3 2 (.alloc [.d (.int .i64 0), .d (.int .i64 0), .d (.int .i64 0), .d (.bool false)]) [],
 o3 3 .mv [.b false]]
def F34o4 := [
 o3 4 (.faddr 3) [.t 1],
 o3 5 (.load none) [.t 4],
 o3 6 (.callf 26) [.t 5]]
def F34o7 := [
 o3 7 (.build [.d (.int .i64 0), .d (.int .i64 0), .d (.int .i64 0), .d (.bool false)] []) [],
 o0 (.store 4) [.t 2, .t 7],
 o3 3 .mv [.b false]]
def F34c8 : Ac := .ret
def F34c5 : Ac := (cd 6 (so F34o7 F34c8) .skip)
def F34o11 := [
 o3 8 (.faddr 3) [.t 1],
 o3 9 (.load none) [.t 8],
 o3 10 (.faddr 5) [.t 1],
 o3 11 (.load none) [.t 10],
 o3 12 (.callf 27) [.t 9, .t 11],
 oe 13 0 12,
 oe 14 1 12,
 o0 (.store 4) [.t 2, .t 13],
 om 3 14]
def F34c12 : Ac := .ret
def F34c10 : Ac := (so F34o11 F34c12)
def F34c2 : Ac := (.seq (so F34o4 F34c5) F34c10)
def F34c0 : Ac := (so F34o1 F34c2)
/-- hansom/inst.Row -/
def F34 : Fn := { np := 1, pb := [], rs := [.c 2 (some 4), .t 3], body := F34c0 }
def F35o1 := [
 o3 1 (.box 4) [.t 0],
 o3 2 .mv [.i 0]]
def F35o3 := [
 o3 3 (.faddr 1) [.t 1],
 o3 4 (.load none) [.t 3],
  { dst := some 5, k := (.callf 65), xs := [.t 4], al := some [] },
 o3 6 (.faddr 2) [.t 1],
  { dst := some 7, k := (.load none), xs := [.t 6], av := [[5]] },
 o3 8 (.callf 65) [.t 7],
 o3 9 (.bin .add) [.t 5, .t 8],
 om 2 9]
def F35c4 : Ac := .ret
def F35c2 : Ac := (so F35o3 F35c4)
def F35c0 : Ac := (so F35o1 F35c2)
/-- hansom/inst.Imms -/
def F35 : Fn := { np := 1, pb := [], rs := [.t 2], body := F35c0 }
def F36o1 := [
 o3 4 .mv [.i 0]]
def F36o5 := [
 om 6 0,
 o3 7 (.bin .eql) [.t 6, .i 1],
 om 5 7]
def F36o8 := [
 o3 4 .mv [.i 1]]
def F36c9 : Ac := .ret
def F36o12 := [
 om 9 0,
 o3 10 (.bin .eql) [.t 9, .i 2],
 om 8 10]
def F36o15 := [
 om 11 0,
 o3 12 (.bin .eql) [.t 11, .i 0],
 om 13 12,
 og 14 .mv [.t 1] 13 true,
 og 15 (.bin .eql) [.t 14, .i 6] 13 true,
 o3 16 .pick [.t 13, .t 15, .b false],
 om 8 16]
def F36c13 : Ac := (cd 8 .skip (.ops F36o15))
def F36o18 := [
 o3 4 .mv [.i 2]]
def F36c19 : Ac := .ret
def F36c16 : Ac := (cd 8 (so F36o18 F36c19) .skip)
def F36c6 : Ac := (cd 5 (so F36o8 F36c9) (.seq (so F36o12 F36c13) F36c16))
def F36o22 := [
 o3 4 .mv [.i 0]]
def F36c23 : Ac := .ret
def F36c21 : Ac := (so F36o22 F36c23)
def F36c2 : Ac := (.seq (.block 0 (so F36o5 F36c6)) F36c21)
def F36c0 : Ac := (so F36o1 F36c2)
/-- hansom/inst.Disps -/
def F36 : Fn := { np := 2, pb := [], rs := [.t 4], body := F36c0 }
def F37o1 := [
 o3 2 .mv [.c (.d (.str []))]]
def F37o4 := [
 om 3 0]
def F37o7 := [
 o3 5 (.bin .eql) [.t 3, .c (.d (.str [74, 69]))],
 om 4 5]
def F37o10 := [
 o3 2 .mv [.c (.d (.str [74, 90]))]]
def F37c11 : Ac := .ret
def F37o13 := [
 o3 7 (.bin .eql) [.t 3, .c (.d (.str [74, 78, 69]))],
 om 6 7]
def F37o16 := [
 o3 2 .mv [.c (.d (.str [74, 78, 90]))]]
def F37c17 : Ac := .ret
def F37o20 := [
 o3 9 (.bin .eql) [.t 3, .c (.d (.str [74, 67]))],
 om 8 9]
def F37o23 := [
 o3 10 (.bin .eql) [.t 3, .c (.d (.str [74, 78, 65, 69]))],
 om 8 10]
def F37c21 : Ac := (cd 8 .skip (.ops F37o23))
def F37o26 := [
 o3 2 .mv [.c (.d (.str [74, 66]))]]
def F37c27 : Ac := .ret
def F37o30 := [
 o3 12 (.bin .eql) [.t 3, .c (.d (.str [74, 78, 67]))],
 om 11 12]
def F37o33 := [
 o3 13 (.bin .eql) [.t 3, .c (.d (.str [74, 65, 69]))],
 om 11 13]
def F37c31 : Ac := (cd 11 .skip (.ops F37o33))
def F37o36 := [
 o3 2 .mv [.c (.d (.str [74, 78, 66]))]]
def F37c37 : Ac := .ret
def F37o39 := [
 o3 15 (.bin .eql) [.t 3, .c (.d (.str [74, 78, 65]))],
 om 14 15]
def F37o42 := [
 o3 2 .mv [.c (.d (.str [74, 66, 69]))]]
def F37c43 : Ac := .ret
def F37o45 := [
 o3 17 (.bin .eql) [.t 3, .c (.d (.str [74, 78, 66, 69]))],
 om 16 17]
def F37o48 := [
 o3 2 .mv [.c (.d (.str [74, 65]))]]
def F37c49 : Ac := .ret
def F37o51 := [
 o3 19 (.bin .eql) [.t 3, .c (.d (.str [74, 80, 69]))],
 om 18 19]
def F37o54 := [
 o3 2 .mv [.c (.d (.str [74, 80]))]]
def F37c55 : Ac := .ret
def F37o57 := [
 o3 21 (.bin .eql) [.t 3, .c (.d (.str [74, 80, 79]))],
 om 20 21]
def F37o60 := [
 o3 2 .mv [.c (.d (.str [74, 78, 80]))]]
def F37c61 : Ac := .ret
def F37o63 := [
 o3 23 (.bin .eql) [.t 3, .c (.d (.str [74, 78, 71, 69]))],
 om 22 23]
def F37o66 := [
 o3 2 .mv [.c (.d (.str [74, 76]))]]
def F37c67 : Ac := .ret
def F37o69 := [
 o3 25 (.bin .eql) [.t 3, .c (.d (.str [74, 78, 76]))],
 om 24 25]
def F37o72 := [
 o3 2 .mv [.c (.d (.str [74, 71, 69]))]]
def F37c73 : Ac := .ret
def F37o75 := [
 o3 27 (.bin .eql) [.t 3, .c (.d (.str [74, 78, 71]))],
 om 26 27]
def F37o78 := [
 o3 2 .mv [.c (.d (.str [74, 76, 69]))]]
def F37c79 : Ac := .ret
def F37o81 := [
 o3 29 (.bin .eql) [.t 3, .c (.d (.str [74, 78, 76, 69]))],
 om 28 29]
def F37o84 := [
 o3 2 .mv [.c (.d (.str [74, 71]))]]
def F37c85 : Ac := .ret
def F37o87 := [
 o3 31 (.bin .eql) [.t 3, .c (.d (.str [76, 79, 79, 80, 69]))],
 om 30 31]
def F37o90 := [
 o3 2 .mv [.c (.d (.str [76, 79, 79, 80, 90]))]]
def F37c91 : Ac := .ret
def F37o93 := [
 o3 33 (.bin .eql) [.t 3, .c (.d (.str [76, 79, 79, 80, 78, 69]))],
 om 32 33]
def F37o96 := [
 o3 2 .mv [.c (.d (.str [76, 79, 79, 80, 78, 90]))]]
def F37c97 : Ac := .ret
def F37o99 := [
 o3 35 (.bin .eql) [.t 3, .c (.d (.str [83, 65, 76]))],
 om 34 35]
def F37o102 := [
 o3 2 .mv [.c (.d (.str [83, 72, 76]))]]
def F37c103 : Ac := .ret
def F37c100 : Ac := (cd 34 (so F37o102 F37c103) .skip)
def F37c94 : Ac := (cd 32 (so F37o96 F37c97) (so F37o99 F37c100))
def F37c88 : Ac := (cd 30 (so F37o90 F37c91) (so F37o93 F37c94))
def F37c82 : Ac := (cd 28 (so F37o84 F37c85) (so F37o87 F37c88))
def F37c76 : Ac := (cd 26 (so F37o78 F37c79) (so F37o81 F37c82))
def F37c70 : Ac := (cd 24 (so F37o72 F37c73) (so F37o75 F37c76))
def F37c64 : Ac := (cd 22 (so F37o66 F37c67) (so F37o69 F37c70))
def F37c58 : Ac := (cd 20 (so F37o60 F37c61) (so F37o63 F37c64))
def F37c52 : Ac := (cd 18 (so F37o54 F37c55) (so F37o57 F37c58))
def F37c46 : Ac := (cd 16 (so F37o48 F37c49) (so F37o51 F37c52))
def F37c40 : Ac := (cd 14 (so F37o42 F37c43) (so F37o45 F37c46))
def F37b34 : Ac := (cd 11 (so F37o36 F37c37) (so F37o39 F37c40))
def F37c34 : Ac := (.seq (.gh []) (.seq (.keep [0, 3, 11] []) F37b34))
def F37b24 : Ac := (cd 8 (so F37o26 F37c27) (.seq (so F37o30 F37c31) F37c34))
def F37c24 : Ac := (.seq (.gh []) (.seq (.keep [0, 3, 8] []) F37b24))
def F37c14 : Ac := (cd 6 (so F37o16 F37c17) (.seq (so F37o20 F37c21) F37c24))
def F37c8 : Ac := (cd 4 (so F37o10 F37c11) (so F37o13 F37c14))
def F37c5 : Ac := (.block 0 (so F37o7 F37c8))
def F37o106 := [
 om 36 0,
 om 2 36]
def F37c107 : Ac := .ret
def F37c105 : Ac := (so F37o106 F37c107)
def F37c2 : Ac := (.seq (so F37o4 F37c5) F37c105)
def F37c0 : Ac := (so F37o1 F37c2)
/-- hansom/pick.alias -/
def F37 : Fn := { np := 1, pb := [], rs := [.t 2], body := F37c0 }
def F46o1 := [
 o3 2 (.alloc [.d (.int .i64 0), .d (.int .i64 0), .d (.int .i64 0), .d (.bool false)]) [],
 o3 3 .mv [.b false]]
def F46o3 := [
 om 5 0,
 o3 6 (.bin .shr) [.t 5, .c (.d (.int .u64 3))],
 o3 7 (.toInt .i64) [.t 6],
 o3 8 (.bin .add) [.i 1, .t 7],
 om 4 8]
def F46o6 := [
 om 9 0,
 o3 10 (.bin .and) [.t 9, .y 7]]
def F46o9 := [
 o3 12 (.bin .eql) [.t 10, .y 0],
 om 11 12]
def F46o12 := [
 om 13 4,
 o3 14 (.callf 73) [.t 13, .i 1, .i 3],
 oe 15 0 14,
 oe 16 1 14,
 o0 (.store 4) [.t 2, .t 15],
 om 3 16]
def F46c13 : Ac := .ret
def F46o15 := [
 o3 18 (.bin .eql) [.t 10, .y 1],
 om 17 18]
def F46o18 := [
 om 19 4,
 o3 20 (.callf 73) [.t 19, .i 2, .i 4],
 oe 21 0 20,
 oe 22 1 20,
 o0 (.store 4) [.t 2, .t 21],
 om 3 22]
def F46c19 : Ac := .ret
def F46o21 := [
 o3 24 (.bin .eql) [.t 10, .y 2],
 om 23 24]
def F46o24 := [
 om 25 4,
 o3 26 (.callf 73) [.t 25, .i 3, .i 1],
 oe 27 0 26,
 oe 28 1 26,
 o0 (.store 4) [.t 2, .t 27],
 om 3 28]
def F46c25 : Ac := .ret
def F46o27 := [
 o3 30 (.bin .eql) [.t 10, .y 3],
 om 29 30]
def F46o30 := [
 om 31 4,
 o3 32 (.callf 73) [.t 31, .i 4, .i 2],
 oe 33 0 32,
 oe 34 1 32,
 o0 (.store 4) [.t 2, .t 33],
 om 3 34]
def F46c31 : Ac := .ret
def F46o33 := [
 o3 36 (.bin .eql) [.t 10, .y 4],
 om 35 36]
def F46o36 := [
 om 37 4,
 o3 38 (.callf 47) [.t 37, .i 14, .i 6],
 oe 39 0 38,
 oe 40 1 38,
 o0 (.store 4) [.t 2, .t 39],
 om 3 40]
def F46c37 : Ac := .ret
def F46o39 := [
 o3 42 (.bin .eql) [.t 10, .y 5],
 om 41 42]
def F46o42 := [
 om 43 4,
 o3 44 (.callf 47) [.t 43, .i 16, .i 7],
 oe 45 0 44,
 oe 46 1 44,
 o0 (.store 4) [.t 2, .t 45],
 om 3 46]
def F46c43 : Ac := .ret
def F46c40 : Ac := (cd 41 (so F46o42 F46c43) .skip)
def F46c34 : Ac := (cd 35 (so F46o36 F46c37) (so F46o39 F46c40))
def F46c28 : Ac := (cd 29 (so F46o30 F46c31) (so F46o33 F46c34))
def F46c22 : Ac := (cd 23 (so F46o24 F46c25) (so F46o27 F46c28))
def F46c16 : Ac := (cd 17 (so F46o18 F46c19) (so F46o21 F46c22))
def F46c10 : Ac := (cd 11 (so F46o12 F46c13) (so F46o15 F46c16))
def F46c7 : Ac := (.block 0 (so F46o9 F46c10))
def F46o47 := [
 om 47 0]
def F46o51 := [
 o3 49 (.bin .eql) [.t 47, .y 6],
 om 48 49]
def F46o55 := [
 o3 50 (.bin .eql) [.t 47, .y 14],
 om 48 50]
def F46o59 := [
 o3 51 (.bin .eql) [.t 47, .y 22],
 om 48 51]
def F46o62 := [
 o3 52 (.bin .eql) [.t 47, .y 30],
 om 48 52]
def F46c60 : Ac := (cd 48 .skip (.ops F46o62))
def F46c56 : Ac := (cd 48 .skip (so F46o59 F46c60))
def F46c52 : Ac := (cd 48 .skip (so F46o55 F46c56))
def F46o65 := [
 o3 53 (.callf 47) [.i 9, .i 23, .i 0],
 oe 54 0 53,
 oe 55 1 53,
 o0 (.store 4) [.t 2, .t 54],
 om 3 55]
def F46c66 : Ac := .ret
def F46o69 := [
 o3 57 (.bin .eql) [.t 47, .y 7],
 om 56 57]
def F46o73 := [
 o3 58 (.bin .eql) [.t 47, .y 23],
 om 56 58]
def F46o76 := [
 o3 59 (.bin .eql) [.t 47, .y 31],
 om 56 59]
def F46c74 : Ac := (cd 56 .skip (.ops F46o76))
def F46c70 : Ac := (cd 56 .skip (so F46o73 F46c74))
def F46o79 := [
 o3 60 (.callf 47) [.i 10, .i 23, .i 0],
 oe 61 0 60,
 oe 62 1 60,
 o0 (.store 4) [.t 2, .t 61],
 om 3 62]
def F46c80 : Ac := .ret
def F46o82 := [
 o3 64 (.bin .eql) [.t 47, .y 39],
 om 63 64]
def F46o85 := [
 o3 65 (.callf 47) [.i 11, .i 0, .i 0],
 oe 66 0 65,
 oe 67 1 65,
 o0 (.store 4) [.t 2, .t 66],
 om 3 67]
def F46c86 : Ac := .ret
def F46o88 := [
 o3 69 (.bin .eql) [.t 47, .y 47],
 om 68 69]
def F46o91 := [
 o3 70 (.callf 47) [.i 12, .i 0, .i 0],
 oe 71 0 70,
 oe 72 1 70,
 o0 (.store 4) [.t 2, .t 71],
 om 3 72]
def F46c92 : Ac := .ret
def F46o94 := [
 o3 74 (.bin .eql) [.t 47, .y 55],
 om 73 74]
def F46o97 := [
 o3 75 (.callf 47) [.i 13, .i 0, .i 0],
 oe 76 0 75,
 oe 77 1 75,
 o0 (.store 4) [.t 2, .t 76],
 om 3 77]
def F46c98 : Ac := .ret
def F46o100 := [
 o3 79 (.bin .eql) [.t 47, .y 63],
 om 78 79]
def F46o103 := [
 o3 80 (.callf 47) [.i 14, .i 0, .i 0],
 oe 81 0 80,
 oe 82 1 80,
 o0 (.store 4) [.t 2, .t 81],
 om 3 82]
def F46c104 : Ac := .ret
def F46c101 : Ac := (cd 78 (so F46o103 F46c104) .skip)
def F46c95 : Ac := (cd 73 (so F46o97 F46c98) (so F46o100 F46c101))
def F46c89 : Ac := (cd 68 (so F46o91 F46c92) (so F46o94 F46c95))
def F46c83 : Ac := (cd 63 (so F46o85 F46c86) (so F46o88 F46c89))
def F46b77 : Ac := (cd 56 (so F46o79 F46c80) (so F46o82 F46c83))
def F46c77 : Ac := (.seq (.gh []) (.seq (.keep [2, 47, 56] [[2]]) F46b77))
def F46b63 : Ac := (cd 48 (so F46o65 F46c66) (.seq (so F46o69 F46c70) F46c77))
def F46c63 : Ac := (.seq (.gh []) (.seq (.keep [2, 47, 48] [[2]]) F46b63))
def F46c48 : Ac := (.block 1 (.seq (so F46o51 F46c52) F46c63))
def F46o107 := [
 o3 83 (.callf 48) [],
 oe 84 0 83,
 oe 85 1 83,
 o0 (.store 4) [.t 2, .t 84],
 om 3 85]
def F46c108 : Ac := .ret
def F46c106 : Ac := (so F46o107 F46c108)
def F46c45 : Ac := (.seq (so F46o47 F46c48) F46c106)
def F46c4 : Ac := (.seq (so F46o6 F46c7) F46c45)
def F46c2 : Ac := (so F46o3 F46c4)
def F46c0 : Ac := (so F46o1 F46c2)
/-- hansom/isa.sums -/
def F46 : Fn := { np := 1, pb := [], rs := [.c 2 (some 4), .t 3], body := F46c0 }
def F47o1 := [
 o3 6 (.alloc [.d (.int .i64 0), .d (.int .i64 0), .d (.int .i64 0), .d (.bool false)]) [],
 o3 7 .mv [.b false]]
def F47o3 := [
 om 8 0,
 om 9 1,
 om 10 2,
 o3 11 (.build [.d (.int .i64 0), .d (.int .i64 0), .d (.int .i64 0), .d (.bool false)] [(0, 1), (1, 1), (2, 1)]) [.t 8, .t 9, .t 10],
 o0 (.store 4) [.t 6, .t 11],
 o3 7 .mv [.b true]]
def F47c4 : Ac := .ret
def F47c2 : Ac := (so F47o3 F47c4)
def F47c0 : Ac := (so F47o1 F47c2)
/-- hansom/isa.row -/
def F47 : Fn := { np := 3, pb := [], rs := [.c 6 (some 4), .t 7], body := F47c0 }
def F48o1 := [
 o3 0 (.alloc [.d (.int .i64 0), .d (.int .i64 0), .d (.int .i64 0), .d (.bool false)]) [],
 o3 1 .mv [.b false]]
def F48o3 := [
 o3 2 (.build [.d (.int .i64 0), .d (.int .i64 0), .d (.int .i64 0), .d (.bool false)] []) [],
 o0 (.store 4) [.t 0, .t 2],
 o3 1 .mv [.b false]]
def F48c4 : Ac := .ret
def F48c2 : Ac := (so F48o3 F48c4)
def F48c0 : Ac := (so F48o1 F48c2)
/-- hansom/isa.bad -/
def F48 : Fn := { np := 0, pb := [], rs := [.c 0 (some 4), .t 1], body := F48c0 }
def F49o1 := [
 o3 4 (.alloc [.d (.int .i64 0), .d (.int .i64 0), .d (.int .i64 0), .d (.bool false)]) [],
 o3 5 .mv [.b false]]
def F49o4 := [
 om 6 0]
def F49o7 := [
 o3 8 (.bin .eql) [.t 6, .y 128],
 om 7 8]
def F49o10 := [
 om 9 1,
 o3 10 (.bin .add) [.i 1, .t 9],
 o3 11 (.callf 73) [.t 10, .i 1, .i 6],
 oe 12 0 11,
 oe 13 1 11,
 o0 (.store 4) [.t 4, .t 12],
 om 5 13]
def F49c11 : Ac := .ret
def F49o13 := [
 o3 15 (.bin .eql) [.t 6, .y 129],
 om 14 15]
def F49o16 := [
 om 16 1,
 o3 17 (.bin .add) [.i 1, .t 16],
 o3 18 (.callf 73) [.t 17, .i 2, .i 7],
 oe 19 0 18,
 oe 20 1 18,
 o0 (.store 4) [.t 4, .t 19],
 om 5 20]
def F49c17 : Ac := .ret
def F49o19 := [
 o3 22 (.bin .eql) [.t 6, .y 131],
 om 21 22]
def F49o23 := [
 om 23 1,
 o3 24 (.bin .eql) [.t 23, .i 1],
 om 25 24,
 og 26 .mv [.t 1] 25 false,
 og 27 (.bin .eql) [.t 26, .i 4] 25 false,
 o3 28 .pick [.t 25, .b true, .t 27],
 om 29 28,
 og 30 .mv [.t 1] 29 false,
 og 31 (.bin .eql) [.t 30, .i 6] 29 false,
 o3 32 .pick [.t 29, .b true, .t 31]]
def F49o26 := [
 o3 33 (.callf 48) [],
 oe 34 0 33,
 oe 35 1 33,
 o0 (.store 4) [.t 4, .t 34],
 om 5 35]
def F49c27 : Ac := .ret
def F49c24 : Ac := (cd 32 (so F49o26 F49c27) .skip)
def F49o30 := [
 om 36 1,
 o3 37 (.bin .add) [.i 1, .t 36],
 o3 38 (.callf 73) [.t 37, .i 2, .i 8],
 oe 39 0 38,
 oe 40 1 38,
 o0 (.store 4) [.t 4, .t 39],
 om 5 40]
def F49c31 : Ac := .ret
def F49c29 : Ac := (so F49o30 F49c31)
def F49o33 := [
 o3 42 (.bin .eql) [.t 6, .y 132],
 om 41 42]
def F49o36 := [
 o3 43 (.callf 73) [.i 33, .i 1, .i 3],
 oe 44 0 43,
 oe 45 1 43,
 o0 (.store 4) [.t 4, .t 44],
 om 5 45]
def F49c37 : Ac := .ret
def F49o39 := [
 o3 47 (.bin .eql) [.t 6, .y 133],
 om 46 47]
def F49o42 := [
 o3 48 (.callf 73) [.i 33, .i 2, .i 4],
 oe 49 0 48,
 oe 50 1 48,
 o0 (.store 4) [.t 4, .t 49],
 om 5 50]
def F49c43 : Ac := .ret
def F49o45 := [
 o3 52 (.bin .eql) [.t 6, .y 134],
 om 51 52]
def F49o48 := [
 o3 53 (.callf 73) [.i 34, .i 1, .i 3],
 oe 54 0 53,
 oe 55 1 53,
 o0 (.store 4) [.t 4, .t 54],
 om 5 55]
def F49c49 : Ac := .ret
def F49o51 := [
 o3 57 (.bin .eql) [.t 6, .y 135],
 om 56 57]
def F49o54 := [
 o3 58 (.callf 73) [.i 34, .i 2, .i 4],
 oe 59 0 58,
 oe 60 1 58,
 o0 (.store 4) [.t 4, .t 59],
 om 5 60]
def F49c55 : Ac := .ret
def F49o57 := [
 o3 62 (.bin .eql) [.t 6, .y 136],
 om 61 62]
def F49o60 := [
 o3 63 (.callf 73) [.i 35, .i 1, .i 3],
 oe 64 0 63,
 oe 65 1 63,
 o0 (.store 4) [.t 4, .t 64],
 om 5 65]
def F49c61 : Ac := .ret
def F49o63 := [
 o3 67 (.bin .eql) [.t 6, .y 137],
 om 66 67]
def F49o66 := [
 o3 68 (.callf 73) [.i 35, .i 2, .i 4],
 oe 69 0 68,
 oe 70 1 68,
 o0 (.store 4) [.t 4, .t 69],
 om 5 70]
def F49c67 : Ac := .ret
def F49o69 := [
 o3 72 (.bin .eql) [.t 6, .y 138],
 om 71 72]
def F49o72 := [
 o3 73 (.callf 73) [.i 35, .i 3, .i 1],
 oe 74 0 73,
 oe 75 1 73,
 o0 (.store 4) [.t 4, .t 74],
 om 5 75]
def F49c73 : Ac := .ret
def F49o75 := [
 o3 77 (.bin .eql) [.t 6, .y 139],
 om 76 77]
def F49o78 := [
 o3 78 (.callf 73) [.i 35, .i 4, .i 2],
 oe 79 0 78,
 oe 80 1 78,
 o0 (.store 4) [.t 4, .t 79],
 om 5 80]
def F49c79 : Ac := .ret
def F49o81 := [
 o3 82 (.bin .eql) [.t 6, .y 140],
 om 81 82]
def F49o84 := [
 om 83 1,
 o3 84 (.bin .lss) [.t 83, .i 4]]
def F49o87 := [
 o3 85 (.callf 73) [.i 35, .i 2, .i 5],
 oe 86 0 85,
 oe 87 1 85,
 o0 (.store 4) [.t 4, .t 86],
 om 5 87]
def F49c88 : Ac := .ret
def F49c85 : Ac := (cd 84 (so F49o87 F49c88) .skip)
def F49o91 := [
 o3 89 (.bin .eql) [.t 6, .y 141],
 om 88 89]
def F49o94 := [
 o3 90 (.callf 73) [.i 36, .i 4, .i 20],
 oe 91 0 90,
 oe 92 1 90,
 o0 (.store 4) [.t 4, .t 91],
 om 5 92]
def F49c95 : Ac := .ret
def F49o97 := [
 o3 94 (.bin .eql) [.t 6, .y 142],
 om 93 94]
def F49o100 := [
 om 95 1,
 o3 96 (.bin .lss) [.t 95, .i 4],
 om 97 96,
 og 98 .mv [.t 1] 97 true,
 og 99 (.bin .neq) [.t 98, .i 1] 97 true,
 o3 100 .pick [.t 97, .t 99, .b false]]
def F49o103 := [
 o3 101 (.callf 73) [.i 35, .i 5, .i 2],
 oe 102 0 101,
 oe 103 1 101,
 o0 (.store 4) [.t 4, .t 102],
 om 5 103]
def F49c104 : Ac := .ret
def F49c101 : Ac := (cd 100 (so F49o103 F49c104) .skip)
def F49o107 := [
 o3 105 (.bin .eql) [.t 6, .y 143],
 om 104 105]
def F49o110 := [
 om 106 1,
 o3 107 (.bin .eql) [.t 106, .i 0]]
def F49o113 := [
 o3 108 (.callf 73) [.i 10, .i 2, .i 0],
 oe 109 0 108,
 oe 110 1 108,
 o0 (.store 4) [.t 4, .t 109],
 om 5 110]
def F49c114 : Ac := .ret
def F49c111 : Ac := (cd 107 (so F49o113 F49c114) .skip)
def F49c108 : Ac := (cd 104 (so F49o110 F49c111) .skip)
def F49c98 : Ac := (cd 93 (so F49o100 F49c101) (so F49o107 F49c108))
def F49c92 : Ac := (cd 88 (so F49o94 F49c95) (so F49o97 F49c98))
def F49c82 : Ac := (cd 81 (so F49o84 F49c85) (so F49o91 F49c92))
def F49c76 : Ac := (cd 76 (so F49o78 F49c79) (so F49o81 F49c82))
def F49c70 : Ac := (cd 71 (so F49o72 F49c73) (so F49o75 F49c76))
def F49c64 : Ac := (cd 66 (so F49o66 F49c67) (so F49o69 F49c70))
def F49c58 : Ac := (cd 61 (so F49o60 F49c61) (so F49o63 F49c64))
def F49c52 : Ac := (cd 56 (so F49o54 F49c55) (so F49o57 F49c58))
def F49c46 : Ac := (cd 51 (so F49o48 F49c49) (so F49o51 F49c52))
def F49c40 : Ac := (cd 46 (so F49o42 F49c43) (so F49o45 F49c46))
def F49c34 : Ac := (cd 41 (so F49o36 F49c37) (so F49o39 F49c40))
def F49c20 : Ac := (cd 21 (.seq (so F49o23 F49c24) F49c29) (so F49o33 F49c34))
def F49c14 : Ac := (cd 14 (so F49o16 F49c17) (so F49o19 F49c20))
def F49c8 : Ac := (cd 7 (so F49o10 F49c11) (so F49o13 F49c14))
def F49c5 : Ac := (.block 0 (so F49o7 F49c8))
def F49o118 := [
 o3 111 (.callf 48) [],
 oe 112 0 111,
 oe 113 1 111,
 o0 (.store 4) [.t 4, .t 112],
 om 5 113]
def F49c119 : Ac := .ret
def F49c117 : Ac := (so F49o118 F49c119)
def F49c2 : Ac := (.seq (so F49o4 F49c5) F49c117)
def F49c0 : Ac := (so F49o1 F49c2)
/-- hansom/isa.moves -/
def F49 : Fn := { np := 2, pb := [], rs := [.c 4 (some 4), .t 5], body := F49c0 }
def F50o1 := [
 o3 2 (.alloc [.d (.int .i64 0), .d (.int .i64 0), .d (.int .i64 0), .d (.bool false)]) [],
 o3 3 .mv [.b false]]
def F50o4 := [
 om 5 0,
 o3 6 (.bin .lss) [.t 5, .y 152]]
def F50o7 := [
 o3 7 (.callf 47) [.i 34, .i 16, .i 22],
 oe 8 0 7,
 oe 9 1 7,
 o0 (.store 4) [.t 2, .t 8],
 om 3 9]
def F50c8 : Ac := .ret
def F50c5 : Ac := (cd 6 (so F50o7 F50c8) .skip)
def F50o12 := [
 om 10 0,
 o3 11 (.bin .eql) [.t 10, .y 154]]
def F50o15 := [
 o3 12 (.callf 47) [.i 40, .i 11, .i 0],
 oe 13 0 12,
 oe 14 1 12,
 o0 (.store 4) [.t 2, .t 13],
 om 3 14]
def F50c16 : Ac := .ret
def F50c13 : Ac := (cd 11 (so F50o15 F50c16) .skip)
def F50o19 := [
 o3 15 (.bslice (.int .i64 0) 8 [0, 1, 2, 3, 4, 5, 6, 7]) [.i 37, .i 38, .i 0, .i 41, .i 42, .i 43, .i 44, .i 45],
 om 16 0,
 o3 17 (.bin .sub) [.t 16, .y 152],
 o3 18 (.iaddrS 1) [.t 15, .t 17],
 o3 19 (.load none) [.t 18],
 om 4 19]
def F50o21 := [
 om 20 4,
 o3 21 (.callf 47) [.t 20, .i 0, .i 0],
 oe 22 0 21,
 oe 23 1 21,
 o0 (.store 4) [.t 2, .t 22],
 om 3 23]
def F50c22 : Ac := .ret
def F50c20 : Ac := (so F50o21 F50c22)
def F50c18 : Ac := (so F50o19 F50c20)
def F50c10 : Ac := (.seq (so F50o12 F50c13) F50c18)
def F50c2 : Ac := (.seq (so F50o4 F50c5) F50c10)
def F50c0 : Ac := (so F50o1 F50c2)
/-- hansom/isa.words -/
def F50 : Fn := { np := 1, pb := [], rs := [.c 2 (some 4), .t 3], body := F50c0 }
def F51o1 := [
 o3 2 (.alloc [.d (.int .i64 0), .d (.int .i64 0), .d (.int .i64 0), .d (.bool false)]) [],
 o3 3 .mv [.b false]]
def F51o4 := [
 om 4 0]
def F51o7 := [
 o3 6 (.bin .eql) [.t 4, .y 160],
 om 5 6]
def F51o10 := [
 o3 7 (.callf 47) [.i 35, .i 14, .i 12],
 oe 8 0 7,
 oe 9 1 7,
 o0 (.store 4) [.t 2, .t 8],
 om 3 9]
def F51c11 : Ac := .ret
def F51o13 := [
 o3 11 (.bin .eql) [.t 4, .y 161],
 om 10 11]
def F51o16 := [
 o3 12 (.callf 47) [.i 35, .i 16, .i 13],
 oe 13 0 12,
 oe 14 1 12,
 o0 (.store 4) [.t 2, .t 13],
 om 3 14]
def F51c17 : Ac := .ret
def F51o19 := [
 o3 16 (.bin .eql) [.t 4, .y 162],
 om 15 16]
def F51o22 := [
 o3 17 (.callf 47) [.i 35, .i 12, .i 14],
 oe 18 0 17,
 oe 19 1 17,
 o0 (.store 4) [.t 2, .t 18],
 om 3 19]
def F51c23 : Ac := .ret
def F51o25 := [
 o3 21 (.bin .eql) [.t 4, .y 163],
 om 20 21]
def F51o28 := [
 o3 22 (.callf 47) [.i 35, .i 13, .i 16],
 oe 23 0 22,
 oe 24 1 22,
 o0 (.store 4) [.t 2, .t 23],
 om 3 24]
def F51c29 : Ac := .ret
def F51o31 := [
 o3 26 (.bin .eql) [.t 4, .y 168],
 om 25 26]
def F51o34 := [
 o3 27 (.callf 47) [.i 33, .i 14, .i 6],
 oe 28 0 27,
 oe 29 1 27,
 o0 (.store 4) [.t 2, .t 28],
 om 3 29]
def F51c35 : Ac := .ret
def F51o37 := [
 o3 31 (.bin .eql) [.t 4, .y 169],
 om 30 31]
def F51o40 := [
 o3 32 (.callf 47) [.i 33, .i 16, .i 7],
 oe 33 0 32,
 oe 34 1 32,
 o0 (.store 4) [.t 2, .t 33],
 om 3 34]
def F51c41 : Ac := .ret
def F51c38 : Ac := (cd 30 (so F51o40 F51c41) .skip)
def F51c32 : Ac := (cd 25 (so F51o34 F51c35) (so F51o37 F51c38))
def F51c26 : Ac := (cd 20 (so F51o28 F51c29) (so F51o31 F51c32))
def F51c20 : Ac := (cd 15 (so F51o22 F51c23) (so F51o25 F51c26))
def F51c14 : Ac := (cd 10 (so F51o16 F51c17) (so F51o19 F51c20))
def F51c8 : Ac := (cd 5 (so F51o10 F51c11) (so F51o13 F51c14))
def F51c5 : Ac := (.block 0 (so F51o7 F51c8))
def F51o45 := [
 om 35 0,
 o3 36 (.bin .lss) [.t 35, .y 168]]
def F51o48 := [
 om 37 0,
 o3 38 (.bin .sub) [.t 37, .y 164],
 o3 39 (.toInt .i64) [.t 38],
 o3 40 (.bin .add) [.i 46, .t 39],
 o3 41 (.callf 47) [.t 40, .i 0, .i 0],
 oe 42 0 41,
 oe 43 1 41,
 o0 (.store 4) [.t 2, .t 42],
 om 3 43]
def F51c49 : Ac := .ret
def F51c46 : Ac := (cd 36 (so F51o48 F51c49) .skip)
def F51o52 := [
 om 44 0,
 o3 45 (.bin .sub) [.t 44, .y 170],
 o3 46 (.toInt .i64) [.t 45],
 o3 47 (.bin .add) [.i 50, .t 46],
 o3 48 (.callf 47) [.t 47, .i 0, .i 0],
 oe 49 0 48,
 oe 50 1 48,
 o0 (.store 4) [.t 2, .t 49],
 om 3 50]
def F51c53 : Ac := .ret
def F51c51 : Ac := (so F51o52 F51c53)
def F51c43 : Ac := (.seq (so F51o45 F51c46) F51c51)
def F51c2 : Ac := (.seq (so F51o4 F51c5) F51c43)
def F51c0 : Ac := (so F51o1 F51c2)
/-- hansom/isa.texts -/
def F51 : Fn := { np := 1, pb := [], rs := [.c 2 (some 4), .t 3], body := F51c0 }
def F52o1 := [
 o3 4 (.alloc [.d (.int .i64 0), .d (.int .i64 0), .d (.int .i64 0), .d (.bool false)]) [],
 o3 5 .mv [.b false]]
def F52o4 := [
 om 6 0]
def F52o7 := [
 o3 8 (.bin .eql) [.t 6, .y 194],
 om 7 8]
def F52o10 := [
 o3 9 (.callf 47) [.i 56, .i 7, .i 0],
 oe 10 0 9,
 oe 11 1 9,
 o0 (.store 4) [.t 4, .t 10],
 om 5 11]
def F52c11 : Ac := .ret
def F52o13 := [
 o3 13 (.bin .eql) [.t 6, .y 195],
 om 12 13]
def F52o16 := [
 o3 14 (.callf 47) [.i 56, .i 0, .i 0],
 oe 15 0 14,
 oe 16 1 14,
 o0 (.store 4) [.t 4, .t 15],
 om 5 16]
def F52c17 : Ac := .ret
def F52o19 := [
 o3 18 (.bin .eql) [.t 6, .y 196],
 om 17 18]
def F52o22 := [
 o3 19 (.callf 73) [.i 58, .i 4, .i 19],
 oe 20 0 19,
 oe 21 1 19,
 o0 (.store 4) [.t 4, .t 20],
 om 5 21]
def F52c23 : Ac := .ret
def F52o25 := [
 o3 23 (.bin .eql) [.t 6, .y 197],
 om 22 23]
def F52o28 := [
 o3 24 (.callf 73) [.i 59, .i 4, .i 19],
 oe 25 0 24,
 oe 26 1 24,
 o0 (.store 4) [.t 4, .t 25],
 om 5 26]
def F52c29 : Ac := .ret
def F52o31 := [
 o3 28 (.bin .eql) [.t 6, .y 198],
 om 27 28]
def F52o34 := [
 om 29 1,
 o3 30 (.bin .eql) [.t 29, .i 0]]
def F52o37 := [
 o3 31 (.callf 73) [.i 35, .i 1, .i 6],
 oe 32 0 31,
 oe 33 1 31,
 o0 (.store 4) [.t 4, .t 32],
 om 5 33]
def F52c38 : Ac := .ret
def F52c35 : Ac := (cd 30 (so F52o37 F52c38) .skip)
def F52o41 := [
 o3 35 (.bin .eql) [.t 6, .y 199],
 om 34 35]
def F52o44 := [
 om 36 1,
 o3 37 (.bin .eql) [.t 36, .i 0]]
def F52o47 := [
 o3 38 (.callf 73) [.i 35, .i 2, .i 7],
 oe 39 0 38,
 oe 40 1 38,
 o0 (.store 4) [.t 4, .t 39],
 om 5 40]
def F52c48 : Ac := .ret
def F52c45 : Ac := (cd 37 (so F52o47 F52c48) .skip)
def F52o51 := [
 o3 42 (.bin .eql) [.t 6, .y 202],
 om 41 42]
def F52o54 := [
 o3 43 (.callf 47) [.i 57, .i 7, .i 0],
 oe 44 0 43,
 oe 45 1 43,
 o0 (.store 4) [.t 4, .t 44],
 om 5 45]
def F52c55 : Ac := .ret
def F52o57 := [
 o3 47 (.bin .eql) [.t 6, .y 203],
 om 46 47]
def F52o60 := [
 o3 48 (.callf 47) [.i 57, .i 0, .i 0],
 oe 49 0 48,
 oe 50 1 48,
 o0 (.store 4) [.t 4, .t 49],
 om 5 50]
def F52c61 : Ac := .ret
def F52o63 := [
 o3 52 (.bin .eql) [.t 6, .y 204],
 om 51 52]
def F52o66 := [
 o3 53 (.callf 47) [.i 60, .i 24, .i 0],
 oe 54 0 53,
 oe 55 1 53,
 o0 (.store 4) [.t 4, .t 54],
 om 5 55]
def F52c67 : Ac := .ret
def F52o69 := [
 o3 57 (.bin .eql) [.t 6, .y 205],
 om 56 57]
def F52o72 := [
 o3 58 (.callf 47) [.i 60, .i 6, .i 0],
 oe 59 0 58,
 oe 60 1 58,
 o0 (.store 4) [.t 4, .t 59],
 om 5 60]
def F52c73 : Ac := .ret
def F52o75 := [
 o3 62 (.bin .eql) [.t 6, .y 206],
 om 61 62]
def F52o78 := [
 o3 63 (.callf 47) [.i 61, .i 0, .i 0],
 oe 64 0 63,
 oe 65 1 63,
 o0 (.store 4) [.t 4, .t 64],
 om 5 65]
def F52c79 : Ac := .ret
def F52o81 := [
 o3 67 (.bin .eql) [.t 6, .y 207],
 om 66 67]
def F52o84 := [
 o3 68 (.callf 47) [.i 62, .i 0, .i 0],
 oe 69 0 68,
 oe 70 1 68,
 o0 (.store 4) [.t 4, .t 69],
 om 5 70]
def F52c85 : Ac := .ret
def F52c82 : Ac := (cd 66 (so F52o84 F52c85) .skip)
def F52c76 : Ac := (cd 61 (so F52o78 F52c79) (so F52o81 F52c82))
def F52c70 : Ac := (cd 56 (so F52o72 F52c73) (so F52o75 F52c76))
def F52c64 : Ac := (cd 51 (so F52o66 F52c67) (so F52o69 F52c70))
def F52c58 : Ac := (cd 46 (so F52o60 F52c61) (so F52o63 F52c64))
def F52c52 : Ac := (cd 41 (so F52o54 F52c55) (so F52o57 F52c58))
def F52c42 : Ac := (cd 34 (so F52o44 F52c45) (so F52o51 F52c52))
def F52c32 : Ac := (cd 27 (so F52o34 F52c35) (so F52o41 F52c42))
def F52c26 : Ac := (cd 22 (so F52o28 F52c29) (so F52o31 F52c32))
def F52c20 : Ac := (cd 17 (so F52o22 F52c23) (so F52o25 F52c26))
def F52c14 : Ac := (cd 12 (so F52o16 F52c17) (so F52o19 F52c20))
def F52c8 : Ac := (cd 7 (so F52o10 F52c11) (so F52o13 F52c14))
def F52c5 : Ac := (.block 0 (so F52o7 F52c8))
def F52o88 := [
 o3 71 (.callf 48) [],
 oe 72 0 71,
 oe 73 1 71,
 o0 (.store 4) [.t 4, .t 72],
 om 5 73]
def F52c89 : Ac := .ret
def F52c87 : Ac := (so F52o88 F52c89)
def F52c2 : Ac := (.seq (so F52o4 F52c5) F52c87)
def F52c0 : Ac := (so F52o1 F52c2)
/-- hansom/isa.backs -/
def F52 : Fn := { np := 2, pb := [], rs := [.c 4 (some 4), .t 5], body := F52c0 }
def F53o1 := [
 o3 4 (.alloc [.d (.int .i64 0), .d (.int .i64 0), .d (.int .i64 0), .d (.bool false)]) [],
 o3 5 .mv [.b false]]
def F53o4 := [
 om 9 0,
 o3 10 (.bin .lss) [.t 9, .y 212]]
def F53o8 := [
 om 11 1,
 o3 12 (.bin .eql) [.t 11, .i 6]]
def F53o11 := [
 o3 13 (.callf 48) [],
 oe 14 0 13,
 oe 15 1 13,
 o0 (.store 4) [.t 4, .t 14],
 om 5 15]
def F53c12 : Ac := .ret
def F53c9 : Ac := (cd 12 (so F53o11 F53c12) .skip)
def F53o15 := [
 o3 16 (.bslice (.int .i64 0) 8 [0, 1, 2, 3, 4, 5, 6, 7]) [.i 63, .i 64, .i 65, .i 66, .i 67, .i 68, .i 0, .i 69],
 om 17 1,
 o3 18 (.iaddrS 1) [.t 16, .t 17],
 o3 19 (.load none) [.t 18],
 om 6 19]
def F53o17 := [
 o3 7 .mv [.i 1],
 o3 8 .mv [.i 18]]
def F53o20 := [
 om 20 0,
 o3 21 (.bin .and) [.t 20, .y 1],
 o3 22 (.bin .eql) [.t 21, .y 1]]
def F53o22 := [
 o3 7 .mv [.i 2]]
def F53c21 : Ac := (cd 22 (.ops F53o22) .skip)
def F53o26 := [
 om 23 0,
 o3 24 (.bin .and) [.t 23, .y 2],
 o3 25 (.bin .neq) [.t 24, .y 0]]
def F53o28 := [
 o3 8 .mv [.i 15]]
def F53c27 : Ac := (cd 25 (.ops F53o28) .skip)
def F53o31 := [
 om 26 6,
 om 27 7,
 om 28 8,
 o3 29 (.callf 73) [.t 26, .t 27, .t 28],
 oe 30 0 29,
 oe 31 1 29,
 o0 (.store 4) [.t 4, .t 30],
 om 5 31]
def F53c32 : Ac := .ret
def F53c30 : Ac := (so F53o31 F53c32)
def F53c24 : Ac := (.seq (so F53o26 F53c27) F53c30)
def F53c18 : Ac := (.seq (so F53o20 F53c21) F53c24)
def F53c16 : Ac := (so F53o17 F53c18)
def F53c14 : Ac := (so F53o15 F53c16)
def F53c5 : Ac := (cd 10 (.seq (so F53o8 F53c9) F53c14) .skip)
def F53o37 := [
 om 33 0,
 o3 34 (.bin .eql) [.t 33, .y 212],
 om 32 34]
def F53o40 := [
 o3 35 (.callf 47) [.i 70, .i 6, .i 0],
 oe 36 0 35,
 oe 37 1 35,
 o0 (.store 4) [.t 4, .t 36],
 om 5 37]
def F53c41 : Ac := .ret
def F53o43 := [
 om 39 0,
 o3 40 (.bin .eql) [.t 39, .y 213],
 om 38 40]
def F53o46 := [
 o3 41 (.callf 47) [.i 71, .i 6, .i 0],
 oe 42 0 41,
 oe 43 1 41,
 o0 (.store 4) [.t 4, .t 42],
 om 5 43]
def F53c47 : Ac := .ret
def F53o49 := [
 om 45 0,
 o3 46 (.bin .eql) [.t 45, .y 215],
 om 44 46]
def F53o52 := [
 o3 47 (.callf 47) [.i 72, .i 0, .i 0],
 oe 48 0 47,
 oe 49 1 47,
 o0 (.store 4) [.t 4, .t 48],
 om 5 49]
def F53c53 : Ac := .ret
def F53o55 := [
 om 51 0,
 o3 52 (.bin .geq) [.t 51, .y 216],
 om 50 52]
def F53o58 := [
 o3 53 (.callf 73) [.i 73, .i 2, .i 0],
 oe 54 0 53,
 oe 55 1 53,
 o0 (.store 4) [.t 4, .t 54],
 om 5 55]
def F53c59 : Ac := .ret
def F53c56 : Ac := (cd 50 (so F53o58 F53c59) .skip)
def F53c50 : Ac := (cd 44 (so F53o52 F53c53) (so F53o55 F53c56))
def F53c44 : Ac := (cd 38 (so F53o46 F53c47) (so F53o49 F53c50))
def F53c38 : Ac := (cd 32 (so F53o40 F53c41) (so F53o43 F53c44))
def F53o62 := [
 o3 56 (.callf 48) [],
 oe 57 0 56,
 oe 58 1 56,
 o0 (.store 4) [.t 4, .t 57],
 om 5 58]
def F53c63 : Ac := .ret
def F53c61 : Ac := (so F53o62 F53c63)
def F53c34 : Ac := (.seq (.block 0 (so F53o37 F53c38)) F53c61)
def F53c2 : Ac := (.seq (so F53o4 F53c5) F53c34)
def F53c0 : Ac := (so F53o1 F53c2)
/-- hansom/isa.turns -/
def F53 : Fn := { np := 2, pb := [], rs := [.c 4 (some 4), .t 5], body := F53c0 }
def F54o1 := [
 o3 2 (.alloc [.d (.int .i64 0), .d (.int .i64 0), .d (.int .i64 0), .d (.bool false)]) [],
 o3 3 .mv [.b false]]
def F54o4 := [
 om 4 0]
def F54o8 := [
 o3 6 (.bin .eql) [.t 4, .y 224],
 om 5 6]
def F54o12 := [
 o3 7 (.bin .eql) [.t 4, .y 225],
 om 5 7]
def F54o16 := [
 o3 8 (.bin .eql) [.t 4, .y 226],
 om 5 8]
def F54o19 := [
 o3 9 (.bin .eql) [.t 4, .y 227],
 om 5 9]
def F54c17 : Ac := (cd 5 .skip (.ops F54o19))
def F54c13 : Ac := (cd 5 .skip (so F54o16 F54c17))
def F54c9 : Ac := (cd 5 .skip (so F54o12 F54c13))
def F54o22 := [
 om 10 0,
 o3 11 (.bin .sub) [.t 10, .y 224],
 o3 12 (.toInt .i64) [.t 11],
 o3 13 (.bin .add) [.i 74, .t 12],
 o3 14 (.callf 47) [.t 13, .i 9, .i 0],
 oe 15 0 14,
 oe 16 1 14,
 o0 (.store 4) [.t 2, .t 15],
 om 3 16]
def F54c23 : Ac := .ret
def F54o25 := [
 o3 18 (.bin .eql) [.t 4, .y 228],
 om 17 18]
def F54o28 := [
 o3 19 (.callf 47) [.i 78, .i 14, .i 6],
 oe 20 0 19,
 oe 21 1 19,
 o0 (.store 4) [.t 2, .t 20],
 om 3 21]
def F54c29 : Ac := .ret
def F54o31 := [
 o3 23 (.bin .eql) [.t 4, .y 229],
 om 22 23]
def F54o34 := [
 o3 24 (.callf 47) [.i 78, .i 16, .i 6],
 oe 25 0 24,
 oe 26 1 24,
 o0 (.store 4) [.t 2, .t 25],
 om 3 26]
def F54c35 : Ac := .ret
def F54o37 := [
 o3 28 (.bin .eql) [.t 4, .y 230],
 om 27 28]
def F54o40 := [
 o3 29 (.callf 47) [.i 79, .i 6, .i 14],
 oe 30 0 29,
 oe 31 1 29,
 o0 (.store 4) [.t 2, .t 30],
 om 3 31]
def F54c41 : Ac := .ret
def F54o43 := [
 o3 33 (.bin .eql) [.t 4, .y 231],
 om 32 33]
def F54o46 := [
 o3 34 (.callf 47) [.i 79, .i 6, .i 16],
 oe 35 0 34,
 oe 36 1 34,
 o0 (.store 4) [.t 2, .t 35],
 om 3 36]
def F54c47 : Ac := .ret
def F54o49 := [
 o3 38 (.bin .eql) [.t 4, .y 232],
 om 37 38]
def F54o52 := [
 o3 39 (.callf 47) [.i 39, .i 10, .i 0],
 oe 40 0 39,
 oe 41 1 39,
 o0 (.store 4) [.t 2, .t 40],
 om 3 41]
def F54c53 : Ac := .ret
def F54o55 := [
 o3 43 (.bin .eql) [.t 4, .y 233],
 om 42 43]
def F54o58 := [
 o3 44 (.callf 47) [.i 80, .i 10, .i 0],
 oe 45 0 44,
 oe 46 1 44,
 o0 (.store 4) [.t 2, .t 45],
 om 3 46]
def F54c59 : Ac := .ret
def F54o61 := [
 o3 48 (.bin .eql) [.t 4, .y 234],
 om 47 48]
def F54o64 := [
 o3 49 (.callf 47) [.i 81, .i 11, .i 0],
 oe 50 0 49,
 oe 51 1 49,
 o0 (.store 4) [.t 2, .t 50],
 om 3 51]
def F54c65 : Ac := .ret
def F54o67 := [
 o3 53 (.bin .eql) [.t 4, .y 235],
 om 52 53]
def F54o70 := [
 o3 54 (.callf 47) [.i 80, .i 9, .i 0],
 oe 55 0 54,
 oe 56 1 54,
 o0 (.store 4) [.t 2, .t 55],
 om 3 56]
def F54c71 : Ac := .ret
def F54o73 := [
 o3 58 (.bin .eql) [.t 4, .y 236],
 om 57 58]
def F54o76 := [
 o3 59 (.callf 47) [.i 78, .i 14, .i 17],
 oe 60 0 59,
 oe 61 1 59,
 o0 (.store 4) [.t 2, .t 60],
 om 3 61]
def F54c77 : Ac := .ret
def F54o79 := [
 o3 63 (.bin .eql) [.t 4, .y 237],
 om 62 63]
def F54o82 := [
 o3 64 (.callf 47) [.i 78, .i 16, .i 17],
 oe 65 0 64,
 oe 66 1 64,
 o0 (.store 4) [.t 2, .t 65],
 om 3 66]
def F54c83 : Ac := .ret
def F54o85 := [
 o3 68 (.bin .eql) [.t 4, .y 238],
 om 67 68]
def F54o88 := [
 o3 69 (.callf 47) [.i 79, .i 17, .i 14],
 oe 70 0 69,
 oe 71 1 69,
 o0 (.store 4) [.t 2, .t 70],
 om 3 71]
def F54c89 : Ac := .ret
def F54c86 : Ac := (cd 67 (so F54o88 F54c89) .skip)
def F54c80 : Ac := (cd 62 (so F54o82 F54c83) (so F54o85 F54c86))
def F54c74 : Ac := (cd 57 (so F54o76 F54c77) (so F54o79 F54c80))
def F54c68 : Ac := (cd 52 (so F54o70 F54c71) (so F54o73 F54c74))
def F54c62 : Ac := (cd 47 (so F54o64 F54c65) (so F54o67 F54c68))
def F54c56 : Ac := (cd 42 (so F54o58 F54c59) (so F54o61 F54c62))
def F54c50 : Ac := (cd 37 (so F54o52 F54c53) (so F54o55 F54c56))
def F54c44 : Ac := (cd 32 (so F54o46 F54c47) (so F54o49 F54c50))
def F54c38 : Ac := (cd 27 (so F54o40 F54c41) (so F54o43 F54c44))
def F54c32 : Ac := (cd 22 (so F54o34 F54c35) (so F54o37 F54c38))
def F54c26 : Ac := (cd 17 (so F54o28 F54c29) (so F54o31 F54c32))
def F54b20 : Ac := (cd 5 (so F54o22 F54c23) (so F54o25 F54c26))
def F54c20 : Ac := (.seq (.gh []) (.seq (.keep [0, 2, 4, 5] [[2]]) F54b20))
def F54c5 : Ac := (.block 0 (.seq (so F54o8 F54c9) F54c20))
def F54o92 := [
 o3 72 (.callf 47) [.i 79, .i 17, .i 16],
 oe 73 0 72,
 oe 74 1 72,
 o0 (.store 4) [.t 2, .t 73],
 om 3 74]
def F54c93 : Ac := .ret
def F54c91 : Ac := (so F54o92 F54c93)
def F54c2 : Ac := (.seq (so F54o4 F54c5) F54c91)
def F54c0 : Ac := (so F54o1 F54c2)
/-- hansom/isa.goes -/
def F54 : Fn := { np := 1, pb := [], rs := [.c 2 (some 4), .t 3], body := F54c0 }
def F55o1 := [
 o3 4 (.alloc [.d (.int .i64 0), .d (.int .i64 0), .d (.int .i64 0), .d (.bool false)]) [],
 o3 5 .mv [.b false]]
def F55o5 := [
 om 10 0,
 o3 11 (.bin .eql) [.t 10, .y 244],
 om 9 11]
def F55o8 := [
 o3 12 (.callf 47) [.i 82, .i 0, .i 0],
 oe 13 0 12,
 oe 14 1 12,
 o0 (.store 4) [.t 4, .t 13],
 om 5 14]
def F55c9 : Ac := .ret
def F55o11 := [
 om 16 0,
 o3 17 (.bin .eql) [.t 16, .y 245],
 om 15 17]
def F55o14 := [
 o3 18 (.callf 47) [.i 83, .i 0, .i 0],
 oe 19 0 18,
 oe 20 1 18,
 o0 (.store 4) [.t 4, .t 19],
 om 5 20]
def F55c15 : Ac := .ret
def F55o17 := [
 om 22 0,
 o3 23 (.bin .geq) [.t 22, .y 248],
 om 24 23,
 og 25 .mv [.t 0] 24 true,
 og 26 (.bin .lss) [.t 25, .y 254] 24 true,
 o3 27 .pick [.t 24, .t 26, .b false],
 om 21 27]
def F55o20 := [
 om 28 0,
 o3 29 (.bin .sub) [.t 28, .y 248],
 o3 30 (.toInt .i64) [.t 29],
 o3 31 (.bin .add) [.i 90, .t 30],
 o3 32 (.callf 47) [.t 31, .i 0, .i 0],
 oe 33 0 32,
 oe 34 1 32,
 o0 (.store 4) [.t 4, .t 33],
 om 5 34]
def F55c21 : Ac := .ret
def F55o23 := [
 om 36 0,
 o3 37 (.bin .lss) [.t 36, .y 246],
 om 35 37]
def F55o26 := [
 o3 38 (.callf 48) [],
 oe 39 0 38,
 oe 40 1 38,
 o0 (.store 4) [.t 4, .t 39],
 om 5 40]
def F55c27 : Ac := .ret
def F55c24 : Ac := (cd 35 (so F55o26 F55c27) .skip)
def F55b18 : Ac := (cd 21 (so F55o20 F55c21) (so F55o23 F55c24))
def F55c18 : Ac := (.seq (.gh []) (.seq (.keep [0, 1, 4, 21] [[4]]) F55b18))
def F55c12 : Ac := (cd 15 (so F55o14 F55c15) (so F55o17 F55c18))
def F55c6 : Ac := (cd 9 (so F55o8 F55c9) (so F55o11 F55c12))
def F55o30 := [
 o3 6 .mv [.i 1],
 o3 7 .mv [.i 6]]
def F55o33 := [
 om 41 0,
 o3 42 (.bin .and) [.t 41, .y 1],
 o3 43 (.bin .eql) [.t 42, .y 1]]
def F55o35 := [
 o3 6 .mv [.i 2],
 o3 7 .mv [.i 7]]
def F55c34 : Ac := (cd 43 (.ops F55o35) .skip)
def F55o39 := [
 om 44 0,
 o3 45 (.bin .lss) [.t 44, .y 248]]
def F55o43 := [
 om 46 1]
def F55o46 := [
 o3 48 (.bin .eql) [.t 46, .i 0],
 om 47 48]
def F55o49 := [
 om 49 6,
 om 50 7,
 o3 51 (.callf 73) [.i 33, .t 49, .t 50],
 oe 52 0 51,
 oe 53 1 51,
 o0 (.store 4) [.t 4, .t 52],
 om 5 53]
def F55c50 : Ac := .ret
def F55o52 := [
 o3 55 (.bin .eql) [.t 46, .i 1],
 om 54 55]
def F55o55 := [
 o3 56 (.callf 48) [],
 oe 57 0 56,
 oe 58 1 56,
 o0 (.store 4) [.t 4, .t 57],
 om 5 58]
def F55c56 : Ac := .ret
def F55c53 : Ac := (cd 54 (so F55o55 F55c56) .skip)
def F55c47 : Ac := (cd 47 (so F55o49 F55c50) (so F55o52 F55c53))
def F55c44 : Ac := (.block 1 (so F55o46 F55c47))
def F55o59 := [
 om 59 1,
 o3 60 (.bin .add) [.i 84, .t 59],
 o3 61 (.bin .sub) [.t 60, .i 2],
 om 62 6,
 o3 63 (.callf 73) [.t 61, .t 62, .i 0],
 oe 64 0 63,
 oe 65 1 63,
 o0 (.store 4) [.t 4, .t 64],
 om 5 65]
def F55c60 : Ac := .ret
def F55c58 : Ac := (so F55o59 F55c60)
def F55c40 : Ac := (cd 45 (.seq (so F55o43 F55c44) F55c58) .skip)
def F55o65 := [
 om 67 1,
 o3 68 (.bin .lss) [.t 67, .i 2],
 om 66 68]
def F55o68 := [
 om 69 1,
 o3 70 (.bin .add) [.i 15, .t 69],
 om 71 6,
 o3 72 (.callf 73) [.t 70, .t 71, .i 0],
 oe 73 0 72,
 oe 74 1 72,
 o0 (.store 4) [.t 4, .t 73],
 om 5 74]
def F55c69 : Ac := .ret
def F55o71 := [
 om 76 0,
 o3 77 (.bin .eql) [.t 76, .y 254],
 om 78 77,
 og 79 .mv [.t 1] 78 false,
 og 80 (.bin .eql) [.t 79, .i 7] 78 false,
 o3 81 .pick [.t 78, .b true, .t 80],
 om 75 81]
def F55o74 := [
 o3 82 (.callf 48) [],
 oe 83 0 82,
 oe 84 1 82,
 o0 (.store 4) [.t 4, .t 83],
 om 5 84]
def F55c75 : Ac := .ret
def F55c72 : Ac := (cd 75 (so F55o74 F55c75) .skip)
def F55c66 : Ac := (cd 66 (so F55o68 F55c69) (so F55o71 F55c72))
def F55o78 := [
 o3 85 (.bslice (.int .i64 0) 5 [0, 1, 2, 3, 4]) [.i 39, .i 40, .i 80, .i 81, .i 9],
 om 86 1,
 o3 87 (.bin .sub) [.t 86, .i 2],
 o3 88 (.iaddrS 1) [.t 85, .t 87],
 o3 89 (.load none) [.t 88],
 om 8 89]
def F55o81 := [
 om 90 1,
 o3 91 (.bin .eql) [.t 90, .i 3],
 om 92 91,
 og 93 .mv [.t 1] 92 false,
 og 94 (.bin .eql) [.t 93, .i 5] 92 false,
 o3 95 .pick [.t 92, .b true, .t 94]]
def F55o83 := [
 o3 6 .mv [.i 19]]
def F55c82 : Ac := (cd 95 (.ops F55o83) .skip)
def F55o86 := [
 om 96 8,
 om 97 6,
 o3 98 (.callf 73) [.t 96, .t 97, .i 0],
 oe 99 0 98,
 oe 100 1 98,
 o0 (.store 4) [.t 4, .t 99],
 om 5 100]
def F55c87 : Ac := .ret
def F55c85 : Ac := (so F55o86 F55c87)
def F55c79 : Ac := (.seq (so F55o81 F55c82) F55c85)
def F55c77 : Ac := (so F55o78 F55c79)
def F55c62 : Ac := (.seq (.block 2 (so F55o65 F55c66)) F55c77)
def F55b37 : Ac := (.seq (so F55o39 F55c40) F55c62)
def F55c37 : Ac := (.seq (.gh []) (.seq (.keep [0, 1, 4, 6, 7] [[4]]) F55b37))
def F55c31 : Ac := (.seq (so F55o33 F55c34) F55c37)
def F55c29 : Ac := (so F55o30 F55c31)
def F55c2 : Ac := (.seq (.block 0 (so F55o5 F55c6)) F55c29)
def F55c0 : Ac := (so F55o1 F55c2)
/-- hansom/isa.rest -/
def F55 : Fn := { np := 2, pb := [], rs := [.c 4 (some 4), .t 5], body := F55c0 }
def F56o1 := [
 o3 2 (.box 12) [.t 0],
 o3 4 .mv [.b false]]
def F56o3 := [
 o3 5 (.faddr 0) [.t 2],
 o3 6 (.load none) [.t 5],
 o3 7 (.bin .eql) [.t 6, .i 5],
 om 8 7,
 og 9 (.faddr 9) [.t 2] 8 true,
 og 10 (.load none) [.t 9] 8 true,
 og 11 .mv [.t 1] 8 true,
 og 12 (.bin .eql) [.t 10, .t 11] 8 true,
 og 13 .mv [.t 12] 8 true,
 og 14 (.faddr 9) [.t 2] 13 false,
 og 15 (.load none) [.t 14] 13 false,
 og 16 (.bin .eql) [.t 15, .i 0] 13 false,
 og 17 .pick [.t 13, .b true, .t 16] 8 true,
 og 18 .mv [.t 17] 8 true,
 og 19 .mv [.t 1] 18 false,
 og 20 (.bin .eql) [.t 19, .i 0] 18 false,
 og 21 .pick [.t 18, .b true, .t 20] 8 true,
 o3 22 .pick [.t 8, .t 21, .b false],
 om 4 22]
def F56c4 : Ac := .ret
def F56c2 : Ac := (so F56o3 F56c4)
def F56c0 : Ac := (so F56o1 F56c2)
/-- hansom/pick.memory -/
def F56 : Fn := { np := 2, pb := [], rs := [.t 4], body := F56c0 }
def F57o1 := [
 o3 1 (.box 12) [.t 0],
 o3 2 .mv [.b false]]
def F57o3 := [
 o3 3 (.faddr 0) [.t 1],
 o3 4 (.load none) [.t 3],
 o3 5 (.bin .eql) [.t 4, .i 4],
 om 6 5,
 og 7 (.faddr 3) [.t 1] 6 true,
 og 8 (.load (some 6)) [.t 7] 6 true,
 og 9 (.callf 60) [.t 8] 6 true,
 o3 10 .pick [.t 6, .t 9, .b false],
 om 11 10,
 og 12 (.faddr 3) [.t 1] 11 true,
 og 13 (.faddr 5) [.t 12] 11 true,
 og 14 (.load none) [.t 13] 11 true,
 o3 15 .pick [.t 11, .t 14, .b false],
 om 2 15]
def F57c4 : Ac := .ret
def F57c2 : Ac := (so F57o3 F57c4)
def F57c0 : Ac := (so F57o1 F57c2)
/-- hansom/pick.plain -/
def F57 : Fn := { np := 1, pb := [], rs := [.t 2], body := F57c0 }
def F58o1 := [
 o3 4 .mv [.b false]]
def F58o4 := [
 om 5 1,
 o3 6 (.bin .eql) [.t 5, .i 1]]
def F58o7 := [
 om 7 0,
 o3 8 (.bin .geq) [.t 7, .i (-128)],
 om 9 8,
 og 10 .mv [.t 0] 9 true,
 og 11 (.bin .leq) [.t 10, .i 255] 9 true,
 o3 12 .pick [.t 9, .t 11, .b false],
 om 4 12]
def F58c8 : Ac := .ret
def F58c5 : Ac := (cd 6 (so F58o7 F58c8) .skip)
def F58o11 := [
 om 13 0,
 o3 14 (.bin .geq) [.t 13, .i (-32768)],
 om 15 14,
 og 16 .mv [.t 0] 15 true,
 og 17 (.bin .leq) [.t 16, .i 65535] 15 true,
 o3 18 .pick [.t 15, .t 17, .b false],
 om 4 18]
def F58c12 : Ac := .ret
def F58c10 : Ac := (so F58o11 F58c12)
def F58c2 : Ac := (.seq (so F58o4 F58c5) F58c10)
def F58c0 : Ac := (so F58o1 F58c2)
/-- hansom/value.Fits -/
def F58 : Fn := { np := 2, pb := [], rs := [.t 4], body := F58c0 }
def F59o1 := [
 o3 1 (.box 12) [.t 0],
 o3 2 .mv [.b false]]
def F59o3 := [
 o3 3 (.faddr 0) [.t 1],
 o3 4 (.load none) [.t 3],
 o3 5 (.bin .eql) [.t 4, .i 4],
 om 6 5,
 og 7 (.faddr 3) [.t 1] 6 true,
 og 8 (.load (some 6)) [.t 7] 6 true,
 og 9 (.callf 60) [.t 8] 6 true,
 og 10 .mv [.t 9] 6 true,
 og 11 (.faddr 3) [.t 1] 10 false,
 og 12 (.faddr 4) [.t 11] 10 false,
 og 13 (.load none) [.t 12] 10 false,
 og 14 (.bin .neq) [.t 13, .i 0] 10 false,
 og 15 .pick [.t 10, .b true, .t 14] 6 true,
 o3 16 .pick [.t 6, .t 15, .b false],
 om 2 16]
def F59c4 : Ac := .ret
def F59c2 : Ac := (so F59o3 F59c4)
def F59c0 : Ac := (so F59o1 F59c2)
/-- hansom/pick.number -/
def F59 : Fn := { np := 1, pb := [], rs := [.t 2], body := F59c0 }
def F60o1 := [
 o3 1 (.box 6) [.t 0],
 o3 2 .mv [.b false]]
def F60o3 := [
 o3 3 (.faddr 1) [.t 1],
 o3 4 (.load none) [.t 3],
 o3 5 (.bin .eql) [.t 4, .i 0],
 om 6 5,
 og 7 (.faddr 4) [.t 1] 6 true,
 og 8 (.load none) [.t 7] 6 true,
 og 9 (.bin .eql) [.t 8, .i 0] 6 true,
 o3 10 .pick [.t 6, .t 9, .b false],
 om 2 10]
def F60c4 : Ac := .ret
def F60c2 : Ac := (so F60o3 F60c4)
def F60c0 : Ac := (so F60o1 F60c2)
/-- hansom/value.Plain -/
def F60 : Fn := { np := 1, pb := [], rs := [.t 2], body := F60c0 }
def F61o1 := [
 o3 2 .mv [.b false]]
def F61o3 := [
 om 3 0,
 o3 4 (.toInt .u16) [.t 3],
 o3 5 (.callf 74) [.t 4],
 om 6 5,
 og 7 .mv [.t 0] 6 true,
 og 8 (.callf 58) [.t 7, .i 2] 6 true,
 o3 9 .pick [.t 6, .t 8, .b false],
 om 2 9]
def F61c4 : Ac := .ret
def F61c2 : Ac := (so F61o3 F61c4)
def F61c0 : Ac := (so F61o1 F61c2)
/-- hansom/pick.signed -/
def F61 : Fn := { np := 1, pb := [], rs := [.t 2], body := F61c0 }
def F62o1 := [
 o3 2 (.box 12) [.t 0],
 o3 4 .mv [.b false]]
def F62o4 := [
 o3 5 (.faddr 0) [.t 2],
 o3 6 (.load none) [.t 5],
 o3 7 (.bin .neq) [.t 6, .i 4],
 om 8 7,
 og 9 (.faddr 3) [.t 2] 8 false,
 og 10 (.faddr 4) [.t 9] 8 false,
 og 11 (.load none) [.t 10] 8 false,
 og 12 (.bin .neq) [.t 11, .i 0] 8 false,
 o3 13 .pick [.t 8, .b true, .t 12],
 om 14 13,
 og 15 (.faddr 3) [.t 2] 14 false,
 og 16 (.load (some 6)) [.t 15] 14 false,
 og 17 (.callf 60) [.t 16] 14 false,
 og 18 .mv [.t 17] 14 false,
 og 19 (.faddr 3) [.t 2] 18 true,
 og 20 (.faddr 5) [.t 19] 18 true,
 og 21 (.load none) [.t 20] 18 true,
 og 22 .pick [.t 18, .t 21, .b false] 14 false,
 o3 23 .pick [.t 14, .b true, .t 22]]
def F62o7 := [
 o3 4 .mv [.b false]]
def F62c8 : Ac := .ret
def F62c5 : Ac := (cd 23 (so F62o7 F62c8) .skip)
def F62o11 := [
 o3 24 (.faddr 9) [.t 2],
 o3 25 (.load none) [.t 24],
 o3 26 (.bin .eql) [.t 25, .i 102],
 om 27 1,
 o3 28 (.eqb false) [.t 26, .t 27],
 om 4 28]
def F62c12 : Ac := .ret
def F62c10 : Ac := (so F62o11 F62c12)
def F62c2 : Ac := (.seq (so F62o4 F62c5) F62c10)
def F62c0 : Ac := (so F62o1 F62c2)
/-- hansom/pick.label -/
def F62 : Fn := { np := 2, pb := [], rs := [.t 4], body := F62c0 }
def F63o1 := [
 o3 2 (.box 12) [.t 0],
 o3 4 .mv [.b false]]
def F63o3 := [
 o3 5 (.load (some 12)) [.t 2],
 om 6 1,
 o3 7 (.callf 56) [.t 5, .t 6],
 om 8 7,
 og 9 (.faddr 2) [.t 2] 8 true,
 og 10 (.load none) [.t 9] 8 true,
 og 11 (.bin .eql) [.t 10, .i 8] 8 true,
 o3 12 .pick [.t 8, .t 11, .b false],
 om 4 12]
def F63c4 : Ac := .ret
def F63c2 : Ac := (so F63o3 F63c4)
def F63c0 : Ac := (so F63o1 F63c2)
/-- hansom/pick.direct -/
def F63 : Fn := { np := 2, pb := [], rs := [.t 4], body := F63c0 }
def F64o1 := [
 o3 4 (.box 12) [.t 1],
 o3 6 .mv [.b false]]
def F64o4 := [
 om 7 0]
def F64o7 := [
 o3 9 (.bin .eql) [.t 7, .i 14],
 om 8 9]
def F64o10 := [
 o3 10 (.faddr 0) [.t 4],
 o3 11 (.load none) [.t 10],
 o3 12 (.bin .eql) [.t 11, .i 1],
 om 13 12,
 og 14 (.faddr 1) [.t 4] 13 true,
 og 15 (.load none) [.t 14] 13 true,
 og 16 (.bin .eql) [.t 15, .i 0] 13 true,
 o3 17 .pick [.t 13, .t 16, .b false],
 om 6 17]
def F64c11 : Ac := .ret
def F64o13 := [
 o3 19 (.bin .eql) [.t 7, .i 15],
 om 18 19]
def F64o16 := [
 o3 20 (.faddr 0) [.t 4],
 o3 21 (.load none) [.t 20],
 o3 22 (.bin .eql) [.t 21, .i 1],
 om 23 22,
 og 24 (.faddr 1) [.t 4] 23 true,
 og 25 (.load none) [.t 24] 23 true,
 og 26 (.bin .eql) [.t 25, .i 1] 23 true,
 o3 27 .pick [.t 23, .t 26, .b false],
 om 6 27]
def F64c17 : Ac := .ret
def F64o19 := [
 o3 29 (.bin .eql) [.t 7, .i 16],
 om 28 29]
def F64o22 := [
 o3 30 (.faddr 0) [.t 4],
 o3 31 (.load none) [.t 30],
 o3 32 (.bin .eql) [.t 31, .i 2],
 om 33 32,
 og 34 (.faddr 1) [.t 4] 33 true,
 og 35 (.load none) [.t 34] 33 true,
 og 36 (.bin .eql) [.t 35, .i 0] 33 true,
 o3 37 .pick [.t 33, .t 36, .b false],
 om 6 37]
def F64c23 : Ac := .ret
def F64o25 := [
 o3 39 (.bin .eql) [.t 7, .i 17],
 om 38 39]
def F64o28 := [
 o3 40 (.faddr 0) [.t 4],
 o3 41 (.load none) [.t 40],
 o3 42 (.bin .eql) [.t 41, .i 2],
 om 43 42,
 og 44 (.faddr 1) [.t 4] 43 true,
 og 45 (.load none) [.t 44] 43 true,
 og 46 (.bin .eql) [.t 45, .i 2] 43 true,
 o3 47 .pick [.t 43, .t 46, .b false],
 om 6 47]
def F64c29 : Ac := .ret
def F64o31 := [
 o3 49 (.bin .eql) [.t 7, .i 18],
 om 48 49]
def F64o34 := [
 o3 50 (.load (some 12)) [.t 4],
 o3 51 (.callf 57) [.t 50],
 om 52 51,
 og 53 (.faddr 3) [.t 4] 52 true,
 og 54 (.faddr 0) [.t 53] 52 true,
 og 55 (.load none) [.t 54] 52 true,
 og 56 (.bin .eql) [.t 55, .i 1] 52 true,
 o3 57 .pick [.t 52, .t 56, .b false],
 om 6 57]
def F64c35 : Ac := .ret
def F64o37 := [
 o3 59 (.bin .eql) [.t 7, .i 24],
 om 58 59]
def F64o40 := [
 o3 60 (.load (some 12)) [.t 4],
 o3 61 (.callf 57) [.t 60],
 om 62 61,
 og 63 (.faddr 3) [.t 4] 62 true,
 og 64 (.faddr 0) [.t 63] 62 true,
 og 65 (.load none) [.t 64] 62 true,
 og 66 (.bin .eql) [.t 65, .i 3] 62 true,
 o3 67 .pick [.t 62, .t 66, .b false],
 om 6 67]
def F64c41 : Ac := .ret
def F64o43 := [
 o3 69 (.bin .eql) [.t 7, .i 21],
 om 68 69]
def F64o46 := [
 o3 70 (.faddr 0) [.t 4],
 o3 71 (.load none) [.t 70],
 o3 72 (.bin .eql) [.t 71, .i 1],
 om 73 72,
 og 74 (.faddr 1) [.t 4] 73 true,
 og 75 (.load none) [.t 74] 73 true,
 og 76 .mv [.t 2] 73 true,
 og 77 (.bin .and) [.t 76, .y 7] 73 true,
 og 78 (.toInt .i64) [.t 77] 73 true,
 og 79 (.bin .eql) [.t 75, .t 78] 73 true,
 o3 80 .pick [.t 73, .t 79, .b false],
 om 6 80]
def F64c47 : Ac := .ret
def F64o49 := [
 o3 82 (.bin .eql) [.t 7, .i 22],
 om 81 82]
def F64o52 := [
 o3 83 (.faddr 0) [.t 4],
 o3 84 (.load none) [.t 83],
 o3 85 (.bin .eql) [.t 84, .i 2],
 om 86 85,
 og 87 (.faddr 1) [.t 4] 86 true,
 og 88 (.load none) [.t 87] 86 true,
 og 89 .mv [.t 2] 86 true,
 og 90 (.bin .and) [.t 89, .y 7] 86 true,
 og 91 (.toInt .i64) [.t 90] 86 true,
 og 92 (.bin .eql) [.t 88, .t 91] 86 true,
 o3 93 .pick [.t 86, .t 92, .b false],
 om 6 93]
def F64c53 : Ac := .ret
def F64o55 := [
 o3 95 (.bin .eql) [.t 7, .i 23],
 om 94 95]
def F64o58 := [
 o3 96 (.faddr 0) [.t 4],
 o3 97 (.load none) [.t 96],
 o3 98 (.bin .eql) [.t 97, .i 3],
 om 99 98,
 og 100 (.faddr 1) [.t 4] 99 true,
 og 101 (.load none) [.t 100] 99 true,
 og 102 .mv [.t 2] 99 true,
 og 103 (.bin .shr) [.t 102, .c (.d (.int .u64 3))] 99 true,
 og 104 (.bin .and) [.t 103, .y 3] 99 true,
 og 105 (.toInt .i64) [.t 104] 99 true,
 og 106 (.bin .eql) [.t 101, .t 105] 99 true,
 o3 107 .pick [.t 99, .t 106, .b false],
 om 6 107]
def F64c59 : Ac := .ret
def F64c56 : Ac := (cd 94 (so F64o58 F64c59) .skip)
def F64c50 : Ac := (cd 81 (so F64o52 F64c53) (so F64o55 F64c56))
def F64c44 : Ac := (cd 68 (so F64o46 F64c47) (so F64o49 F64c50))
def F64c38 : Ac := (cd 58 (so F64o40 F64c41) (so F64o43 F64c44))
def F64c32 : Ac := (cd 48 (so F64o34 F64c35) (so F64o37 F64c38))
def F64c26 : Ac := (cd 38 (so F64o28 F64c29) (so F64o31 F64c32))
def F64c20 : Ac := (cd 28 (so F64o22 F64c23) (so F64o25 F64c26))
def F64c14 : Ac := (cd 18 (so F64o16 F64c17) (so F64o19 F64c20))
def F64c8 : Ac := (cd 8 (so F64o10 F64c11) (so F64o13 F64c14))
def F64c5 : Ac := (.block 0 (so F64o7 F64c8))
def F64o62 := [
 o3 6 .mv [.b false]]
def F64c63 : Ac := .ret
def F64c61 : Ac := (so F64o62 F64c63)
def F64c2 : Ac := (.seq (so F64o4 F64c5) F64c61)
def F64c0 : Ac := (so F64o1 F64c2)
/-- hansom/pick.fixed -/
def F64 : Fn := { np := 3, pb := [], rs := [.t 6], body := F64c0 }
def F65o1 := [
 o3 2 .mv [.i 0]]
def F65o4 := [
 om 3 0]
def F65o8 := [
 o3 5 (.bin .eql) [.t 3, .i 6],
 om 4 5]
def F65o12 := [
 o3 6 (.bin .eql) [.t 3, .i 8],
 om 4 6]
def F65o15 := [
 o3 7 (.bin .eql) [.t 3, .i 9],
 om 4 7]
def F65c13 : Ac := (cd 4 .skip (.ops F65o15))
def F65c9 : Ac := (cd 4 .skip (so F65o12 F65c13))
def F65o18 := [
 o3 2 .mv [.i 1]]
def F65c19 : Ac := .ret
def F65o22 := [
 o3 9 (.bin .eql) [.t 3, .i 7],
 om 8 9]
def F65o26 := [
 o3 10 (.bin .eql) [.t 3, .i 10],
 om 8 10]
def F65o30 := [
 o3 11 (.bin .eql) [.t 3, .i 12],
 om 8 11]
def F65o33 := [
 o3 12 (.bin .eql) [.t 3, .i 13],
 om 8 12]
def F65c31 : Ac := (cd 8 .skip (.ops F65o33))
def F65c27 : Ac := (cd 8 .skip (so F65o30 F65c31))
def F65c23 : Ac := (cd 8 .skip (so F65o26 F65c27))
def F65o36 := [
 o3 2 .mv [.i 2]]
def F65c37 : Ac := .ret
def F65o39 := [
 o3 14 (.bin .eql) [.t 3, .i 11],
 om 13 14]
def F65o42 := [
 o3 2 .mv [.i 4]]
def F65c43 : Ac := .ret
def F65c40 : Ac := (cd 13 (so F65o42 F65c43) .skip)
def F65c34 : Ac := (cd 8 (so F65o36 F65c37) (so F65o39 F65c40))
def F65b16 : Ac := (cd 4 (so F65o18 F65c19) (.seq (so F65o22 F65c23) F65c34))
def F65c16 : Ac := (.seq (.gh []) (.seq (.keep [3, 4] []) F65b16))
def F65c5 : Ac := (.block 0 (.seq (so F65o8 F65c9) F65c16))
def F65o46 := [
 o3 2 .mv [.i 0]]
def F65c47 : Ac := .ret
def F65c45 : Ac := (so F65o46 F65c47)
def F65c2 : Ac := (.seq (so F65o4 F65c5) F65c45)
def F65c0 : Ac := (so F65o1 F65c2)
/-- hansom/isa.Immediate -/
def F65 : Fn := { np := 1, pb := [], rs := [.t 2], body := F65c0 }
def F66o1 := [
 o3 3 (.box 25) [.t 0],
 o3 5 (.box 12) [.t 2],
 o3 6 (.alloc [.d (.bool false), .d (.int .i64 0), .d (.int .i64 0), .d (.int .u8 0), .d (.int .i64 0), .d (.int .i64 0), .d (.int .i64 0), .d (.int .u16 0), .d (.int .u16 0), .d (.int .u16 0), .d (.int .i64 0), .d (.int .i64 0), .d (.int .i64 0), .d (.int .i64 0), .d (.int .i64 0), .d (.bool false), .d (.int .i64 0), .d (.int .i64 0), .d (.int .i64 0), .d (.int .i64 0), .d (.int .i64 0), .d (.bool false), .d (.bool false), .d (.bool false), .d (.bool false)]) []]
def F66o4 := [
 om 7 1]
def F66o7 := [
 o3 9 (.bin .eql) [.t 7, .i 6],
 om 8 9]
def F66o9 := [
 o3 10 (.faddr 3) [.t 5],
 o3 11 (.faddr 0) [.t 10],
 o3 12 (.load none) [.t 11],
 o3 13 (.toInt .u16) [.t 12],
 o3 14 (.bin .and) [.t 13, .w 255],
 o3 15 (.faddr 0) [.t 3],
 o3 16 (.faddr 8) [.t 15],
 o0 (.store 1) [.t 16, .t 14]]
def F66o11 := [
 o3 18 (.bin .eql) [.t 7, .i 8],
 om 17 18]
def F66o13 := [
 o3 19 (.faddr 3) [.t 5],
 o3 20 (.faddr 0) [.t 19],
 o3 21 (.load none) [.t 20],
 o3 22 (.toInt .u16) [.t 21],
 o3 23 (.faddr 0) [.t 3],
 o3 24 (.faddr 8) [.t 23],
 o0 (.store 1) [.t 24, .t 22]]
def F66o16 := [
 o3 26 (.bin .eql) [.t 7, .i 7],
 om 25 26]
def F66o20 := [
 o3 27 (.bin .eql) [.t 7, .i 12],
 om 25 27]
def F66o23 := [
 o3 28 (.bin .eql) [.t 7, .i 13],
 om 25 28]
def F66c21 : Ac := (cd 25 .skip (.ops F66o23))
def F66c17 : Ac := (cd 25 .skip (so F66o20 F66c21))
def F66o25 := [
 o3 29 (.faddr 3) [.t 5],
 o3 30 (.faddr 0) [.t 29],
 o3 31 (.load none) [.t 30],
 o3 32 (.toInt .u16) [.t 31],
 o3 33 (.faddr 3) [.t 5],
  { dst := some 34, k := (.load (some 6)), xs := [.t 33], av := [[3]] },
 o3 35 (.faddr 0) [.t 3],
 o3 36 (.faddr 8) [.t 35],
  { dst := none, k := (.store 1), xs := [.t 36, .t 32], al := some [[3]] },
 o3 37 (.faddr 16) [.t 3],
 o0 (.store 6) [.t 37, .t 34],
 o3 38 (.faddr 23) [.t 3],
 o0 (.store 1) [.t 38, .b true]]
def F66o28 := [
 o3 40 (.bin .eql) [.t 7, .i 9],
 om 39 40]
def F66o31 := [
 o3 41 (.bin .eql) [.t 7, .i 10],
 om 39 41]
def F66c29 : Ac := (cd 39 .skip (.ops F66o31))
def F66o33 := [
 o3 42 (.faddr 3) [.t 5],
 o3 43 (.load (some 6)) [.t 42],
 o3 44 (.faddr 16) [.t 3],
 o0 (.store 6) [.t 44, .t 43],
 o3 45 (.faddr 23) [.t 3],
 o0 (.store 1) [.t 45, .b true],
 o3 46 (.faddr 24) [.t 3],
 o0 (.store 1) [.t 46, .b true]]
def F66o35 := [
 o3 48 (.bin .eql) [.t 7, .i 11],
 om 47 48]
def F66o37 := [
 o3 49 (.faddr 3) [.t 5],
 o3 50 (.load (some 6)) [.t 49],
 o3 51 (.faddr 16) [.t 3],
 o0 (.store 6) [.t 51, .t 50],
 o3 52 (.faddr 23) [.t 3],
 o0 (.store 1) [.t 52, .b true]]
def F66c36 : Ac := (cd 47 (.ops F66o37) .skip)
def F66b32 : Ac := (cd 39 (.ops F66o33) (so F66o35 F66c36))
def F66c32 : Ac := (.seq (.gh []) (.seq (.keep [3, 5, 6, 7, 39] [[3], [5], [6]]) F66b32))
def F66b24 : Ac := (cd 25 (.ops F66o25) (.seq (so F66o28 F66c29) F66c32))
def F66c24 : Ac := (.seq (.gh []) (.seq (.keep [3, 5, 6, 7, 25] [[3], [5], [6]]) F66b24))
def F66c12 : Ac := (cd 17 (.ops F66o13) (.seq (so F66o16 F66c17) F66c24))
def F66c8 : Ac := (cd 8 (.ops F66o9) (so F66o11 F66c12))
def F66c5 : Ac := (.block 0 (so F66o7 F66c8))
def F66o40 := [
 o3 53 (.load (some 25)) [.t 3],
 o0 (.store 25) [.t 6, .t 53]]
def F66c41 : Ac := .ret
def F66c39 : Ac := (so F66o40 F66c41)
def F66c2 : Ac := (.seq (so F66o4 F66c5) F66c39)
def F66c0 : Ac := (so F66o1 F66c2)
/-- hansom/pick.behind -/
def F66 : Fn := { np := 3, pb := [], rs := [.c 6 (some 25)], body := F66c0 }
def F67o1 := [
 o3 3 (.box 25) [.t 0],
 o3 5 (.box 12) [.t 2],
 o3 6 (.alloc [.d (.bool false), .d (.int .i64 0), .d (.int .i64 0), .d (.int .u8 0), .d (.int .i64 0), .d (.int .i64 0), .d (.int .i64 0), .d (.int .u16 0), .d (.int .u16 0), .d (.int .u16 0), .d (.int .i64 0), .d (.int .i64 0), .d (.int .i64 0), .d (.int .i64 0), .d (.int .i64 0), .d (.bool false), .d (.int .i64 0), .d (.int .i64 0), .d (.int .i64 0), .d (.int .i64 0), .d (.int .i64 0), .d (.bool false), .d (.bool false), .d (.bool false), .d (.bool false)]) []]
def F67o5 := [
 om 74 1,
 o3 75 (.bin .eql) [.t 74, .i 3],
 om 76 75,
 og 77 .mv [.t 1] 76 false,
 og 78 (.bin .eql) [.t 77, .i 4] 76 false,
 o3 79 .pick [.t 76, .b true, .t 78],
 om 80 79,
 og 81 .mv [.t 1] 80 false,
 og 82 (.bin .eql) [.t 81, .i 5] 80 false,
 o3 83 .pick [.t 80, .b true, .t 82],
 om 73 83]
def F67o7 := [
 o3 84 (.faddr 1) [.t 5],
 o3 85 (.load none) [.t 84],
 o3 86 (.faddr 0) [.t 3],
 o3 87 (.faddr 5) [.t 86],
 o0 (.store 1) [.t 87, .t 85]]
def F67o9 := [
 om 89 1,
 o3 90 (.callf 75) [.t 89],
 o3 91 (.un .not) [.t 90],
 om 88 91]
def F67o13 := [
 o3 93 (.faddr 0) [.t 5],
 o3 94 (.load none) [.t 93],
 o3 95 (.bin .neq) [.t 94, .i 5],
 om 92 95]
def F67o15 := [
 o3 96 (.faddr 1) [.t 5],
  { dst := some 97, k := (.load none), xs := [.t 96], av := [[3]] },
 o3 98 (.faddr 0) [.t 3],
 o3 99 (.faddr 4) [.t 98],
  { dst := none, k := (.store 1), xs := [.t 99, .i 3], al := some [[3]] },
 o3 100 (.faddr 0) [.t 3],
 o3 101 (.faddr 6) [.t 100],
 o0 (.store 1) [.t 101, .t 97]]
def F67o17 := [
 o3 8 (.faddr 3) [.t 5],
 o3 9 (.load (some 6)) [.t 8],
 o3 10 (.faddr 10) [.t 3],
 o0 (.store 6) [.t 10, .t 9]]
def F67o19 := [
 o3 11 (.faddr 3) [.t 5],
 o3 12 (.load (some 6)) [.t 11],
 o3 13 (.callf 60) [.t 12],
 om 14 13,
 og 15 (.faddr 3) [.t 5] 14 true,
 og 16 (.faddr 5) [.t 15] 14 true,
 og 17 (.load none) [.t 16] 14 true,
 o3 18 .pick [.t 14, .t 17, .b false],
 om 7 18]
def F67o21 := [
 o3 19 (.faddr 2) [.t 5],
 o3 20 (.load none) [.t 19],
 o3 21 (.faddr 3) [.t 5],
 o3 22 (.faddr 0) [.t 21],
  { dst := some 23, k := (.load none), xs := [.t 22], av := [[3]] },
 o3 24 (.toInt .u16) [.t 23],
 o3 25 (.faddr 0) [.t 3],
 o3 26 (.faddr 6) [.t 25],
  { dst := none, k := (.store 1), xs := [.t 26, .t 20], al := some [[3]] },
 o3 27 (.faddr 0) [.t 3],
 o3 28 (.faddr 7) [.t 27],
 o0 (.store 1) [.t 28, .t 24]]
def F67o25 := [
 o3 32 (.faddr 2) [.t 5],
 o3 33 (.load none) [.t 32],
 o3 34 (.bin .eql) [.t 33, .i 8],
 om 31 34]
def F67o27 := [
 o3 35 (.faddr 0) [.t 3],
 o3 36 (.faddr 4) [.t 35],
 o0 (.store 1) [.t 36, .i 0],
 o3 37 (.faddr 0) [.t 3],
 o3 38 (.faddr 6) [.t 37],
 o0 (.store 1) [.t 38, .i 6]]
def F67o29 := [
 om 40 7,
 om 41 40,
 og 42 (.faddr 3) [.t 5] 41 true,
 og 43 (.faddr 0) [.t 42] 41 true,
 og 44 (.load none) [.t 43] 41 true,
 og 45 (.bin .eql) [.t 44, .i 0] 41 true,
 o3 46 .pick [.t 41, .t 45, .b false],
 om 47 46,
 og 48 (.faddr 2) [.t 5] 47 true,
 og 49 (.load none) [.t 48] 47 true,
 og 50 (.bin .neq) [.t 49, .i 6] 47 true,
 o3 51 .pick [.t 47, .t 50, .b false],
 om 39 51]
def F67o31 := [
 o3 52 (.faddr 0) [.t 3],
 o3 53 (.faddr 4) [.t 52],
 o0 (.store 1) [.t 53, .i 0]]
def F67o33 := [
 om 55 7,
 om 56 55,
 og 57 (.faddr 3) [.t 5] 56 true,
 og 58 (.faddr 0) [.t 57] 56 true,
 og 59 (.load none) [.t 58] 56 true,
 og 60 (.callf 61) [.t 59] 56 true,
 o3 61 .pick [.t 56, .t 60, .b false],
 om 54 61]
def F67o35 := [
 o3 62 (.faddr 0) [.t 3],
 o3 63 (.faddr 4) [.t 62],
 o0 (.store 1) [.t 63, .i 1]]
def F67o36 := [
 o3 29 (.faddr 0) [.t 3],
 o3 30 (.faddr 4) [.t 29],
 o0 (.store 1) [.t 30, .i 2]]
def F67c34 : Ac := (cd 54 (.ops F67o35) (.ops F67o36))
def F67b30 : Ac := (cd 39 (.ops F67o31) (so F67o33 F67c34))
def F67c30 : Ac := (.seq (.gh []) (.seq (.keep [3, 5, 6, 7, 39] [[3], [5], [6]]) F67b30))
def F67c26 : Ac := (cd 31 (.ops F67o27) (so F67o29 F67c30))
def F67o37 := [
 o3 64 (.faddr 0) [.t 3],
 o3 65 (.faddr 4) [.t 64],
 o3 66 (.load none) [.t 65],
 o3 67 (.faddr 0) [.t 3],
 o3 68 (.faddr 6) [.t 67],
 o3 69 (.load none) [.t 68],
 o3 70 (.callf 36) [.t 66, .t 69],
 o3 71 (.bin .eql) [.t 70, .i 2],
 o3 72 (.faddr 22) [.t 3],
 o0 (.store 1) [.t 72, .t 71]]
def F67c37 : Ac := (.ops F67o37)
def F67c22 : Ac := (.seq (.block 1 (so F67o25 F67c26)) F67c37)
def F67b20 : Ac := (so F67o21 F67c22)
def F67c20 : Ac := (.seq (.gh []) (.seq (.keep [3, 5, 6, 7] [[3], [5], [6]]) F67b20))
def F67c18 : Ac := (so F67o19 F67c20)
def F67c14 : Ac := (cd 92 (.ops F67o15) (so F67o17 F67c18))
def F67c10 : Ac := (cd 88 .skip (so F67o13 F67c14))
def F67b6 : Ac := (cd 73 (.ops F67o7) (so F67o9 F67c10))
def F67c6 : Ac := (.seq (.gh []) (.seq (.keep [1, 3, 5, 6, 73] [[3], [5], [6]]) F67b6))
def F67o39 := [
 o3 102 (.load (some 25)) [.t 3],
 o0 (.store 25) [.t 6, .t 102]]
def F67c40 : Ac := .ret
def F67c38 : Ac := (so F67o39 F67c40)
def F67c2 : Ac := (.seq (.block 0 (so F67o5 F67c6)) F67c38)
def F67c0 : Ac := (so F67o1 F67c2)
/-- hansom/pick.second -/
def F67 : Fn := { np := 3, pb := [], rs := [.c 6 (some 25)], body := F67c0 }
def F68o1 := [
 o3 2 (.box 10) [.t 0],
 o3 3 (.box 4) [.t 1],
 o3 4 .mv [.b false]]
def F68o4 := [
 o3 5 (.faddr 3) [.t 3],
 o3 6 (.load none) [.t 5],
 o3 7 (.un .not) [.t 6]]
def F68o7 := [
 o3 8 (.faddr 4) [.t 2],
 o3 9 (.load none) [.t 8],
 o3 10 (.bin .eql) [.t 9, .i 0],
 om 11 10,
 og 12 (.faddr 5) [.t 2] 11 true,
 og 13 (.load none) [.t 12] 11 true,
 og 14 (.bin .eql) [.t 13, .i 0] 11 true,
 o3 15 .pick [.t 11, .t 14, .b false],
 om 16 15,
 og 17 (.faddr 6) [.t 2] 16 true,
 og 18 (.load none) [.t 17] 16 true,
 og 19 (.bin .eql) [.t 18, .i 0] 16 true,
 o3 20 .pick [.t 16, .t 19, .b false],
 om 21 20,
 og 22 (.faddr 7) [.t 2] 21 true,
 og 23 (.load none) [.t 22] 21 true,
 og 24 (.bin .eql) [.t 23, .w 0] 21 true,
 o3 25 .pick [.t 21, .t 24, .b false],
 om 4 25]
def F68c8 : Ac := .ret
def F68c5 : Ac := (cd 7 (so F68o7 F68c8) .skip)
def F68o12 := [
 o3 26 (.faddr 4) [.t 2],
 o3 27 (.load none) [.t 26],
 o3 28 (.bin .lss) [.t 27, .i 0],
 om 29 28,
 og 30 (.faddr 4) [.t 2] 29 false,
 og 31 (.load none) [.t 30] 29 false,
 og 32 (.bin .gtr) [.t 31, .i 3] 29 false,
 o3 33 .pick [.t 29, .b true, .t 32],
 om 34 33,
 og 35 (.faddr 5) [.t 2] 34 false,
 og 36 (.load none) [.t 35] 34 false,
 og 37 (.bin .lss) [.t 36, .i 0] 34 false,
 o3 38 .pick [.t 34, .b true, .t 37],
 om 39 38,
 og 40 (.faddr 5) [.t 2] 39 false,
 og 41 (.load none) [.t 40] 39 false,
 og 42 (.bin .gtr) [.t 41, .i 7] 39 false,
 o3 43 .pick [.t 39, .b true, .t 42],
 om 44 43,
 og 45 (.faddr 6) [.t 2] 44 false,
 og 46 (.load none) [.t 45] 44 false,
 og 47 (.bin .lss) [.t 46, .i 0] 44 false,
 o3 48 .pick [.t 44, .b true, .t 47],
 om 49 48,
 og 50 (.faddr 6) [.t 2] 49 false,
 og 51 (.load none) [.t 50] 49 false,
 og 52 (.bin .gtr) [.t 51, .i 7] 49 false,
 o3 53 .pick [.t 49, .b true, .t 52]]
def F68o15 := [
 o3 4 .mv [.b false]]
def F68c16 : Ac := .ret
def F68c13 : Ac := (cd 53 (so F68o15 F68c16) .skip)
def F68o20 := [
 o3 54 (.faddr 4) [.t 2],
 o3 55 (.load none) [.t 54],
 o3 56 (.bin .eql) [.t 55, .i 3],
 om 57 56,
 og 58 (.faddr 1) [.t 3] 57 true,
 og 59 (.load none) [.t 58] 57 true,
 og 60 (.bin .eql) [.t 59, .i 19] 57 true,
 og 61 .mv [.t 60] 57 true,
 og 62 (.faddr 2) [.t 3] 61 false,
 og 63 (.load none) [.t 62] 61 false,
 og 64 (.bin .eql) [.t 63, .i 19] 61 false,
 og 65 .pick [.t 61, .b true, .t 64] 57 true,
 og 66 .mv [.t 65] 57 true,
 og 67 (.faddr 2) [.t 3] 66 false,
 og 68 (.load none) [.t 67] 66 false,
 og 69 (.bin .eql) [.t 68, .i 20] 66 false,
 og 70 .pick [.t 66, .b true, .t 69] 57 true,
 o3 71 .pick [.t 57, .t 70, .b false]]
def F68o23 := [
 o3 4 .mv [.b false]]
def F68c24 : Ac := .ret
def F68c21 : Ac := (cd 71 (so F68o23 F68c24) .skip)
def F68o28 := [
 o3 72 (.faddr 4) [.t 2],
 o3 73 (.load none) [.t 72],
 o3 74 (.faddr 6) [.t 2],
 o3 75 (.load none) [.t 74],
 o3 76 (.callf 36) [.t 73, .t 75]]
def F68o31 := [
 o3 78 (.bin .eql) [.t 76, .i 0],
 om 77 78]
def F68o34 := [
 o3 79 (.faddr 7) [.t 2],
 o3 80 (.load none) [.t 79],
 o3 81 (.bin .eql) [.t 80, .w 0],
 om 4 81]
def F68c35 : Ac := .ret
def F68o37 := [
 o3 83 (.bin .eql) [.t 76, .i 1],
 om 82 83]
def F68o40 := [
 o3 84 (.faddr 7) [.t 2],
 o3 85 (.load none) [.t 84],
 o3 86 (.callf 74) [.t 85],
 om 4 86]
def F68c41 : Ac := .ret
def F68c38 : Ac := (cd 82 (so F68o40 F68c41) .skip)
def F68c32 : Ac := (cd 77 (so F68o34 F68c35) (so F68o37 F68c38))
def F68c29 : Ac := (.block 0 (so F68o31 F68c32))
def F68o44 := [
 o3 4 .mv [.b true]]
def F68c45 : Ac := .ret
def F68c43 : Ac := (so F68o44 F68c45)
def F68b26 : Ac := (.seq (so F68o28 F68c29) F68c43)
def F68c26 : Ac := (.seq (.gh []) (.seq (.keep [2] [[2]]) F68b26))
def F68c18 : Ac := (.seq (so F68o20 F68c21) F68c26)
def F68c10 : Ac := (.seq (so F68o12 F68c13) F68c18)
def F68c2 : Ac := (.seq (so F68o4 F68c5) F68c10)
def F68c0 : Ac := (so F68o1 F68c2)
/-- hansom/inst.second -/
def F68 : Fn := { np := 2, pb := [], rs := [.t 4], body := F68c0 }
def F69o1 := [
 o3 2 (.box 10) [.t 0],
 o3 3 (.box 4) [.t 1],
 o3 4 .mv [.b false]]
def F69o4 := [
 o3 7 (.faddr 1) [.t 3],
 o3 8 (.load none) [.t 7],
 o3 9 (.faddr 2) [.t 3],
 o3 10 (.load none) [.t 9],
 o3 11 (.build [.d (.int .i64 0), .d (.int .i64 0)] [(0, 1), (1, 1)]) [.t 8, .t 10],
 o3 12 .mv [.i 0]]
def F69o8 := [
 o3 13 (.bin .lss) [.t 12, .i 2]]
def F69o16 := [
 o3 14 (.indexA 2 1 none) [.t 11, .t 12],
 om 6 14]
def F69o18 := [
 om 15 6]
def F69o21 := [
 o3 17 (.bin .eql) [.t 15, .i 6],
 om 16 17]
def F69o24 := [
 o3 18 (.faddr 8) [.t 2],
 o3 19 (.load none) [.t 18],
 o3 20 (.bin .lss) [.t 19, .w 256],
 om 21 20,
 og 22 (.faddr 9) [.t 2] 21 true,
 og 23 (.load none) [.t 22] 21 true,
 og 24 (.bin .eql) [.t 23, .w 0] 21 true,
 o3 25 .pick [.t 21, .t 24, .b false],
 om 26 25,
 og 27 (.faddr 0) [.t 3] 26 true,
 og 28 (.load none) [.t 27] 26 true,
 og 29 (.bin .neq) [.t 28, .i 70] 26 true,
 og 30 .mv [.t 29] 26 true,
 og 31 (.faddr 0) [.t 3] 30 true,
 og 32 (.load none) [.t 31] 30 true,
 og 33 (.bin .neq) [.t 32, .i 71] 30 true,
 og 34 .pick [.t 30, .t 33, .b false] 26 true,
 og 35 .mv [.t 34] 26 true,
 og 36 (.faddr 8) [.t 2] 35 false,
 og 37 (.load none) [.t 36] 35 false,
 og 38 (.bin .eql) [.t 37, .w 10] 35 false,
 og 39 .pick [.t 35, .b true, .t 38] 26 true,
 o3 40 .pick [.t 26, .t 39, .b false],
 om 4 40]
def F69c25 : Ac := .ret
def F69o28 := [
 o3 42 (.bin .eql) [.t 15, .i 8],
 om 41 42]
def F69o31 := [
 o3 43 (.bin .eql) [.t 15, .i 9],
 om 41 43]
def F69c29 : Ac := (cd 41 .skip (.ops F69o31))
def F69o34 := [
 o3 44 (.faddr 8) [.t 2],
 o3 45 (.load none) [.t 44],
 o3 46 (.callf 74) [.t 45],
 om 47 46,
 og 48 (.faddr 9) [.t 2] 47 true,
 og 49 (.load none) [.t 48] 47 true,
 og 50 (.bin .eql) [.t 49, .w 0] 47 true,
 o3 51 .pick [.t 47, .t 50, .b false],
 om 4 51]
def F69c35 : Ac := .ret
def F69o38 := [
 o3 53 (.bin .eql) [.t 15, .i 7],
 om 52 53]
def F69o42 := [
 o3 54 (.bin .eql) [.t 15, .i 10],
 om 52 54]
def F69o46 := [
 o3 55 (.bin .eql) [.t 15, .i 12],
 om 52 55]
def F69o49 := [
 o3 56 (.bin .eql) [.t 15, .i 13],
 om 52 56]
def F69c47 : Ac := (cd 52 .skip (.ops F69o49))
def F69c43 : Ac := (cd 52 .skip (so F69o46 F69c47))
def F69c39 : Ac := (cd 52 .skip (so F69o42 F69c43))
def F69o52 := [
 o3 57 (.faddr 9) [.t 2],
 o3 58 (.load none) [.t 57],
 o3 59 (.bin .eql) [.t 58, .w 0],
 om 4 59]
def F69c53 : Ac := .ret
def F69o55 := [
 o3 61 (.bin .eql) [.t 15, .i 11],
 om 60 61]
def F69o58 := [
 o3 4 .mv [.b true]]
def F69c59 : Ac := .ret
def F69c56 : Ac := (cd 60 (so F69o58 F69c59) .skip)
def F69c50 : Ac := (cd 52 (so F69o52 F69c53) (so F69o55 F69c56))
def F69b32 : Ac := (cd 41 (so F69o34 F69c35) (.seq (so F69o38 F69c39) F69c50))
def F69c32 : Ac := (.seq (.gh []) (.seq (.keep [2, 3, 11, 12, 15, 41] [[2], [3]]) F69b32))
def F69c22 : Ac := (cd 16 (so F69o24 F69c25) (.seq (so F69o28 F69c29) F69c32))
def F69c19 : Ac := (.block 2 (so F69o21 F69c22))
def F69c17 : Ac := (so F69o18 F69c19)
def F69o61 := [
 o3 62 (.bin .add) [.t 12, .i 1],
 om 12 62]
def F69c61 : Ac := (.ops F69o61)
def F69c13 : Ac := (.seq (.block 1 (so F69o16 F69c17)) F69c61)
def F69c9 : Ac := (.seq (cd 13 .skip (.exit 0)) F69c13)
def F69l6 : Ac := (so F69o8 F69c9)
def F69c5 : Ac := (.block 0 (.loop (.seq (.gh []) (.seq (.keep [2, 3, 11, 12] [[2], [3]]) F69l6))))
def F69o63 := [
 o3 63 (.faddr 8) [.t 2],
 o3 64 (.load none) [.t 63],
 o3 65 (.bin .eql) [.t 64, .w 0],
 om 66 65,
 og 67 (.faddr 9) [.t 2] 66 true,
 og 68 (.load none) [.t 67] 66 true,
 og 69 (.bin .eql) [.t 68, .w 0] 66 true,
 o3 70 .pick [.t 66, .t 69, .b false],
 om 4 70]
def F69c64 : Ac := .ret
def F69b62 : Ac := (so F69o63 F69c64)
def F69c62 : Ac := (.seq (.gh []) (.seq (.keep [2] [[2]]) F69b62))
def F69c2 : Ac := (.seq (so F69o4 F69c5) F69c62)
def F69c0 : Ac := (so F69o1 F69c2)
/-- hansom/inst.behind -/
def F69 : Fn := { np := 2, pb := [], rs := [.t 4], body := F69c0 }
def F70o1 := [
 o3 2 (.box 10) [.t 0],
 o3 3 (.box 4) [.t 1],
 o3 4 .mv [.b false]]
def F70o3 := [
 o3 6 (.faddr 0) [.t 3],
 o3 7 (.load none) [.t 6],
 o3 8 (.callf 76) [.t 7],
 om 5 8]
def F70o6 := [
 o3 9 (.faddr 1) [.t 2],
 o3 10 (.load none) [.t 9]]
def F70o9 := [
 o3 12 (.bin .eql) [.t 10, .i 0],
 om 11 12]
def F70o13 := [
 o3 14 (.bin .eql) [.t 10, .i 1],
 om 13 14]
def F70o16 := [
 om 15 5,
 o3 16 (.bin .lss) [.t 15, .i 2]]
def F70o19 := [
 o3 4 .mv [.b false]]
def F70c20 : Ac := .ret
def F70c17 : Ac := (cd 16 (so F70o19 F70c20) .skip)
def F70o23 := [
 o3 18 (.bin .eql) [.t 10, .i 2],
 om 17 18]
def F70o26 := [
 om 19 5,
 o3 20 (.bin .lss) [.t 19, .i 1]]
def F70o29 := [
 o3 4 .mv [.b false]]
def F70c30 : Ac := .ret
def F70c27 : Ac := (cd 20 (so F70o29 F70c30) .skip)
def F70o33 := [
 o3 4 .mv [.b false]]
def F70c34 : Ac := .ret
def F70c24 : Ac := (cd 17 (so F70o26 F70c27) (so F70o33 F70c34))
def F70c14 : Ac := (cd 13 (so F70o16 F70c17) (so F70o23 F70c24))
def F70c10 : Ac := (cd 11 .skip (so F70o13 F70c14))
def F70c7 : Ac := (.block 0 (so F70o9 F70c10))
def F70o36 := [
 o3 21 (.faddr 2) [.t 2],
 o3 22 (.load none) [.t 21],
 o3 23 (.bin .geq) [.t 22, .i 0],
 om 24 23,
 og 25 (.faddr 2) [.t 2] 24 true,
 og 26 (.load none) [.t 25] 24 true,
 og 27 (.bin .leq) [.t 26, .i 4] 24 true,
 o3 28 .pick [.t 24, .t 27, .b false],
 om 4 28]
def F70c37 : Ac := .ret
def F70c35 : Ac := (so F70o36 F70c37)
def F70c4 : Ac := (.seq (so F70o6 F70c7) F70c35)
def F70c2 : Ac := (so F70o3 F70c4)
def F70c0 : Ac := (so F70o1 F70c2)
/-- hansom/inst.prefixes -/
def F70 : Fn := { np := 2, pb := [], rs := [.t 4], body := F70c0 }
def F73o1 := [
 o3 6 (.alloc [.d (.int .i64 0), .d (.int .i64 0), .d (.int .i64 0), .d (.bool false)]) [],
 o3 7 .mv [.b false]]
def F73o3 := [
 om 8 0,
 om 9 1,
 om 10 2,
 o3 11 (.build [.d (.int .i64 0), .d (.int .i64 0), .d (.int .i64 0), .d (.bool false)] [(0, 1), (1, 1), (2, 1), (3, 1)]) [.t 8, .t 9, .t 10, .b true],
 o0 (.store 4) [.t 6, .t 11],
 o3 7 .mv [.b true]]
def F73c4 : Ac := .ret
def F73c2 : Ac := (so F73o3 F73c4)
def F73c0 : Ac := (so F73o1 F73c2)
/-- hansom/isa.mod -/
def F73 : Fn := { np := 3, pb := [], rs := [.c 6 (some 4), .t 7], body := F73c0 }
def F74o1 := [
 o3 2 .mv [.b false]]
def F74o3 := [
 om 3 0,
 o3 4 (.callf 79) [.t 3],
 o3 5 (.callf 78) [.t 4],
 om 6 0,
 o3 7 (.bin .eql) [.t 5, .t 6],
 om 2 7]
def F74c4 : Ac := .ret
def F74c2 : Ac := (so F74o3 F74c4)
def F74c0 : Ac := (so F74o1 F74c2)
/-- hansom/bits.Fits -/
def F74 : Fn := { np := 1, pb := [], rs := [.t 2], body := F74c0 }
def F75o1 := [
 o3 2 .mv [.b false]]
def F75o3 := [
 om 3 0,
 o3 4 (.bin .eql) [.t 3, .i 1],
 om 5 4,
 og 6 .mv [.t 0] 5 false,
 og 7 (.bin .eql) [.t 6, .i 2] 5 false,
 o3 8 .pick [.t 5, .b true, .t 7],
 om 9 8,
 og 10 .mv [.t 0] 9 false,
 og 11 (.bin .eql) [.t 10, .i 19] 9 false,
 o3 12 .pick [.t 9, .b true, .t 11],
 om 13 12,
 og 14 .mv [.t 0] 13 false,
 og 15 (.bin .eql) [.t 14, .i 20] 13 false,
 o3 16 .pick [.t 13, .b true, .t 15],
 om 2 16]
def F75c4 : Ac := .ret
def F75c2 : Ac := (so F75o3 F75c4)
def F75c0 : Ac := (so F75o1 F75c2)
/-- hansom/isa.Memory -/
def F75 : Fn := { np := 1, pb := [], rs := [.t 2], body := F75c0 }
def F76o1 := [
 o3 2 .mv [.i 0]]
def F76o4 := [
 om 3 0]
def F76o8 := [
 o3 5 (.bin .eql) [.t 3, .i 46],
 om 4 5]
def F76o12 := [
 o3 6 (.bin .eql) [.t 3, .i 47],
 om 4 6]
def F76o16 := [
 o3 7 (.bin .eql) [.t 3, .i 50],
 om 4 7]
def F76o20 := [
 o3 8 (.bin .eql) [.t 3, .i 51],
 om 4 8]
def F76o24 := [
 o3 9 (.bin .eql) [.t 3, .i 52],
 om 4 9]
def F76o27 := [
 o3 10 (.bin .eql) [.t 3, .i 53],
 om 4 10]
def F76c25 : Ac := (cd 4 .skip (.ops F76o27))
def F76c21 : Ac := (cd 4 .skip (so F76o24 F76c25))
def F76c17 : Ac := (cd 4 .skip (so F76o20 F76c21))
def F76c13 : Ac := (cd 4 .skip (so F76o16 F76c17))
def F76c9 : Ac := (cd 4 .skip (so F76o12 F76c13))
def F76o30 := [
 o3 2 .mv [.i 1]]
def F76c31 : Ac := .ret
def F76o34 := [
 o3 12 (.bin .eql) [.t 3, .i 48],
 om 11 12]
def F76o38 := [
 o3 13 (.bin .eql) [.t 3, .i 49],
 om 11 13]
def F76o42 := [
 o3 14 (.bin .eql) [.t 3, .i 54],
 om 11 14]
def F76o45 := [
 o3 15 (.bin .eql) [.t 3, .i 55],
 om 11 15]
def F76c43 : Ac := (cd 11 .skip (.ops F76o45))
def F76c39 : Ac := (cd 11 .skip (so F76o42 F76c43))
def F76c35 : Ac := (cd 11 .skip (so F76o38 F76c39))
def F76o48 := [
 o3 2 .mv [.i 2]]
def F76c49 : Ac := .ret
def F76c46 : Ac := (cd 11 (so F76o48 F76c49) .skip)
def F76b28 : Ac := (cd 4 (so F76o30 F76c31) (.seq (so F76o34 F76c35) F76c46))
def F76c28 : Ac := (.seq (.gh []) (.seq (.keep [3, 4] []) F76b28))
def F76c5 : Ac := (.block 0 (.seq (so F76o8 F76c9) F76c28))
def F76o52 := [
 o3 2 .mv [.i 0]]
def F76c53 : Ac := .ret
def F76c51 : Ac := (so F76o52 F76c53)
def F76c2 : Ac := (.seq (so F76o4 F76c5) F76c51)
def F76c0 : Ac := (so F76o1 F76c2)
/-- hansom/isa.Repeats -/
def F76 : Fn := { np := 1, pb := [], rs := [.t 2], body := F76c0 }
def F78o1 := [
 o3 2 .mv [.w 0]]
def F78o3 := [
 om 3 0,
 o3 4 (.toInt .i8) [.t 3],
 o3 5 (.toInt .i16) [.t 4],
 o3 6 (.toInt .u16) [.t 5],
 om 2 6]
def F78c4 : Ac := .ret
def F78c2 : Ac := (so F78o3 F78c4)
def F78c0 : Ac := (so F78o1 F78c2)
/-- hansom/bits.Sign -/
def F78 : Fn := { np := 1, pb := [], rs := [.t 2], body := F78c0 }
def F79o1 := [
 o3 2 .mv [.y 0]]
def F79o3 := [
 om 3 0,
 o3 4 (.toInt .u8) [.t 3],
 om 2 4]
def F79c4 : Ac := .ret
def F79c2 : Ac := (so F79o3 F79c4)
def F79c0 : Ac := (so F79o1 F79c2)
/-- hansom/bits.Low -/
def F79 : Fn := { np := 1, pb := [], rs := [.t 2], body := F79c0 }
/-- What stands in the package-level variables, as tables of numbers. -/
def mg1 : Mm := fun b o => match b with
  | 0 => (([0, 0, 0, 0, 0, 0, 0, 0, 0, 1, 1, 1, 1, 1, 0, 0, 0, 0, 0, 0, 0, 0, 0, 0, 0, 0, 0, 0, 0, 0, 0, 0, 1, 0, 0, 0, 0, 0, 0, 0, 0, 0, 0, 0, 0, 0, 0, 0, 0, 0, 0, 0, 0, 0, 0, 0, 0, 0, 0, 0, 0, 0, 0, 0, 0, 0, 0, 0, 0, 0, 0, 0, 0, 0, 0, 0, 0, 0, 0, 0, 0, 0, 0, 0, 0, 0, 0, 0, 0, 0, 0, 0, 0, 0, 0, 0, 0, 0, 0, 0, 0, 0, 0, 0, 0, 0, 0, 0, 0, 0, 0, 0, 0, 0, 0, 0, 0, 0, 0, 0, 0, 0, 0, 0, 0, 0, 0, 0, 0, 0, 0, 0, 0, 0, 0, 0, 0, 0, 0, 0, 0, 0, 0, 0, 0, 0, 0, 0, 0, 0, 0, 0, 0, 0, 0, 0, 0, 0, 0, 0, 0, 0, 0, 0, 0, 0, 0, 0, 0, 0, 0, 0, 0, 0, 0, 0, 0, 0, 0, 0, 0, 0, 0, 0, 0, 0, 0, 0, 0, 0, 0, 0, 0, 0, 0, 0, 0, 0, 0, 0, 0, 0, 0, 0, 0, 0, 0, 0, 0, 0, 0, 0, 0, 0, 0, 0, 0, 0, 0, 0, 0, 0, 0, 0, 0, 0, 0, 0, 0, 0, 0, 0, 0, 0, 0, 0, 0, 0, 0, 0, 0, 0, 0, 0, 0, 0, 0, 0, 0, 0, 0, 0, 0, 0, 0, 0] : List Int)[o]?).map (Value.int .u8)
  | _ => none
def G1 : Nat → Option A
  | 0 => some (.elt (.agg [.int .u8 0, .int .u8 0, .int .u8 0, .int .u8 0, .int .u8 0, .int .u8 0, .int .u8 0, .int .u8 0, .int .u8 0, .int .u8 1, .int .u8 1, .int .u8 1, .int .u8 1, .int .u8 1, .int .u8 0, .int .u8 0, .int .u8 0, .int .u8 0, .int .u8 0, .int .u8 0, .int .u8 0, .int .u8 0, .int .u8 0, .int .u8 0, .int .u8 0, .int .u8 0, .int .u8 0, .int .u8 0, .int .u8 0, .int .u8 0, .int .u8 0, .int .u8 0, .int .u8 1, .int .u8 0, .int .u8 0, .int .u8 0, .int .u8 0, .int .u8 0, .int .u8 0, .int .u8 0, .int .u8 0, .int .u8 0, .int .u8 0, .int .u8 0, .int .u8 0, .int .u8 0, .int .u8 0, .int .u8 0, .int .u8 0, .int .u8 0, .int .u8 0, .int .u8 0, .int .u8 0, .int .u8 0, .int .u8 0, .int .u8 0, .int .u8 0, .int .u8 0, .int .u8 0, .int .u8 0, .int .u8 0, .int .u8 0, .int .u8 0, .int .u8 0, .int .u8 0, .int .u8 0, .int .u8 0, .int .u8 0, .int .u8 0, .int .u8 0, .int .u8 0, .int .u8 0, .int .u8 0, .int .u8 0, .int .u8 0, .int .u8 0, .int .u8 0, .int .u8 0, .int .u8 0, .int .u8 0, .int .u8 0, .int .u8 0, .int .u8 0, .int .u8 0, .int .u8 0, .int .u8 0, .int .u8 0, .int .u8 0, .int .u8 0, .int .u8 0, .int .u8 0, .int .u8 0, .int .u8 0, .int .u8 0, .int .u8 0, .int .u8 0, .int .u8 0, .int .u8 0, .int .u8 0, .int .u8 0, .int .u8 0, .int .u8 0, .int .u8 0, .int .u8 0, .int .u8 0, .int .u8 0, .int .u8 0, .int .u8 0, .int .u8 0, .int .u8 0, .int .u8 0, .int .u8 0, .int .u8 0, .int .u8 0, .int .u8 0, .int .u8 0, .int .u8 0, .int .u8 0, .int .u8 0, .int .u8 0, .int .u8 0, .int .u8 0, .int .u8 0, .int .u8 0, .int .u8 0, .int .u8 0, .int .u8 0, .int .u8 0, .int .u8 0, .int .u8 0, .int .u8 0, .int .u8 0, .int .u8 0, .int .u8 0, .int .u8 0, .int .u8 0, .int .u8 0, .int .u8 0, .int .u8 0, .int .u8 0, .int .u8 0, .int .u8 0, .int .u8 0, .int .u8 0, .int .u8 0, .int .u8 0, .int .u8 0, .int .u8 0, .int .u8 0, .int .u8 0, .int .u8 0, .int .u8 0, .int .u8 0, .int .u8 0, .int .u8 0, .int .u8 0, .int .u8 0, .int .u8 0, .int .u8 0, .int .u8 0, .int .u8 0, .int .u8 0, .int .u8 0, .int .u8 0, .int .u8 0, .int .u8 0, .int .u8 0, .int .u8 0, .int .u8 0, .int .u8 0, .int .u8 0, .int .u8 0, .int .u8 0, .int .u8 0, .int .u8 0, .int .u8 0, .int .u8 0, .int .u8 0, .int .u8 0, .int .u8 0, .int .u8 0, .int .u8 0, .int .u8 0, .int .u8 0, .int .u8 0, .int .u8 0, .int .u8 0, .int .u8 0, .int .u8 0, .int .u8 0, .int .u8 0, .int .u8 0, .int .u8 0, .int .u8 0, .int .u8 0, .int .u8 0, .int .u8 0, .int .u8 0, .int .u8 0, .int .u8 0, .int .u8 0, .int .u8 0, .int .u8 0, .int .u8 0, .int .u8 0, .int .u8 0, .int .u8 0, .int .u8 0, .int .u8 0, .int .u8 0, .int .u8 0, .int .u8 0, .int .u8 0, .int .u8 0, .int .u8 0, .int .u8 0, .int .u8 0, .int .u8 0, .int .u8 0, .int .u8 0, .int .u8 0, .int .u8 0, .int .u8 0, .int .u8 0, .int .u8 0, .int .u8 0, .int .u8 0, .int .u8 0, .int .u8 0, .int .u8 0, .int .u8 0, .int .u8 0, .int .u8 0, .int .u8 0, .int .u8 0, .int .u8 0, .int .u8 0, .int .u8 0, .int .u8 0, .int .u8 0, .int .u8 0, .int .u8 0, .int .u8 0, .int .u8 0, .int .u8 0, .int .u8 0, .int .u8 0, .int .u8 0, .int .u8 0, .int .u8 0, .int .u8 0, .int .u8 0, .int .u8 0, .int .u8 0, .int .u8 0, .int .u8 0]) 0)
  | _ => none
theorem globals_ok : GOk mg1 G1 := by
  intro n a h g bx hle
  unfold G1 at h
  split at h
  · cases h
    exact tab_elt (l := [0, 0, 0, 0, 0, 0, 0, 0, 0, 1, 1, 1, 1, 1, 0, 0, 0, 0, 0, 0, 0, 0, 0, 0, 0, 0, 0, 0, 0, 0, 0, 0, 1, 0, 0, 0, 0, 0, 0, 0, 0, 0, 0, 0, 0, 0, 0, 0, 0, 0, 0, 0, 0, 0, 0, 0, 0, 0, 0, 0, 0, 0, 0, 0, 0, 0, 0, 0, 0, 0, 0, 0, 0, 0, 0, 0, 0, 0, 0, 0, 0, 0, 0, 0, 0, 0, 0, 0, 0, 0, 0, 0, 0, 0, 0, 0, 0, 0, 0, 0, 0, 0, 0, 0, 0, 0, 0, 0, 0, 0, 0, 0, 0, 0, 0, 0, 0, 0, 0, 0, 0, 0, 0, 0, 0, 0, 0, 0, 0, 0, 0, 0, 0, 0, 0, 0, 0, 0, 0, 0, 0, 0, 0, 0, 0, 0, 0, 0, 0, 0, 0, 0, 0, 0, 0, 0, 0, 0, 0, 0, 0, 0, 0, 0, 0, 0, 0, 0, 0, 0, 0, 0, 0, 0, 0, 0, 0, 0, 0, 0, 0, 0, 0, 0, 0, 0, 0, 0, 0, 0, 0, 0, 0, 0, 0, 0, 0, 0, 0, 0, 0, 0, 0, 0, 0, 0, 0, 0, 0, 0, 0, 0, 0, 0, 0, 0, 0, 0, 0, 0, 0, 0, 0, 0, 0, 0, 0, 0, 0, 0, 0, 0, 0, 0, 0, 0, 0, 0, 0, 0, 0, 0, 0, 0, 0, 0, 0, 0, 0, 0, 0, 0, 0, 0, 0, 0]) (k := .u8) (fun j hj => hle 0 j _ (by simp only [mg1]; rw [List.getElem?_eq_getElem hj]; rfl))
  · cases h
def hints : Nat → Nat → Hint
  | _, _ => []
def keepf : Nat → Keeps
  | 40, 5 => some ([0, 3, 4, 5, 6], [[39], [41]])
  | 40, 18 => some ([0, 9, 10, 12], [[39], [41]])
  | 40, 21 => some ([0, 9, 10, 11, 12], [[39], [41]])
  | 40, 27 => some ([0, 9, 10, 12], [[39], [41]])
  | 71, 4 => some ([0, 1, 5, 6, 14], [[11], [12], [28], [29], [42], [43], [46]])
  | 71, 16 => some ([0, 1, 9, 47, 48, 49], [[11], [12], [28], [29], [42], [43], [46]])
  | 80, 3 => some ([0, 1, 19, 20], [])
  | 80, 14 => some ([0, 1, 7, 8], [])
  | 81, 3 => some ([0, 1, 15, 16], [[10]])
  | 81, 14 => some ([0, 1, 7, 8], [[10]])
  | _, _ => none
def spf : Nat → Bool := fun n => [1000005, 1000009, 1000010, 1000012, 1000013, 1000016, 1000017, 1000025, 1000026, 1000027, 1000028, 1000029, 1000030, 1000031, 1000032, 1000034, 1000035, 1000036, 1000037, 1000046, 1000047, 1000048, 1000049, 1000050, 1000051, 1000052, 1000053, 1000054, 1000055, 1000056, 1000057, 1000058, 1000059, 1000060, 1000061, 1000062, 1000063, 1000064, 1000065, 1000066, 1000067, 1000068, 1000069, 1000070, 1000073, 1000074, 1000075, 1000076, 1000078, 1000079].contains n
noncomputable def tab1 : Nat → Option Fn
  | 5 => some F5
  | 9 => some F9
  | 10 => some F10
  | 12 => some F12
  | 13 => some F13
  | 16 => some F16
  | 17 => some F17
  | 25 => some F25
  | 26 => some F26
  | 27 => some F27
  | 28 => some F28
  | 29 => some F29
  | 30 => some F30
  | 31 => some F31
  | 32 => some F32
  | 34 => some F34
  | 35 => some F35
  | 36 => some F36
  | 37 => some F37
  | 46 => some F46
  | 47 => some F47
  | 48 => some F48
  | 49 => some F49
  | 50 => some F50
  | 51 => some F51
  | 52 => some F52
  | 53 => some F53
  | 54 => some F54
  | 55 => some F55
  | 56 => some F56
  | 57 => some F57
  | 58 => some F58
  | 59 => some F59
  | 60 => some F60
  | 61 => some F61
  | 62 => some F62
  | 63 => some F63
  | 64 => some F64
  | 65 => some F65
  | 66 => some F66
  | 67 => some F67
  | 68 => some F68
  | 69 => some F69
  | 70 => some F70
  | 73 => some F73
  | 74 => some F74
  | 75 => some F75
  | 76 => some F76
  | 78 => some F78
  | 79 => some F79
  | n => autoK Tryd.prog G1 spf hints keepf n
noncomputable def L : Cs := lim tab1 (fun _ _ => none)

theorem ok5 : FnOk mg1 Tryd.prog 5 F5 := compF_spec globals_ok Tryd.func5 (by kernel_rfl)
theorem ok9 : FnOk mg1 Tryd.prog 9 F9 := compF_spec globals_ok Tryd.func9 (by kernel_rfl)
theorem ok10 : FnOk mg1 Tryd.prog 10 F10 := compF_spec globals_ok Tryd.func10 (by kernel_rfl)
theorem ok12 : FnOk mg1 Tryd.prog 12 F12 := compF_spec globals_ok Tryd.func12 (by kernel_rfl)
theorem ok13 : FnOk mg1 Tryd.prog 13 F13 := compF_spec globals_ok Tryd.func13 (by kernel_rfl)
theorem ok16 : FnOk mg1 Tryd.prog 16 F16 := compF_spec globals_ok Tryd.func16 (by kernel_rfl)
theorem ok17 : FnOk mg1 Tryd.prog 17 F17 := compF_spec globals_ok Tryd.func17 (by kernel_rfl)
theorem ok25 : FnOk mg1 Tryd.prog 25 F25 := compF_spec globals_ok Tryd.func25 (by kernel_rfl)
theorem ok26 : FnOk mg1 Tryd.prog 26 F26 := compF_spec globals_ok Tryd.func26 (by kernel_rfl)
theorem ok27 : FnOk mg1 Tryd.prog 27 F27 := compF_spec globals_ok Tryd.func27 (by kernel_rfl)
theorem ok28 : FnOk mg1 Tryd.prog 28 F28 := compF_spec globals_ok Tryd.func28 (by kernel_rfl)
theorem ok29 : FnOk mg1 Tryd.prog 29 F29 := compF_spec globals_ok Tryd.func29 (by kernel_rfl)
theorem ok30 : FnOk mg1 Tryd.prog 30 F30 := compF_spec globals_ok Tryd.func30 (by kernel_rfl)
theorem ok31 : FnOk mg1 Tryd.prog 31 F31 := compF_spec globals_ok Tryd.func31 (by kernel_rfl)
theorem ok32 : FnOk mg1 Tryd.prog 32 F32 := compF_spec globals_ok Tryd.func32 (by kernel_rfl)
theorem ok34 : FnOk mg1 Tryd.prog 34 F34 := compF_spec globals_ok Tryd.func34 (by kernel_rfl)
theorem ok35 : FnOk mg1 Tryd.prog 35 F35 := compF_spec globals_ok Tryd.func35 (by kernel_rfl)
theorem ok36 : FnOk mg1 Tryd.prog 36 F36 := compF_spec globals_ok Tryd.func36 (by kernel_rfl)
theorem ok37 : FnOk mg1 Tryd.prog 37 F37 := compF_spec globals_ok Tryd.func37 (by kernel_rfl)
theorem ok46 : FnOk mg1 Tryd.prog 46 F46 := compF_spec globals_ok Tryd.func46 (by kernel_rfl)
theorem ok47 : FnOk mg1 Tryd.prog 47 F47 := compF_spec globals_ok Tryd.func47 (by kernel_rfl)
theorem ok48 : FnOk mg1 Tryd.prog 48 F48 := compF_spec globals_ok Tryd.func48 (by kernel_rfl)
theorem ok49 : FnOk mg1 Tryd.prog 49 F49 := compF_spec globals_ok Tryd.func49 (by kernel_rfl)
theorem ok50 : FnOk mg1 Tryd.prog 50 F50 := compF_spec globals_ok Tryd.func50 (by kernel_rfl)
theorem ok51 : FnOk mg1 Tryd.prog 51 F51 := compF_spec globals_ok Tryd.func51 (by kernel_rfl)
theorem ok52 : FnOk mg1 Tryd.prog 52 F52 := compF_spec globals_ok Tryd.func52 (by kernel_rfl)
theorem ok53 : FnOk mg1 Tryd.prog 53 F53 := compF_spec globals_ok Tryd.func53 (by kernel_rfl)
theorem ok54 : FnOk mg1 Tryd.prog 54 F54 := compF_spec globals_ok Tryd.func54 (by kernel_rfl)
theorem ok55 : FnOk mg1 Tryd.prog 55 F55 := compF_spec globals_ok Tryd.func55 (by kernel_rfl)
theorem ok56 : FnOk mg1 Tryd.prog 56 F56 := compF_spec globals_ok Tryd.func56 (by kernel_rfl)
theorem ok57 : FnOk mg1 Tryd.prog 57 F57 := compF_spec globals_ok Tryd.func57 (by kernel_rfl)
theorem ok58 : FnOk mg1 Tryd.prog 58 F58 := compF_spec globals_ok Tryd.func58 (by kernel_rfl)
theorem ok59 : FnOk mg1 Tryd.prog 59 F59 := compF_spec globals_ok Tryd.func59 (by kernel_rfl)
theorem ok60 : FnOk mg1 Tryd.prog 60 F60 := compF_spec globals_ok Tryd.func60 (by kernel_rfl)
theorem ok61 : FnOk mg1 Tryd.prog 61 F61 := compF_spec globals_ok Tryd.func61 (by kernel_rfl)
theorem ok62 : FnOk mg1 Tryd.prog 62 F62 := compF_spec globals_ok Tryd.func62 (by kernel_rfl)
theorem ok63 : FnOk mg1 Tryd.prog 63 F63 := compF_spec globals_ok Tryd.func63 (by kernel_rfl)
theorem ok64 : FnOk mg1 Tryd.prog 64 F64 := compF_spec globals_ok Tryd.func64 (by kernel_rfl)
theorem ok65 : FnOk mg1 Tryd.prog 65 F65 := compF_spec globals_ok Tryd.func65 (by kernel_rfl)
theorem ok66 : FnOk mg1 Tryd.prog 66 F66 := compF_spec globals_ok Tryd.func66 (by kernel_rfl)
theorem ok67 : FnOk mg1 Tryd.prog 67 F67 := compF_spec globals_ok Tryd.func67 (by kernel_rfl)
theorem ok68 : FnOk mg1 Tryd.prog 68 F68 := compF_spec globals_ok Tryd.func68 (by kernel_rfl)
theorem ok69 : FnOk mg1 Tryd.prog 69 F69 := compF_spec globals_ok Tryd.func69 (by kernel_rfl)
theorem ok70 : FnOk mg1 Tryd.prog 70 F70 := compF_spec globals_ok Tryd.func70 (by kernel_rfl)
theorem ok73 : FnOk mg1 Tryd.prog 73 F73 := compF_spec globals_ok Tryd.func73 (by kernel_rfl)
theorem ok74 : FnOk mg1 Tryd.prog 74 F74 := compF_spec globals_ok Tryd.func74 (by kernel_rfl)
theorem ok75 : FnOk mg1 Tryd.prog 75 F75 := compF_spec globals_ok Tryd.func75 (by kernel_rfl)
theorem ok76 : FnOk mg1 Tryd.prog 76 F76 := compF_spec globals_ok Tryd.func76 (by kernel_rfl)
theorem ok78 : FnOk mg1 Tryd.prog 78 F78 := compF_spec globals_ok Tryd.func78 (by kernel_rfl)
theorem ok79 : FnOk mg1 Tryd.prog 79 F79 := compF_spec globals_ok Tryd.func79 (by kernel_rfl)
theorem tab1_ok : ∀ f fn, tab1 f = some fn → FnOk mg1 Tryd.prog f fn := by
  intro f fn h
  unfold tab1 at h
  split at h
  · cases h; exact ok5
  · cases h; exact ok9
  · cases h; exact ok10
  · cases h; exact ok12
  · cases h; exact ok13
  · cases h; exact ok16
  · cases h; exact ok17
  · cases h; exact ok25
  · cases h; exact ok26
  · cases h; exact ok27
  · cases h; exact ok28
  · cases h; exact ok29
  · cases h; exact ok30
  · cases h; exact ok31
  · cases h; exact ok32
  · cases h; exact ok34
  · cases h; exact ok35
  · cases h; exact ok36
  · cases h; exact ok37
  · cases h; exact ok46
  · cases h; exact ok47
  · cases h; exact ok48
  · cases h; exact ok49
  · cases h; exact ok50
  · cases h; exact ok51
  · cases h; exact ok52
  · cases h; exact ok53
  · cases h; exact ok54
  · cases h; exact ok55
  · cases h; exact ok56
  · cases h; exact ok57
  · cases h; exact ok58
  · cases h; exact ok59
  · cases h; exact ok60
  · cases h; exact ok61
  · cases h; exact ok62
  · cases h; exact ok63
  · cases h; exact ok64
  · cases h; exact ok65
  · cases h; exact ok66
  · cases h; exact ok67
  · cases h; exact ok68
  · cases h; exact ok69
  · cases h; exact ok70
  · cases h; exact ok73
  · cases h; exact ok74
  · cases h; exact ok75
  · cases h; exact ok76
  · cases h; exact ok78
  · cases h; exact ok79
  · exact autoK_spec globals_ok h
theorem meets1 (f : Nat) : Meets mg1 Tryd.prog f (L f) := lim_meets tab1_ok (fun f _ m w args vs bs _ _ _ _ _ r a h => by cases h) f

end Go.Es.Pkj
