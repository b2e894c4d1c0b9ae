/- The code of the functions that the statement MzBack, MzOrder reaches, as the interpreter reads it. No condition. -/
import Derived.Test.YtikbjljifgadmaaEsD
import Derived.Test.YtikbjljifgadmaaChecked
import Derived.KernelRfl
set_option linter.unusedVariables false
set_option linter.unusedSimpArgs false
set_option maxRecDepth 100000
set_option maxHeartbeats 4000000
namespace Go.Es.Mzb
open Go.Proofs
def F6o1 := [
 o3 2 (.box 7) [.t 0],
 o3 4 .mv [.b false]]
def F6o3 := [
 o3 13 (.load (some 7)) [.t 2],
 o3 14 (.callf 29) [.t 13],
 o3 5 (.alloc [.nils, .nils, .d (.int .u16 0), .d (.int .u16 0), .d (.int .u16 0), .d (.int .u16 0), .d (.int .i64 0)]) [],
 o0 (.store 7) [.t 5, .t 14]]
def F6o5 := [
 o3 15 (.load (some 7)) [.t 5],
 o3 16 (.callf 30) [.t 15],
 om 6 16]
def F6o7 := [
 o3 18 (.load (some 7)) [.t 5],
 o3 19 (.callf 31) [.t 18],
 om 17 19,
 oe 20 0 17,
 oe 21 1 17,
 om 7 20,
 om 8 21]
def F6o9 := [
 om 23 6,
 om 24 1,
 om 25 1,
 o3 26 .lenS [.t 25],
 o3 27 .mn [.t 26, .i 20],
 o3 28 (.substr false true) [.t 24, .t 27],
 o3 29 (.bin .add) [.t 23, .t 28],
 o3 30 .strBytes [.t 29],
 o3 31 (.callf 32) [.t 30],
 om 22 31,
 oe 32 0 22,
 oe 33 1 22,
 o3 9 (.alloc [.nils, .nils, .d (.int .u16 0), .d (.int .u16 0), .d (.int .u16 0), .d (.int .u16 0), .d (.int .i64 0)]) [],
 o0 (.store 7) [.t 9, .t 32],
 om 10 33]
def F6o11 := [
 om 35 6,
 om 36 6,
 o3 37 .lenS [.t 36],
 o3 38 (.bin .sub) [.t 37, .i 1],
 o3 39 (.substr false true) [.t 35, .t 38],
 o3 40 .strBytes [.t 39],
 o3 41 (.callf 32) [.t 40],
 om 34 41,
 oe 42 0 34,
 oe 43 1 34,
 o3 11 (.alloc [.nils, .nils, .d (.int .u16 0), .d (.int .u16 0), .d (.int .u16 0), .d (.int .u16 0), .d (.int .i64 0)]) [],
 o0 (.store 7) [.t 11, .t 42],
 om 12 43]
def F6o13 := [
 o3 44 (.callf 33) [],
 om 45 44,
 og 46 (.load (some 7)) [.t 5] 45 true,
 og 47 (.callf 34) [.t 46] 45 true,
 o3 48 .pick [.t 45, .t 47, .b false],
 om 49 48,
 og 50 .mv [.t 8] 49 true,
 og 51 (.bin .eql) [.t 50, .i 0] 49 true,
 o3 52 .pick [.t 49, .t 51, .b false],
 om 53 52,
 og 54 .mv [.t 7] 53 true,
 og 55 .bytesStr [.t 54] 53 true,
 og 56 .mv [.t 6] 53 true,
 og 57 (.bin .eql) [.t 55, .t 56] 53 true,
 o3 58 .pick [.t 53, .t 57, .b false],
 om 59 58,
 og 60 .mv [.t 10] 59 true,
 og 61 (.bin .eql) [.t 60, .i 0] 59 true,
 o3 62 .pick [.t 59, .t 61, .b false],
 om 63 62,
 og 64 (.load (some 7)) [.t 5] 63 true,
 og 65 (.load (some 7)) [.t 9] 63 true,
 og 66 (.callf 35) [.t 64, .t 65] 63 true,
 o3 67 .pick [.t 63, .t 66, .b false],
 om 68 67,
 og 69 .mv [.t 12] 68 true,
 og 70 (.bin .eql) [.t 69, .i 2] 68 true,
 o3 71 .pick [.t 68, .t 70, .b false],
 om 4 71]
def F6c14 : Ac := .ret
def F6c12 : Ac := (so F6o13 F6c14)
def F6c10 : Ac := (so F6o11 F6c12)
def F6c8 : Ac := (so F6o9 F6c10)
def F6c6 : Ac := (so F6o7 F6c8)
def F6c4 : Ac := (so F6o5 F6c6)
def F6c2 : Ac := (so F6o3 F6c4)
def F6c0 : Ac := (so F6o1 F6c2)
/-- hansom/hansomlaw44.MzBack -/
def F6 : Fn := { np := 2, pb := [], rs := [.t 4], body := F6c0 }
def F9o1 := [
 o3 3 (.box 7) [.t 0],
 o3 6 .mv [.b false]]
def F9o3 := [
 o3 18 (.load (some 7)) [.t 3],
 o3 19 (.callf 29) [.t 18],
 o3 7 (.alloc [.nils, .nils, .d (.int .u16 0), .d (.int .u16 0), .d (.int .u16 0), .d (.int .u16 0), .d (.int .i64 0)]) [],
 o0 (.store 7) [.t 7, .t 19]]
def F9o5 := [
 o3 20 (.faddr 1) [.t 7],
 o3 21 (.load none) [.t 20],
 o3 22 .lenL [.t 21],
 om 8 22]
def F9o8 := [
 om 23 8,
 o3 24 (.bin .lss) [.t 23, .i 2]]
def F9o11 := [
 o3 25 (.callf 33) [],
 om 6 25]
def F9c12 : Ac := .ret
def F9c9 : Ac := (cd 24 (so F9o11 F9c12) .skip)
def F9o15 := [
 o3 26 (.load (some 7)) [.t 7],
 o3 27 (.callf 30) [.t 26],
 o3 28 .strBytes [.t 27],
 om 9 28]
def F9o17 := [
 om 29 1,
 o3 30 (.bin .and) [.t 29, .i 255],
 om 31 8,
 o3 32 (.bin .rem) [.t 30, .t 31],
 o3 33 (.bin .mul) [.i 4, .t 32],
 o3 34 (.bin .add) [.i 28, .t 33],
 om 35 1,
 o3 36 (.bin .shr) [.t 35, .c (.d (.int .u64 8))],
 o3 37 (.bin .and) [.t 36, .i 255],
 om 38 8,
 o3 39 (.bin .rem) [.t 37, .t 38],
 o3 40 (.bin .mul) [.i 4, .t 39],
 o3 41 (.bin .add) [.i 28, .t 40],
 om 10 34,
 om 11 41]
def F9o20 := [
 o3 12 .mv [.i 0]]
def F9o25 := [
 om 42 12,
 o3 43 (.bin .lss) [.t 42, .i 4]]
def F9c26 : Ac := (cd 43 .skip (.exit 0))
def F9o31 := [
 om 46 9,
 om 47 10,
 om 48 12,
 o3 49 (.bin .add) [.t 47, .t 48],
 om 50 9,
 om 51 11,
 om 52 12,
 o3 53 (.bin .add) [.t 51, .t 52],
 om 54 9,
 om 55 11,
 om 56 12,
 o3 57 (.bin .add) [.t 55, .t 56],
 o3 58 (.iaddrS 1) [.t 54, .t 57],
 o3 59 (.load none) [.t 58],
 om 60 9,
 om 61 10,
 om 62 12,
 o3 63 (.bin .add) [.t 61, .t 62],
 o3 64 (.iaddrS 1) [.t 60, .t 63],
 o3 65 (.load none) [.t 64],
 o3 66 (.iaddrS 1) [.t 46, .t 49],
 o0 (.store 1) [.t 66, .t 59],
 o3 67 (.iaddrS 1) [.t 50, .t 53],
 o0 (.store 1) [.t 67, .t 65]]
def F9o32 := [
 om 44 12,
 o3 45 (.bin .add) [.t 44, .i 1],
 om 12 45]
def F9c32 : Ac := (.ops F9o32)
def F9c29 : Ac := (.seq (.block 1 (.ops F9o31)) F9c32)
def F9l22 : Ac := (.seq (so F9o25 F9c26) F9c29)
def F9c21 : Ac := (.block 0 (.loop (.seq (.gh []) (.seq (.keep [2, 7, 9, 10, 11, 12] [[7], [28]]) F9l22))))
def F9o34 := [
 om 68 9,
 om 69 10,
 o3 70 (.bin .add) [.t 69, .i 2],
 o3 71 (.iaddrS 1) [.t 68, .t 70],
 o3 72 (.load none) [.t 71],
 o3 73 (.toInt .i64) [.t 72],
 om 74 9,
 om 75 10,
 o3 76 (.bin .add) [.t 75, .i 3],
 o3 77 (.iaddrS 1) [.t 74, .t 76],
 o3 78 (.load none) [.t 77],
 o3 79 (.toInt .i64) [.t 78],
 o3 80 (.bin .mul) [.i 256, .t 79],
 o3 81 (.bin .add) [.t 73, .t 80],
 om 13 81]
def F9o36 := [
 om 82 9,
 om 83 10,
 o3 84 (.iaddrS 1) [.t 82, .t 83],
 o3 85 (.load none) [.t 84],
 o3 86 (.toInt .i64) [.t 85],
 om 87 9,
 om 88 10,
 o3 89 (.bin .add) [.t 88, .i 1],
 o3 90 (.iaddrS 1) [.t 87, .t 89],
 o3 91 (.load none) [.t 90],
 o3 92 (.toInt .i64) [.t 91],
 o3 93 (.bin .mul) [.i 256, .t 92],
 o3 94 (.bin .add) [.t 86, .t 93],
 om 14 94]
def F9o38 := [
 om 95 2,
 o3 96 (.bin .and) [.t 95, .i 255],
 om 97 13,
 o3 98 (.bin .add) [.t 97, .i 1],
 o3 99 (.bin .rem) [.t 96, .t 98],
 om 15 99]
def F9o40 := [
 om 100 13,
 om 101 15,
 o3 102 (.bin .sub) [.t 100, .t 101],
 om 13 102]
def F9o42 := [
 om 103 14,
 om 104 15,
 o3 105 (.bin .mul) [.i 16, .t 104],
 o3 106 (.bin .add) [.t 103, .t 105],
 om 14 106]
def F9o44 := [
 om 107 9,
 om 108 10,
 om 109 9,
 om 110 10,
 o3 111 (.bin .add) [.t 110, .i 1],
 om 112 9,
 om 113 10,
 o3 114 (.bin .add) [.t 113, .i 2],
 om 115 9,
 om 116 10,
 o3 117 (.bin .add) [.t 116, .i 3],
 om 118 14,
 o3 119 (.toInt .u8) [.t 118],
 om 120 14,
 o3 121 (.bin .shr) [.t 120, .c (.d (.int .u64 8))],
 o3 122 (.toInt .u8) [.t 121],
 om 123 13,
 o3 124 (.toInt .u8) [.t 123],
 om 125 13,
 o3 126 (.bin .shr) [.t 125, .c (.d (.int .u64 8))],
 o3 127 (.toInt .u8) [.t 126],
 o3 128 (.iaddrS 1) [.t 107, .t 108],
 o0 (.store 1) [.t 128, .t 119],
 o3 129 (.iaddrS 1) [.t 109, .t 111],
 o0 (.store 1) [.t 129, .t 122],
 o3 130 (.iaddrS 1) [.t 112, .t 114],
 o0 (.store 1) [.t 130, .t 124],
 o3 131 (.iaddrS 1) [.t 115, .t 117],
 o0 (.store 1) [.t 131, .t 127]]
def F9o46 := [
 om 133 9,
 o3 134 (.callf 32) [.t 133],
 om 132 134,
 oe 135 0 132,
 oe 136 1 132,
 o3 16 (.alloc [.nils, .nils, .d (.int .u16 0), .d (.int .u16 0), .d (.int .u16 0), .d (.int .u16 0), .d (.int .i64 0)]) [],
 o0 (.store 7) [.t 16, .t 135],
 om 17 136]
def F9o48 := [
 o3 137 (.callf 33) [],
 om 138 137,
 og 139 .mv [.t 17] 138 true,
 og 140 (.bin .eql) [.t 139, .i 0] 138 true,
 o3 141 .pick [.t 138, .t 140, .b false],
 om 142 141,
 og 143 (.load (some 7)) [.t 7] 142 true,
 og 144 (.load (some 7)) [.t 16] 142 true,
 og 145 (.callf 35) [.t 143, .t 144] 142 true,
 o3 146 .pick [.t 142, .t 145, .b false],
 om 6 146]
def F9c49 : Ac := .ret
def F9c47 : Ac := (so F9o48 F9c49)
def F9c45 : Ac := (so F9o46 F9c47)
def F9c43 : Ac := (so F9o44 F9c45)
def F9c41 : Ac := (so F9o42 F9c43)
def F9c39 : Ac := (so F9o40 F9c41)
def F9c37 : Ac := (so F9o38 F9c39)
def F9c35 : Ac := (so F9o36 F9c37)
def F9b33 : Ac := (so F9o34 F9c35)
def F9c33 : Ac := (.seq (.gh []) (.seq (.keep [2, 7, 9, 10] [[7], [28]]) F9b33))
def F9c18 : Ac := (.seq (so F9o20 F9c21) F9c33)
def F9c16 : Ac := (so F9o17 F9c18)
def F9c14 : Ac := (so F9o15 F9c16)
def F9c6 : Ac := (.seq (so F9o8 F9c9) F9c14)
def F9c4 : Ac := (so F9o5 F9c6)
def F9c2 : Ac := (so F9o3 F9c4)
def F9c0 : Ac := (so F9o1 F9c2)
/-- hansom/hansomlaw44.MzOrder -/
def F9 : Fn := { np := 3, pb := [], rs := [.t 6], body := F9c0 }
def F29o1 := [
 o3 1 (.box 7) [.t 0],
 o3 2 (.alloc [.nils, .nils, .d (.int .u16 0), .d (.int .u16 0), .d (.int .u16 0), .d (.int .u16 0), .d (.int .i64 0)]) []]
def F29o3 := [
 o3 5 (.load (some 7)) [.t 1],
 o0 (.store 7) [.t 2, .t 5]]
def F29o5 := [
 o3 6 (.bslice (.int .u8 0) 0 []) [],
 o3 7 (.faddr 0) [.t 1],
 o3 8 (.load none) [.t 7],
 o3 9 (.faddr 0) [.t 1],
 o3 10 (.load none) [.t 9],
 o3 11 .lenL [.t 10],
 o3 12 .mn [.t 11, .i 600],
 o3 13 (.subsl 1 false true false) [.t 8, .t 12],
 o3 14 (.append 1 1 false) [.t 6, .t 13],
 o3 15 (.faddr 0) [.t 2],
 o0 (.store 1) [.t 15, .t 14]]
def F29o7 := [
 o3 16 (.faddr 1) [.t 2],
 o0 (.store 1) [.t 16, .c (.nils)]]
def F29o9 := [
 o3 3 .mv [.i 0]]
def F29o12 := [
 o3 4 .mv [.i 0]]
def F29o17 := [
 om 17 4,
 o3 18 (.faddr 1) [.t 1],
 o3 19 (.load none) [.t 18],
 o3 20 .lenL [.t 19],
 o3 21 (.bin .lss) [.t 17, .t 20],
 om 22 21,
 og 23 .mv [.t 4] 22 true,
 og 24 (.bin .lss) [.t 23, .i 6] 22 true,
 o3 25 .pick [.t 22, .t 24, .b false]]
def F29c18 : Ac := (cd 25 .skip (.exit 0))
def F29o24 := [
 om 28 3,
 o3 29 (.faddr 1) [.t 1],
 o3 30 (.load none) [.t 29],
 om 31 4,
 o3 32 (.iaddrS 1) [.t 30, .t 31],
 o3 33 (.load none) [.t 32],
 o3 34 (.bin .and) [.t 33, .i 63],
 o3 35 (.bin .add) [.t 28, .t 34],
 om 3 35]
def F29o27 := [
 om 36 3,
 o3 37 (.bin .add) [.t 36, .i 2],
 o3 38 (.faddr 0) [.t 2],
 o3 39 (.load none) [.t 38],
 o3 40 .lenL [.t 39],
 o3 41 (.bin .gtr) [.t 37, .t 40]]
def F29c28 : Ac := (cd 41 (.exit 0) .skip)
def F29o32 := [
 o3 42 (.faddr 1) [.t 2],
 o3 43 (.load none) [.t 42],
 om 44 3,
 o3 45 (.bslice (.int .i64 0) 1 [0]) [.t 44],
 o3 46 (.append 1 8 false) [.t 43, .t 45],
 o3 47 (.faddr 1) [.t 2],
 o0 (.store 1) [.t 47, .t 46]]
def F29o33 := [
 om 48 3,
 o3 49 (.bin .add) [.t 48, .i 2],
 om 3 49]
def F29c33 : Ac := (.ops F29o33)
def F29c31 : Ac := (so F29o32 F29c33)
def F29c25 : Ac := (.seq (so F29o27 F29c28) F29c31)
def F29o34 := [
 om 26 4,
 o3 27 (.bin .add) [.t 26, .i 1],
 om 4 27]
def F29c34 : Ac := (.ops F29o34)
def F29c21 : Ac := (.seq (.block 1 (so F29o24 F29c25)) F29c34)
def F29l14 : Ac := (.seq (so F29o17 F29c18) F29c21)
def F29c13 : Ac := (.block 0 (.loop (.seq (.gh []) (.seq (.keep [1, 2, 3, 4] [[1], [2], [6], [901, 2]]) F29l14))))
def F29o36 := [
 o3 50 (.faddr 6) [.t 1],
 o3 51 (.load none) [.t 50],
 o3 52 (.bin .and) [.t 51, .i 255],
 o3 53 (.faddr 6) [.t 2],
 o0 (.store 1) [.t 53, .t 52]]
def F29o38 := [
 o3 54 (.load (some 7)) [.t 2],
 o0 (.store 7) [.t 2, .t 54]]
def F29c39 : Ac := (.seq (.gh [.frzB [2] 0, .frzB [2] 1]) .ret)
def F29c37 : Ac := (so F29o38 F29c39)
def F29b35 : Ac := (so F29o36 F29c37)
def F29c35 : Ac := (.seq (.gh []) (.seq (.keep [1, 2] [[1], [2], [6], [901, 2]]) F29b35))
def F29c10 : Ac := (.seq (so F29o12 F29c13) F29c35)
def F29b8 : Ac := (so F29o9 F29c10)
def F29c8 : Ac := (.seq (.gh [.ownB [2] 1 [901, 2] 1]) (.seq (.keep [1, 2] [[1], [2], [6], [901, 2]]) F29b8))
def F29c6 : Ac := (so F29o7 F29c8)
def F29c4 : Ac := (so F29o5 F29c6)
def F29b2 : Ac := (so F29o3 F29c4)
def F29c2 : Ac := (.seq (.gh [.ownB [2] 1 [901, 2] 1]) (.seq (.keep [1, 2] [[1], [2], [901, 2]]) F29b2))
def F29c0 : Ac := (so F29o1 F29c2)
/-- hansom/hansomref44.Near -/
def F29 : Fn := { np := 1, pb := [], rs := [.c 2 (some 7)], body := F29c0 }
def F30o1 := [
 o3 1 (.box 7) [.t 0],
 o3 2 .mv [.c (.d (.str []))]]
def F30o3 := [
 o3 9 (.faddr 1) [.t 1],
 o3 10 (.load none) [.t 9],
 o3 11 .lenL [.t 10],
 o3 12 (.bin .mul) [.i 4, .t 11],
 o3 13 (.bin .add) [.i 28, .t 12],
 o3 14 (.bin .add) [.t 13, .i 15],
 o3 15 (.bin .quo) [.t 14, .i 16],
 o3 16 (.bin .mul) [.t 15, .i 16],
 om 3 16]
def F30o5 := [
 om 17 3,
 o3 18 (.faddr 0) [.t 1],
 o3 19 (.load none) [.t 18],
 o3 20 .lenL [.t 19],
 o3 21 (.bin .add) [.t 17, .t 20],
 om 4 21]
def F30o7 := [
 o3 5 .mv [.c (.d (.str [77, 90]))]]
def F30o9 := [
 om 22 4,
 o3 23 (.bin .rem) [.t 22, .i 512],
 om 24 4,
 o3 25 (.bin .add) [.t 24, .i 511],
 o3 26 (.bin .quo) [.t 25, .i 512],
 o3 27 (.faddr 1) [.t 1],
 o3 28 (.load none) [.t 27],
 o3 29 .lenL [.t 28],
 om 30 3,
 o3 31 (.bin .quo) [.t 30, .i 16],
 o3 32 (.faddr 6) [.t 1],
 o3 33 (.load none) [.t 32],
 o3 34 (.faddr 4) [.t 1],
 o3 35 (.load none) [.t 34],
 o3 36 (.toInt .i64) [.t 35],
 o3 37 (.faddr 5) [.t 1],
 o3 38 (.load none) [.t 37],
 o3 39 (.toInt .i64) [.t 38],
 o3 40 (.faddr 3) [.t 1],
 o3 41 (.load none) [.t 40],
 o3 42 (.toInt .i64) [.t 41],
 o3 43 (.faddr 2) [.t 1],
 o3 44 (.load none) [.t 43],
 o3 45 (.toInt .i64) [.t 44],
 o3 46 (.bslice (.int .i64 0) 13 [0, 1, 2, 3, 4, 5, 6, 7, 8, 9, 10, 11, 12]) [.t 23, .t 26, .t 29, .t 31, .t 33, .i 65535, .t 36, .t 39, .i 0, .t 42, .t 45, .i 28, .i 0],
 om 6 46]
def F30o12 := [
 o3 7 .mv [.i 0]]
def F30o17 := [
 om 47 7,
 om 48 6,
 o3 49 .lenL [.t 48],
 o3 50 (.bin .lss) [.t 47, .t 49]]
def F30c18 : Ac := (cd 50 .skip (.exit 0))
def F30o23 := [
 om 53 5,
 om 54 6,
 om 55 7,
 o3 56 (.iaddrS 1) [.t 54, .t 55],
 o3 57 (.load none) [.t 56],
 o3 58 (.toInt .u64) [.t 57],
 o3 59 (.callf 58) [.t 58, .i 2],
 o3 60 (.bin .add) [.t 53, .t 59],
 om 5 60]
def F30o24 := [
 om 51 7,
 o3 52 (.bin .add) [.t 51, .i 1],
 om 7 52]
def F30c24 : Ac := (.ops F30o24)
def F30c21 : Ac := (.seq (.block 1 (.ops F30o23)) F30c24)
def F30l14 : Ac := (.seq (so F30o17 F30c18) F30c21)
def F30c13 : Ac := (.block 0 (.loop (.seq (.gh [.frz 6]) (.seq (.keep [1, 3, 5, 6, 7] [[1]]) F30l14))))
def F30o27 := [
 o3 8 .mv [.i 0]]
def F30o32 := [
 om 61 8,
 o3 62 (.faddr 1) [.t 1],
 o3 63 (.load none) [.t 62],
 o3 64 .lenL [.t 63],
 o3 65 (.bin .lss) [.t 61, .t 64]]
def F30c33 : Ac := (cd 65 .skip (.exit 2))
def F30o38 := [
 om 68 5,
 o3 69 (.faddr 1) [.t 1],
 o3 70 (.load none) [.t 69],
 om 71 8,
 o3 72 (.iaddrS 1) [.t 70, .t 71],
 o3 73 (.load none) [.t 72],
 o3 74 (.bin .rem) [.t 73, .i 16],
 o3 75 (.toInt .u64) [.t 74],
  { dst := some 76, k := (.callf 58), xs := [.t 75, .i 2], al := some [] },
 o3 77 (.faddr 1) [.t 1],
  { dst := some 78, k := (.load none), xs := [.t 77], av := [[76]] },
 om 79 8,
 o3 80 (.iaddrS 1) [.t 78, .t 79],
  { dst := some 81, k := (.load none), xs := [.t 80], av := [[76]] },
 o3 82 (.bin .quo) [.t 81, .i 16],
 o3 83 (.toInt .u64) [.t 82],
 o3 84 (.callf 58) [.t 83, .i 2],
 o3 85 (.bin .add) [.t 76, .t 84],
 o3 86 (.bin .add) [.t 68, .t 85],
 om 5 86]
def F30o39 := [
 om 66 8,
 o3 67 (.bin .add) [.t 66, .i 1],
 om 8 67]
def F30c39 : Ac := (.ops F30o39)
def F30c36 : Ac := (.seq (.block 3 (.ops F30o38)) F30c39)
def F30l29 : Ac := (.seq (so F30o32 F30c33) F30c36)
def F30c28 : Ac := (.block 2 (.loop (.seq (.gh []) (.seq (.keep [1, 3, 5, 8] [[1]]) F30l29))))
def F30o45 := [
 om 87 5,
 o3 88 .lenS [.t 87],
 om 89 3,
 o3 90 (.bin .lss) [.t 88, .t 89]]
def F30c46 : Ac := (cd 90 .skip (.exit 4))
def F30o50 := [
 om 91 5,
 o3 92 (.bin .add) [.t 91, .c (.d (.str [0]))],
 om 5 92]
def F30c49 : Ac := (.block 5 (.ops F30o50))
def F30l42 : Ac := (.seq (so F30o45 F30c46) F30c49)
def F30o52 := [
 om 93 5,
 o3 94 (.faddr 0) [.t 1],
 o3 95 (.load none) [.t 94],
 o3 96 .bytesStr [.t 95],
 o3 97 (.bin .add) [.t 93, .t 96],
 om 2 97]
def F30c53 : Ac := .ret
def F30b51 : Ac := (so F30o52 F30c53)
def F30c51 : Ac := (.seq (.gh []) (.seq (.keep [1, 5] [[1]]) F30b51))
def F30b40 : Ac := (.seq (.block 4 (.loop (.seq (.gh []) (.seq (.keep [1, 3, 5] [[1]]) F30l42)))) F30c51)
def F30c40 : Ac := (.seq (.gh []) (.seq (.keep [1, 3, 5] [[1]]) F30b40))
def F30b25 : Ac := (.seq (so F30o27 F30c28) F30c40)
def F30c25 : Ac := (.seq (.gh []) (.seq (.keep [1, 3, 5] [[1]]) F30b25))
def F30c10 : Ac := (.seq (so F30o12 F30c13) F30c25)
def F30c8 : Ac := (so F30o9 F30c10)
def F30c6 : Ac := (so F30o7 F30c8)
def F30c4 : Ac := (so F30o5 F30c6)
def F30c2 : Ac := (so F30o3 F30c4)
def F30c0 : Ac := (so F30o1 F30c2)
/-- hansom/hansomref44.Write -/
def F30 : Fn := { np := 1, pb := [], rs := [.t 2], body := F30c0 }
def F31o1 := [
 o3 1 (.box 7) [.t 0],
 o3 2 .mv [.c (.nils)],
 o3 3 .mv [.i 0]]
def F31o4 := [
 o3 14 (.load (some 7)) [.t 1],
 o3 15 (.callf 34) [.t 14],
 o3 16 (.un .not) [.t 15]]
def F31o7 := [
 o3 2 .mv [.c (.nils)],
 o3 3 .mv [.i 1]]
def F31c8 : Ac := (.seq (.gh [.frz 2]) .ret)
def F31c5 : Ac := (cd 16 (so F31o7 F31c8) .skip)
def F31o11 := [
 o3 17 (.faddr 1) [.t 1],
 o3 18 (.load none) [.t 17],
 o3 19 .lenL [.t 18],
 o3 20 (.callf 70) [.t 19],
 om 4 20]
def F31o13 := [
 om 21 4,
 o3 22 (.faddr 0) [.t 1],
 o3 23 (.load none) [.t 22],
 o3 24 .lenL [.t 23],
 o3 25 (.bin .add) [.t 21, .t 24],
 om 5 25]
def F31o15 := [
 om 26 5,
 o3 27 (.bin .rem) [.t 26, .i 512],
 o3 28 (.toInt .u16) [.t 27],
 om 29 5,
 o3 30 (.bin .add) [.t 29, .i 512],
 o3 31 (.bin .sub) [.t 30, .i 1],
 o3 32 (.bin .quo) [.t 31, .i 512],
 o3 33 (.toInt .u16) [.t 32],
 o3 34 (.faddr 1) [.t 1],
 o3 35 (.load none) [.t 34],
 o3 36 .lenL [.t 35],
 o3 37 (.toInt .u16) [.t 36],
 om 38 4,
 o3 39 (.bin .quo) [.t 38, .i 16],
 o3 40 (.toInt .u16) [.t 39],
 o3 41 (.faddr 6) [.t 1],
 o3 42 (.load none) [.t 41],
 o3 43 (.toInt .u16) [.t 42],
 o3 44 (.faddr 4) [.t 1],
 o3 45 (.load none) [.t 44],
 o3 46 (.faddr 5) [.t 1],
 o3 47 (.load none) [.t 46],
 o3 48 (.faddr 3) [.t 1],
 o3 49 (.load none) [.t 48],
 o3 50 (.faddr 2) [.t 1],
 o3 51 (.load none) [.t 50],
 o3 52 (.bslice (.int .u16 0) 13 [0, 1, 2, 3, 4, 5, 6, 7, 8, 9, 10, 11, 12]) [.t 28, .t 33, .t 37, .t 40, .t 43, .w 65535, .t 45, .t 47, .w 0, .t 49, .t 51, .w 28, .w 0],
 om 6 52]
def F31o17 := [
 o3 53 (.bslice (.int .u8 0) 2 [0, 1]) [.y 77, .y 90],
 om 7 53]
def F31o20 := [
 om 54 6,
 o3 55 .lenL [.t 54],
 o3 56 .mv [.i 0]]
def F31o24 := [
 o3 57 (.bin .lss) [.t 56, .t 55]]
def F31o32 := [
 o3 58 (.iaddrS 1) [.t 54, .t 56],
 o3 59 (.load none) [.t 58],
 om 9 59]
def F31o33 := [
 om 60 7,
 om 61 9,
 o3 62 (.callf 62) [.t 61],
 o3 63 (.append 1 1 false) [.t 60, .t 62],
 om 7 63]
def F31c33 : Ac := (.ops F31o33)
def F31o34 := [
 o3 64 (.bin .add) [.t 56, .i 1],
 om 56 64]
def F31c34 : Ac := (.ops F31o34)
def F31c29 : Ac := (.seq (.block 1 (so F31o32 F31c33)) F31c34)
def F31c25 : Ac := (.seq (cd 57 .skip (.exit 0)) F31c29)
def F31l22 : Ac := (so F31o24 F31c25)
def F31c21 : Ac := (.block 0 (.loop (.seq (.gh [.frz 54]) (.seq (.keep [1, 4, 7, 54, 55, 56] [[1], [53]]) F31l22))))
def F31o37 := [
 o3 65 (.faddr 1) [.t 1],
 o3 66 (.load none) [.t 65],
 o3 67 .lenL [.t 66],
 o3 68 .mv [.i 0]]
def F31o41 := [
 o3 69 (.bin .lss) [.t 68, .t 67]]
def F31o49 := [
 o3 70 (.iaddrS 1) [.t 66, .t 68],
 o3 71 (.load none) [.t 70],
 om 11 71]
def F31o51 := [
 om 73 11,
 o3 74 (.toInt .u32) [.t 73],
 o3 75 (.callf 71) [.t 74],
 om 72 75,
 oe 76 0 72,
 oe 77 1 72,
 om 12 76,
 om 13 77]
def F31o52 := [
 om 78 7,
 om 79 13,
 o3 80 (.callf 62) [.t 79],
 o3 81 (.append 1 1 false) [.t 78, .t 80],
 om 82 12,
 o3 83 (.callf 62) [.t 82],
 o3 84 (.append 1 1 false) [.t 81, .t 83],
 om 7 84]
def F31c52 : Ac := (.ops F31o52)
def F31c50 : Ac := (so F31o51 F31c52)
def F31o53 := [
 o3 85 (.bin .add) [.t 68, .i 1],
 om 68 85]
def F31c53 : Ac := (.ops F31o53)
def F31c46 : Ac := (.seq (.block 3 (so F31o49 F31c50)) F31c53)
def F31c42 : Ac := (.seq (cd 69 .skip (.exit 2)) F31c46)
def F31l39 : Ac := (so F31o41 F31c42)
def F31c38 : Ac := (.block 2 (.loop (.seq (.gh []) (.seq (.keep [1, 4, 7, 66, 67, 68] [[1], [53]]) F31l39))))
def F31o55 := [
 om 86 7,
 om 87 4,
 om 88 7,
 o3 89 .lenL [.t 88],
 o3 90 (.bin .sub) [.t 87, .t 89],
 o3 91 (.appmk (.int .u8 0) 1) [.t 86, .t 90],
 om 7 91]
def F31o57 := [
 om 92 7,
 o3 93 (.faddr 0) [.t 1],
 o3 94 (.load none) [.t 93],
 o3 95 (.append 1 1 false) [.t 92, .t 94],
 om 2 95,
 o3 3 .mv [.i 0]]
def F31c58 : Ac := (.seq (.gh [.frz 2]) .ret)
def F31c56 : Ac := (so F31o57 F31c58)
def F31b54 : Ac := (so F31o55 F31c56)
def F31c54 : Ac := (.seq (.gh []) (.seq (.keep [1, 4, 7] [[1], [53]]) F31b54))
def F31b35 : Ac := (.seq (so F31o37 F31c38) F31c54)
def F31c35 : Ac := (.seq (.gh []) (.seq (.keep [1, 4, 7] [[1], [53]]) F31b35))
def F31c18 : Ac := (.seq (so F31o20 F31c21) F31c35)
def F31c16 : Ac := (so F31o17 F31c18)
def F31c14 : Ac := (so F31o15 F31c16)
def F31c12 : Ac := (so F31o13 F31c14)
def F31c10 : Ac := (so F31o11 F31c12)
def F31c2 : Ac := (.seq (so F31o4 F31c5) F31c10)
def F31c0 : Ac := (so F31o1 F31c2)
/-- hansom/mz.Write -/
def F31 : Fn := { np := 1, pb := [], rs := [.t 2, .t 3], body := F31c0 }
def F32o1 := [
 o3 2 (.alloc [.nils, .nils, .d (.int .u16 0), .d (.int .u16 0), .d (.int .u16 0), .d (.int .u16 0), .d (.int .i64 0)]) [],
 o3 3 .mv [.i 0]]
def F32o3 := [
 om 12 0,
 o3 13 (.callf 72) [.t 12],
 om 11 13,
 oe 14 0 11,
 oe 15 1 11,
 o3 4 (.alloc [.d (.int .u16 0), .d (.int .u16 0), .d (.int .u16 0), .d (.int .u16 0), .d (.int .u16 0), .d (.int .u16 0), .d (.int .u16 0), .d (.int .u16 0), .d (.int .u16 0), .d (.int .u16 0)]) [],
 o0 (.store 10) [.t 4, .t 14],
 om 5 15]
def F32o6 := [
 om 16 5,
 o3 17 (.bin .neq) [.t 16, .i 0]]
def F32o9 := [
 o3 18 (.build [.nils, .nils, .d (.int .u16 0), .d (.int .u16 0), .d (.int .u16 0), .d (.int .u16 0), .d (.int .i64 0)] []) [],
 om 19 5,
 o0 (.store 7) [.t 2, .t 18],
 om 3 19]
def F32c10 : Ac := (.seq (.gh [.frzB [2] 0, .frzB [2] 1]) .ret)
def F32c7 : Ac := (cd 17 (so F32o9 F32c10) .skip)
def F32o13 := [
 o3 21 (.load (some 10)) [.t 4],
 o3 22 (.callf 73) [.t 21],
 om 20 22,
 oe 23 0 20,
 oe 24 1 20,
 om 6 23,
 om 7 24]
def F32o15 := [
 o3 25 (.faddr 3) [.t 4],
 o3 26 (.load none) [.t 25],
 o3 27 (.toInt .i64) [.t 26],
 o3 28 (.bin .mul) [.t 27, .i 16],
 om 8 28]
def F32o19 := [
 om 30 7,
 o3 31 (.un .not) [.t 30],
 om 32 31,
 og 33 .mv [.t 8] 32 false,
 og 34 (.bin .lss) [.t 33, .i 28] 32 false,
 o3 35 .pick [.t 32, .b true, .t 34],
 om 29 35]
def F32o22 := [
 o3 36 (.build [.nils, .nils, .d (.int .u16 0), .d (.int .u16 0), .d (.int .u16 0), .d (.int .u16 0), .d (.int .i64 0)] []) [],
 o0 (.store 7) [.t 2, .t 36],
 o3 3 .mv [.i 3]]
def F32c23 : Ac := (.seq (.gh [.frzB [2] 0, .frzB [2] 1]) .ret)
def F32o25 := [
 om 38 0,
 o3 39 .lenL [.t 38],
 om 40 6,
 o3 41 (.bin .lss) [.t 39, .t 40],
 om 37 41]
def F32o28 := [
 o3 42 (.build [.nils, .nils, .d (.int .u16 0), .d (.int .u16 0), .d (.int .u16 0), .d (.int .u16 0), .d (.int .i64 0)] []) [],
 o0 (.store 7) [.t 2, .t 42],
 o3 3 .mv [.i 2]]
def F32c29 : Ac := (.seq (.gh [.frzB [2] 0, .frzB [2] 1]) .ret)
def F32c26 : Ac := (cd 37 (so F32o28 F32c29) .skip)
def F32c20 : Ac := (cd 29 (so F32o22 F32c23) (so F32o25 F32c26))
def F32o32 := [
 om 44 0,
 o3 45 (.load (some 10)) [.t 4],
 om 46 6,
 om 47 8,
 o3 48 (.bin .sub) [.t 46, .t 47],
 o3 49 (.callf 74) [.t 44, .t 45, .t 48],
 om 43 49,
 oe 50 0 43,
 oe 51 1 43,
 om 9 50,
 om 5 51]
def F32o35 := [
 om 52 5,
 o3 53 (.bin .neq) [.t 52, .i 0]]
def F32o38 := [
 o3 54 (.build [.nils, .nils, .d (.int .u16 0), .d (.int .u16 0), .d (.int .u16 0), .d (.int .u16 0), .d (.int .i64 0)] []) [],
 om 55 5,
 o0 (.store 7) [.t 2, .t 54],
 om 3 55]
def F32c39 : Ac := (.seq (.gh [.frzB [2] 0, .frzB [2] 1]) .ret)
def F32c36 : Ac := (cd 53 (so F32o38 F32c39) .skip)
def F32o42 := [
 om 56 0,
 om 57 8,
 om 58 6,
 o3 59 (.subsl 1 true true false) [.t 56, .t 57, .t 58],
  { dst := some 60, k := (.callf 67), xs := [.t 59], av := [[10]], al := some [] },
 om 61 9,
 o3 62 (.faddr 8) [.t 4],
  { dst := some 63, k := (.load none), xs := [.t 62], av := [[60], [10]] },
 o3 64 (.faddr 7) [.t 4],
  { dst := some 65, k := (.load none), xs := [.t 64], av := [[60], [10]] },
 o3 66 (.faddr 5) [.t 4],
  { dst := some 67, k := (.load none), xs := [.t 66], av := [[60], [10]] },
 o3 68 (.faddr 6) [.t 4],
  { dst := some 69, k := (.load none), xs := [.t 68], av := [[60], [10]] },
 o3 70 (.faddr 4) [.t 4],
  { dst := some 71, k := (.load none), xs := [.t 70], av := [[60], [10]] },
 o3 72 (.toInt .i64) [.t 71],
 o3 73 (.build [.nils, .nils, .d (.int .u16 0), .d (.int .u16 0), .d (.int .u16 0), .d (.int .u16 0), .d (.int .i64 0)] [(0, 1), (1, 1), (2, 1), (3, 1), (4, 1), (5, 1), (6, 1)]) [.t 60, .t 61, .t 63, .t 65, .t 67, .t 69, .t 72],
  { dst := some 10, k := (.alloc [.nils, .nils, .d (.int .u16 0), .d (.int .u16 0), .d (.int .u16 0), .d (.int .u16 0), .d (.int .i64 0)]), xs := [], av := [[60]] },
 o0 (.store 7) [.t 10, .t 73]]
def F32o45 := [
 o3 74 (.load (some 7)) [.t 10],
 o3 75 (.callf 34) [.t 74],
 o3 76 (.un .not) [.t 75]]
def F32o48 := [
 o3 77 (.build [.nils, .nils, .d (.int .u16 0), .d (.int .u16 0), .d (.int .u16 0), .d (.int .u16 0), .d (.int .i64 0)] []) [],
 o0 (.store 7) [.t 2, .t 77],
 o3 3 .mv [.i 8]]
def F32c49 : Ac := (.seq (.gh [.frzB [2] 0, .frzB [2] 1]) .ret)
def F32c46 : Ac := (cd 76 (so F32o48 F32c49) .skip)
def F32o52 := [
 o3 78 (.load (some 7)) [.t 10],
 o0 (.store 7) [.t 2, .t 78],
 o3 3 .mv [.i 0]]
def F32c53 : Ac := (.seq (.gh [.frzB [2] 0]) .ret)
def F32c51 : Ac := (so F32o52 F32c53)
def F32c43 : Ac := (.seq (so F32o45 F32c46) F32c51)
def F32c41 : Ac := (so F32o42 F32c43)
def F32c33 : Ac := (.seq (so F32o35 F32c36) F32c41)
def F32c31 : Ac := (so F32o32 F32c33)
def F32c16 : Ac := (.seq (.block 0 (so F32o19 F32c20)) F32c31)
def F32c14 : Ac := (so F32o15 F32c16)
def F32c12 : Ac := (so F32o13 F32c14)
def F32c4 : Ac := (.seq (so F32o6 F32c7) F32c12)
def F32c2 : Ac := (so F32o3 F32c4)
def F32c0 : Ac := (so F32o1 F32c2)
/-- hansom/mz.Read -/
def F32 : Fn := { np := 1, pb := [], rs := [.c 2 (some 7), .t 3], body := F32c0 }
def F34o1 := [
 o3 1 (.box 7) [.t 0],
 o3 2 .mv [.b false]]
def F34o4 := [
 o3 5 (.faddr 0) [.t 1],
 o3 6 (.load none) [.t 5],
 o3 7 .lenL [.t 6],
 o3 8 (.bin .gtr) [.t 7, .i 655360],
 om 9 8,
 og 10 (.faddr 6) [.t 1] 9 false,
 og 11 (.load none) [.t 10] 9 false,
 og 12 (.bin .lss) [.t 11, .i 0] 9 false,
 o3 13 .pick [.t 9, .b true, .t 12],
 om 14 13,
 og 15 (.faddr 6) [.t 1] 14 false,
  { dst := some 16, k := (.load none), xs := [.t 15], g := some (14, false), av := [[20]] },
 og 17 (.faddr 0) [.t 1] 14 false,
 og 18 (.load none) [.t 17] 14 false,
 og 19 .lenL [.t 18] 14 false,
  { dst := some 20, k := (.callf 75), xs := [.t 19], g := some (14, false), al := some [] },
 og 21 (.bin .sub) [.i 40960, .t 20] 14 false,
 og 22 (.bin .gtr) [.t 16, .t 21] 14 false,
 o3 23 .pick [.t 14, .b true, .t 22],
 om 24 23,
 og 25 (.faddr 1) [.t 1] 24 false,
 og 26 (.load none) [.t 25] 24 false,
 og 27 .lenL [.t 26] 24 false,
 og 28 (.bin .gtr) [.t 27, .i 4000] 24 false,
 o3 29 .pick [.t 24, .b true, .t 28]]
def F34o7 := [
 o3 2 .mv [.b false]]
def F34c8 : Ac := .ret
def F34c5 : Ac := (cd 29 (so F34o7 F34c8) .skip)
def F34o12 := [
 o3 30 (.faddr 1) [.t 1],
 o3 31 (.load none) [.t 30],
 o3 32 .lenL [.t 31],
 o3 33 .mv [.i 0]]
def F34o16 := [
 o3 34 (.bin .lss) [.t 33, .t 32]]
def F34o24 := [
 om 35 33,
 o3 36 (.iaddrS 1) [.t 31, .t 33],
 o3 37 (.load none) [.t 36],
 om 3 35,
 om 4 37]
def F34o26 := [
 om 38 4,
 o3 39 (.bin .lss) [.t 38, .i 0],
 om 40 39,
 og 41 .mv [.t 4] 40 false,
 og 42 (.faddr 0) [.t 1] 40 false,
 og 43 (.load none) [.t 42] 40 false,
 og 44 .lenL [.t 43] 40 false,
 og 45 (.bin .sub) [.t 44, .i 2] 40 false,
 og 46 (.bin .gtr) [.t 41, .t 45] 40 false,
 o3 47 .pick [.t 40, .b true, .t 46],
 om 48 47,
 og 49 .mv [.t 3] 48 false,
 og 50 (.bin .gtr) [.t 49, .i 0] 48 false,
 og 51 .mv [.t 50] 48 false,
 og 52 .mv [.t 4] 51 true,
 og 53 (.faddr 1) [.t 1] 51 true,
 og 54 (.load none) [.t 53] 51 true,
 og 55 .mv [.t 3] 51 true,
 og 56 (.bin .sub) [.t 55, .i 1] 51 true,
 og 57 (.iaddrS 1) [.t 54, .t 56] 51 true,
 og 58 (.load none) [.t 57] 51 true,
 og 59 (.bin .sub) [.t 52, .t 58] 51 true,
 og 60 (.bin .lss) [.t 59, .i 2] 51 true,
 og 61 .pick [.t 51, .t 60, .b false] 48 false,
 o3 62 .pick [.t 48, .b true, .t 61]]
def F34o29 := [
 o3 2 .mv [.b false]]
def F34c30 : Ac := .ret
def F34c27 : Ac := (cd 62 (so F34o29 F34c30) .skip)
def F34c25 : Ac := (so F34o26 F34c27)
def F34o32 := [
 o3 63 (.bin .add) [.t 33, .i 1],
 om 33 63]
def F34c32 : Ac := (.ops F34o32)
def F34c21 : Ac := (.seq (.block 1 (so F34o24 F34c25)) F34c32)
def F34c17 : Ac := (.seq (cd 34 .skip (.exit 0)) F34c21)
def F34l14 : Ac := (so F34o16 F34c17)
def F34c13 : Ac := (.block 0 (.loop (.seq (.gh []) (.seq (.keep [1, 31, 32, 33] [[1]]) F34l14))))
def F34o34 := [
 o3 2 .mv [.b true]]
def F34c35 : Ac := .ret
def F34b33 : Ac := (so F34o34 F34c35)
def F34c33 : Ac := (.seq (.gh []) (.seq (.keep [] []) F34b33))
def F34c10 : Ac := (.seq (so F34o12 F34c13) F34c33)
def F34c2 : Ac := (.seq (so F34o4 F34c5) F34c10)
def F34c0 : Ac := (so F34o1 F34c2)
/-- hansom/mz.May -/
def F34 : Fn := { np := 1, pb := [], rs := [.t 2], body := F34c0 }
def F35o1 := [
 o3 2 (.box 7) [.t 0],
 o3 3 (.box 7) [.t 1],
 o3 4 .mv [.b false]]
def F35o4 := [
 o3 6 (.faddr 0) [.t 2],
 o3 7 (.load none) [.t 6],
 o3 8 .bytesStr [.t 7],
 o3 9 (.faddr 0) [.t 3],
 o3 10 (.load none) [.t 9],
 o3 11 .bytesStr [.t 10],
 o3 12 (.bin .neq) [.t 8, .t 11],
 om 13 12,
 og 14 (.faddr 1) [.t 2] 13 false,
 og 15 (.load none) [.t 14] 13 false,
 og 16 .lenL [.t 15] 13 false,
 og 17 (.faddr 1) [.t 3] 13 false,
 og 18 (.load none) [.t 17] 13 false,
 og 19 .lenL [.t 18] 13 false,
 og 20 (.bin .neq) [.t 16, .t 19] 13 false,
 o3 21 .pick [.t 13, .b true, .t 20],
 om 22 21,
 og 23 (.faddr 2) [.t 2] 22 false,
 og 24 (.load none) [.t 23] 22 false,
 og 25 (.faddr 2) [.t 3] 22 false,
 og 26 (.load none) [.t 25] 22 false,
 og 27 (.bin .neq) [.t 24, .t 26] 22 false,
 o3 28 .pick [.t 22, .b true, .t 27],
 om 29 28,
 og 30 (.faddr 3) [.t 2] 29 false,
 og 31 (.load none) [.t 30] 29 false,
 og 32 (.faddr 3) [.t 3] 29 false,
 og 33 (.load none) [.t 32] 29 false,
 og 34 (.bin .neq) [.t 31, .t 33] 29 false,
 o3 35 .pick [.t 29, .b true, .t 34],
 om 36 35,
 og 37 (.faddr 4) [.t 2] 36 false,
 og 38 (.load none) [.t 37] 36 false,
 og 39 (.faddr 4) [.t 3] 36 false,
 og 40 (.load none) [.t 39] 36 false,
 og 41 (.bin .neq) [.t 38, .t 40] 36 false,
 o3 42 .pick [.t 36, .b true, .t 41],
 om 43 42,
 og 44 (.faddr 5) [.t 2] 43 false,
 og 45 (.load none) [.t 44] 43 false,
 og 46 (.faddr 5) [.t 3] 43 false,
 og 47 (.load none) [.t 46] 43 false,
 og 48 (.bin .neq) [.t 45, .t 47] 43 false,
 o3 49 .pick [.t 43, .b true, .t 48],
 om 50 49,
 og 51 (.faddr 6) [.t 2] 50 false,
 og 52 (.load none) [.t 51] 50 false,
 og 53 (.faddr 6) [.t 3] 50 false,
 og 54 (.load none) [.t 53] 50 false,
 og 55 (.bin .neq) [.t 52, .t 54] 50 false,
 o3 56 .pick [.t 50, .b true, .t 55]]
def F35o7 := [
 o3 4 .mv [.b false]]
def F35c8 : Ac := .ret
def F35c5 : Ac := (cd 56 (so F35o7 F35c8) .skip)
def F35o12 := [
 o3 5 .mv [.i 0]]
def F35o17 := [
 om 57 5,
 o3 58 (.faddr 1) [.t 2],
 o3 59 (.load none) [.t 58],
 o3 60 .lenL [.t 59],
 o3 61 (.bin .lss) [.t 57, .t 60]]
def F35c18 : Ac := (cd 61 .skip (.exit 0))
def F35o24 := [
 o3 64 (.faddr 1) [.t 2],
 o3 65 (.load none) [.t 64],
 om 66 5,
 o3 67 (.iaddrS 1) [.t 65, .t 66],
 o3 68 (.load none) [.t 67],
 o3 69 (.faddr 1) [.t 3],
 o3 70 (.load none) [.t 69],
 om 71 5,
 o3 72 (.iaddrS 1) [.t 70, .t 71],
 o3 73 (.load none) [.t 72],
 o3 74 (.bin .neq) [.t 68, .t 73]]
def F35o27 := [
 o3 4 .mv [.b false]]
def F35c28 : Ac := .ret
def F35c25 : Ac := (cd 74 (so F35o27 F35c28) .skip)
def F35o30 := [
 om 62 5,
 o3 63 (.bin .add) [.t 62, .i 1],
 om 5 63]
def F35c30 : Ac := (.ops F35o30)
def F35c21 : Ac := (.seq (.block 1 (so F35o24 F35c25)) F35c30)
def F35l14 : Ac := (.seq (so F35o17 F35c18) F35c21)
def F35c13 : Ac := (.block 0 (.loop (.seq (.gh []) (.seq (.keep [2, 3, 5] [[2], [3]]) F35l14))))
def F35o32 := [
 o3 4 .mv [.b true]]
def F35c33 : Ac := .ret
def F35b31 : Ac := (so F35o32 F35c33)
def F35c31 : Ac := (.seq (.gh []) (.seq (.keep [] []) F35b31))
def F35c10 : Ac := (.seq (so F35o12 F35c13) F35c31)
def F35c2 : Ac := (.seq (so F35o4 F35c5) F35c10)
def F35c0 : Ac := (so F35o1 F35c2)
/-- hansom/hansomref44.Same -/
def F35 : Fn := { np := 2, pb := [], rs := [.t 4], body := F35c0 }
def F50o1 := [
 o3 2 .mv [.c (.nilp)]]
def F50o3 := [
 om 3 0,
 o3 4 (.append 1 1 false) [.c (.nils), .t 3],
 o3 5 (.build [.nils, .d (.int .i64 0)] [(0, 1)]) [.t 4],
 o3 6 (.box 2) [.t 5],
 om 2 6]
def F50c4 : Ac := (.seq (.gh [.frzB [6] 0]) .ret)
def F50c2 : Ac := (so F50o3 F50c4)
def F50c0 : Ac := (so F50o1 F50c2)
/-- hansom/index.From -/
def F50 : Fn := { np := 1, pb := [], rs := [.t 2], body := F50c0 }
def F56o1 := [
 om 4 0,
 o3 5 (.eqp true) [.t 4, .c (.nilp)],
 om 6 5,
 og 7 .mv [.t 0] 6 true,
 og 8 .nilchk [.t 7] 6 true,
 og 9 (.faddr 1) [.t 8] 6 true,
 og 10 (.load none) [.t 9] 6 true,
 og 11 (.bin .eql) [.t 10, .i 0] 6 true,
 o3 12 .pick [.t 6, .t 11, .b false],
 om 13 12,
 og 14 .mv [.t 1] 13 true,
 og 15 (.bin .neq) [.t 14, .i 0] 13 true,
 o3 16 .pick [.t 13, .t 15, .b false]]
def F56o3 := [
 om 17 0,
 om 18 0,
 om 19 1,
 o3 20 .nilchk [.t 17],
 o3 21 (.faddr 1) [.t 20],
 o0 (.store 1) [.t 21, .t 19],
 o3 22 .nilchk [.t 18],
 o3 23 (.faddr 0) [.t 22],
 o0 (.store 1) [.t 23, .c (.nils)]]
def F56c2 : Ac := (cd 16 (.ops F56o3) .skip)
def F56c0 : Ac := (so F56o1 F56c2)
/-- (*hansom/index.Source).Wrong -/
def F56 : Fn := { np := 2, pb := [[0]], rs := [], body := (.seq F56c0 (.gh [.frzB [0] 0])) }
def F58o1 := [
 o3 4 .mv [.c (.d (.str []))]]
def F58o3 := [
 o3 5 .mv [.c (.d (.str []))]]
def F58o6 := [
 o3 6 .mv [.i 0]]
def F58o11 := [
 om 7 6,
 om 8 1,
 o3 9 (.bin .lss) [.t 7, .t 8]]
def F58c12 : Ac := (cd 9 .skip (.exit 0))
def F58o18 := [
 om 12 5,
 om 13 0,
 o3 14 (.bin .rem) [.t 13, .c (.d (.int .u64 256))],
 o3 15 (.toInt .u8) [.t 14],
 o3 16 (.bslice (.int .u8 0) 1 [0]) [.t 15],
 o3 17 .bytesStr [.t 16],
 o3 18 (.bin .add) [.t 12, .t 17],
 om 5 18]
def F58o19 := [
 om 19 0,
 o3 20 (.bin .quo) [.t 19, .c (.d (.int .u64 256))],
 om 0 20]
def F58c19 : Ac := (.ops F58o19)
def F58o20 := [
 om 10 6,
 o3 11 (.bin .add) [.t 10, .i 1],
 om 6 11]
def F58c20 : Ac := (.ops F58o20)
def F58c15 : Ac := (.seq (.block 1 (so F58o18 F58c19)) F58c20)
def F58l8 : Ac := (.seq (so F58o11 F58c12) F58c15)
def F58c7 : Ac := (.block 0 (.loop (.seq (.gh []) (.seq (.keep [0, 1, 5, 6] []) F58l8))))
def F58o22 := [
 om 21 5,
 om 4 21]
def F58c23 : Ac := .ret
def F58b21 : Ac := (so F58o22 F58c23)
def F58c21 : Ac := (.seq (.gh []) (.seq (.keep [5] []) F58b21))
def F58c4 : Ac := (.seq (so F58o6 F58c7) F58c21)
def F58c2 : Ac := (so F58o3 F58c4)
def F58c0 : Ac := (so F58o1 F58c2)
/-- hansom/hansomref18.Bytes -/
def F58 : Fn := { np := 2, pb := [], rs := [.t 4], body := F58c0 }
def F62o1 := [
 o3 2 .mv [.c (.nils)]]
def F62o3 := [
 om 3 0,
 o3 4 (.callf 100) [.t 3],
 om 5 0,
 o3 6 (.callf 101) [.t 5],
 o3 7 (.bslice (.int .u8 0) 2 [0, 1]) [.t 4, .t 6],
 om 2 7]
def F62c4 : Ac := (.seq (.gh [.frz 2]) .ret)
def F62c2 : Ac := (so F62o3 F62c4)
def F62c0 : Ac := (so F62o1 F62c2)
/-- hansom/index.Two -/
def F62 : Fn := { np := 1, pb := [], rs := [.t 2], body := F62c0 }
def F64o1 := [
 o3 2 .mv [.w 0]]
def F64o4 := [
 om 4 0,
 o3 5 (.callf 99) [.t 4, .i 2],
 om 3 5]
def F64o6 := [
 om 6 3,
 o3 7 .lenL [.t 6],
 o3 8 (.bin .eql) [.t 7, .i 2]]
def F64o9 := [
 om 9 3,
 o3 10 (.iaddrS 1) [.t 9, .i 0],
 o3 11 (.load none) [.t 10],
 om 12 3,
 o3 13 (.iaddrS 1) [.t 12, .i 1],
 o3 14 (.load none) [.t 13],
 o3 15 (.callf 102) [.t 11, .t 14],
 om 2 15]
def F64c10 : Ac := .ret
def F64c7 : Ac := (cd 8 (so F64o9 F64c10) .skip)
def F64c5 : Ac := (so F64o6 F64c7)
def F64o13 := [
 o3 2 .mv [.w 0]]
def F64c14 : Ac := .ret
def F64c12 : Ac := (so F64o13 F64c14)
def F64c2 : Ac := (.seq (so F64o4 F64c5) F64c12)
def F64c0 : Ac := (so F64o1 F64c2)
/-- (*hansom/index.Source).Word -/
def F64 : Fn := { np := 1, pb := [[0]], rs := [.t 2], body := F64c0 }
def F67o1 := [
 o3 2 .mv [.c (.nils)]]
def F67o4 := [
 om 3 0,
 o3 4 (.nilS false) [.t 3, .c (.nils)]]
def F67o7 := [
 o3 2 .mv [.c (.nils)]]
def F67c8 : Ac := (.seq (.gh [.own 2 [2] 1]) .ret)
def F67c5 : Ac := (cd 4 (so F67o7 F67c8) .skip)
def F67o11 := [
 o3 5 (.bslice (.int .u8 0) 0 []) [],
 om 6 0,
 o3 7 (.append 1 1 false) [.t 5, .t 6],
 om 2 7]
def F67c12 : Ac := .ret
def F67c10 : Ac := (so F67o11 F67c12)
def F67c2 : Ac := (.seq (so F67o4 F67c5) F67c10)
def F67c0 : Ac := (so F67o1 F67c2)
/-- slices.Clone[[]byte,byte] -/
def F67 : Fn := { np := 1, sp := true, pb := [], rs := [.t 2], body := F67c0 }
def F70o1 := [
 o3 2 .mv [.i 0]]
def F70o3 := [
 om 3 0,
 o3 4 (.bin .mul) [.i 4, .t 3],
 o3 5 (.bin .add) [.i 28, .t 4],
 o3 6 (.callf 104) [.t 5, .i 16],
 om 2 6]
def F70c4 : Ac := .ret
def F70c2 : Ac := (so F70o3 F70c4)
def F70c0 : Ac := (so F70o1 F70c2)
/-- hansom/mz.head -/
def F70 : Fn := { np := 1, pb := [], rs := [.t 2], body := F70c0 }
def F71o1 := [
 o3 2 .mv [.w 0],
 o3 3 .mv [.w 0]]
def F71o3 := [
 om 4 0,
 o3 5 (.bin .and) [.t 4, .u 1048575],
 om 0 5]
def F71o5 := [
 om 6 0,
 o3 7 (.bin .shr) [.t 6, .c (.d (.int .u64 4))],
 o3 8 (.toInt .u16) [.t 7],
 om 9 0,
 o3 10 (.bin .and) [.t 9, .u 15],
 o3 11 (.toInt .u16) [.t 10],
 om 2 8,
 om 3 11]
def F71c6 : Ac := .ret
def F71c4 : Ac := (so F71o5 F71c6)
def F71c2 : Ac := (so F71o3 F71c4)
def F71c0 : Ac := (so F71o1 F71c2)
/-- hansom/bits.Normal -/
def F71 : Fn := { np := 1, pb := [], rs := [.t 2, .t 3], body := F71c0 }
def F72o1 := [
 o3 2 (.alloc [.d (.int .u16 0), .d (.int .u16 0), .d (.int .u16 0), .d (.int .u16 0), .d (.int .u16 0), .d (.int .u16 0), .d (.int .u16 0), .d (.int .u16 0), .d (.int .u16 0), .d (.int .u16 0)]) [],
 o3 3 .mv [.i 0]]
def F72o4 := [
 om 7 0,
 o3 8 .lenL [.t 7],
 o3 9 (.bin .lss) [.t 8, .i 28]]
def F72o7 := [
 o3 10 (.build [.d (.int .u16 0), .d (.int .u16 0), .d (.int .u16 0), .d (.int .u16 0), .d (.int .u16 0), .d (.int .u16 0), .d (.int .u16 0), .d (.int .u16 0), .d (.int .u16 0), .d (.int .u16 0)] []) [],
 o0 (.store 10) [.t 2, .t 10],
 o3 3 .mv [.i 2]]
def F72c8 : Ac := .ret
def F72c5 : Ac := (cd 9 (so F72o7 F72c8) .skip)
def F72o12 := [
 om 11 0,
 o3 12 (.iaddrS 1) [.t 11, .i 0],
 o3 13 (.load none) [.t 12],
 o3 14 (.bin .neq) [.t 13, .y 77],
 om 15 14,
 og 16 .mv [.t 0] 15 false,
 og 17 (.iaddrS 1) [.t 16, .i 1] 15 false,
 og 18 (.load none) [.t 17] 15 false,
 og 19 (.bin .neq) [.t 18, .y 90] 15 false,
 o3 20 .pick [.t 15, .b true, .t 19]]
def F72o15 := [
 o3 21 (.build [.d (.int .u16 0), .d (.int .u16 0), .d (.int .u16 0), .d (.int .u16 0), .d (.int .u16 0), .d (.int .u16 0), .d (.int .u16 0), .d (.int .u16 0), .d (.int .u16 0), .d (.int .u16 0)] []) [],
 o0 (.store 10) [.t 2, .t 21],
 o3 3 .mv [.i 440]]
def F72c16 : Ac := .ret
def F72c13 : Ac := (cd 20 (so F72o15 F72c16) .skip)
def F72o19 := [
 om 22 0,
 o3 23 (.subsl 1 true true false) [.t 22, .i 2, .i 28],
 o3 24 (.callf 50) [.t 23],
 om 4 24]
def F72o21 := [
 o3 5 .mv [.c (.fn 64 [])]]
def F72o23 := [
 om 25 5,
 om 26 4,
 o3 27 .callv [.t 25, .t 26],
 om 28 5,
 om 29 4,
 o3 30 .callv [.t 28, .t 29],
 om 31 5,
 om 32 4,
 o3 33 .callv [.t 31, .t 32],
 om 34 5,
 om 35 4,
 o3 36 .callv [.t 34, .t 35],
 om 37 5,
 om 38 4,
 o3 39 .callv [.t 37, .t 38],
 o3 40 (.build [.d (.int .u16 0), .d (.int .u16 0), .d (.int .u16 0), .d (.int .u16 0), .d (.int .u16 0), .d (.int .u16 0), .d (.int .u16 0), .d (.int .u16 0), .d (.int .u16 0), .d (.int .u16 0)] [(0, 1), (1, 1), (2, 1), (3, 1), (4, 1)]) [.t 27, .t 30, .t 33, .t 36, .t 39],
 o3 6 (.alloc [.d (.int .u16 0), .d (.int .u16 0), .d (.int .u16 0), .d (.int .u16 0), .d (.int .u16 0), .d (.int .u16 0), .d (.int .u16 0), .d (.int .u16 0), .d (.int .u16 0), .d (.int .u16 0)]) [],
 o0 (.store 10) [.t 6, .t 40]]
def F72o25 := [
 om 41 5,
 om 42 4,
 o3 43 .callv [.t 41, .t 42]]
def F72o27 := [
 om 44 5,
 om 45 4,
 o3 46 .callv [.t 44, .t 45],
 om 47 5,
 om 48 4,
 o3 49 .callv [.t 47, .t 48],
 o3 50 (.faddr 5) [.t 6],
 o0 (.store 1) [.t 50, .t 46],
 o3 51 (.faddr 6) [.t 6],
 o0 (.store 1) [.t 51, .t 49]]
def F72o29 := [
 om 52 5,
 om 53 4,
 o3 54 .callv [.t 52, .t 53]]
def F72o31 := [
 om 55 5,
 om 56 4,
 o3 57 .callv [.t 55, .t 56],
 om 58 5,
 om 59 4,
 o3 60 .callv [.t 58, .t 59],
 om 61 5,
 om 62 4,
 o3 63 .callv [.t 61, .t 62],
 o3 64 (.faddr 7) [.t 6],
 o0 (.store 1) [.t 64, .t 57],
 o3 65 (.faddr 8) [.t 6],
 o0 (.store 1) [.t 65, .t 60],
 o3 66 (.faddr 9) [.t 6],
 o0 (.store 1) [.t 66, .t 63]]
def F72o33 := [
 o3 67 (.load (some 10)) [.t 6],
 o0 (.store 10) [.t 2, .t 67],
 o3 3 .mv [.i 0]]
def F72c34 : Ac := .ret
def F72c32 : Ac := (so F72o33 F72c34)
def F72c30 : Ac := (so F72o31 F72c32)
def F72c28 : Ac := (so F72o29 F72c30)
def F72c26 : Ac := (so F72o27 F72c28)
def F72c24 : Ac := (so F72o25 F72c26)
def F72c22 : Ac := (so F72o23 F72c24)
def F72c20 : Ac := (so F72o21 F72c22)
def F72c18 : Ac := (so F72o19 F72c20)
def F72c10 : Ac := (.seq (so F72o12 F72c13) F72c18)
def F72c2 : Ac := (.seq (so F72o4 F72c5) F72c10)
def F72c0 : Ac := (so F72o1 F72c2)
/-- hansom/mz.first -/
def F72 : Fn := { np := 1, pb := [], rs := [.c 2 (some 10), .t 3], body := F72c0 }
def F73o1 := [
 o3 1 (.box 10) [.t 0],
 o3 2 .mv [.i 0],
 o3 3 .mv [.b false]]
def F73o3 := [
 o3 5 (.faddr 1) [.t 1],
 o3 6 (.load none) [.t 5],
 o3 7 (.toInt .i64) [.t 6],
 o3 8 (.bin .mul) [.t 7, .i 512],
 om 4 8]
def F73o6 := [
 o3 9 (.faddr 0) [.t 1],
 o3 10 (.load none) [.t 9],
 o3 11 (.bin .gtr) [.t 10, .w 0]]
def F73o8 := [
 om 12 4,
 o3 13 (.faddr 0) [.t 1],
 o3 14 (.load none) [.t 13],
 o3 15 (.toInt .i64) [.t 14],
 o3 16 (.bin .sub) [.t 15, .i 512],
 o3 17 (.bin .add) [.t 12, .t 16],
 om 4 17]
def F73c7 : Ac := (cd 11 (.ops F73o8) .skip)
def F73o11 := [
 om 18 4,
 o3 19 (.faddr 0) [.t 1],
 o3 20 (.load none) [.t 19],
 o3 21 (.bin .lss) [.t 20, .w 512],
 om 22 21,
 og 23 .mv [.t 4] 22 true,
 og 24 (.faddr 3) [.t 1] 22 true,
 og 25 (.load none) [.t 24] 22 true,
 og 26 (.toInt .i64) [.t 25] 22 true,
 og 27 (.bin .mul) [.t 26, .i 16] 22 true,
 og 28 (.bin .geq) [.t 23, .t 27] 22 true,
 o3 29 .pick [.t 22, .t 28, .b false],
 om 2 18,
 om 3 29]
def F73c12 : Ac := .ret
def F73c10 : Ac := (so F73o11 F73c12)
def F73c4 : Ac := (.seq (so F73o6 F73c7) F73c10)
def F73c2 : Ac := (so F73o3 F73c4)
def F73c0 : Ac := (so F73o1 F73c2)
/-- hansom/mz.size -/
def F73 : Fn := { np := 1, pb := [], rs := [.t 2, .t 3], body := F73c0 }
def F74o1 := [
 o3 4 (.box 10) [.t 1],
 o3 6 .mv [.c (.nils)],
 o3 7 .mv [.i 0]]
def F74o3 := [
 o3 15 (.faddr 9) [.t 4],
 o3 16 (.load none) [.t 15],
 o3 17 (.toInt .i64) [.t 16],
 om 8 17]
def F74o6 := [
 o3 18 (.faddr 2) [.t 4],
 o3 19 (.load none) [.t 18],
 o3 20 (.bin .gtr) [.t 19, .w 4000]]
def F74o9 := [
 o3 6 .mv [.c (.nils)],
 o3 7 .mv [.i 8]]
def F74c10 : Ac := (.seq (.gh [.frz 6]) .ret)
def F74c7 : Ac := (cd 20 (so F74o9 F74c10) .skip)
def F74o14 := [
 om 21 0,
 o3 22 .lenL [.t 21],
 om 23 8,
 o3 24 (.faddr 2) [.t 4],
 o3 25 (.load none) [.t 24],
 o3 26 (.toInt .i64) [.t 25],
 o3 27 (.bin .mul) [.i 4, .t 26],
 o3 28 (.bin .add) [.t 23, .t 27],
 o3 29 (.bin .lss) [.t 22, .t 28],
 om 30 29,
 og 31 .mv [.t 8] 30 false,
 og 32 (.faddr 2) [.t 4] 30 false,
 og 33 (.load none) [.t 32] 30 false,
 og 34 (.toInt .i64) [.t 33] 30 false,
 og 35 (.bin .mul) [.i 4, .t 34] 30 false,
 og 36 (.bin .add) [.t 31, .t 35] 30 false,
 og 37 (.faddr 3) [.t 4] 30 false,
 og 38 (.load none) [.t 37] 30 false,
 og 39 (.toInt .i64) [.t 38] 30 false,
 og 40 (.bin .mul) [.t 39, .i 16] 30 false,
 og 41 (.bin .gtr) [.t 36, .t 40] 30 false,
 o3 42 .pick [.t 30, .b true, .t 41]]
def F74o17 := [
 o3 6 .mv [.c (.nils)],
 o3 7 .mv [.i 2]]
def F74c18 : Ac := (.seq (.gh [.frz 6]) .ret)
def F74c15 : Ac := (cd 42 (so F74o17 F74c18) .skip)
def F74o21 := [
 o3 9 .mv [.c (.nils)]]
def F74o24 := [
 o3 43 (.faddr 2) [.t 4],
 o3 44 (.load none) [.t 43],
 o3 45 (.toInt .i64) [.t 44],
 o3 46 .mv [.i 0]]
def F74o28 := [
 o3 47 (.bin .lss) [.t 46, .t 45]]
def F74o36 := [
 om 48 46,
 om 10 48]
def F74o38 := [
 om 49 0,
 om 50 8,
 om 51 10,
 o3 52 (.bin .mul) [.i 4, .t 51],
 o3 53 (.bin .add) [.t 50, .t 52],
 om 54 8,
 om 55 10,
 o3 56 (.bin .mul) [.i 4, .t 55],
 o3 57 (.bin .add) [.t 54, .t 56],
 o3 58 (.bin .add) [.t 57, .i 4],
 o3 59 (.subsl 1 true true false) [.t 49, .t 53, .t 58],
 o3 60 (.callf 50) [.t 59],
 om 11 60]
def F74o40 := [
 om 61 11,
 o3 62 (.callf 64) [.t 61],
 om 12 62]
def F74o41 := [
 om 63 9,
 om 64 11,
 o3 65 (.callf 64) [.t 64],
 om 66 12,
 o3 67 (.callf 105) [.t 65, .t 66],
 o3 68 (.toInt .i64) [.t 67],
 o3 69 (.bslice (.int .i64 0) 1 [0]) [.t 68],
 o3 70 (.append 1 8 false) [.t 63, .t 69],
 om 9 70]
def F74c41 : Ac := (.ops F74o41)
def F74c39 : Ac := (so F74o40 F74c41)
def F74c37 : Ac := (so F74o38 F74c39)
def F74o42 := [
 o3 71 (.bin .add) [.t 46, .i 1],
 om 46 71]
def F74c42 : Ac := (.ops F74o42)
def F74c33 : Ac := (.seq (.block 1 (so F74o36 F74c37)) F74c42)
def F74c29 : Ac := (.seq (cd 47 .skip (.exit 0)) F74c33)
def F74l26 : Ac := (so F74o28 F74c29)
def F74c25 : Ac := (.block 0 (.loop (.seq (.gh []) (.seq (.keep [0, 2, 8, 9, 45, 46] [[9]]) F74l26))))
def F74o44 := [
 om 72 9,
 o3 73 (.callf 106) [.l 72]]
def F74o47 := [
 om 74 9,
 o3 75 .lenL [.t 74],
 o3 76 .mv [.i 0]]
def F74o51 := [
 o3 77 (.bin .lss) [.t 76, .t 75]]
def F74o59 := [
 om 78 76,
 o3 79 (.iaddrS 1) [.t 74, .t 76],
 o3 80 (.load none) [.t 79],
 om 13 78,
 om 14 80]
def F74o61 := [
 om 81 14,
 om 82 2,
 o3 83 (.bin .sub) [.t 82, .i 2],
 o3 84 (.bin .gtr) [.t 81, .t 83],
 om 85 84,
 og 86 .mv [.t 13] 85 false,
 og 87 (.bin .gtr) [.t 86, .i 0] 85 false,
 og 88 .mv [.t 87] 85 false,
 og 89 .mv [.t 14] 88 true,
 og 90 .mv [.t 9] 88 true,
 og 91 .mv [.t 13] 88 true,
 og 92 (.bin .sub) [.t 91, .i 1] 88 true,
 og 93 (.iaddrS 1) [.t 90, .t 92] 88 true,
 og 94 (.load none) [.t 93] 88 true,
 og 95 (.bin .sub) [.t 89, .t 94] 88 true,
 og 96 (.bin .lss) [.t 95, .i 2] 88 true,
 og 97 .pick [.t 88, .t 96, .b false] 85 false,
 o3 98 .pick [.t 85, .b true, .t 97]]
def F74o64 := [
 o3 6 .mv [.c (.nils)],
 o3 7 .mv [.i 3]]
def F74c65 : Ac := (.seq (.gh [.frz 6]) .ret)
def F74c62 : Ac := (cd 98 (so F74o64 F74c65) .skip)
def F74c60 : Ac := (so F74o61 F74c62)
def F74o67 := [
 o3 99 (.bin .add) [.t 76, .i 1],
 om 76 99]
def F74c67 : Ac := (.ops F74o67)
def F74c56 : Ac := (.seq (.block 3 (so F74o59 F74c60)) F74c67)
def F74c52 : Ac := (.seq (cd 77 .skip (.exit 2)) F74c56)
def F74l49 : Ac := (so F74o51 F74c52)
def F74c48 : Ac := (.block 2 (.loop (.seq (.gh [.frz 74]) (.seq (.keep [2, 9, 74, 75, 76] [[9]]) F74l49))))
def F74o69 := [
 om 100 9,
 om 6 100,
 o3 7 .mv [.i 0]]
def F74c70 : Ac := (.seq (.gh [.frz 6]) .ret)
def F74b68 : Ac := (so F74o69 F74c70)
def F74c68 : Ac := (.seq (.gh []) (.seq (.keep [9] [[9]]) F74b68))
def F74c45 : Ac := (.seq (so F74o47 F74c48) F74c68)
def F74b43 : Ac := (so F74o44 F74c45)
def F74c43 : Ac := (.seq (.gh []) (.seq (.keep [2, 9] [[9]]) F74b43))
def F74b22 : Ac := (.seq (so F74o24 F74c25) F74c43)
def F74c22 : Ac := (.seq (.gh [.own 9 [9] 1]) (.seq (.keep [0, 2, 4, 8, 9] [[4], [9]]) F74b22))
def F74c20 : Ac := (so F74o21 F74c22)
def F74c12 : Ac := (.seq (so F74o14 F74c15) F74c20)
def F74c4 : Ac := (.seq (so F74o6 F74c7) F74c12)
def F74c2 : Ac := (so F74o3 F74c4)
def F74c0 : Ac := (so F74o1 F74c2)
/-- hansom/mz.sites -/
def F74 : Fn := { np := 3, pb := [], rs := [.t 6, .t 7], body := F74c0 }
def F75o1 := [
 o3 2 .mv [.i 0]]
def F75o4 := [
 om 3 0,
 o3 4 (.bin .lss) [.t 3, .i 1]]
def F75o7 := [
 o3 2 .mv [.i 0]]
def F75c8 : Ac := .ret
def F75c5 : Ac := (cd 4 (so F75o7 F75c8) .skip)
def F75o11 := [
 om 5 0,
 o3 6 (.bin .sub) [.t 5, .i 1],
 o3 7 (.bin .quo) [.t 6, .i 16],
 o3 8 (.bin .add) [.t 7, .i 1],
 om 2 8]
def F75c12 : Ac := .ret
def F75c10 : Ac := (so F75o11 F75c12)
def F75c2 : Ac := (.seq (so F75o4 F75c5) F75c10)
def F75c0 : Ac := (so F75o1 F75c2)
/-- hansom/bits.Paras -/
def F75 : Fn := { np := 1, pb := [], rs := [.t 2], body := F75c0 }
def F99o1 := [
 o3 4 .mv [.c (.nils)]]
def F99o4 := [
 om 6 0,
 o3 7 (.eqp false) [.t 6, .c (.nilp)]]
def F99o7 := [
 o3 4 .mv [.c (.nils)]]
def F99c8 : Ac := .ret
def F99c5 : Ac := (cd 7 (so F99o7 F99c8) .skip)
def F99o12 := [
 om 8 1,
 o3 9 (.bin .lss) [.t 8, .i 0],
 om 10 9,
 og 11 .mv [.t 1] 10 false,
 og 12 .mv [.t 0] 10 false,
 og 13 .nilchk [.t 12] 10 false,
 og 14 (.faddr 0) [.t 13] 10 false,
 og 15 (.load none) [.t 14] 10 false,
 og 16 .lenL [.t 15] 10 false,
 og 17 (.bin .gtr) [.t 11, .t 16] 10 false,
 o3 18 .pick [.t 10, .b true, .t 17]]
def F99o15 := [
 om 19 0,
 o3 20 (.callf 56) [.t 19, .i 2]]
def F99o17 := [
 o3 4 .mv [.c (.nils)]]
def F99c18 : Ac := (.seq (.gh [.frz 4]) .ret)
def F99c16 : Ac := (so F99o17 F99c18)
def F99c13 : Ac := (cd 18 (so F99o15 F99c16) .skip)
def F99o21 := [
 om 21 0,
 o3 22 .nilchk [.t 21],
 o3 23 (.faddr 0) [.t 22],
 o3 24 (.load none) [.t 23],
 om 25 1,
 om 26 1,
 o3 27 (.subsl 1 false true true) [.t 24, .t 25, .t 26],
 om 5 27]
def F99o23 := [
 om 28 0,
 om 29 0,
 o3 30 .nilchk [.t 29],
 o3 31 (.faddr 0) [.t 30],
 o3 32 (.load none) [.t 31],
 om 33 1,
 o3 34 (.subsl 1 true false false) [.t 32, .t 33],
 o3 35 .nilchk [.t 28],
 o3 36 (.faddr 0) [.t 35],
 o0 (.store 1) [.t 36, .t 34]]
def F99o25 := [
 om 37 5,
 om 4 37]
def F99c26 : Ac := .ret
def F99c24 : Ac := (so F99o25 F99c26)
def F99c22 : Ac := (so F99o23 F99c24)
def F99c20 : Ac := (so F99o21 F99c22)
def F99c10 : Ac := (.seq (so F99o12 F99c13) F99c20)
def F99c2 : Ac := (.seq (so F99o4 F99c5) F99c10)
def F99c0 : Ac := (so F99o1 F99c2)
/-- (*hansom/index.Source).Take -/
def F99 : Fn := { np := 2, pb := [[0]], rs := [.t 4], body := F99c0 }
def F100o1 := [
 o3 2 .mv [.y 0]]
def F100o3 := [
 om 3 0,
 o3 4 (.toInt .u8) [.t 3],
 om 2 4]
def F100c4 : Ac := .ret
def F100c2 : Ac := (so F100o3 F100c4)
def F100c0 : Ac := (so F100o1 F100c2)
/-- hansom/bits.Low -/
def F100 : Fn := { np := 1, pb := [], rs := [.t 2], body := F100c0 }
def F101o1 := [
 o3 2 .mv [.y 0]]
def F101o3 := [
 om 3 0,
 o3 4 (.bin .shr) [.t 3, .c (.d (.int .u64 8))],
 o3 5 (.toInt .u8) [.t 4],
 om 2 5]
def F101c4 : Ac := .ret
def F101c2 : Ac := (so F101o3 F101c4)
def F101c0 : Ac := (so F101o1 F101c2)
/-- hansom/bits.High -/
def F101 : Fn := { np := 1, pb := [], rs := [.t 2], body := F101c0 }
def F102o1 := [
 o3 4 .mv [.w 0]]
def F102o3 := [
 om 5 0,
 o3 6 (.toInt .u16) [.t 5],
 om 7 1,
 o3 8 (.toInt .u16) [.t 7],
 o3 9 (.bin .shl) [.t 8, .c (.d (.int .u64 8))],
 o3 10 (.bin .or) [.t 6, .t 9],
 om 4 10]
def F102c4 : Ac := .ret
def F102c2 : Ac := (so F102o3 F102c4)
def F102c0 : Ac := (so F102o1 F102c2)
/-- hansom/bits.Word -/
def F102 : Fn := { np := 2, pb := [], rs := [.t 4], body := F102c0 }
def F104o1 := [
 o3 4 .mv [.i 0]]
def F104o4 := [
 om 5 1,
 o3 6 (.bin .lss) [.t 5, .i 1],
 om 7 6,
 og 8 .mv [.t 1] 7 false,
 og 9 (.bin .gtr) [.t 8, .i 4096] 7 false,
 o3 10 .pick [.t 7, .b true, .t 9],
 om 11 10,
 og 12 .mv [.t 1] 11 false,
 og 13 .mv [.t 1] 11 false,
 og 14 (.bin .sub) [.t 13, .i 1] 11 false,
 og 15 (.bin .and) [.t 12, .t 14] 11 false,
 og 16 (.bin .neq) [.t 15, .i 0] 11 false,
 o3 17 .pick [.t 11, .b true, .t 16]]
def F104o6 := [
 o3 1 .mv [.i 1]]
def F104c5 : Ac := (cd 17 (.ops F104o6) .skip)
def F104o9 := [
 om 18 0,
 o3 19 .mx [.t 18, .i 0],
 o3 20 .mn [.t 19, .i 16777216],
 om 0 20]
def F104o11 := [
 om 21 0,
 om 22 1,
 o3 23 (.bin .add) [.t 21, .t 22],
 o3 24 (.bin .sub) [.t 23, .i 1],
 om 25 1,
 o3 26 (.bin .sub) [.t 25, .i 1],
 o3 27 (.bin .andNot) [.t 24, .t 26],
 om 4 27]
def F104c12 : Ac := .ret
def F104c10 : Ac := (so F104o11 F104c12)
def F104c8 : Ac := (so F104o9 F104c10)
def F104c2 : Ac := (.seq (so F104o4 F104c5) F104c8)
def F104c0 : Ac := (so F104o1 F104c2)
/-- hansom/bits.Up -/
def F104 : Fn := { np := 2, pb := [], rs := [.t 4], body := F104c0 }
def F105o1 := [
 o3 4 .mv [.u 0]]
def F105o3 := [
 om 5 0,
 o3 6 (.toInt .u32) [.t 5],
 o3 7 (.bin .shl) [.t 6, .c (.d (.int .u64 4))],
 om 8 1,
 o3 9 (.toInt .u32) [.t 8],
 o3 10 (.bin .add) [.t 7, .t 9],
 o3 11 (.bin .and) [.t 10, .u 1048575],
 om 4 11]
def F105c4 : Ac := .ret
def F105c2 : Ac := (so F105o3 F105c4)
def F105c0 : Ac := (so F105o1 F105c2)
/-- hansom/bits.Linear -/
def F105 : Fn := { np := 2, pb := [], rs := [.t 4], body := F105c0 }
def F106o1 := [
 om 3 0,
 o3 4 .lenL [.t 3],
 om 2 4]
def F106o2 := [
 om 5 0,
 om 6 2,
 om 7 2,
 o3 8 (.toInt .u64) [.t 7],
 o3 9 (.callf 136) [.t 8],
 o3 10 (.callf 135) [.l 5, .i 0, .t 6, .t 9]]
def F106c2 : Ac := (.ops F106o2)
def F106c0 : Ac := (so F106o1 F106c2)
/-- slices.Sort[[]int,int] -/
def F106 : Fn := { np := 1, pb := [[0]], rs := [], body := (.seq F106c0 (.gh [])) }
def F135o1 := [
 o3 8 .mv [.b true]]
def F135o3 := [
 o3 9 .mv [.b true]]
def F135o8 := [
 om 19 2,
 om 20 1,
 o3 21 (.bin .sub) [.t 19, .t 20],
 om 10 21]
def F135o11 := [
 om 22 10,
 o3 23 (.bin .leq) [.t 22, .i 12]]
def F135o14 := [
 om 24 0,
 om 25 1,
 om 26 2,
 o3 27 (.callf 160) [.l 24, .t 25, .t 26]]
def F135c15 : Ac := .ret
def F135c12 : Ac := (cd 23 (so F135o14 F135c15) .skip)
def F135o19 := [
 om 28 3,
 o3 29 (.bin .eql) [.t 28, .i 0]]
def F135c23 : Ac := .ret
def F135c20 : Ac := (cd 29 (.seq deadA F135c23) .skip)
def F135o27 := [
 om 34 8,
 o3 35 (.un .not) [.t 34]]
def F135o31 := [
 om 40 3,
 o3 41 (.bin .sub) [.t 40, .i 1],
 om 3 41]
def F135c31 : Ac := (.ops F135o31)
def F135c28 : Ac := (cd 35 (.seq deadA F135c31) .skip)
def F135o37 := [
 om 49 12,
 o3 50 (.bin .eql) [.t 49, .i 2]]
def F135o40 := [
 om 51 0,
 om 52 1,
 om 53 2,
 o3 54 (.callf 164) [.t 51, .t 52, .t 53]]
def F135o42 := [
 om 55 2,
 o3 56 (.bin .sub) [.t 55, .i 1],
 om 57 11,
 om 58 1,
 o3 59 (.bin .sub) [.t 57, .t 58],
 o3 60 (.bin .sub) [.t 56, .t 59],
 om 11 60]
def F135o43 := [
 o3 12 .mv [.i 1]]
def F135c43 : Ac := (.ops F135o43)
def F135c41 : Ac := (so F135o42 F135c43)
def F135c38 : Ac := (cd 50 (so F135o40 F135c41) .skip)
def F135o47 := [
 om 61 8,
 om 62 61,
 og 63 .mv [.t 9] 62 true,
 o3 64 .pick [.t 62, .t 63, .b false],
 om 65 64,
 og 66 .mv [.t 12] 65 true,
 og 67 (.bin .eql) [.t 66, .i 1] 65 true,
 o3 68 .pick [.t 65, .t 67, .b false]]
def F135c51 : Ac := (cd 72 .ret .skip)
def F135c48 : Ac := (cd 68 (.seq deadA F135c51) .skip)
def F135o57 := [
 om 73 1,
 o3 74 (.bin .gtr) [.t 73, .i 0],
 om 75 74,
 og 76 .mv [.t 0] 75 true,
 og 77 .mv [.t 1] 75 true,
 og 78 (.bin .sub) [.t 77, .i 1] 75 true,
 og 79 (.iaddrS 1) [.t 76, .t 78] 75 true,
 og 80 (.load none) [.t 79] 75 true,
 og 81 .mv [.t 0] 75 true,
 og 82 .mv [.t 11] 75 true,
 og 83 (.iaddrS 1) [.t 81, .t 82] 75 true,
 og 84 (.load none) [.t 83] 75 true,
 og 85 (.callf 166) [.t 80, .t 84] 75 true,
 og 86 (.un .not) [.t 85] 75 true,
 o3 87 .pick [.t 75, .t 86, .b false]]
def F135o62 := [
 om 93 13,
 om 1 93]
def F135c63 : Ac := (.exit 1)
def F135c61 : Ac := (so F135o62 F135c63)
def F135c58 : Ac := (cd 87 (.seq deadA F135c61) .skip)
def F135o68 := [
 om 102 15,
 om 9 102]
def F135o70 := [
 om 103 14,
 om 104 1,
 o3 105 (.bin .sub) [.t 103, .t 104],
 om 106 2,
 om 107 14,
 o3 108 (.bin .sub) [.t 106, .t 107],
 om 16 105,
 om 17 108]
def F135o72 := [
 om 109 10,
 o3 110 (.bin .quo) [.t 109, .i 8],
 om 18 110]
def F135o74 := [
 om 111 16,
 om 112 17,
 o3 113 (.bin .lss) [.t 111, .t 112]]
def F135o77 := [
 om 114 16,
 om 115 18,
 o3 116 (.bin .geq) [.t 114, .t 115],
 om 8 116]
def F135o79 := [
 om 117 0,
 om 118 1,
 om 119 14,
 om 120 3,
 o3 121 (.callf 135) [.l 117, .t 118, .t 119, .t 120]]
def F135o80 := [
 om 122 14,
 o3 123 (.bin .add) [.t 122, .i 1],
 om 1 123]
def F135c80 : Ac := (.ops F135o80)
def F135c78 : Ac := (so F135o79 F135c80)
def F135o82 := [
 om 124 17,
 om 125 18,
 o3 126 (.bin .geq) [.t 124, .t 125],
 om 8 126]
def F135o84 := [
 om 127 0,
 om 128 14,
 o3 129 (.bin .add) [.t 128, .i 1],
 om 130 2,
 om 131 3,
 o3 132 (.callf 135) [.l 127, .t 129, .t 130, .t 131]]
def F135o85 := [
 om 133 14,
 om 2 133]
def F135c85 : Ac := (.ops F135o85)
def F135c83 : Ac := (so F135o84 F135c85)
def F135c75 : Ac := (cd 113 (so F135o77 F135c78) (so F135o82 F135c83))
def F135c73 : Ac := (so F135o74 F135c75)
def F135c71 : Ac := (so F135o72 F135c73)
def F135c69 : Ac := (so F135o70 F135c71)
def F135c67 : Ac := (so F135o68 F135c69)
def F135c65 : Ac := (.seq deadA F135c67)
def F135c55 : Ac := (.seq (so F135o57 F135c58) F135c65)
def F135c45 : Ac := (.seq (so F135o47 F135c48) F135c55)
def F135c35 : Ac := (.seq (so F135o37 F135c38) F135c45)
def F135c33 : Ac := (.seq deadA F135c35)
def F135c25 : Ac := (.seq (so F135o27 F135c28) F135c33)
def F135c17 : Ac := (.seq (so F135o19 F135c20) F135c25)
def F135c9 : Ac := (.seq (so F135o11 F135c12) F135c17)
def F135l5 : Ac := (.block 1 (so F135o8 F135c9))
def F135c4 : Ac := (.block 0 (.loop (.seq (.gh []) (.seq (.keep [0, 1, 2, 3, 8, 9] [[0]]) F135l5))))
def F135c2 : Ac := (so F135o3 F135c4)
def F135b86 : Ac := .skip
def F135c86 : Ac := (.seq (.gh []) (.seq (.keep [] [[0]]) F135b86))
def F135c0 : Ac := (.seq (so F135o1 F135c2) F135c86)
/-- slices.pdqsortOrdered[int] -/
def F135 : Fn := { np := 4, pb := [[0]], rs := [], body := F135c0 }
def F136o1 := [
 o3 2 .mv [.i 0]]
def F136o5 := [
 om 3 0,
 o3 4 (.toInt .u32) [.t 3],
 o3 5 (.callf 169) [.t 4],
 om 2 5]
def F136c6 : Ac := .ret
def F136o9 := [
 om 6 0,
 o3 7 (.callf 170) [.t 6],
 om 2 7]
def F136c10 : Ac := .ret
def F136c8 : Ac := (so F136o9 F136c10)
def F136c2 : Ac := (.seq (.cond (.b false) (so F136o5 F136c6) .skip) F136c8)
def F136c0 : Ac := (so F136o1 F136c2)
/-- math/bits.Len -/
def F136 : Fn := { np := 1, pb := [], rs := [.t 2], body := F136c0 }
def F160o1 := [
 om 8 1,
 o3 9 (.bin .add) [.t 8, .i 1],
 om 6 9]
def F160o6 := [
 om 10 6,
 om 11 2,
 o3 12 (.bin .lss) [.t 10, .t 11]]
def F160c7 : Ac := (cd 12 .skip (.exit 0))
def F160o13 := [
 om 15 6,
 om 7 15]
def F160o18 := [
 om 16 7,
 om 17 1,
 o3 18 (.bin .gtr) [.t 16, .t 17],
 om 19 18,
 og 20 .mv [.t 0] 19 true,
 og 21 .mv [.t 7] 19 true,
 og 22 (.iaddrS 1) [.t 20, .t 21] 19 true,
 og 23 (.load none) [.t 22] 19 true,
 og 24 .mv [.t 0] 19 true,
 og 25 .mv [.t 7] 19 true,
 og 26 (.bin .sub) [.t 25, .i 1] 19 true,
 og 27 (.iaddrS 1) [.t 24, .t 26] 19 true,
 og 28 (.load none) [.t 27] 19 true,
 og 29 (.callf 166) [.t 23, .t 28] 19 true,
 o3 30 .pick [.t 19, .t 29, .b false]]
def F160c19 : Ac := (cd 30 .skip (.exit 2))
def F160o24 := [
 om 33 0,
 om 34 7,
 om 35 0,
 om 36 7,
 o3 37 (.bin .sub) [.t 36, .i 1],
 om 38 0,
 om 39 7,
 o3 40 (.bin .sub) [.t 39, .i 1],
 o3 41 (.iaddrS 1) [.t 38, .t 40],
 o3 42 (.load none) [.t 41],
 om 43 0,
 om 44 7,
 o3 45 (.iaddrS 1) [.t 43, .t 44],
 o3 46 (.load none) [.t 45],
 o3 47 (.iaddrS 1) [.t 33, .t 34],
 o0 (.store 1) [.t 47, .t 42],
 o3 48 (.iaddrS 1) [.t 35, .t 37],
 o0 (.store 1) [.t 48, .t 46]]
def F160o25 := [
 om 31 7,
 o3 32 (.bin .sub) [.t 31, .i 1],
 om 7 32]
def F160c25 : Ac := (.ops F160o25)
def F160c22 : Ac := (.seq (.block 3 (.ops F160o24)) F160c25)
def F160l15 : Ac := (.seq (so F160o18 F160c19) F160c22)
def F160c14 : Ac := (.block 2 (.loop (.seq (.gh []) (.seq (.keep [0, 1, 2, 6, 7] [[0]]) F160l15))))
def F160o26 := [
 om 13 6,
 o3 14 (.bin .add) [.t 13, .i 1],
 om 6 14]
def F160b26 : Ac := (.ops F160o26)
def F160c26 : Ac := (.seq (.gh []) (.seq (.keep [0, 1, 2, 6] [[0]]) F160b26))
def F160c10 : Ac := (.seq (.block 1 (so F160o13 F160c14)) F160c26)
def F160l3 : Ac := (.seq (so F160o6 F160c7) F160c10)
def F160c2 : Ac := (.block 0 (.loop (.seq (.gh []) (.seq (.keep [0, 1, 2, 6] [[0]]) F160l3))))
def F160b27 : Ac := .skip
def F160c27 : Ac := (.seq (.gh []) (.seq (.keep [] [[0]]) F160b27))
def F160c0 : Ac := (.seq (so F160o1 F160c2) F160c27)
/-- slices.insertionSortOrdered[int] -/
def F160 : Fn := { np := 3, pb := [[0]], rs := [], body := (.seq F160c0 (.gh [])) }
def F166o1 := [
 o3 4 .mv [.b false]]
def F166o3 := [
 om 5 0,
 o3 6 (.callf 183) [.t 5],
 om 7 6,
 og 8 .mv [.t 1] 7 true,
 og 9 (.callf 183) [.t 8] 7 true,
 og 10 (.un .not) [.t 9] 7 true,
 o3 11 .pick [.t 7, .t 10, .b false],
 om 12 11,
 og 13 .mv [.t 0] 12 false,
 og 14 .mv [.t 1] 12 false,
 og 15 (.bin .lss) [.t 13, .t 14] 12 false,
 o3 16 .pick [.t 12, .b true, .t 15],
 om 4 16]
def F166c4 : Ac := .ret
def F166c2 : Ac := (so F166o3 F166c4)
def F166c0 : Ac := (so F166o1 F166c2)
/-- cmp.Less[int] -/
def F166 : Fn := { np := 2, pb := [], rs := [.t 4], body := F166c0 }
def F170o1 := [
 o3 2 .mv [.i 0]]
def F170o4 := [
 om 3 0,
 o3 4 (.bin .geq) [.t 3, .c (.d (.int .u64 4294967296))]]
def F170o7 := [
 om 5 0,
 o3 6 (.bin .shr) [.t 5, .c (.d (.int .u64 32))],
 om 0 6]
def F170o8 := [
 o3 2 .mv [.i 32]]
def F170c8 : Ac := (.ops F170o8)
def F170c5 : Ac := (cd 4 (so F170o7 F170c8) .skip)
def F170o12 := [
 om 7 0,
 o3 8 (.bin .geq) [.t 7, .c (.d (.int .u64 65536))]]
def F170o15 := [
 om 9 0,
 o3 10 (.bin .shr) [.t 9, .c (.d (.int .u64 16))],
 om 0 10]
def F170o16 := [
 om 11 2,
 o3 12 (.bin .add) [.t 11, .i 16],
 om 2 12]
def F170c16 : Ac := (.ops F170o16)
def F170c13 : Ac := (cd 8 (so F170o15 F170c16) .skip)
def F170o20 := [
 om 13 0,
 o3 14 (.bin .geq) [.t 13, .c (.d (.int .u64 256))]]
def F170o23 := [
 om 15 0,
 o3 16 (.bin .shr) [.t 15, .c (.d (.int .u64 8))],
 om 0 16]
def F170o24 := [
 om 17 2,
 o3 18 (.bin .add) [.t 17, .i 8],
 om 2 18]
def F170c24 : Ac := (.ops F170o24)
def F170c21 : Ac := (cd 14 (so F170o23 F170c24) .skip)
def F170o27 := [
 om 19 2,
 om 20 0,
 o3 21 (.toInt .u8) [.t 20],
 o3 22 .indexS [.c (.d (.str [0, 1, 2, 2, 3, 3, 3, 3, 4, 4, 4, 4, 4, 4, 4, 4, 5, 5, 5, 5, 5, 5, 5, 5, 5, 5, 5, 5, 5, 5, 5, 5, 6, 6, 6, 6, 6, 6, 6, 6, 6, 6, 6, 6, 6, 6, 6, 6, 6, 6, 6, 6, 6, 6, 6, 6, 6, 6, 6, 6, 6, 6, 6, 6, 7, 7, 7, 7, 7, 7, 7, 7, 7, 7, 7, 7, 7, 7, 7, 7, 7, 7, 7, 7, 7, 7, 7, 7, 7, 7, 7, 7, 7, 7, 7, 7, 7, 7, 7, 7, 7, 7, 7, 7, 7, 7, 7, 7, 7, 7, 7, 7, 7, 7, 7, 7, 7, 7, 7, 7, 7, 7, 7, 7, 7, 7, 7, 7, 8, 8, 8, 8, 8, 8, 8, 8, 8, 8, 8, 8, 8, 8, 8, 8, 8, 8, 8, 8, 8, 8, 8, 8, 8, 8, 8, 8, 8, 8, 8, 8, 8, 8, 8, 8, 8, 8, 8, 8, 8, 8, 8, 8, 8, 8, 8, 8, 8, 8, 8, 8, 8, 8, 8, 8, 8, 8, 8, 8, 8, 8, 8, 8, 8, 8, 8, 8, 8, 8, 8, 8, 8, 8, 8, 8, 8, 8, 8, 8, 8, 8, 8, 8, 8, 8, 8, 8, 8, 8, 8, 8, 8, 8, 8, 8, 8, 8, 8, 8, 8, 8, 8, 8, 8, 8, 8, 8, 8, 8, 8, 8, 8, 8, 8, 8, 8, 8, 8, 8, 8, 8, 8, 8, 8, 8, 8, 8])), .t 21],
 o3 23 (.toInt .i64) [.t 22],
 o3 24 (.bin .add) [.t 19, .t 23],
 om 2 24]
def F170c28 : Ac := .ret
def F170c26 : Ac := (so F170o27 F170c28)
def F170b18 : Ac := (.seq (so F170o20 F170c21) F170c26)
def F170c18 : Ac := (.seq (.gh []) (.seq (.keep [0, 2] []) F170b18))
def F170b10 : Ac := (.seq (so F170o12 F170c13) F170c18)
def F170c10 : Ac := (.seq (.gh []) (.seq (.keep [0, 2] []) F170b10))
def F170c2 : Ac := (.seq (so F170o4 F170c5) F170c10)
def F170c0 : Ac := (so F170o1 F170c2)
/-- math/bits.Len64 -/
def F170 : Fn := { np := 1, pb := [], rs := [.t 2], body := F170c0 }
def F183o1 := [
 o3 2 .mv [.b false]]
def F183o3 := [
 om 3 0,
 om 4 0,
 o3 5 (.bin .neq) [.t 3, .t 4],
 om 2 5]
def F183c4 : Ac := .ret
def F183c2 : Ac := (so F183o3 F183c4)
def F183c0 : Ac := (so F183o1 F183c2)
/-- cmp.isNaN[int] -/
def F183 : Fn := { np := 1, pb := [], rs := [.t 2], body := F183c0 }
def hints : Nat → Nat → Hint
  | 32, 13 => [(4, [[10]], some []), (7, [[60], [10]], none), (9, [[60], [10]], none), (11, [[60], [10]], none), (13, [[60], [10]], none), (15, [[60], [10]], none), (18, [[60]], none)]
  | 34, 1 => [(11, [[20]], none), (15, [], some [])]
  | _, _ => []
def keepf : Nat → Keeps
  | 31, 8 => some ([0, 1, 4, 7, 54, 55, 56], [[0, 1], [1], [1, 1], [52], [53], [62], [63], [80], [81], [83], [84], [91], [95]])
  | 31, 13 => some ([0, 1, 4, 7, 66, 67, 68], [[0, 1], [1], [1, 1], [52], [53], [62], [63], [80], [81], [83], [84], [91], [95]])
  | 34, 4 => some ([0, 1, 31, 32, 33], [[0, 1], [1], [1, 1]])
  | 74, 8 => some ([0, 1, 2, 8, 9, 45, 46], [[0, 60], [4], [60], [69], [70]])
  | 74, 16 => some ([0, 1, 2, 9, 74, 75, 76], [[0, 60], [4], [60], [69], [70]])
  | 135, 2 => some ([0, 1, 2, 3, 8, 9], [])
  | 160, 1 => some ([0, 1, 2, 6], [])
  | 160, 4 => some ([0, 1, 2, 6, 7], [])
  | 161, 4 => some ([0, 1, 2, 6, 7, 8, 9], [])
  | 161, 8 => some ([0, 1, 2, 6, 7, 10], [])
  | 162, 5 => some ([0, 1, 2, 6, 7, 8, 9], [[7]])
  | 164, 2 => some ([0, 1, 2, 6, 7], [])
  | 165, 3 => some ([0, 1, 2, 7, 8], [])
  | 165, 5 => some ([0, 1, 2, 7, 8], [])
  | 165, 14 => some ([0, 1, 2, 7, 8, 9], [])
  | 165, 20 => some ([0, 1, 2, 7, 8, 10], [])
  | 167, 100003 => some ([0, 1, 2, 3, 9, 10], [])
  | 167, 3 => some ([0, 1, 2, 3, 9, 10], [])
  | 167, 5 => some ([0, 1, 2, 3, 9, 10], [])
  | 168, 3 => some ([0, 1, 2, 3, 10, 11], [])
  | 168, 5 => some ([0, 1, 2, 3, 10, 11], [])
  | 168, 100013 => some ([0, 1, 2, 3, 10, 11], [])
  | 168, 13 => some ([0, 1, 2, 3, 10, 11], [])
  | 168, 15 => some ([0, 1, 2, 3, 10, 11], [])
  | 178, 1 => some ([0, 1, 2, 3, 8], [])
  | _, _ => none
def spf : Nat → Bool := fun n => [67, 1000006, 1000009, 1000029, 1000030, 1000031, 1000032, 1000034, 1000035, 1000050, 1000056, 1000058, 1000062, 1000064, 1000067, 1000070, 1000071, 1000072, 1000073, 1000074, 1000075, 1000099, 1000100, 1000101, 1000102, 1000104, 1000105, 1000136, 1000166, 1000170, 1000183].contains n
noncomputable def tab1 : Nat → Option Fn
  | 6 => some F6
  | 9 => some F9
  | 29 => some F29
  | 30 => some F30
  | 31 => some F31
  | 32 => some F32
  | 34 => some F34
  | 35 => some F35
  | 50 => some F50
  | 56 => some F56
  | 58 => some F58
  | 62 => some F62
  | 64 => some F64
  | 67 => some F67
  | 70 => some F70
  | 71 => some F71
  | 72 => some F72
  | 73 => some F73
  | 74 => some F74
  | 75 => some F75
  | 99 => some F99
  | 100 => some F100
  | 101 => some F101
  | 102 => some F102
  | 104 => some F104
  | 105 => some F105
  | 106 => some F106
  | 135 => some F135
  | 136 => some F136
  | 160 => some F160
  | 166 => some F166
  | 170 => some F170
  | 183 => some F183
  | n => autoK Try.prog (fun _ => none) spf hints keepf n
noncomputable def L : Cs := lim tab1 (fun _ _ => none)

theorem no_globals : GOk (fun _ _ => none) (fun _ => none) := fun n a h => by cases h
theorem ok6 : FnOk (fun _ _ => none) Try.prog 6 F6 := compF_spec no_globals Try.func6 (by kernel_rfl)
theorem ok9 : FnOk (fun _ _ => none) Try.prog 9 F9 := compF_spec no_globals Try.func9 (by kernel_rfl)
theorem ok29 : FnOk (fun _ _ => none) Try.prog 29 F29 := compF_spec no_globals Try.func29 (by kernel_rfl)
theorem ok30 : FnOk (fun _ _ => none) Try.prog 30 F30 := compF_spec no_globals Try.func30 (by kernel_rfl)
theorem ok31 : FnOk (fun _ _ => none) Try.prog 31 F31 := compF_spec no_globals Try.func31 (by kernel_rfl)
theorem ok32 : FnOk (fun _ _ => none) Try.prog 32 F32 := compF_spec no_globals Try.func32 (by kernel_rfl)
theorem ok34 : FnOk (fun _ _ => none) Try.prog 34 F34 := compF_spec no_globals Try.func34 (by kernel_rfl)
theorem ok35 : FnOk (fun _ _ => none) Try.prog 35 F35 := compF_spec no_globals Try.func35 (by kernel_rfl)
theorem ok50 : FnOk (fun _ _ => none) Try.prog 50 F50 := compF_spec no_globals Try.func50 (by kernel_rfl)
theorem ok56 : FnOk (fun _ _ => none) Try.prog 56 F56 := compF_spec no_globals Try.func56 (by kernel_rfl)
theorem ok58 : FnOk (fun _ _ => none) Try.prog 58 F58 := compF_spec no_globals Try.func58 (by kernel_rfl)
theorem ok62 : FnOk (fun _ _ => none) Try.prog 62 F62 := compF_spec no_globals Try.func62 (by kernel_rfl)
theorem ok64 : FnOk (fun _ _ => none) Try.prog 64 F64 := compF_spec no_globals Try.func64 (by kernel_rfl)
theorem ok67 : FnOk (fun _ _ => none) Try.prog 67 F67 := compF_spec no_globals Try.func67 (by kernel_rfl)
theorem ok70 : FnOk (fun _ _ => none) Try.prog 70 F70 := compF_spec no_globals Try.func70 (by kernel_rfl)
theorem ok71 : FnOk (fun _ _ => none) Try.prog 71 F71 := compF_spec no_globals Try.func71 (by kernel_rfl)
theorem ok72 : FnOk (fun _ _ => none) Try.prog 72 F72 := compF_spec no_globals Try.func72 (by kernel_rfl)
theorem ok73 : FnOk (fun _ _ => none) Try.prog 73 F73 := compF_spec no_globals Try.func73 (by kernel_rfl)
theorem ok74 : FnOk (fun _ _ => none) Try.prog 74 F74 := compF_spec no_globals Try.func74 (by kernel_rfl)
theorem ok75 : FnOk (fun _ _ => none) Try.prog 75 F75 := compF_spec no_globals Try.func75 (by kernel_rfl)
theorem ok99 : FnOk (fun _ _ => none) Try.prog 99 F99 := compF_spec no_globals Try.func99 (by kernel_rfl)
theorem ok100 : FnOk (fun _ _ => none) Try.prog 100 F100 := compF_spec no_globals Try.func100 (by kernel_rfl)
theorem ok101 : FnOk (fun _ _ => none) Try.prog 101 F101 := compF_spec no_globals Try.func101 (by kernel_rfl)
theorem ok102 : FnOk (fun _ _ => none) Try.prog 102 F102 := compF_spec no_globals Try.func102 (by kernel_rfl)
theorem ok104 : FnOk (fun _ _ => none) Try.prog 104 F104 := compF_spec no_globals Try.func104 (by kernel_rfl)
theorem ok105 : FnOk (fun _ _ => none) Try.prog 105 F105 := compF_spec no_globals Try.func105 (by kernel_rfl)
theorem ok106 : FnOk (fun _ _ => none) Try.prog 106 F106 := compF_spec no_globals Try.func106 (by kernel_rfl)
theorem ok135 : FnOk (fun _ _ => none) Try.prog 135 F135 := compF_spec no_globals Try.func135 (by kernel_rfl)
theorem ok136 : FnOk (fun _ _ => none) Try.prog 136 F136 := compF_spec no_globals Try.func136 (by kernel_rfl)
theorem ok160 : FnOk (fun _ _ => none) Try.prog 160 F160 := compF_spec no_globals Try.func160 (by kernel_rfl)
theorem ok166 : FnOk (fun _ _ => none) Try.prog 166 F166 := compF_spec no_globals Try.func166 (by kernel_rfl)
theorem ok170 : FnOk (fun _ _ => none) Try.prog 170 F170 := compF_spec no_globals Try.func170 (by kernel_rfl)
theorem ok183 : FnOk (fun _ _ => none) Try.prog 183 F183 := compF_spec no_globals Try.func183 (by kernel_rfl)
theorem tab1_ok : ∀ f fn, tab1 f = some fn → FnOk (fun _ _ => none) Try.prog f fn := by
  intro f fn h
  unfold tab1 at h
  split at h
  · cases h; exact ok6
  · cases h; exact ok9
  · cases h; exact ok29
  · cases h; exact ok30
  · cases h; exact ok31
  · cases h; exact ok32
  · cases h; exact ok34
  · cases h; exact ok35
  · cases h; exact ok50
  · cases h; exact ok56
  · cases h; exact ok58
  · cases h; exact ok62
  · cases h; exact ok64
  · cases h; exact ok67
  · cases h; exact ok70
  · cases h; exact ok71
  · cases h; exact ok72
  · cases h; exact ok73
  · cases h; exact ok74
  · cases h; exact ok75
  · cases h; exact ok99
  · cases h; exact ok100
  · cases h; exact ok101
  · cases h; exact ok102
  · cases h; exact ok104
  · cases h; exact ok105
  · cases h; exact ok106
  · cases h; exact ok135
  · cases h; exact ok136
  · cases h; exact ok160
  · cases h; exact ok166
  · cases h; exact ok170
  · cases h; exact ok183
  · exact autoK_spec no_globals h
theorem meets1 (f : Nat) : Meets (fun _ _ => none) Try.prog f (L f) := lim_meets tab1_ok (fun f _ m w args vs bs _ _ _ _ _ r a h => by cases h) f

end Go.Es.Mzb
