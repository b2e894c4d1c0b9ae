/- The code of the functions that the statement IterMost reaches, as the interpreter reads it. No condition. -/
import Derived.Test.YtikbjljifgadmaaEsD
import Derived.Test.YtikbjljifgadmaaChecked
import Derived.KernelRfl
set_option linter.unusedVariables false
set_option linter.unusedSimpArgs false
set_option maxRecDepth 100000
set_option maxHeartbeats 4000000
namespace Go.Es.Itm
open Go.Proofs
def F5o1 := [
 o3 4 .mv [.b false]]
def F5o3 := [
 om 20 0,
 o3 21 (.bin .and) [.t 20, .i 15],
 o3 22 (.bin .add) [.t 21, .i 1],
 om 5 22]
def F5o5 := [
 om 23 5,
 o3 24 (.callf 25) [.t 23],
 o3 6 (.alloc [.d (.int .i64 0), .nils, .nils]) [],
 o0 (.store 3) [.t 6, .t 24]]
def F5o7 := [
 o3 26 (.load (some 3)) [.t 6],
 o3 27 (.bslice (.agg [.int .i64 0, .sl [], .sl []]) 1 [0]) [.t 26],
 o3 28 (.callf 20) [.i 1, .w 0, .t 27],
 o3 29 (.field 1 none) [.t 28],
 o3 30 (.callf 21) [.t 29],
 om 25 30,
 oe 31 0 25,
 oe 32 1 25,
 o3 7 (.alloc [.d (.int .i64 0), .d (.int .u16 0), .nils, .nils]) [],
 o0 (.store 4) [.t 7, .t 31],
 om 8 32]
def F5o9 := [
 om 33 1,
 o3 34 (.bin .and) [.t 33, .i 63],
 o3 35 (.bin .add) [.i 65500, .t 34],
 om 9 35]
def F5o11 := [
 om 36 9,
 o3 37 (.bslice (.int .u8 0) 1 [0]) [.y 98],
 o3 38 (.build [.d (.int .i64 0), .nils, .nils] [(0, 1), (1, 1)]) [.t 36, .t 37],
 o3 10 (.alloc [.d (.int .i64 0), .nils, .nils]) [],
 o0 (.store 3) [.t 10, .t 38]]
def F5o13 := [
 o3 40 (.load (some 3)) [.t 10],
 o3 41 (.callf 26) [.t 40],
 om 39 41,
 oe 42 0 39,
 oe 43 1 39,
 om 11 42,
 om 12 43]
def F5o15 := [
 o3 44 (.bslice (.int .u8 0) 1 [0]) [.y 99],
 o3 45 (.build [.d (.int .i64 0), .nils, .nils] [(0, 1), (1, 1)]) [.i 257, .t 44],
 o3 46 (.bslice (.agg [.int .i64 0, .sl [], .sl []]) 1 [0]) [.t 45],
 o3 47 (.build [.d (.int .i64 0), .nils, .nils] [(0, 1), (2, 1)]) [.i 256, .t 46],
 o3 13 (.alloc [.d (.int .i64 0), .nils, .nils]) [],
 o0 (.store 3) [.t 13, .t 47]]
def F5o17 := [
 o3 49 (.load (some 3)) [.t 13],
 o3 50 (.callf 26) [.t 49],
 om 48 50,
 oe 51 0 48,
 oe 52 1 48,
 om 14 51,
 om 15 52]
def F5o19 := [
 o3 54 (.load (some 3)) [.t 13],
 o3 55 (.bslice (.agg [.int .i64 0, .sl [], .sl []]) 1 [0]) [.t 54],
 o3 56 (.callf 20) [.i 1, .w 0, .t 55],
 o3 57 (.field 1 none) [.t 56],
 o3 58 (.callf 21) [.t 57],
 om 53 58,
 oe 59 0 53,
 oe 60 1 53,
 o3 16 (.alloc [.d (.int .i64 0), .d (.int .u16 0), .nils, .nils]) [],
 o0 (.store 4) [.t 16, .t 59],
 om 17 60]
def F5o21 := [
 om 62 1,
 o3 63 (.bin .and) [.t 62, .i 15],
 o3 64 (.bin .sub) [.i 65535, .t 63],
 o3 65 (.toInt .u16) [.t 64],
 o3 66 (.bslice (.int .u8 0) 1 [0]) [.y 99],
 o3 67 (.build [.d (.int .i64 0), .nils, .nils] [(0, 1), (1, 1)]) [.i 17, .t 66],
 o3 68 (.bslice (.agg [.int .i64 0, .sl [], .sl []]) 1 [0]) [.t 67],
 o3 69 (.callf 20) [.i 1, .t 65, .t 68],
 o3 70 (.field 1 none) [.t 69],
 o3 71 (.callf 21) [.t 70],
 om 61 71,
 oe 72 0 61,
 oe 73 1 61,
 o3 18 (.alloc [.d (.int .i64 0), .d (.int .u16 0), .nils, .nils]) [],
 o0 (.store 4) [.t 18, .t 72],
 om 19 73]
def F5o23 := [
 o3 74 (.callf 22) [],
 om 75 74,
 og 76 (.load (some 3)) [.t 6] 75 true,
 og 77 (.callf 27) [.t 76] 75 true,
 og 78 .mv [.t 5] 75 true,
 og 79 (.bin .leq) [.t 78, .i 8] 75 true,
 og 80 (.eqb false) [.t 77, .t 79] 75 true,
 o3 81 .pick [.t 75, .t 80, .b false],
 om 82 81,
 og 83 .mv [.t 8] 82 true,
 og 84 (.bin .eql) [.t 83, .i 0] 82 true,
 og 85 .mv [.t 5] 82 true,
 og 86 (.bin .leq) [.t 85, .i 8] 82 true,
 og 87 (.eqb false) [.t 84, .t 86] 82 true,
 o3 88 .pick [.t 82, .t 87, .b false],
 om 89 88,
 og 90 .mv [.t 8] 89 true,
 og 91 (.bin .eql) [.t 90, .i 0] 89 true,
 og 92 .mv [.t 91] 89 true,
 og 93 (.faddr 2) [.t 7] 92 true,
 og 94 (.load none) [.t 93] 92 true,
 og 95 .bytesStr [.t 94] 92 true,
 og 96 (.bin .eql) [.t 95, .c (.d (.str [97]))] 92 true,
 og 97 .pick [.t 92, .t 96, .b false] 89 true,
 og 98 .mv [.t 97] 89 true,
 og 99 .mv [.t 8] 98 false,
 og 100 (.bin .eql) [.t 99, .i 8] 98 false,
 og 101 .pick [.t 98, .b true, .t 100] 89 true,
 o3 102 .pick [.t 89, .t 101, .b false],
 om 103 102,
 og 104 .mv [.t 12] 103 true,
 og 105 .mv [.t 9] 103 true,
 og 106 (.bin .leq) [.t 105, .i 65535] 103 true,
 og 107 (.eqb false) [.t 104, .t 106] 103 true,
 o3 108 .pick [.t 103, .t 107, .b false],
 om 109 108,
 og 110 .mv [.t 12] 109 true,
 og 111 (.un .not) [.t 110] 109 true,
 og 112 .mv [.t 111] 109 true,
 og 113 .mv [.t 11] 112 false,
 og 114 .lenL [.t 113] 112 false,
 og 115 .mv [.t 9] 112 false,
 og 116 (.bin .eql) [.t 114, .t 115] 112 false,
 og 117 .pick [.t 112, .b true, .t 116] 109 true,
 o3 118 .pick [.t 109, .t 117, .b false],
 om 119 118,
 og 120 .mv [.t 15] 119 true,
 og 121 (.un .not) [.t 120] 119 true,
 o3 122 .pick [.t 119, .t 121, .b false],
 om 123 122,
 og 124 (.load (some 3)) [.t 13] 123 true,
 og 125 (.callf 28) [.t 124] 123 true,
 og 126 (.bin .eql) [.t 125, .i 65537] 123 true,
 o3 127 .pick [.t 123, .t 126, .b false],
 om 128 127,
 og 129 .mv [.t 17] 128 true,
 og 130 (.bin .eql) [.t 129, .i 8] 128 true,
 o3 131 .pick [.t 128, .t 130, .b false],
 om 132 131,
 og 133 .mv [.t 19] 132 true,
 og 134 (.bin .eql) [.t 133, .i 8] 132 true,
 o3 135 .pick [.t 132, .t 134, .b false],
 om 136 135,
 og 137 (.build [.d (.int .i64 0), .nils, .nils] [(0, 1)]) [.i 1] 136 true,
 og 138 (.callf 27) [.t 137] 136 true,
 og 139 (.un .not) [.t 138] 136 true,
 o3 140 .pick [.t 136, .t 139, .b false],
 om 141 140,
 og 142 (.bslice (.int .u8 0) 1 [0]) [.y 1] 141 true,
 og 143 (.build [.d (.int .i64 0), .nils, .nils] [(1, 1)]) [.t 142] 141 true,
 og 144 (.callf 27) [.t 143] 141 true,
 og 145 (.un .not) [.t 144] 141 true,
 o3 146 .pick [.t 141, .t 145, .b false],
 om 4 146]
def F5c24 : Ac := .ret
def F5c22 : Ac := (so F5o23 F5c24)
def F5c20 : Ac := (so F5o21 F5c22)
def F5c18 : Ac := (so F5o19 F5c20)
def F5c16 : Ac := (so F5o17 F5c18)
def F5c14 : Ac := (so F5o15 F5c16)
def F5c12 : Ac := (so F5o13 F5c14)
def F5c10 : Ac := (so F5o11 F5c12)
def F5c8 : Ac := (so F5o9 F5c10)
def F5c6 : Ac := (so F5o7 F5c8)
def F5c4 : Ac := (so F5o5 F5c6)
def F5c2 : Ac := (so F5o3 F5c4)
def F5c0 : Ac := (so F5o1 F5c2)
/-- hansom/hansomlaw24.IterMost -/
def F5 : Fn := { np := 2, pb := [], rs := [.t 4], body := F5c0 }
def F20o1 := [
 o3 6 (.alloc [.d (.int .u8 0), .nils]) []]
def F20o3 := [
 om 10 0,
 o3 11 (.callf 61) [.t 10],
 om 12 1,
 o3 13 (.callf 62) [.t 12],
 o3 14 (.append 1 1 false) [.t 11, .t 13],
 om 7 14]
def F20o6 := [
 om 15 2,
 o3 16 .lenL [.t 15],
 o3 17 .mv [.i 0]]
def F20o10 := [
 o3 18 (.bin .lss) [.t 17, .t 16]]
def F20o18 := [
 o3 19 (.iaddrS 3) [.t 15, .t 17],
 o3 20 (.load (some 3)) [.t 19],
 o3 9 (.alloc [.d (.int .i64 0), .nils, .nils]) [],
 o0 (.store 3) [.t 9, .t 20]]
def F20o19 := [
 om 21 7,
 o3 22 (.load (some 3)) [.t 9],
 o3 23 (.callf 63) [.t 22],
 o3 24 (.append 1 1 false) [.t 21, .t 23],
 om 7 24]
def F20c19 : Ac := (.ops F20o19)
def F20o20 := [
 o3 25 (.bin .add) [.t 17, .i 1],
 om 17 25]
def F20c20 : Ac := (.ops F20o20)
def F20c15 : Ac := (.seq (.block 1 (so F20o18 F20c19)) F20c20)
def F20c11 : Ac := (.seq (cd 18 .skip (.exit 0)) F20c15)
def F20l8 : Ac := (so F20o10 F20c11)
def F20c7 : Ac := (.block 0 (.loop (.seq (.gh []) (.seq (.keep [6, 7, 15, 16, 17] [[6], [11]]) F20l8))))
def F20o22 := [
 om 26 7,
 o3 27 (.build [.d (.int .u8 0), .nils] [(0, 1), (1, 1)]) [.y 162, .t 26],
 o0 (.store 2) [.t 6, .t 27]]
def F20c23 : Ac := (.seq (.gh [.frzB [6] 1]) .ret)
def F20b21 : Ac := (so F20o22 F20c23)
def F20c21 : Ac := (.seq (.gh []) (.seq (.keep [6, 7] [[6], [11]]) F20b21))
def F20c4 : Ac := (.seq (so F20o6 F20c7) F20c21)
def F20c2 : Ac := (so F20o3 F20c4)
def F20c0 : Ac := (so F20o1 F20c2)
/-- hansom/iter.Record -/
def F20 : Fn := { np := 3, pb := [], rs := [.c 6 (some 2)], body := F20c0 }
def F21o1 := [
 o3 2 (.alloc [.d (.int .i64 0), .d (.int .u16 0), .nils, .nils]) [],
 o3 3 .mv [.i 0]]
def F21o3 := [
 om 10 0,
 o3 11 (.callf 50) [.t 10],
 om 4 11]
def F21o5 := [
 om 12 4,
 o3 13 (.callf 53) [.t 12],
 om 14 4,
 o3 15 (.callf 64) [.t 14],
 o3 16 (.build [.d (.int .i64 0), .d (.int .u16 0), .nils, .nils] [(0, 1), (1, 1)]) [.t 13, .t 15],
 o3 5 (.alloc [.d (.int .i64 0), .d (.int .u16 0), .nils, .nils]) [],
 o0 (.store 4) [.t 5, .t 16]]
def F21o11 := [
 om 17 4,
 o3 18 (.callf 51) [.t 17],
 o3 19 (.bin .gtr) [.t 18, .i 0]]
def F21c12 : Ac := (cd 19 .skip (.exit 0))
def F21o17 := [
 om 20 4,
 o3 21 (.callf 65) [.t 20, .i 1],
 o3 6 (.alloc [.d (.int .i64 0), .nils, .nils]) [],
 o0 (.store 3) [.t 6, .t 21]]
def F21o20 := [
 om 22 4,
 o3 23 (.callf 57) [.t 22],
 o3 24 (.bin .neq) [.t 23, .i 0]]
def F21c21 : Ac := (cd 24 (.exit 0) .skip)
def F21o25 := [
 o3 26 (.load (some 3)) [.t 6],
 o3 27 (.callf 26) [.t 26],
 om 25 27,
 oe 28 0 25,
 oe 29 1 25,
 om 7 28,
 om 8 29]
def F21o29 := [
 o3 31 (.load (some 3)) [.t 6],
 o3 32 (.callf 27) [.t 31],
 o3 33 (.un .not) [.t 32],
 om 30 33]
def F21o31 := [
 om 34 4,
 o3 35 (.callf 56) [.t 34, .i 3]]
def F21o33 := [
 om 37 8,
 o3 38 (.un .not) [.t 37],
 om 39 38,
 og 40 (.faddr 2) [.t 5] 39 false,
 og 41 (.load none) [.t 40] 39 false,
 og 42 .lenL [.t 41] 39 false,
 og 43 .mv [.t 7] 39 false,
 og 44 .lenL [.t 43] 39 false,
 og 45 (.bin .add) [.t 42, .t 44] 39 false,
 og 46 (.faddr 1) [.t 5] 39 false,
 og 47 (.load none) [.t 46] 39 false,
 og 48 (.toInt .i64) [.t 47] 39 false,
 og 49 (.bin .sub) [.i 65536, .t 48] 39 false,
 og 50 (.bin .gtr) [.t 45, .t 49] 39 false,
 o3 51 .pick [.t 39, .b true, .t 50],
 om 36 51]
def F21o35 := [
 om 52 4,
 o3 53 (.callf 56) [.t 52, .i 8]]
def F21c34 : Ac := (cd 36 (.ops F21o35) .skip)
def F21c30 : Ac := (cd 30 (.ops F21o31) (so F21o33 F21c34))
def F21o37 := [
 o3 54 (.faddr 2) [.t 5],
 o3 55 (.load none) [.t 54],
 om 56 7,
 o3 57 (.append 1 1 false) [.t 55, .t 56],
 o3 58 (.faddr 2) [.t 5],
 o0 (.store 1) [.t 58, .t 57]]
def F21c37 : Ac := (.ops F21o37)
def F21c26 : Ac := (.seq (.block 2 (so F21o29 F21c30)) F21c37)
def F21c24 : Ac := (so F21o25 F21c26)
def F21c18 : Ac := (.seq (so F21o20 F21c21) F21c24)
def F21c15 : Ac := (.block 1 (so F21o17 F21c18))
def F21l8 : Ac := (.seq (so F21o11 F21c12) F21c15)
def F21o40 := [
 om 59 4,
 o3 60 (.callf 57) [.t 59],
 o3 61 (.bin .eql) [.t 60, .i 0],
 om 62 61,
 og 63 (.faddr 0) [.t 5] 62 true,
 og 64 (.load none) [.t 63] 62 true,
 og 65 (.bin .lss) [.t 64, .i 1] 62 true,
 og 66 .mv [.t 65] 62 true,
 og 67 (.faddr 2) [.t 5] 66 false,
 og 68 (.load none) [.t 67] 66 false,
 og 69 .lenL [.t 68] 66 false,
 og 70 (.bin .eql) [.t 69, .i 0] 66 false,
 og 71 .pick [.t 66, .b true, .t 70] 62 true,
 o3 72 .pick [.t 62, .t 71, .b false]]
def F21o42 := [
 om 73 4,
 o3 74 (.callf 56) [.t 73, .i 3]]
def F21c41 : Ac := (cd 72 (.ops F21o42) .skip)
def F21o46 := [
 om 75 4,
 o3 76 (.callf 66) [.t 75],
 om 9 76]
def F21o48 := [
 om 77 9,
 o3 78 (.bin .neq) [.t 77, .i 0]]
def F21o51 := [
 o3 79 (.build [.d (.int .i64 0), .d (.int .u16 0), .nils, .nils] []) [],
 om 80 9,
 o0 (.store 4) [.t 2, .t 79],
 om 3 80]
def F21c52 : Ac := (.seq (.gh [.frzB [2] 2, .frzB [2] 3]) .ret)
def F21c49 : Ac := (cd 78 (so F21o51 F21c52) .skip)
def F21c47 : Ac := (so F21o48 F21c49)
def F21o55 := [
 o3 81 (.load (some 4)) [.t 5],
 o0 (.store 4) [.t 2, .t 81],
 o3 3 .mv [.i 0]]
def F21c56 : Ac := (.seq (.gh [.frzB [2] 2, .frzB [2] 3]) .ret)
def F21c54 : Ac := (so F21o55 F21c56)
def F21c44 : Ac := (.seq (so F21o46 F21c47) F21c54)
def F21b38 : Ac := (.seq (so F21o40 F21c41) F21c44)
def F21c38 : Ac := (.seq (.gh []) (.seq (.keep [2, 4, 5] [[2], [5], [11], [902, 5]]) F21b38))
def F21b6 : Ac := (.seq (.block 0 (.loop (.seq (.gh []) (.seq (.keep [2, 4, 5] [[2], [5], [11], [902, 5]]) F21l8)))) F21c38)
def F21c6 : Ac := (.seq (.gh [.ownB [5] 2 [902, 5] 1]) (.seq (.keep [2, 4, 5] [[2], [5], [11], [902, 5]]) F21b6))
def F21c4 : Ac := (so F21o5 F21c6)
def F21c2 : Ac := (so F21o3 F21c4)
def F21c0 : Ac := (so F21o1 F21c2)
/-- hansom/iter.Get -/
def F21 : Fn := { np := 1, pb := [], rs := [.c 2 (some 4), .t 3], body := F21c0 }
def F26o1 := [
 o3 1 (.box 3) [.t 0],
 o3 2 .mv [.c (.nils)],
 o3 3 .mv [.b false]]
def F26o4 := [
 o3 9 (.load (some 3)) [.t 1],
 o3 10 (.callf 27) [.t 9],
 o3 11 (.un .not) [.t 10],
 om 12 11,
 og 13 (.load (some 3)) [.t 1] 12 false,
 og 14 (.callf 28) [.t 13] 12 false,
 og 15 (.bin .gtr) [.t 14, .i 65536] 12 false,
 o3 16 .pick [.t 12, .b true, .t 15]]
def F26o7 := [
 o3 2 .mv [.c (.nils)],
 o3 3 .mv [.b false]]
def F26c8 : Ac := (.seq (.gh [.frz 2]) .ret)
def F26c5 : Ac := (cd 16 (so F26o7 F26c8) .skip)
def F26o11 := [
 o3 17 (.faddr 1) [.t 1],
 o3 18 (.load none) [.t 17],
 o3 19 (.callf 67) [.t 18],
 om 4 19]
def F26o14 := [
 o3 20 (.faddr 2) [.t 1],
 o3 21 (.load none) [.t 20],
 o3 22 .lenL [.t 21],
 o3 23 .mv [.i 0]]
def F26o18 := [
 o3 24 (.bin .lss) [.t 23, .t 22]]
def F26o26 := [
 o3 25 (.iaddrS 3) [.t 21, .t 23],
 o3 26 (.load (some 3)) [.t 25],
 o3 6 (.alloc [.d (.int .i64 0), .nils, .nils]) [],
 o0 (.store 3) [.t 6, .t 26]]
def F26o28 := [
 o3 28 (.load (some 3)) [.t 6],
 o3 29 (.callf 26) [.t 28],
 om 27 29,
 oe 30 0 27,
 oe 31 1 27,
 om 7 30,
 om 8 31]
def F26o29 := [
 om 32 4,
 om 33 7,
 o3 34 (.append 1 1 false) [.t 32, .t 33],
 om 4 34]
def F26c29 : Ac := (.ops F26o29)
def F26c27 : Ac := (so F26o28 F26c29)
def F26o30 := [
 o3 35 (.bin .add) [.t 23, .i 1],
 om 23 35]
def F26c30 : Ac := (.ops F26o30)
def F26c23 : Ac := (.seq (.block 1 (so F26o26 F26c27)) F26c30)
def F26c19 : Ac := (.seq (cd 24 .skip (.exit 0)) F26c23)
def F26l16 : Ac := (so F26o18 F26c19)
def F26c15 : Ac := (.block 0 (.loop (.seq (.gh []) (.seq (.keep [1, 4, 21, 22, 23] [[1], [19]]) F26l16))))
def F26o32 := [
 om 36 4,
 o3 37 (.faddr 0) [.t 1],
 o3 38 (.load none) [.t 37],
 o3 39 (.callf 68) [.t 36, .t 38],
 om 2 39,
 o3 3 .mv [.b true]]
def F26c33 : Ac := .ret
def F26b31 : Ac := (so F26o32 F26c33)
def F26c31 : Ac := (.seq (.gh []) (.seq (.keep [1, 4] [[1], [19]]) F26b31))
def F26c12 : Ac := (.seq (so F26o14 F26c15) F26c31)
def F26c10 : Ac := (so F26o11 F26c12)
def F26c2 : Ac := (.seq (so F26o4 F26c5) F26c10)
def F26c0 : Ac := (so F26o1 F26c2)
/-- hansom/iter.Spread -/
def F26 : Fn := { np := 1, pb := [], rs := [.t 2, .t 3], body := F26c0 }
def F27o1 := [
 o3 1 (.box 3) [.t 0],
 o3 2 .mv [.b false]]
def F27o3 := [
 o3 3 (.load (some 3)) [.t 1],
 o3 4 (.callf 69) [.t 3, .i 1],
 om 2 4]
def F27c4 : Ac := .ret
def F27c2 : Ac := (so F27o3 F27c4)
def F27c0 : Ac := (so F27o1 F27c2)
/-- hansom/iter.May -/
def F27 : Fn := { np := 1, pb := [], rs := [.t 2], body := F27c0 }
def F28o1 := [
 o3 1 (.box 3) [.t 0],
 o3 2 .mv [.i 0]]
def F28o3 := [
 o3 6 (.faddr 1) [.t 1],
 o3 7 (.load none) [.t 6],
 o3 8 .lenL [.t 7],
 om 3 8]
def F28o6 := [
 o3 9 (.faddr 2) [.t 1],
 o3 10 (.load none) [.t 9],
 o3 11 .lenL [.t 10],
 o3 12 .mv [.i 0]]
def F28o10 := [
 o3 13 (.bin .lss) [.t 12, .t 11]]
def F28o18 := [
 o3 14 (.iaddrS 3) [.t 10, .t 12],
 o3 15 (.load (some 3)) [.t 14],
 o3 5 (.alloc [.d (.int .i64 0), .nils, .nils]) [],
 o0 (.store 3) [.t 5, .t 15]]
def F28o19 := [
 om 16 3,
 o3 17 (.load (some 3)) [.t 5],
 o3 18 (.callf 28) [.t 17],
 o3 19 (.bin .add) [.t 16, .t 18],
 o3 20 .mn [.t 19, .i 65537],
 om 3 20]
def F28c19 : Ac := (.ops F28o19)
def F28o20 := [
 o3 21 (.bin .add) [.t 12, .i 1],
 om 12 21]
def F28c20 : Ac := (.ops F28o20)
def F28c15 : Ac := (.seq (.block 1 (so F28o18 F28c19)) F28c20)
def F28c11 : Ac := (.seq (cd 13 .skip (.exit 0)) F28c15)
def F28l8 : Ac := (so F28o10 F28c11)
def F28c7 : Ac := (.block 0 (.loop (.seq (.gh []) (.seq (.keep [1, 3, 10, 11, 12] [[1]]) F28l8))))
def F28o22 := [
 om 22 3,
 o3 23 (.faddr 0) [.t 1],
 o3 24 (.load none) [.t 23],
 o3 25 .mx [.t 24, .i 0],
 o3 26 .mn [.t 25, .i 65537],
 o3 27 (.bin .mul) [.t 22, .t 26],
 o3 28 .mn [.t 27, .i 65537],
 om 2 28]
def F28c23 : Ac := .ret
def F28b21 : Ac := (so F28o22 F28c23)
def F28c21 : Ac := (.seq (.gh []) (.seq (.keep [1, 3] [[1]]) F28b21))
def F28c4 : Ac := (.seq (so F28o6 F28c7) F28c21)
def F28c2 : Ac := (so F28o3 F28c4)
def F28c0 : Ac := (so F28o1 F28c2)
/-- hansom/iter.Size -/
def F28 : Fn := { np := 1, pb := [], rs := [.t 2], body := F28c0 }
def F48o1 := [
 o3 2 .mv [.c (.nils)]]
def F48o3 := [
 om 3 0,
 om 4 0,
 o3 5 .lenS [.t 4],
 o3 6 .mn [.t 5, .i 255],
 o3 7 (.substr false true) [.t 3, .t 6],
 om 0 7]
def F48o5 := [
 om 8 0,
 o3 9 .lenS [.t 8],
 o3 10 (.toInt .u8) [.t 9],
 o3 11 (.bslice (.int .u8 0) 1 [0]) [.t 10],
 om 12 0,
 o3 13 (.append 1 1 true) [.t 11, .t 12],
 om 2 13]
def F48c6 : Ac := (.seq (.gh [.frz 2]) .ret)
def F48c4 : Ac := (so F48o5 F48c6)
def F48c2 : Ac := (so F48o3 F48c4)
def F48c0 : Ac := (so F48o1 F48c2)
/-- hansom/index.Name -/
def F48 : Fn := { np := 1, pb := [], rs := [.t 2], body := F48c0 }
def F50o1 := [
 o3 2 .mv [.c (.nilp)]]
def F50o3 := [
 om 3 0,
 o3 4 (.append 1 1 false) [.c (.nils), .t 3],
 o3 5 (.build [.nils, .d (.int .i64 0)] [(0, 1)]) [.t 4],
 o3 6 (.box 2) [.t 5],
 om 2 6]
def F50c4 : Ac := (.seq (.gh [.frzB [6] 0]) .ret)
def F50c2 : Ac := (so F50o3 F50c4)
def F50c0 : Ac := (so F50o1 F50c2)
/-- hansom/index.From -/
def F50 : Fn := { np := 1, pb := [], rs := [.t 2], body := F50c0 }
def F51o1 := [
 o3 2 .mv [.i 0]]
def F51o4 := [
 om 3 0,
 o3 4 (.eqp false) [.t 3, .c (.nilp)]]
def F51o7 := [
 o3 2 .mv [.i 0]]
def F51c8 : Ac := .ret
def F51c5 : Ac := (cd 4 (so F51o7 F51c8) .skip)
def F51o11 := [
 om 5 0,
 o3 6 .nilchk [.t 5],
 o3 7 (.faddr 0) [.t 6],
 o3 8 (.load none) [.t 7],
 o3 9 .lenL [.t 8],
 om 2 9]
def F51c12 : Ac := .ret
def F51c10 : Ac := (so F51o11 F51c12)
def F51c2 : Ac := (.seq (so F51o4 F51c5) F51c10)
def F51c0 : Ac := (so F51o1 F51c2)
/-- (*hansom/index.Source).Left -/
def F51 : Fn := { np := 1, pb := [[0]], rs := [.t 2], body := F51c0 }
def F52o1 := [
 o3 2 .mv [.c (.d (.str []))]]
def F52o3 := [
 om 3 0,
 om 4 0,
 o3 5 (.callf 54) [.t 4],
 o3 6 (.toInt .i64) [.t 5],
 o3 7 (.callf 99) [.t 3, .t 6],
 o3 8 .bytesStr [.t 7],
 om 2 8]
def F52c4 : Ac := .ret
def F52c2 : Ac := (so F52o3 F52c4)
def F52c0 : Ac := (so F52o1 F52c2)
/-- (*hansom/index.Source).Name -/
def F52 : Fn := { np := 1, pb := [[0]], rs := [.t 2], body := F52c0 }
def F53o1 := [
 o3 2 .mv [.i 0]]
def F53o3 := [
 om 5 0,
 o3 6 (.callf 54) [.t 5],
 o3 7 (.toInt .i64) [.t 6],
 om 3 7]
def F53o6 := [
 om 8 3,
 o3 9 (.bin .lss) [.t 8, .i 128]]
def F53o9 := [
 om 10 3,
 om 2 10]
def F53c10 : Ac := .ret
def F53c7 : Ac := (cd 9 (so F53o9 F53c10) .skip)
def F53o13 := [
 om 11 3,
 o3 12 (.bin .and) [.t 11, .i 127],
 o3 13 (.bin .shl) [.t 12, .c (.d (.int .u64 8))],
 om 14 0,
 o3 15 (.callf 54) [.t 14],
 o3 16 (.toInt .i64) [.t 15],
 o3 17 (.bin .or) [.t 13, .t 16],
 om 4 17]
def F53o16 := [
 om 18 0,
 o3 19 (.callf 57) [.t 18],
 o3 20 (.bin .neq) [.t 19, .i 0]]
def F53o19 := [
 o3 2 .mv [.i 0]]
def F53c20 : Ac := .ret
def F53c17 : Ac := (cd 20 (so F53o19 F53c20) .skip)
def F53o23 := [
 om 21 4,
 om 2 21]
def F53c24 : Ac := .ret
def F53c22 : Ac := (so F53o23 F53c24)
def F53c14 : Ac := (.seq (so F53o16 F53c17) F53c22)
def F53c12 : Ac := (so F53o13 F53c14)
def F53c4 : Ac := (.seq (so F53o6 F53c7) F53c12)
def F53c2 : Ac := (so F53o3 F53c4)
def F53c0 : Ac := (so F53o1 F53c2)
/-- (*hansom/index.Source).Index -/
def F53 : Fn := { np := 1, pb := [[0]], rs := [.t 2], body := F53c0 }
def F54o1 := [
 o3 2 .mv [.y 0]]
def F54o4 := [
 om 4 0,
 o3 5 (.callf 99) [.t 4, .i 1],
 om 3 5]
def F54o6 := [
 om 6 3,
 o3 7 .lenL [.t 6],
 o3 8 (.bin .eql) [.t 7, .i 1]]
def F54o9 := [
 om 9 3,
 o3 10 (.iaddrS 1) [.t 9, .i 0],
 o3 11 (.load none) [.t 10],
 om 2 11]
def F54c10 : Ac := .ret
def F54c7 : Ac := (cd 8 (so F54o9 F54c10) .skip)
def F54c5 : Ac := (so F54o6 F54c7)
def F54o13 := [
 o3 2 .mv [.y 0]]
def F54c14 : Ac := .ret
def F54c12 : Ac := (so F54o13 F54c14)
def F54c2 : Ac := (.seq (so F54o4 F54c5) F54c12)
def F54c0 : Ac := (so F54o1 F54c2)
/-- (*hansom/index.Source).Byte -/
def F54 : Fn := { np := 1, pb := [[0]], rs := [.t 2], body := F54c0 }
def F56o1 := [
 om 4 0,
 o3 5 (.eqp true) [.t 4, .c (.nilp)],
 om 6 5,
 og 7 .mv [.t 0] 6 true,
 og 8 .nilchk [.t 7] 6 true,
 og 9 (.faddr 1) [.t 8] 6 true,
 og 10 (.load none) [.t 9] 6 true,
 og 11 (.bin .eql) [.t 10, .i 0] 6 true,
 o3 12 .pick [.t 6, .t 11, .b false],
 om 13 12,
 og 14 .mv [.t 1] 13 true,
 og 15 (.bin .neq) [.t 14, .i 0] 13 true,
 o3 16 .pick [.t 13, .t 15, .b false]]
def F56o3 := [
 om 17 0,
 om 18 0,
 om 19 1,
 o3 20 .nilchk [.t 17],
 o3 21 (.faddr 1) [.t 20],
 o0 (.store 1) [.t 21, .t 19],
 o3 22 .nilchk [.t 18],
 o3 23 (.faddr 0) [.t 22],
 o0 (.store 1) [.t 23, .c (.nils)]]
def F56c2 : Ac := (cd 16 (.ops F56o3) .skip)
def F56c0 : Ac := (so F56o1 F56c2)
/-- (*hansom/index.Source).Wrong -/
def F56 : Fn := { np := 2, pb := [[0]], rs := [], body := (.seq F56c0 (.gh [.frzB [0] 0])) }
def F57o1 := [
 o3 2 .mv [.i 0]]
def F57o4 := [
 om 3 0,
 o3 4 (.eqp false) [.t 3, .c (.nilp)]]
def F57o7 := [
 o3 2 .mv [.i 1]]
def F57c8 : Ac := .ret
def F57c5 : Ac := (cd 4 (so F57o7 F57c8) .skip)
def F57o11 := [
 om 5 0,
 o3 6 .nilchk [.t 5],
 o3 7 (.faddr 1) [.t 6],
 o3 8 (.load none) [.t 7],
 om 2 8]
def F57c12 : Ac := .ret
def F57c10 : Ac := (so F57o11 F57c12)
def F57c2 : Ac := (.seq (so F57o4 F57c5) F57c10)
def F57c0 : Ac := (so F57o1 F57c2)
/-- (*hansom/index.Source).Err -/
def F57 : Fn := { np := 1, pb := [[0]], rs := [.t 2], body := F57c0 }
def F61o1 := [
 o3 2 .mv [.c (.nils)]]
def F61o5 := [
 om 4 0,
 o3 5 (.bin .lss) [.t 4, .i 0],
 om 6 5,
 og 7 .mv [.t 0] 6 false,
 og 8 (.bin .gtr) [.t 7, .i 32767] 6 false,
 o3 9 .pick [.t 6, .b true, .t 8],
 om 3 9]
def F61o8 := [
 o3 10 (.bslice (.int .u8 0) 1 [0]) [.y 0],
 om 2 10]
def F61c9 : Ac := .ret
def F61o11 := [
 om 12 0,
 o3 13 (.bin .lss) [.t 12, .i 128],
 om 11 13]
def F61o14 := [
 om 14 0,
 o3 15 (.toInt .u8) [.t 14],
 o3 16 (.bslice (.int .u8 0) 1 [0]) [.t 15],
 om 2 16]
def F61c15 : Ac := .ret
def F61c12 : Ac := (cd 11 (so F61o14 F61c15) .skip)
def F61c6 : Ac := (cd 3 (so F61o8 F61c9) (so F61o11 F61c12))
def F61o18 := [
 om 17 0,
 o3 18 (.bin .shr) [.t 17, .c (.d (.int .u64 8))],
 o3 19 (.toInt .u8) [.t 18],
 o3 20 (.bin .or) [.t 19, .y 128],
 om 21 0,
 o3 22 (.toInt .u8) [.t 21],
 o3 23 (.bslice (.int .u8 0) 2 [0, 1]) [.t 20, .t 22],
 om 2 23]
def F61c19 : Ac := .ret
def F61c17 : Ac := (so F61o18 F61c19)
def F61c2 : Ac := (.seq (.block 0 (so F61o5 F61c6)) F61c17)
def F61c0 : Ac := (so F61o1 F61c2)
/-- hansom/index.Put -/
def F61 : Fn := { np := 1, pb := [], rs := [.t 2], body := F61c0 }
def F62o1 := [
 o3 2 .mv [.c (.nils)]]
def F62o3 := [
 om 3 0,
 o3 4 (.callf 100) [.t 3],
 om 5 0,
 o3 6 (.callf 101) [.t 5],
 o3 7 (.bslice (.int .u8 0) 2 [0, 1]) [.t 4, .t 6],
 om 2 7]
def F62c4 : Ac := .ret
def F62c2 : Ac := (so F62o3 F62c4)
def F62c0 : Ac := (so F62o1 F62c2)
/-- hansom/index.Two -/
def F62 : Fn := { np := 1, pb := [], rs := [.t 2], body := F62c0 }
def F63o1 := [
 o3 1 (.box 3) [.t 0],
 o3 2 .mv [.c (.nils)]]
def F63o3 := [
 o3 6 (.faddr 0) [.t 1],
 o3 7 (.load none) [.t 6],
 o3 8 (.toInt .u16) [.t 7],
  { dst := some 9, k := (.callf 62), xs := [.t 8], al := some [] },
 o3 10 (.faddr 2) [.t 1],
  { dst := some 11, k := (.load none), xs := [.t 10], av := [[9]] },
 o3 12 .lenL [.t 11],
 o3 13 (.toInt .u16) [.t 12],
 o3 14 (.callf 62) [.t 13],
 o3 15 (.append 1 1 false) [.t 9, .t 14],
 om 3 15]
def F63o6 := [
 o3 16 (.faddr 2) [.t 1],
 o3 17 (.load none) [.t 16],
 o3 18 .lenL [.t 17],
 o3 19 (.bin .eql) [.t 18, .i 0]]
def F63o9 := [
 om 20 3,
 o3 21 (.faddr 1) [.t 1],
 o3 22 (.load none) [.t 21],
 o3 23 .bytesStr [.t 22],
 o3 24 (.callf 48) [.t 23],
 o3 25 (.append 1 1 false) [.t 20, .t 24],
 om 2 25]
def F63c10 : Ac := (.seq (.gh [.frz 2]) .ret)
def F63c7 : Ac := (cd 19 (so F63o9 F63c10) .skip)
def F63o14 := [
 o3 26 (.faddr 2) [.t 1],
 o3 27 (.load none) [.t 26],
 o3 28 .lenL [.t 27],
 o3 29 .mv [.i 0]]
def F63o18 := [
 o3 30 (.bin .lss) [.t 29, .t 28]]
def F63o26 := [
 o3 31 (.iaddrS 3) [.t 27, .t 29],
 o3 32 (.load (some 3)) [.t 31],
 o3 5 (.alloc [.d (.int .i64 0), .nils, .nils]) [],
 o0 (.store 3) [.t 5, .t 32]]
def F63o27 := [
 om 33 3,
 o3 34 (.load (some 3)) [.t 5],
 o3 35 (.callf 63) [.t 34],
 o3 36 (.append 1 1 false) [.t 33, .t 35],
 om 3 36]
def F63c27 : Ac := (.ops F63o27)
def F63o28 := [
 o3 37 (.bin .add) [.t 29, .i 1],
 om 29 37]
def F63c28 : Ac := (.ops F63o28)
def F63c23 : Ac := (.seq (.block 1 (so F63o26 F63c27)) F63c28)
def F63c19 : Ac := (.seq (cd 30 .skip (.exit 0)) F63c23)
def F63l16 : Ac := (so F63o18 F63c19)
def F63c15 : Ac := (.block 0 (.loop (.seq (.gh []) (.seq (.keep [3, 27, 28, 29] [[9]]) F63l16))))
def F63o30 := [
 om 38 3,
 om 2 38]
def F63c31 : Ac := (.seq (.gh [.frz 2]) .ret)
def F63b29 : Ac := (so F63o30 F63c31)
def F63c29 : Ac := (.seq (.gh []) (.seq (.keep [3] [[9]]) F63b29))
def F63c12 : Ac := (.seq (so F63o14 F63c15) F63c29)
def F63c4 : Ac := (.seq (so F63o6 F63c7) F63c12)
def F63c2 : Ac := (so F63o3 F63c4)
def F63c0 : Ac := (so F63o1 F63c2)
/-- hansom/iter.Put -/
def F63 : Fn := { np := 1, pb := [], rs := [.t 2], body := F63c0 }
def F64o1 := [
 o3 2 .mv [.w 0]]
def F64o4 := [
 om 4 0,
 o3 5 (.callf 99) [.t 4, .i 2],
 om 3 5]
def F64o6 := [
 om 6 3,
 o3 7 .lenL [.t 6],
 o3 8 (.bin .eql) [.t 7, .i 2]]
def F64o9 := [
 om 9 3,
 o3 10 (.iaddrS 1) [.t 9, .i 0],
 o3 11 (.load none) [.t 10],
 om 12 3,
 o3 13 (.iaddrS 1) [.t 12, .i 1],
 o3 14 (.load none) [.t 13],
 o3 15 (.callf 102) [.t 11, .t 14],
 om 2 15]
def F64c10 : Ac := .ret
def F64c7 : Ac := (cd 8 (so F64o9 F64c10) .skip)
def F64c5 : Ac := (so F64o6 F64c7)
def F64o13 := [
 o3 2 .mv [.w 0]]
def F64c14 : Ac := .ret
def F64c12 : Ac := (so F64o13 F64c14)
def F64c2 : Ac := (.seq (so F64o4 F64c5) F64c12)
def F64c0 : Ac := (so F64o1 F64c2)
/-- (*hansom/index.Source).Word -/
def F64 : Fn := { np := 1, pb := [[0]], rs := [.t 2], body := F64c0 }
def F65o1 := [
 o3 4 (.alloc [.d (.int .i64 0), .nils, .nils]) []]
def F65o3 := [
 om 7 0,
 o3 8 (.callf 64) [.t 7],
 o3 9 (.toInt .i64) [.t 8],
 o3 10 (.build [.d (.int .i64 0), .nils, .nils] [(0, 1)]) [.t 9],
 o3 5 (.alloc [.d (.int .i64 0), .nils, .nils]) [],
 o0 (.store 3) [.t 5, .t 10]]
def F65o5 := [
 om 11 0,
 o3 12 (.callf 64) [.t 11],
 o3 13 (.toInt .i64) [.t 12],
 om 6 13]
def F65o8 := [
 om 14 1,
 o3 15 (.bin .gtr) [.t 14, .i 8]]
def F65o10 := [
 om 16 0,
 o3 17 (.callf 56) [.t 16, .i 8]]
def F65c9 : Ac := (cd 15 (.ops F65o10) .skip)
def F65o14 := [
 om 18 6,
 o3 19 (.bin .eql) [.t 18, .i 0]]
def F65o17 := [
 om 20 0,
 o3 21 (.callf 52) [.t 20],
 o3 22 .strBytes [.t 21],
 o3 23 (.faddr 1) [.t 5],
 o0 (.store 1) [.t 23, .t 22]]
def F65o19 := [
 o3 24 (.load (some 3)) [.t 5],
 o0 (.store 3) [.t 4, .t 24]]
def F65c20 : Ac := (.seq (.gh [.frzB [4] 1, .frzB [4] 2]) .ret)
def F65c18 : Ac := (so F65o19 F65c20)
def F65c15 : Ac := (cd 19 (so F65o17 F65c18) .skip)
def F65o24 := [
 om 25 6,
 o3 26 .mv [.i 0]]
def F65o28 := [
 o3 27 (.bin .lss) [.t 26, .t 25]]
def F65o37 := [
 om 28 0,
 o3 29 (.callf 57) [.t 28],
 o3 30 (.bin .neq) [.t 29, .i 0]]
def F65c38 : Ac := (cd 30 (.exit 0) .skip)
def F65o41 := [
 o3 31 (.faddr 2) [.t 5],
  { dst := some 32, k := (.load none), xs := [.t 31], av := [[36], [0], [0, 0], [37]] },
 om 33 0,
 om 34 1,
 o3 35 (.bin .add) [.t 34, .i 1],
  { dst := some 36, k := (.callf 65), xs := [.t 33, .t 35], al := some [[0], [0, 0]] },
 o3 37 (.bslice (.agg [.int .i64 0, .sl [], .sl []]) 1 [0]) [.t 36],
 o3 38 (.append 3 56 false) [.t 32, .t 37],
 o3 39 (.faddr 2) [.t 5],
 o0 (.store 1) [.t 39, .t 38]]
def F65c41 : Ac := (.ops F65o41)
def F65o42 := [
 o3 40 (.bin .add) [.t 26, .i 1],
 om 26 40]
def F65c42 : Ac := (.ops F65o42)
def F65c33 : Ac := (.seq (.block 1 (.seq (so F65o37 F65c38) F65c41)) F65c42)
def F65c29 : Ac := (.seq (cd 27 .skip (.exit 0)) F65c33)
def F65l26 : Ac := (so F65o28 F65c29)
def F65c25 : Ac := (.block 0 (.loop (.seq (.gh []) (.seq (.keep [0, 1, 4, 5, 25, 26] [[0], [4], [5], [902, 5]]) F65l26))))
def F65o44 := [
 o3 41 (.load (some 3)) [.t 5],
 o0 (.store 3) [.t 4, .t 41]]
def F65c45 : Ac := (.seq (.gh [.frzB [4] 1, .frzB [4] 2]) .ret)
def F65b43 : Ac := (so F65o44 F65c45)
def F65c43 : Ac := (.seq (.gh []) (.seq (.keep [4, 5] [[0], [4], [5], [902, 5]]) F65b43))
def F65c22 : Ac := (.seq (so F65o24 F65c25) F65c43)
def F65b12 : Ac := (.seq (so F65o14 F65c15) F65c22)
def F65c12 : Ac := (.seq (.gh []) (.seq (.keep [0, 1, 4, 5, 6] [[0], [4], [5], [902, 5]]) F65b12))
def F65c6 : Ac := (.seq (so F65o8 F65c9) F65c12)
def F65b4 : Ac := (so F65o5 F65c6)
def F65c4 : Ac := (.seq (.gh [.ownB [5] 2 [902, 5] 3]) (.seq (.keep [0, 1, 4, 5] [[0], [4], [5], [902, 5]]) F65b4))
def F65c2 : Ac := (so F65o3 F65c4)
def F65c0 : Ac := (so F65o1 F65c2)
/-- hansom/iter.take -/
def F65 : Fn := { np := 2, pb := [[0]], rs := [.c 4 (some 3)], body := F65c0 }
def F66o1 := [
 o3 2 .mv [.i 0]]
def F66o4 := [
 om 3 0,
 o3 4 (.callf 51) [.t 3],
 o3 5 (.bin .gtr) [.t 4, .i 0]]
def F66o6 := [
 om 6 0,
 o3 7 (.callf 56) [.t 6, .i 3]]
def F66c5 : Ac := (cd 5 (.ops F66o6) .skip)
def F66o9 := [
 om 8 0,
 o3 9 (.callf 57) [.t 8],
 om 2 9]
def F66c10 : Ac := .ret
def F66c8 : Ac := (so F66o9 F66c10)
def F66c2 : Ac := (.seq (so F66o4 F66c5) F66c8)
def F66c0 : Ac := (so F66o1 F66c2)
/-- (*hansom/index.Source).End -/
def F66 : Fn := { np := 1, pb := [[0]], rs := [.t 2], body := F66c0 }
def F67o1 := [
 o3 2 .mv [.c (.nils)]]
def F67o4 := [
 om 3 0,
 o3 4 (.nilS false) [.t 3, .c (.nils)]]
def F67o7 := [
 o3 2 .mv [.c (.nils)]]
def F67c8 : Ac := (.seq (.gh [.own 2 [2] 1]) .ret)
def F67c5 : Ac := (cd 4 (so F67o7 F67c8) .skip)
def F67o11 := [
 o3 5 (.bslice (.int .u8 0) 0 []) [],
 om 6 0,
 o3 7 (.append 1 1 false) [.t 5, .t 6],
 om 2 7]
def F67c12 : Ac := .ret
def F67c10 : Ac := (so F67o11 F67c12)
def F67c2 : Ac := (.seq (so F67o4 F67c5) F67c10)
def F67c0 : Ac := (so F67o1 F67c2)
/-- slices.Clone[[]byte,byte] -/
def F67 : Fn := { np := 1, sp := true, pb := [], rs := [.t 2], body := F67c0 }
def F68o1 := [
 o3 4 .mv [.c (.nils)]]
def F68o4 := [
 om 9 1,
 o3 10 (.bin .lss) [.t 9, .i 0]]
def F68c5 : Ac := (cd 10 deadA .skip)
def F68o9 := [
 om 13 0,
 o3 14 .lenL [.t 13],
 o3 15 (.toInt .u64) [.t 14],
 om 16 1,
 o3 17 (.toInt .u64) [.t 16],
 o3 18 (.callf 103) [.t 15, .t 17],
 om 12 18,
 oe 19 0 12,
 oe 20 1 12,
 om 5 19,
 om 6 20]
def F68o12 := [
 om 21 5,
 o3 22 (.bin .gtr) [.t 21, .c (.d (.int .u64 0))],
 om 23 22,
 og 24 .mv [.t 6] 23 false,
 og 25 (.bin .gtr) [.t 24, .c (.d (.int .u64 9223372036854775807))] 23 false,
 o3 26 .pick [.t 23, .b true, .t 25]]
def F68c13 : Ac := (cd 26 deadA .skip)
def F68o17 := [
 om 28 6,
 o3 29 (.toInt .i64) [.t 28],
 o3 30 (.mkslice (.int .u8 0) 1) [.t 29, .t 29],
 om 7 30]
def F68o19 := [
 om 31 7,
 om 32 0,
 o3 33 (.copy 1 false) [.t 31, .t 32],
 om 8 33]
def F68o25 := [
 om 34 8,
 om 35 7,
 o3 36 .lenL [.t 35],
 o3 37 (.bin .lss) [.t 34, .t 36]]
def F68c26 : Ac := (cd 37 .skip (.exit 0))
def F68o30 := [
 om 38 8,
 om 39 7,
 om 40 8,
 o3 41 (.subsl 1 true false false) [.t 39, .t 40],
 om 42 7,
 om 43 8,
 o3 44 (.subsl 1 false true false) [.t 42, .t 43],
 o3 45 (.copy 1 false) [.t 41, .t 44],
 o3 46 (.bin .add) [.t 38, .t 45],
 om 8 46]
def F68c29 : Ac := (.block 1 (.ops F68o30))
def F68l22 : Ac := (.seq (so F68o25 F68c26) F68c29)
def F68o32 := [
 om 47 7,
 om 4 47]
def F68c33 : Ac := (.seq (.gh [.frz 4]) .ret)
def F68b31 : Ac := (so F68o32 F68c33)
def F68c31 : Ac := (.seq (.gh []) (.seq (.keep [7] [[30]]) F68b31))
def F68c20 : Ac := (.seq (.block 0 (.loop (.seq (.gh []) (.seq (.keep [7, 8] [[30]]) F68l22)))) F68c31)
def F68c18 : Ac := (so F68o19 F68c20)
def F68c16 : Ac := (so F68o17 F68c18)
def F68c10 : Ac := (.seq (so F68o12 F68c13) F68c16)
def F68c8 : Ac := (so F68o9 F68c10)
def F68c2 : Ac := (.seq (so F68o4 F68c5) F68c8)
def F68c0 : Ac := (so F68o1 F68c2)
/-- slices.Repeat[[]byte,byte] -/
def F68 : Fn := { np := 2, pb := [], rs := [.t 4], body := F68c0 }
def F69o1 := [
 o3 2 (.box 3) [.t 0],
 o3 4 .mv [.b false]]
def F69o4 := [
 om 7 1,
 o3 8 (.bin .gtr) [.t 7, .i 8],
 om 9 8,
 og 10 (.faddr 0) [.t 2] 9 false,
 og 11 (.load none) [.t 10] 9 false,
 og 12 (.bin .lss) [.t 11, .i 1] 9 false,
 o3 13 .pick [.t 9, .b true, .t 12],
 om 14 13,
 og 15 (.faddr 0) [.t 2] 14 false,
 og 16 (.load none) [.t 15] 14 false,
 og 17 (.bin .gtr) [.t 16, .i 65535] 14 false,
 o3 18 .pick [.t 14, .b true, .t 17],
 om 19 18,
 og 20 (.faddr 2) [.t 2] 19 false,
 og 21 (.load none) [.t 20] 19 false,
 og 22 .lenL [.t 21] 19 false,
 og 23 (.bin .gtr) [.t 22, .i 65535] 19 false,
 o3 24 .pick [.t 19, .b true, .t 23]]
def F69o7 := [
 o3 4 .mv [.b false]]
def F69c8 : Ac := .ret
def F69c5 : Ac := (cd 24 (so F69o7 F69c8) .skip)
def F69o12 := [
 o3 25 (.faddr 2) [.t 2],
 o3 26 (.load none) [.t 25],
 o3 27 .lenL [.t 26],
 o3 28 (.bin .eql) [.t 27, .i 0]]
def F69o15 := [
 o3 29 (.faddr 1) [.t 2],
 o3 30 (.load none) [.t 29],
 o3 31 .lenL [.t 30],
 o3 32 (.bin .geq) [.t 31, .i 1],
 om 33 32,
 og 34 (.faddr 1) [.t 2] 33 true,
 og 35 (.load none) [.t 34] 33 true,
 og 36 .lenL [.t 35] 33 true,
 og 37 (.bin .leq) [.t 36, .i 255] 33 true,
 o3 38 .pick [.t 33, .t 37, .b false],
 om 4 38]
def F69c16 : Ac := .ret
def F69c13 : Ac := (cd 28 (so F69o15 F69c16) .skip)
def F69o20 := [
 o3 39 (.faddr 1) [.t 2],
 o3 40 (.load none) [.t 39],
 o3 41 .lenL [.t 40],
 o3 42 (.bin .gtr) [.t 41, .i 0]]
def F69o23 := [
 o3 4 .mv [.b false]]
def F69c24 : Ac := .ret
def F69c21 : Ac := (cd 42 (so F69o23 F69c24) .skip)
def F69o28 := [
 o3 43 (.faddr 2) [.t 2],
 o3 44 (.load none) [.t 43],
 o3 45 .lenL [.t 44],
 o3 46 .mv [.i 0]]
def F69o32 := [
 o3 47 (.bin .lss) [.t 46, .t 45]]
def F69o40 := [
 o3 48 (.iaddrS 3) [.t 44, .t 46],
 o3 49 (.load (some 3)) [.t 48],
 o3 6 (.alloc [.d (.int .i64 0), .nils, .nils]) [],
 o0 (.store 3) [.t 6, .t 49]]
def F69o42 := [
 o3 50 (.load (some 3)) [.t 6],
 om 51 1,
 o3 52 (.bin .add) [.t 51, .i 1],
 o3 53 (.callf 69) [.t 50, .t 52],
 o3 54 (.un .not) [.t 53]]
def F69o45 := [
 o3 4 .mv [.b false]]
def F69c46 : Ac := .ret
def F69c43 : Ac := (cd 54 (so F69o45 F69c46) .skip)
def F69c41 : Ac := (so F69o42 F69c43)
def F69o48 := [
 o3 55 (.bin .add) [.t 46, .i 1],
 om 46 55]
def F69c48 : Ac := (.ops F69o48)
def F69c37 : Ac := (.seq (.block 1 (so F69o40 F69c41)) F69c48)
def F69c33 : Ac := (.seq (cd 47 .skip (.exit 0)) F69c37)
def F69l30 : Ac := (so F69o32 F69c33)
def F69c29 : Ac := (.block 0 (.loop (.seq (.gh []) (.seq (.keep [1, 44, 45, 46] []) F69l30))))
def F69o50 := [
 o3 4 .mv [.b true]]
def F69c51 : Ac := .ret
def F69b49 : Ac := (so F69o50 F69c51)
def F69c49 : Ac := (.seq (.gh []) (.seq (.keep [] []) F69b49))
def F69c26 : Ac := (.seq (so F69o28 F69c29) F69c49)
def F69c18 : Ac := (.seq (so F69o20 F69c21) F69c26)
def F69c10 : Ac := (.seq (so F69o12 F69c13) F69c18)
def F69c2 : Ac := (.seq (so F69o4 F69c5) F69c10)
def F69c0 : Ac := (so F69o1 F69c2)
/-- hansom/iter.may -/
def F69 : Fn := { np := 2, pb := [], rs := [.t 4], body := F69c0 }
def F99o1 := [
 o3 4 .mv [.c (.nils)]]
def F99o4 := [
 om 6 0,
 o3 7 (.eqp false) [.t 6, .c (.nilp)]]
def F99o7 := [
 o3 4 .mv [.c (.nils)]]
def F99c8 : Ac := .ret
def F99c5 : Ac := (cd 7 (so F99o7 F99c8) .skip)
def F99o12 := [
 om 8 1,
 o3 9 (.bin .lss) [.t 8, .i 0],
 om 10 9,
 og 11 .mv [.t 1] 10 false,
 og 12 .mv [.t 0] 10 false,
 og 13 .nilchk [.t 12] 10 false,
 og 14 (.faddr 0) [.t 13] 10 false,
 og 15 (.load none) [.t 14] 10 false,
 og 16 .lenL [.t 15] 10 false,
 og 17 (.bin .gtr) [.t 11, .t 16] 10 false,
 o3 18 .pick [.t 10, .b true, .t 17]]
def F99o15 := [
 om 19 0,
 o3 20 (.callf 56) [.t 19, .i 2]]
def F99o17 := [
 o3 4 .mv [.c (.nils)]]
def F99c18 : Ac := (.seq (.gh [.frz 4]) .ret)
def F99c16 : Ac := (so F99o17 F99c18)
def F99c13 : Ac := (cd 18 (so F99o15 F99c16) .skip)
def F99o21 := [
 om 21 0,
 o3 22 .nilchk [.t 21],
 o3 23 (.faddr 0) [.t 22],
 o3 24 (.load none) [.t 23],
 om 25 1,
 om 26 1,
 o3 27 (.subsl 1 false true true) [.t 24, .t 25, .t 26],
 om 5 27]
def F99o23 := [
 om 28 0,
 om 29 0,
 o3 30 .nilchk [.t 29],
 o3 31 (.faddr 0) [.t 30],
 o3 32 (.load none) [.t 31],
 om 33 1,
 o3 34 (.subsl 1 true false false) [.t 32, .t 33],
 o3 35 .nilchk [.t 28],
 o3 36 (.faddr 0) [.t 35],
 o0 (.store 1) [.t 36, .t 34]]
def F99o25 := [
 om 37 5,
 om 4 37]
def F99c26 : Ac := .ret
def F99c24 : Ac := (so F99o25 F99c26)
def F99c22 : Ac := (so F99o23 F99c24)
def F99c20 : Ac := (so F99o21 F99c22)
def F99c10 : Ac := (.seq (so F99o12 F99c13) F99c20)
def F99c2 : Ac := (.seq (so F99o4 F99c5) F99c10)
def F99c0 : Ac := (so F99o1 F99c2)
/-- (*hansom/index.Source).Take -/
def F99 : Fn := { np := 2, pb := [[0]], rs := [.t 4], body := F99c0 }
def F100o1 := [
 o3 2 .mv [.y 0]]
def F100o3 := [
 om 3 0,
 o3 4 (.toInt .u8) [.t 3],
 om 2 4]
def F100c4 : Ac := .ret
def F100c2 : Ac := (so F100o3 F100c4)
def F100c0 : Ac := (so F100o1 F100c2)
/-- hansom/bits.Low -/
def F100 : Fn := { np := 1, pb := [], rs := [.t 2], body := F100c0 }
def F101o1 := [
 o3 2 .mv [.y 0]]
def F101o3 := [
 om 3 0,
 o3 4 (.bin .shr) [.t 3, .c (.d (.int .u64 8))],
 o3 5 (.toInt .u8) [.t 4],
 om 2 5]
def F101c4 : Ac := .ret
def F101c2 : Ac := (so F101o3 F101c4)
def F101c0 : Ac := (so F101o1 F101c2)
/-- hansom/bits.High -/
def F101 : Fn := { np := 1, pb := [], rs := [.t 2], body := F101c0 }
def F102o1 := [
 o3 4 .mv [.w 0]]
def F102o3 := [
 om 5 0,
 o3 6 (.toInt .u16) [.t 5],
 om 7 1,
 o3 8 (.toInt .u16) [.t 7],
 o3 9 (.bin .shl) [.t 8, .c (.d (.int .u64 8))],
 o3 10 (.bin .or) [.t 6, .t 9],
 om 4 10]
def F102c4 : Ac := .ret
def F102c2 : Ac := (so F102o3 F102c4)
def F102c0 : Ac := (so F102o1 F102c2)
/-- hansom/bits.Word -/
def F102 : Fn := { np := 2, pb := [], rs := [.t 4], body := F102c0 }
def F103o1 := [
 o3 4 .mv [.c (.d (.int .u64 0))],
 o3 5 .mv [.c (.d (.int .u64 0))]]
def F103o5 := [
 om 11 0,
 o3 12 (.toInt .u32) [.t 11],
 om 13 1,
 o3 14 (.toInt .u32) [.t 13],
 o3 15 (.callf 133) [.t 12, .t 14],
 om 10 15,
 oe 16 0 10,
 oe 17 1 10,
 om 6 16,
 om 7 17]
def F103o7 := [
 om 18 6,
 o3 19 (.toInt .u64) [.t 18],
 om 20 7,
 o3 21 (.toInt .u64) [.t 20],
 om 4 19,
 om 5 21]
def F103c8 : Ac := .ret
def F103c6 : Ac := (so F103o7 F103c8)
def F103o11 := [
 om 23 0,
 om 24 1,
 o3 25 (.callf 134) [.t 23, .t 24],
 om 22 25,
 oe 26 0 22,
 oe 27 1 22,
 om 8 26,
 om 9 27]
def F103o13 := [
 om 28 8,
 om 29 9,
 om 4 28,
 om 5 29]
def F103c14 : Ac := .ret
def F103c12 : Ac := (so F103o13 F103c14)
def F103c10 : Ac := (so F103o11 F103c12)
def F103c2 : Ac := (.seq (.cond (.b false) (so F103o5 F103c6) .skip) F103c10)
def F103c0 : Ac := (so F103o1 F103c2)
/-- math/bits.Mul -/
def F103 : Fn := { np := 2, pb := [], rs := [.t 4, .t 5], body := F103c0 }
def F134o1 := [
 o3 4 .mv [.c (.d (.int .u64 0))],
 o3 5 .mv [.c (.d (.int .u64 0))]]
def F134o3 := [
 om 14 0,
 o3 15 (.bin .and) [.t 14, .c (.d (.int .u64 4294967295))],
 om 6 15]
def F134o5 := [
 om 16 0,
 o3 17 (.bin .shr) [.t 16, .c (.d (.int .u64 32))],
 om 7 17]
def F134o7 := [
 om 18 1,
 o3 19 (.bin .and) [.t 18, .c (.d (.int .u64 4294967295))],
 om 8 19]
def F134o9 := [
 om 20 1,
 o3 21 (.bin .shr) [.t 20, .c (.d (.int .u64 32))],
 om 9 21]
def F134o11 := [
 om 22 6,
 om 23 8,
 o3 24 (.bin .mul) [.t 22, .t 23],
 om 10 24]
def F134o13 := [
 om 25 7,
 om 26 8,
 o3 27 (.bin .mul) [.t 25, .t 26],
 om 28 10,
 o3 29 (.bin .shr) [.t 28, .c (.d (.int .u64 32))],
 o3 30 (.bin .add) [.t 27, .t 29],
 om 11 30]
def F134o15 := [
 om 31 11,
 o3 32 (.bin .and) [.t 31, .c (.d (.int .u64 4294967295))],
 om 12 32]
def F134o17 := [
 om 33 11,
 o3 34 (.bin .shr) [.t 33, .c (.d (.int .u64 32))],
 om 13 34]
def F134o19 := [
 om 35 12,
 om 36 6,
 om 37 9,
 o3 38 (.bin .mul) [.t 36, .t 37],
 o3 39 (.bin .add) [.t 35, .t 38],
 om 12 39]
def F134o21 := [
 om 40 7,
 om 41 9,
 o3 42 (.bin .mul) [.t 40, .t 41],
 om 43 13,
 o3 44 (.bin .add) [.t 42, .t 43],
 om 45 12,
 o3 46 (.bin .shr) [.t 45, .c (.d (.int .u64 32))],
 o3 47 (.bin .add) [.t 44, .t 46],
 om 4 47]
def F134o23 := [
 om 48 0,
 om 49 1,
 o3 50 (.bin .mul) [.t 48, .t 49],
 om 5 50]
def F134c24 : Ac := .ret
def F134c22 : Ac := (so F134o23 F134c24)
def F134c20 : Ac := (so F134o21 F134c22)
def F134c18 : Ac := (so F134o19 F134c20)
def F134c16 : Ac := (so F134o17 F134c18)
def F134c14 : Ac := (so F134o15 F134c16)
def F134c12 : Ac := (so F134o13 F134c14)
def F134c10 : Ac := (so F134o11 F134c12)
def F134c8 : Ac := (so F134o9 F134c10)
def F134c6 : Ac := (so F134o7 F134c8)
def F134c4 : Ac := (so F134o5 F134c6)
def F134c2 : Ac := (so F134o3 F134c4)
def F134c0 : Ac := (so F134o1 F134c2)
/-- math/bits.Mul64 -/
def F134 : Fn := { np := 2, pb := [], rs := [.t 4, .t 5], body := F134c0 }
def hints : Nat → Nat → Hint
  | _, _ => []
def keepf : Nat → Keeps
  | 25, 3 => some ([0, 2, 3, 4], [[1, 2], [1, 3], [2], [2, 2], [2, 3], [3], [5], [13]])
  | 26, 5 => some ([0, 1, 4, 21, 22, 23], [[0, 29], [1], [1, 1], [1, 6], [2, 1], [2, 6], [6], [19], [34], [39]])
  | 28, 3 => some ([0, 1, 3, 10, 11, 12], [[1], [1, 1], [1, 5], [2, 1], [2, 5], [5]])
  | 68, 8 => some ([0, 1, 7, 8], [[30]])
  | 69, 8 => some ([0, 1, 44, 45, 46], [[1, 2], [1, 6], [2], [2, 2], [2, 6], [6]])
  | _, _ => none
def spf : Nat → Bool := fun n => [67, 1000005, 1000020, 1000021, 1000026, 1000027, 1000028, 1000048, 1000050, 1000051, 1000052, 1000053, 1000054, 1000056, 1000057, 1000061, 1000062, 1000063, 1000064, 1000065, 1000066, 1000067, 1000068, 1000069, 1000099, 1000100, 1000101, 1000102, 1000103, 1000134].contains n
def fzf : Nat → List Gs
  | 25 => [.frzB [2] 1, .frzB [2] 2]
  | _ => []
noncomputable def tab1 : Nat → Option Fn
  | 5 => some F5
  | 20 => some F20
  | 21 => some F21
  | 26 => some F26
  | 27 => some F27
  | 28 => some F28
  | 48 => some F48
  | 50 => some F50
  | 51 => some F51
  | 52 => some F52
  | 53 => some F53
  | 54 => some F54
  | 56 => some F56
  | 57 => some F57
  | 61 => some F61
  | 62 => some F62
  | 63 => some F63
  | 64 => some F64
  | 65 => some F65
  | 66 => some F66
  | 67 => some F67
  | 68 => some F68
  | 69 => some F69
  | 99 => some F99
  | 100 => some F100
  | 101 => some F101
  | 102 => some F102
  | 103 => some F103
  | 134 => some F134
  | n => autoK Try.prog (fun _ => none) spf hints keepf n fzf
noncomputable def L : Cs := lim tab1 (fun _ _ => none)

theorem no_globals : GOk (fun _ _ => none) (fun _ => none) := fun n a h => by cases h
theorem ok5 : FnOk (fun _ _ => none) Try.prog 5 F5 := compF_spec no_globals Try.func5 (by kernel_rfl)
theorem ok20 : FnOk (fun _ _ => none) Try.prog 20 F20 := compF_spec no_globals Try.func20 (by kernel_rfl)
theorem ok21 : FnOk (fun _ _ => none) Try.prog 21 F21 := compF_spec no_globals Try.func21 (by kernel_rfl)
theorem ok26 : FnOk (fun _ _ => none) Try.prog 26 F26 := compF_spec no_globals Try.func26 (by kernel_rfl)
theorem ok27 : FnOk (fun _ _ => none) Try.prog 27 F27 := compF_spec no_globals Try.func27 (by kernel_rfl)
theorem ok28 : FnOk (fun _ _ => none) Try.prog 28 F28 := compF_spec no_globals Try.func28 (by kernel_rfl)
theorem ok48 : FnOk (fun _ _ => none) Try.prog 48 F48 := compF_spec no_globals Try.func48 (by kernel_rfl)
theorem ok50 : FnOk (fun _ _ => none) Try.prog 50 F50 := compF_spec no_globals Try.func50 (by kernel_rfl)
theorem ok51 : FnOk (fun _ _ => none) Try.prog 51 F51 := compF_spec no_globals Try.func51 (by kernel_rfl)
theorem ok52 : FnOk (fun _ _ => none) Try.prog 52 F52 := compF_spec no_globals Try.func52 (by kernel_rfl)
theorem ok53 : FnOk (fun _ _ => none) Try.prog 53 F53 := compF_spec no_globals Try.func53 (by kernel_rfl)
theorem ok54 : FnOk (fun _ _ => none) Try.prog 54 F54 := compF_spec no_globals Try.func54 (by kernel_rfl)
theorem ok56 : FnOk (fun _ _ => none) Try.prog 56 F56 := compF_spec no_globals Try.func56 (by kernel_rfl)
theorem ok57 : FnOk (fun _ _ => none) Try.prog 57 F57 := compF_spec no_globals Try.func57 (by kernel_rfl)
theorem ok61 : FnOk (fun _ _ => none) Try.prog 61 F61 := compF_spec no_globals Try.func61 (by kernel_rfl)
theorem ok62 : FnOk (fun _ _ => none) Try.prog 62 F62 := compF_spec no_globals Try.func62 (by kernel_rfl)
theorem ok63 : FnOk (fun _ _ => none) Try.prog 63 F63 := compF_spec no_globals Try.func63 (by kernel_rfl)
theorem ok64 : FnOk (fun _ _ => none) Try.prog 64 F64 := compF_spec no_globals Try.func64 (by kernel_rfl)
theorem ok65 : FnOk (fun _ _ => none) Try.prog 65 F65 := compF_spec no_globals Try.func65 (by kernel_rfl)
theorem ok66 : FnOk (fun _ _ => none) Try.prog 66 F66 := compF_spec no_globals Try.func66 (by kernel_rfl)
theorem ok67 : FnOk (fun _ _ => none) Try.prog 67 F67 := compF_spec no_globals Try.func67 (by kernel_rfl)
theorem ok68 : FnOk (fun _ _ => none) Try.prog 68 F68 := compF_spec no_globals Try.func68 (by kernel_rfl)
theorem ok69 : FnOk (fun _ _ => none) Try.prog 69 F69 := compF_spec no_globals Try.func69 (by kernel_rfl)
theorem ok99 : FnOk (fun _ _ => none) Try.prog 99 F99 := compF_spec no_globals Try.func99 (by kernel_rfl)
theorem ok100 : FnOk (fun _ _ => none) Try.prog 100 F100 := compF_spec no_globals Try.func100 (by kernel_rfl)
theorem ok101 : FnOk (fun _ _ => none) Try.prog 101 F101 := compF_spec no_globals Try.func101 (by kernel_rfl)
theorem ok102 : FnOk (fun _ _ => none) Try.prog 102 F102 := compF_spec no_globals Try.func102 (by kernel_rfl)
theorem ok103 : FnOk (fun _ _ => none) Try.prog 103 F103 := compF_spec no_globals Try.func103 (by kernel_rfl)
theorem ok134 : FnOk (fun _ _ => none) Try.prog 134 F134 := compF_spec no_globals Try.func134 (by kernel_rfl)
theorem tab1_ok : ∀ f fn, tab1 f = some fn → FnOk (fun _ _ => none) Try.prog f fn := by
  intro f fn h
  unfold tab1 at h
  split at h
  · cases h; exact ok5
  · cases h; exact ok20
  · cases h; exact ok21
  · cases h; exact ok26
  · cases h; exact ok27
  · cases h; exact ok28
  · cases h; exact ok48
  · cases h; exact ok50
  · cases h; exact ok51
  · cases h; exact ok52
  · cases h; exact ok53
  · cases h; exact ok54
  · cases h; exact ok56
  · cases h; exact ok57
  · cases h; exact ok61
  · cases h; exact ok62
  · cases h; exact ok63
  · cases h; exact ok64
  · cases h; exact ok65
  · cases h; exact ok66
  · cases h; exact ok67
  · cases h; exact ok68
  · cases h; exact ok69
  · cases h; exact ok99
  · cases h; exact ok100
  · cases h; exact ok101
  · cases h; exact ok102
  · cases h; exact ok103
  · cases h; exact ok134
  · exact autoK_spec no_globals h
theorem meets1 (f : Nat) : Meets (fun _ _ => none) Try.prog f (L f) := lim_meets tab1_ok (fun f _ m w args vs bs _ _ _ _ _ r a h => by cases h) f

end Go.Es.Itm
