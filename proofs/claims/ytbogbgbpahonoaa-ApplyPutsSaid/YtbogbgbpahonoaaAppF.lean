/- The code of the functions that the statement ApplyPuts reaches, as the interpreter reads it. No condition. -/
import Derived.Test.YtbogbgbpahonoaaEsD
import Derived.Test.YtbogbgbpahonoaaChecked
import Derived.KernelRfl
set_option linter.unusedVariables false
set_option linter.unusedSimpArgs false
set_option maxRecDepth 100000
set_option maxHeartbeats 4000000
namespace Go.Es.App
open Go.Proofs
def F7o1 := [
 o3 4 (.box 8) [.t 1],
 o3 5 (.box 3) [.t 2],
 o3 6 .mv [.b false]]
def F7o3 := [
 o3 18 (.bslice (.int .u8 0) 0 []) [],
 om 19 0,
 om 20 0,
 o3 21 .lenL [.t 20],
 o3 22 .mn [.t 21, .i 12],
 o3 23 (.subsl 1 false true false) [.t 19, .t 22],
 o3 24 (.append 1 1 false) [.t 18, .t 23],
 om 7 24]
def F7o5 := [
 o3 25 (.load (some 8)) [.t 4],
 o3 26 (.build [.d (.int .i64 0), .d (.int .i64 0), .d (.int .i64 0)] [(0, 1), (1, 1), (2, 1)]) [.i 5, .i 5, .i 5],
 o3 27 (.callf 27) [.t 25, .i 100, .t 26],
 o3 8 (.alloc [.d (.int .i64 0), .d (.int .i64 0), .d (.bool false), .d (.int .i64 0), .d (.int .i64 0), .d (.int .i64 0), .d (.int .i64 0), .d (.int .u16 0)]) [],
 o0 (.store 8) [.t 8, .t 27]]
def F7o7 := [
 o3 28 (.iaddrA 3 1) [.t 5, .i 0],
 o3 29 (.load none) [.t 28],
 o3 30 (.toInt .u16) [.t 29],
 o3 31 (.iaddrA 3 1) [.t 5, .i 1],
 o3 32 (.load none) [.t 31],
 o3 33 (.toInt .u16) [.t 32],
 o3 34 (.iaddrA 3 1) [.t 5, .i 2],
 o3 35 (.load none) [.t 34],
 o3 36 (.bin .and) [.t 35, .i 15],
 o3 37 (.bin .sub) [.t 36, .i 1],
 om 9 30,
 om 10 33,
 om 11 37]
def F7o10 := [
 o3 38 (.iaddrA 3 1) [.t 5, .i 2],
 o3 39 (.load none) [.t 38],
 o3 40 (.bin .and) [.t 39, .i 16],
 o3 41 (.bin .gtr) [.t 40, .i 0]]
def F7o12 := [
 o3 42 (.iaddrA 3 1) [.t 5, .i 2],
 o3 43 (.load none) [.t 42],
 om 11 43]
def F7c11 : Ac := (cd 41 (.ops F7o12) .skip)
def F7o15 := [
 o3 44 (.bslice (.int .u8 0) 0 []) [],
 om 45 7,
 o3 46 (.append 1 1 false) [.t 44, .t 45],
 om 12 46]
def F7o17 := [
 om 47 7,
 om 48 11,
 o3 49 (.load (some 8)) [.t 8],
 om 50 9,
 om 51 10,
 o3 52 (.callf 31) [.l 47, .t 48, .t 49, .t 50, .t 51],
 om 13 52]
def F7o19 := [
 o3 53 (.faddr 1) [.t 8],
 o3 54 (.load none) [.t 53],
 o3 55 (.callf 30) [.t 54],
 om 14 55]
def F7o22 := [
 om 56 11,
 o3 57 (.bin .lss) [.t 56, .i 0],
 om 58 57,
 og 59 .mv [.t 11] 58 false,
 og 60 .mv [.t 12] 58 false,
 og 61 .lenL [.t 60] 58 false,
 og 62 .mv [.t 14] 58 false,
 og 63 (.bin .sub) [.t 61, .t 62] 58 false,
 og 64 (.bin .gtr) [.t 59, .t 63] 58 false,
 o3 65 .pick [.t 58, .b true, .t 64]]
def F7o25 := [
 o3 66 (.callf 29) [],
 om 67 66,
 og 68 .mv [.t 13] 67 true,
 og 69 (.bin .eql) [.t 68, .i (-1)] 67 true,
 o3 70 .pick [.t 67, .t 69, .b false],
 om 71 70,
 og 72 .mv [.t 7] 71 true,
 og 73 .bytesStr [.t 72] 71 true,
 og 74 .mv [.t 12] 71 true,
 og 75 .bytesStr [.t 74] 71 true,
 og 76 (.bin .eql) [.t 73, .t 75] 71 true,
 o3 77 .pick [.t 71, .t 76, .b false],
 om 6 77]
def F7c26 : Ac := .ret
def F7c23 : Ac := (cd 65 (so F7o25 F7c26) .skip)
def F7o29 := [
 om 78 12,
 om 79 11,
 o3 80 (.callf 32) [.t 78, .t 79],
 om 15 80]
def F7o31 := [
 o3 81 (.bslice (.int .u8 0) 0 []) [],
 om 82 12,
 o3 83 (.append 1 1 false) [.t 81, .t 82],
 om 16 83]
def F7o33 := [
 o3 17 .mv [.i (-1)]]
def F7o36 := [
 o3 84 (.faddr 1) [.t 8],
 o3 85 (.load none) [.t 84]]
def F7o39 := [
 o3 104 (.bin .eql) [.t 85, .i 0],
 om 103 104]
def F7o41 := [
 om 105 16,
 om 106 11,
 o3 107 (.iaddrS 1) [.t 105, .t 106],
 o3 108 (.load none) [.t 107],
 om 109 9,
 o3 110 (.toInt .u8) [.t 109],
 o3 111 (.bin .add) [.t 108, .t 110],
 o3 112 (.iaddrS 1) [.t 105, .t 106],
 o0 (.store 1) [.t 112, .t 111]]
def F7o43 := [
 o3 114 (.bin .eql) [.t 85, .i 4],
 om 113 114]
def F7o45 := [
 om 115 16,
 om 116 11,
 o3 117 (.iaddrS 1) [.t 115, .t 116],
 o3 118 (.load none) [.t 117],
 om 119 9,
 o3 120 (.bin .quo) [.t 119, .w 256],
 o3 121 (.toInt .u8) [.t 120],
 o3 122 (.bin .add) [.t 118, .t 121],
 o3 123 (.iaddrS 1) [.t 115, .t 116],
 o0 (.store 1) [.t 123, .t 122]]
def F7o47 := [
 o3 125 (.bin .eql) [.t 85, .i 1],
 om 124 125]
def F7o49 := [
 om 126 16,
 om 127 11,
 om 128 15,
 om 129 9,
 o3 130 (.bin .add) [.t 128, .t 129],
 o3 131 (.callf 33) [.t 126, .t 127, .t 130],
 om 16 131]
def F7o51 := [
 o3 133 (.bin .eql) [.t 85, .i 2],
 om 132 133]
def F7o54 := [
 om 134 16,
 om 135 11,
 om 136 15,
 om 137 10,
 o3 138 (.bin .add) [.t 136, .t 137],
 o3 139 (.callf 33) [.t 134, .t 135, .t 138],
 om 16 139]
def F7o55 := [
 om 140 11,
 om 17 140]
def F7c55 : Ac := (.ops F7o55)
def F7o57 := [
 om 86 16,
 om 87 11,
 om 88 15,
 om 89 9,
 o3 90 (.bin .add) [.t 88, .t 89],
 o3 91 (.callf 33) [.t 86, .t 87, .t 90],
 om 92 11,
 o3 93 (.bin .add) [.t 92, .i 2],
 om 94 12,
 om 95 11,
 o3 96 (.bin .add) [.t 95, .i 2],
 o3 97 (.callf 32) [.t 94, .t 96],
 om 98 10,
 o3 99 (.bin .add) [.t 97, .t 98],
 o3 100 (.callf 33) [.t 91, .t 93, .t 99],
 om 16 100]
def F7o58 := [
 om 101 11,
 o3 102 (.bin .add) [.t 101, .i 2],
 om 17 102]
def F7c58 : Ac := (.ops F7o58)
def F7c52 : Ac := (cd 132 (so F7o54 F7c55) (so F7o57 F7c58))
def F7c48 : Ac := (cd 124 (.ops F7o49) (so F7o51 F7c52))
def F7c44 : Ac := (cd 113 (.ops F7o45) (so F7o47 F7c48))
def F7c40 : Ac := (cd 103 (.ops F7o41) (so F7o43 F7c44))
def F7c37 : Ac := (.block 0 (so F7o39 F7c40))
def F7o60 := [
 o3 141 (.callf 29) [],
 om 142 141,
 og 143 .mv [.t 13] 142 true,
 og 144 .mv [.t 17] 142 true,
 og 145 (.bin .eql) [.t 143, .t 144] 142 true,
 o3 146 .pick [.t 142, .t 145, .b false],
 om 147 146,
 og 148 .mv [.t 7] 147 true,
 og 149 .bytesStr [.t 148] 147 true,
 og 150 .mv [.t 16] 147 true,
 og 151 .bytesStr [.t 150] 147 true,
 og 152 (.bin .eql) [.t 149, .t 151] 147 true,
 o3 153 .pick [.t 147, .t 152, .b false],
 om 6 153]
def F7c61 : Ac := .ret
def F7c59 : Ac := (so F7o60 F7c61)
def F7c34 : Ac := (.seq (so F7o36 F7c37) F7c59)
def F7c32 : Ac := (so F7o33 F7c34)
def F7c30 : Ac := (so F7o31 F7c32)
def F7c28 : Ac := (so F7o29 F7c30)
def F7c20 : Ac := (.seq (so F7o22 F7c23) F7c28)
def F7c18 : Ac := (so F7o19 F7c20)
def F7b16 : Ac := (so F7o17 F7c18)
def F7c16 : Ac := (.seq (.gh [.frz 12]) (.seq (.keep [7, 8, 9, 10, 11, 12] [[8], [18]]) F7b16))
def F7b14 : Ac := (so F7o15 F7c16)
def F7c14 : Ac := (.seq (.gh []) (.seq (.keep [7, 8, 9, 10, 11] [[8], [18]]) F7b14))
def F7c8 : Ac := (.seq (so F7o10 F7c11) F7c14)
def F7c6 : Ac := (so F7o7 F7c8)
def F7c4 : Ac := (so F7o5 F7c6)
def F7c2 : Ac := (so F7o3 F7c4)
def F7c0 : Ac := (so F7o1 F7c2)
/-- hansom/hansomlaw42.ApplyPuts -/
def F7 : Fn := { np := 3, pb := [], rs := [.t 6], body := F7c0 }
def F27o1 := [
 o3 3 (.box 8) [.t 0],
 o3 5 (.box 3) [.t 2],
 o3 6 (.alloc [.d (.int .i64 0), .d (.int .i64 0), .d (.bool false), .d (.int .i64 0), .d (.int .i64 0), .d (.int .i64 0), .d (.int .i64 0), .d (.int .u16 0)]) []]
def F27o3 := [
 o3 7 (.faddr 1) [.t 3],
 o3 8 (.load none) [.t 7],
 o3 9 (.bin .and) [.t 8, .i 255],
 o3 10 (.bin .rem) [.t 9, .i 5],
 o3 11 (.faddr 1) [.t 6],
 o0 (.store 1) [.t 11, .t 10]]
def F27o5 := [
 o3 12 (.faddr 2) [.t 3],
 o3 13 (.load none) [.t 12],
 om 14 13,
 og 15 (.faddr 1) [.t 6] 14 true,
 og 16 (.load none) [.t 15] 14 true,
 og 17 (.bin .lss) [.t 16, .i 2] 14 true,
 o3 18 .pick [.t 14, .t 17, .b false],
 o3 19 (.faddr 2) [.t 6],
 o0 (.store 1) [.t 19, .t 18]]
def F27o7 := [
 o3 20 (.faddr 0) [.t 3],
  { dst := some 21, k := (.load none), xs := [.t 20], av := [[26]] },
 o3 22 (.bin .and) [.t 21, .i 65535],
 om 23 1,
 o3 24 (.faddr 1) [.t 6],
 o3 25 (.load none) [.t 24],
  { dst := some 26, k := (.callf 30), xs := [.t 25], al := some [] },
 o3 27 (.bin .sub) [.t 23, .t 26],
 o3 28 (.bin .add) [.t 27, .i 1],
 o3 29 .mn [.t 28, .i 1024],
 o3 30 (.bin .rem) [.t 22, .t 29],
 o3 31 (.faddr 0) [.t 6],
 o0 (.store 1) [.t 31, .t 30]]
def F27o9 := [
 o3 32 (.faddr 5) [.t 3],
 o3 33 (.load none) [.t 32],
 o3 34 (.bin .and) [.t 33, .i 255],
 o3 35 (.bin .rem) [.t 34, .i 3],
 o3 36 (.faddr 3) [.t 3],
  { dst := some 37, k := (.load none), xs := [.t 36], av := [[6]] },
 o3 38 (.bin .and) [.t 37, .i 255],
 o3 39 (.bin .rem) [.t 38, .i 5],
 o3 40 (.faddr 5) [.t 6],
  { dst := none, k := (.store 1), xs := [.t 40, .t 35], al := some [[6]] },
 o3 41 (.faddr 3) [.t 6],
 o0 (.store 1) [.t 41, .t 39]]
def F27o15 := [
 o3 42 (.faddr 5) [.t 6],
 o3 43 (.load none) [.t 42],
 o3 44 (.iaddrA 3 1) [.t 5, .t 43],
 o3 45 (.load none) [.t 44],
 o3 46 (.bin .eql) [.t 45, .i 0]]
def F27c16 : Ac := (cd 46 .skip (.exit 0))
def F27o20 := [
 o3 47 (.faddr 5) [.t 6],
 o3 48 (.load none) [.t 47],
 o3 49 (.bin .add) [.t 48, .i 1],
 o3 50 (.bin .rem) [.t 49, .i 3],
 o3 51 (.faddr 5) [.t 6],
 o0 (.store 1) [.t 51, .t 50]]
def F27c19 : Ac := (.block 1 (.ops F27o20))
def F27l12 : Ac := (.seq (so F27o15 F27c16) F27c19)
def F27o23 := [
 o3 52 (.faddr 3) [.t 6],
 o3 53 (.load none) [.t 52],
 o3 54 (.bin .eql) [.t 53, .i 3]]
def F27o25 := [
 o3 55 (.faddr 3) [.t 6],
 o0 (.store 1) [.t 55, .i 5]]
def F27c24 : Ac := (cd 54 (.ops F27o25) .skip)
def F27o29 := [
 o3 56 (.faddr 3) [.t 6],
 o3 57 (.load none) [.t 56],
 o3 58 (.bin .lss) [.t 57, .i 3],
 om 59 58,
 og 60 (.faddr 3) [.t 6] 59 true,
 og 61 (.load none) [.t 60] 59 true,
 og 62 (.iaddrA 3 1) [.t 5, .t 61] 59 true,
 og 63 (.load none) [.t 62] 59 true,
 og 64 (.bin .eql) [.t 63, .i 0] 59 true,
 o3 65 .pick [.t 59, .t 64, .b false]]
def F27o31 := [
 o3 66 (.faddr 3) [.t 6],
 o0 (.store 1) [.t 66, .i 5]]
def F27c30 : Ac := (cd 65 (.ops F27o31) .skip)
def F27o34 := [
 o3 67 (.faddr 6) [.t 3],
 o3 68 (.load none) [.t 67],
 o3 69 (.bin .and) [.t 68, .i 255],
 o3 70 (.faddr 5) [.t 6],
 o3 71 (.load none) [.t 70],
 o3 72 (.iaddrA 3 1) [.t 5, .t 71],
 o3 73 (.load none) [.t 72],
 o3 74 (.bin .rem) [.t 69, .t 73],
 o3 75 (.bin .add) [.t 74, .i 1],
 o3 76 (.faddr 6) [.t 6],
 o0 (.store 1) [.t 76, .t 75]]
def F27o37 := [
 o3 77 (.faddr 3) [.t 6],
 o3 78 (.load none) [.t 77],
 o3 79 (.bin .lss) [.t 78, .i 3]]
def F27o39 := [
 o3 80 (.faddr 4) [.t 3],
 o3 81 (.load none) [.t 80],
 o3 82 (.bin .and) [.t 81, .i 255],
 o3 83 (.faddr 3) [.t 6],
 o3 84 (.load none) [.t 83],
 o3 85 (.iaddrA 3 1) [.t 5, .t 84],
 o3 86 (.load none) [.t 85],
 o3 87 (.bin .rem) [.t 82, .t 86],
 o3 88 (.bin .add) [.t 87, .i 1],
 o3 89 (.faddr 4) [.t 6],
 o0 (.store 1) [.t 89, .t 88]]
def F27c38 : Ac := (cd 79 (.ops F27o39) .skip)
def F27o42 := [
 o3 90 (.faddr 7) [.t 3],
 o3 91 (.load none) [.t 90],
 o3 92 (.faddr 7) [.t 6],
 o0 (.store 1) [.t 92, .t 91]]
def F27o44 := [
 o3 93 (.load (some 8)) [.t 6],
 o0 (.store 8) [.t 6, .t 93]]
def F27c45 : Ac := .ret
def F27c43 : Ac := (so F27o44 F27c45)
def F27c41 : Ac := (so F27o42 F27c43)
def F27c35 : Ac := (.seq (so F27o37 F27c38) F27c41)
def F27b33 : Ac := (so F27o34 F27c35)
def F27c33 : Ac := (.seq (.gh []) (.seq (.keep [3, 5, 6] [[3], [5], [6]]) F27b33))
def F27b27 : Ac := (.seq (so F27o29 F27c30) F27c33)
def F27c27 : Ac := (.seq (.gh []) (.seq (.keep [3, 5, 6] [[3], [5], [6]]) F27b27))
def F27b21 : Ac := (.seq (so F27o23 F27c24) F27c27)
def F27c21 : Ac := (.seq (.gh []) (.seq (.keep [3, 5, 6] [[3], [5], [6]]) F27b21))
def F27c10 : Ac := (.seq (.block 0 (.loop (.seq (.gh []) (.seq (.keep [3, 5, 6] [[3], [5], [6]]) F27l12)))) F27c21)
def F27c8 : Ac := (so F27o9 F27c10)
def F27b6 : Ac := (so F27o7 F27c8)
def F27c6 : Ac := (.seq (.gh []) (.seq (.keep [1, 3, 5, 6] [[3], [5], [6]]) F27b6))
def F27c4 : Ac := (so F27o5 F27c6)
def F27c2 : Ac := (so F27o3 F27c4)
def F27c0 : Ac := (so F27o1 F27c2)
/-- hansom/hansomref25.Near -/
def F27 : Fn := { np := 3, pb := [], rs := [.c 6 (some 8)], body := F27c0 }
def F30o1 := [
 o3 2 .mv [.i 0]]
def F30o4 := [
 om 3 0,
 o3 4 (.bin .eql) [.t 3, .i 0],
 om 5 4,
 og 6 .mv [.t 0] 5 false,
 og 7 (.bin .eql) [.t 6, .i 4] 5 false,
 o3 8 .pick [.t 5, .b true, .t 7]]
def F30o7 := [
 o3 2 .mv [.i 1]]
def F30c8 : Ac := .ret
def F30c5 : Ac := (cd 8 (so F30o7 F30c8) .skip)
def F30o12 := [
 om 9 0,
 o3 10 (.bin .eql) [.t 9, .i 3]]
def F30o15 := [
 o3 2 .mv [.i 4]]
def F30c16 : Ac := .ret
def F30c13 : Ac := (cd 10 (so F30o15 F30c16) .skip)
def F30o19 := [
 o3 2 .mv [.i 2]]
def F30c20 : Ac := .ret
def F30c18 : Ac := (so F30o19 F30c20)
def F30c10 : Ac := (.seq (so F30o12 F30c13) F30c18)
def F30c2 : Ac := (.seq (so F30o4 F30c5) F30c10)
def F30c0 : Ac := (so F30o1 F30c2)
/-- hansom/hansomref25.Size -/
def F30 : Fn := { np := 1, pb := [], rs := [.t 2], body := F30c0 }
def F31o1 := [
 o3 7 (.box 8) [.t 2],
 o3 10 .mv [.i 0]]
def F31o4 := [
 om 11 1,
 o3 12 (.bin .lss) [.t 11, .i 0],
 om 13 12,
 og 14 .mv [.t 1] 13 false,
 og 15 .mv [.t 0] 13 false,
 og 16 .lenL [.t 15] 13 false,
 og 17 (.faddr 1) [.t 7] 13 false,
 og 18 (.load none) [.t 17] 13 false,
 og 19 (.callf 58) [.t 18] 13 false,
 og 20 (.bin .sub) [.t 16, .t 19] 13 false,
 og 21 (.bin .gtr) [.t 14, .t 20] 13 false,
 o3 22 .pick [.t 13, .b true, .t 21]]
def F31o7 := [
 o3 10 .mv [.i (-1)]]
def F31c8 : Ac := .ret
def F31c5 : Ac := (cd 22 (so F31o7 F31c8) .skip)
def F31o12 := [
 o3 23 (.faddr 1) [.t 7],
 o3 24 (.load none) [.t 23]]
def F31o15 := [
 o3 30 (.bin .eql) [.t 24, .i 0],
 om 29 30]
def F31o17 := [
 om 31 0,
 om 32 1,
 o3 33 (.iaddrS 1) [.t 31, .t 32],
 o3 34 (.load none) [.t 33],
 om 35 3,
 o3 36 (.toInt .u8) [.t 35],
 o3 37 (.bin .add) [.t 34, .t 36],
 o3 38 (.iaddrS 1) [.t 31, .t 32],
 o0 (.store 1) [.t 38, .t 37]]
def F31o19 := [
 o3 40 (.bin .eql) [.t 24, .i 4],
 om 39 40]
def F31o21 := [
 om 41 0,
 om 42 1,
 o3 43 (.iaddrS 1) [.t 41, .t 42],
 o3 44 (.load none) [.t 43],
 om 45 3,
 o3 46 (.bin .shr) [.t 45, .c (.d (.int .u64 8))],
 o3 47 (.toInt .u8) [.t 46],
 o3 48 (.bin .add) [.t 44, .t 47],
 o3 49 (.iaddrS 1) [.t 41, .t 42],
 o0 (.store 1) [.t 49, .t 48]]
def F31o23 := [
 o3 51 (.bin .eql) [.t 24, .i 2],
 om 50 51]
def F31o26 := [
 om 52 0,
 om 53 1,
 om 54 4,
 o3 55 (.callf 59) [.l 52, .t 53, .t 54]]
def F31o28 := [
 om 56 1,
 om 10 56]
def F31c29 : Ac := .ret
def F31c27 : Ac := (so F31o28 F31c29)
def F31o31 := [
 o3 58 (.bin .eql) [.t 24, .i 3],
 om 57 58]
def F31o34 := [
 om 59 0,
 om 60 1,
 om 61 3,
 o3 62 (.callf 59) [.l 59, .t 60, .t 61]]
def F31o36 := [
 om 63 0,
 om 64 1,
 o3 65 (.bin .add) [.t 64, .i 2],
 om 66 4,
 o3 67 (.callf 59) [.l 63, .t 65, .t 66]]
def F31o38 := [
 om 68 1,
 o3 69 (.bin .add) [.t 68, .i 2],
 om 10 69]
def F31c39 : Ac := .ret
def F31c37 : Ac := (so F31o38 F31c39)
def F31c35 : Ac := (so F31o36 F31c37)
def F31o40 := [
 om 25 0,
 om 26 1,
 om 27 3,
 o3 28 (.callf 59) [.l 25, .t 26, .t 27]]
def F31c32 : Ac := (cd 57 (so F31o34 F31c35) (.ops F31o40))
def F31c24 : Ac := (cd 50 (so F31o26 F31c27) (so F31o31 F31c32))
def F31c20 : Ac := (cd 39 (.ops F31o21) (so F31o23 F31c24))
def F31c16 : Ac := (cd 29 (.ops F31o17) (so F31o19 F31c20))
def F31c13 : Ac := (.block 0 (so F31o15 F31c16))
def F31o42 := [
 o3 10 .mv [.i (-1)]]
def F31c43 : Ac := .ret
def F31c41 : Ac := (so F31o42 F31c43)
def F31c10 : Ac := (.seq (so F31o12 F31c13) F31c41)
def F31c2 : Ac := (.seq (so F31o4 F31c5) F31c10)
def F31c0 : Ac := (so F31o1 F31c2)
/-- hansom/apply.Put -/
def F31 : Fn := { np := 5, pb := [[0]], rs := [.t 10], body := F31c0 }
def F32o1 := [
 o3 4 .mv [.w 0]]
def F32o4 := [
 om 5 1,
 o3 6 (.bin .lss) [.t 5, .i 0],
 om 7 6,
 og 8 .mv [.t 1] 7 false,
 og 9 (.bin .add) [.t 8, .i 1] 7 false,
 og 10 .mv [.t 0] 7 false,
 og 11 .lenL [.t 10] 7 false,
 og 12 (.bin .geq) [.t 9, .t 11] 7 false,
 o3 13 .pick [.t 7, .b true, .t 12]]
def F32o7 := [
 o3 4 .mv [.w 0]]
def F32c8 : Ac := .ret
def F32c5 : Ac := (cd 13 (so F32o7 F32c8) .skip)
def F32o11 := [
 om 14 0,
 om 15 1,
 o3 16 (.iaddrS 1) [.t 14, .t 15],
 o3 17 (.load none) [.t 16],
 o3 18 (.toInt .u16) [.t 17],
 om 19 0,
 om 20 1,
 o3 21 (.bin .add) [.t 20, .i 1],
 o3 22 (.iaddrS 1) [.t 19, .t 21],
 o3 23 (.load none) [.t 22],
 o3 24 (.toInt .u16) [.t 23],
 o3 25 (.bin .mul) [.w 256, .t 24],
 o3 26 (.bin .add) [.t 18, .t 25],
 om 4 26]
def F32c12 : Ac := .ret
def F32c10 : Ac := (so F32o11 F32c12)
def F32c2 : Ac := (.seq (so F32o4 F32c5) F32c10)
def F32c0 : Ac := (so F32o1 F32c2)
/-- hansom/hansomlaw42.word2 -/
def F32 : Fn := { np := 2, pb := [], rs := [.t 4], body := F32c0 }
def F33o1 := [
 o3 6 .mv [.c (.nils)]]
def F33o3 := [
 o3 8 (.bslice (.int .u8 0) 0 []) [],
 om 9 0,
 o3 10 (.append 1 1 false) [.t 8, .t 9],
 om 7 10]
def F33o6 := [
 om 11 1,
 o3 12 (.bin .geq) [.t 11, .i 0],
 om 13 12,
 og 14 .mv [.t 1] 13 true,
 og 15 (.bin .add) [.t 14, .i 1] 13 true,
 og 16 .mv [.t 7] 13 true,
 og 17 .lenL [.t 16] 13 true,
 og 18 (.bin .lss) [.t 15, .t 17] 13 true,
 o3 19 .pick [.t 13, .t 18, .b false]]
def F33o8 := [
 om 20 7,
 om 21 1,
 om 22 7,
 om 23 1,
 o3 24 (.bin .add) [.t 23, .i 1],
 om 25 2,
 o3 26 (.toInt .u8) [.t 25],
 om 27 2,
 o3 28 (.bin .shr) [.t 27, .c (.d (.int .u64 8))],
 o3 29 (.toInt .u8) [.t 28],
 o3 30 (.iaddrS 1) [.t 20, .t 21],
 o0 (.store 1) [.t 30, .t 26],
 o3 31 (.iaddrS 1) [.t 22, .t 24],
 o0 (.store 1) [.t 31, .t 29]]
def F33b7 : Ac := (cd 19 (.ops F33o8) .skip)
def F33c7 : Ac := (.seq (.gh []) (.seq (.keep [1, 2, 7, 19] [[8]]) F33b7))
def F33o11 := [
 om 32 7,
 om 6 32]
def F33c12 : Ac := .ret
def F33c10 : Ac := (so F33o11 F33c12)
def F33c4 : Ac := (.seq (so F33o6 F33c7) F33c10)
def F33c2 : Ac := (so F33o3 F33c4)
def F33c0 : Ac := (so F33o1 F33c2)
/-- hansom/hansomlaw42.set -/
def F33 : Fn := { np := 3, pb := [], rs := [.t 6], body := F33c0 }
def F58o1 := [
 o3 2 .mv [.i 0]]
def F58o4 := [
 om 3 0]
def F58o8 := [
 o3 5 (.bin .eql) [.t 3, .i 0],
 om 4 5]
def F58o11 := [
 o3 6 (.bin .eql) [.t 3, .i 4],
 om 4 6]
def F58c9 : Ac := (cd 4 .skip (.ops F58o11))
def F58o14 := [
 o3 2 .mv [.i 1]]
def F58c15 : Ac := .ret
def F58o17 := [
 o3 8 (.bin .eql) [.t 3, .i 3],
 om 7 8]
def F58o20 := [
 o3 2 .mv [.i 4]]
def F58c21 : Ac := .ret
def F58c18 : Ac := (cd 7 (so F58o20 F58c21) .skip)
def F58c12 : Ac := (cd 4 (so F58o14 F58c15) (so F58o17 F58c18))
def F58c5 : Ac := (.block 0 (.seq (so F58o8 F58c9) F58c12))
def F58o24 := [
 o3 2 .mv [.i 2]]
def F58c25 : Ac := .ret
def F58c23 : Ac := (so F58o24 F58c25)
def F58c2 : Ac := (.seq (so F58o4 F58c5) F58c23)
def F58c0 : Ac := (so F58o1 F58c2)
/-- hansom/fixup.Size -/
def F58 : Fn := { np := 1, pb := [], rs := [.t 2], body := F58c0 }
def F59o1 := [
 om 7 0,
 om 8 1,
 o3 9 (.iaddrS 1) [.t 7, .t 8],
 o3 10 (.load none) [.t 9],
 o3 11 (.toInt .u16) [.t 10],
 om 12 0,
 om 13 1,
 o3 14 (.bin .add) [.t 13, .i 1],
 o3 15 (.iaddrS 1) [.t 12, .t 14],
 o3 16 (.load none) [.t 15],
 o3 17 (.toInt .u16) [.t 16],
 o3 18 (.bin .shl) [.t 17, .c (.d (.int .u64 8))],
 o3 19 (.bin .or) [.t 11, .t 18],
 om 6 19]
def F59o3 := [
 om 20 6,
 om 21 2,
 o3 22 (.bin .add) [.t 20, .t 21],
 om 6 22]
def F59o4 := [
 om 23 0,
 om 24 1,
 om 25 0,
 om 26 1,
 o3 27 (.bin .add) [.t 26, .i 1],
 om 28 6,
 o3 29 (.toInt .u8) [.t 28],
 om 30 6,
 o3 31 (.bin .shr) [.t 30, .c (.d (.int .u64 8))],
 o3 32 (.toInt .u8) [.t 31],
 o3 33 (.iaddrS 1) [.t 23, .t 24],
 o0 (.store 1) [.t 33, .t 29],
 o3 34 (.iaddrS 1) [.t 25, .t 27],
 o0 (.store 1) [.t 34, .t 32]]
def F59c4 : Ac := (.ops F59o4)
def F59c2 : Ac := (so F59o3 F59c4)
def F59c0 : Ac := (so F59o1 F59c2)
/-- hansom/apply.add -/
def F59 : Fn := { np := 3, pb := [[0]], rs := [], body := (.seq F59c0 (.gh [])) }
def hints : Nat → Nat → Hint
  | _, _ => []
def spf : Nat → Bool := fun n => [].contains n
noncomputable def tab1 : Nat → Option Fn
  | 7 => some F7
  | 27 => some F27
  | 30 => some F30
  | 31 => some F31
  | 32 => some F32
  | 33 => some F33
  | 58 => some F58
  | 59 => some F59
  | n => autoT Try.prog (fun _ => none) spf hints n
noncomputable def L : Cs := lim tab1 (fun _ _ => none)

theorem no_globals : GOk (fun _ _ => none) (fun _ => none) := fun n a h => by cases h
theorem ok7 : FnOk (fun _ _ => none) Try.prog 7 F7 := compF_spec no_globals Try.func7 (by kernel_rfl)
theorem ok27 : FnOk (fun _ _ => none) Try.prog 27 F27 := compF_spec no_globals Try.func27 (by kernel_rfl)
theorem ok30 : FnOk (fun _ _ => none) Try.prog 30 F30 := compF_spec no_globals Try.func30 (by kernel_rfl)
theorem ok31 : FnOk (fun _ _ => none) Try.prog 31 F31 := compF_spec no_globals Try.func31 (by kernel_rfl)
theorem ok32 : FnOk (fun _ _ => none) Try.prog 32 F32 := compF_spec no_globals Try.func32 (by kernel_rfl)
theorem ok33 : FnOk (fun _ _ => none) Try.prog 33 F33 := compF_spec no_globals Try.func33 (by kernel_rfl)
theorem ok58 : FnOk (fun _ _ => none) Try.prog 58 F58 := compF_spec no_globals Try.func58 (by kernel_rfl)
theorem ok59 : FnOk (fun _ _ => none) Try.prog 59 F59 := compF_spec no_globals Try.func59 (by kernel_rfl)
theorem tab1_ok : ∀ f fn, tab1 f = some fn → FnOk (fun _ _ => none) Try.prog f fn := by
  intro f fn h
  unfold tab1 at h
  split at h
  · cases h; exact ok7
  · cases h; exact ok27
  · cases h; exact ok30
  · cases h; exact ok31
  · cases h; exact ok32
  · cases h; exact ok33
  · cases h; exact ok58
  · cases h; exact ok59
  · exact autoT_spec no_globals h
theorem meets1 (f : Nat) : Meets (fun _ _ => none) Try.prog f (L f) := lim_meets tab1_ok (fun f _ m w args vs bs _ _ _ _ _ r a h => by cases h) f

end Go.Es.App
