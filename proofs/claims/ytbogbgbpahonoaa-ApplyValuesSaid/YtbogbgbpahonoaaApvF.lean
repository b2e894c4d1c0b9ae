/- The code of the functions that the statement ApplyValues reaches, as the interpreter reads it. No condition. -/
import Derived.Test.YtbogbgbpahonoaaEsD
import Derived.Test.YtbogbgbpahonoaaChecked
import Derived.KernelRfl
set_option linter.unusedVariables false
set_option linter.unusedSimpArgs false
set_option maxRecDepth 100000
set_option maxHeartbeats 4000000
namespace Go.Es.Apv
open Go.Proofs
def F6o1 := [
 o3 3 (.box 8) [.t 0],
 o3 4 (.box 4) [.t 1],
 o3 6 .mv [.b false]]
def F6o3 := [
 o3 18 (.load (some 8)) [.t 3],
 o3 19 (.build [.d (.int .i64 0), .d (.int .i64 0), .d (.int .i64 0)] [(0, 1), (1, 1), (2, 1)]) [.i 5, .i 5, .i 5],
 o3 20 (.callf 27) [.t 18, .i 100, .t 19],
 o3 7 (.alloc [.d (.int .i64 0), .d (.int .i64 0), .d (.bool false), .d (.int .i64 0), .d (.int .i64 0), .d (.int .i64 0), .d (.int .i64 0), .d (.int .u16 0)]) [],
 o0 (.store 8) [.t 7, .t 20]]
def F6o5 := [
 o3 21 (.iaddrA 4 1) [.t 4, .i 0],
 o3 22 (.load none) [.t 21],
 o3 23 (.bin .and) [.t 22, .i 1048575],
 o3 24 (.iaddrA 4 1) [.t 4, .i 0],
 o3 25 (.load none) [.t 24],
 o3 26 (.bin .and) [.t 25, .i 1048575],
 o3 27 (.bin .shr) [.t 26, .c (.d (.int .u64 4))],
 o3 28 (.iaddrA 4 1) [.t 4, .i 3],
 o3 29 (.load none) [.t 28],
 o3 30 (.bin .and) [.t 29, .i 1],
 o3 31 (.bin .gtr) [.t 30, .i 0],
 o3 32 (.build [.d (.int .i64 0), .d (.int .i64 0), .d (.bool false)] [(0, 1), (1, 1), (2, 1)]) [.t 23, .t 27, .t 31],
 o3 8 (.alloc [.d (.int .i64 0), .d (.int .i64 0), .d (.bool false)]) [],
 o0 (.store 3) [.t 8, .t 32]]
def F6o7 := [
 o3 33 (.faddr 1) [.t 8],
 o3 34 (.load none) [.t 33],
 o3 35 (.iaddrA 4 1) [.t 4, .i 1],
 o3 36 (.load none) [.t 35],
 o3 37 (.bin .and) [.t 36, .i 8191],
 o3 38 (.bin .sub) [.t 34, .t 37],
 o3 39 .mx [.t 38, .i 0],
 o3 40 (.build [.d (.int .i64 0), .d (.int .i64 0), .d (.bool false)] [(1, 1)]) [.t 39],
 o3 9 (.alloc [.d (.int .i64 0), .d (.int .i64 0), .d (.bool false)]) [],
 o0 (.store 3) [.t 9, .t 40]]
def F6o10 := [
 o3 41 (.iaddrA 4 1) [.t 4, .i 3],
 o3 42 (.load none) [.t 41],
 o3 43 (.bin .and) [.t 42, .i 2],
 o3 44 (.bin .gtr) [.t 43, .i 0]]
def F6o12 := [
 o3 45 (.iaddrA 4 1) [.t 4, .i 1],
 o3 46 (.load none) [.t 45],
 o3 47 (.bin .and) [.t 46, .i 65535],
 o3 48 (.faddr 1) [.t 9],
 o0 (.store 1) [.t 48, .t 47]]
def F6c11 : Ac := (cd 44 (.ops F6o12) .skip)
def F6o15 := [
 o3 49 (.iaddrA 4 1) [.t 4, .i 2],
 o3 50 (.load none) [.t 49],
 o3 51 (.bin .and) [.t 50, .i 1048575],
 om 10 51]
def F6o18 := [
 o3 52 (.iaddrA 4 1) [.t 4, .i 3],
 o3 53 (.load none) [.t 52],
 o3 54 (.bin .and) [.t 53, .i 4],
 o3 55 (.bin .gtr) [.t 54, .i 0]]
def F6o20 := [
 o3 56 (.faddr 0) [.t 8],
 o3 57 (.load none) [.t 56],
 o3 58 (.iaddrA 4 1) [.t 4, .i 2],
 o3 59 (.load none) [.t 58],
 o3 60 (.bin .and) [.t 59, .i 511],
 o3 61 (.bin .sub) [.t 57, .t 60],
 o3 62 (.bin .add) [.t 61, .i 256],
 o3 63 .mx [.t 62, .i 0],
 om 10 63]
def F6c19 : Ac := (cd 55 (.ops F6o20) .skip)
def F6o23 := [
 o3 65 (.load (some 8)) [.t 7],
 o3 66 (.load (some 3)) [.t 8],
 o3 67 (.load (some 3)) [.t 9],
 om 68 10,
 om 69 2,
 o3 70 (.callf 28) [.t 65, .t 66, .t 67, .t 68, .t 69],
 om 64 70,
 oe 71 0 64,
 oe 72 1 64,
 oe 73 2 64,
 om 11 71,
 om 12 72,
 om 13 73]
def F6o25 := [
 o3 74 (.faddr 0) [.t 8],
 o3 75 (.load none) [.t 74],
 o3 76 (.faddr 1) [.t 9],
 o3 77 (.load none) [.t 76],
 o3 78 (.bin .mul) [.i 16, .t 77],
 o3 79 (.bin .sub) [.t 75, .t 78],
 om 14 79]
def F6o28 := [
 om 80 14,
 o3 81 (.bin .lss) [.t 80, .i 0],
 om 82 81,
 og 83 .mv [.t 14] 82 false,
 og 84 (.bin .gtr) [.t 83, .i 65535] 82 false,
 o3 85 .pick [.t 82, .b true, .t 84]]
def F6o31 := [
 o3 86 (.callf 29) [],
 om 87 86,
 og 88 .mv [.t 13] 87 true,
 og 89 (.bin .eql) [.t 88, .i 9] 87 true,
 o3 90 .pick [.t 87, .t 89, .b false],
 om 91 90,
 og 92 .mv [.t 11] 91 true,
 og 93 (.bin .eql) [.t 92, .w 0] 91 true,
 o3 94 .pick [.t 91, .t 93, .b false],
 om 95 94,
 og 96 .mv [.t 12] 95 true,
 og 97 (.bin .eql) [.t 96, .w 0] 95 true,
 o3 98 .pick [.t 95, .t 97, .b false],
 om 6 98]
def F6c32 : Ac := .ret
def F6b29 : Ac := (cd 85 (so F6o31 F6c32) .skip)
def F6c29 : Ac := (.seq (.gh []) (.seq (.keep [2, 7, 8, 9, 10, 11, 12, 13, 14, 85] [[7], [8], [9]]) F6b29))
def F6o36 := [
 o3 99 (.faddr 2) [.t 7],
 o3 100 (.load none) [.t 99],
 o3 101 (.un .not) [.t 100]]
def F6o39 := [
 o3 102 (.callf 29) [],
 om 103 102,
 og 104 .mv [.t 13] 103 true,
 og 105 (.bin .eql) [.t 104, .i 0] 103 true,
 o3 106 .pick [.t 103, .t 105, .b false],
 om 107 106,
 og 108 .mv [.t 11] 107 true,
 og 109 (.toInt .i64) [.t 108] 107 true,
 og 110 .mv [.t 14] 107 true,
 og 111 (.bin .eql) [.t 109, .t 110] 107 true,
 o3 112 .pick [.t 107, .t 111, .b false],
 om 113 112,
 og 114 .mv [.t 12] 113 true,
 og 115 (.toInt .i64) [.t 114] 113 true,
 og 116 (.faddr 1) [.t 9] 113 true,
 og 117 (.load none) [.t 116] 113 true,
 og 118 (.bin .rem) [.t 117, .i 65536] 113 true,
 og 119 (.bin .eql) [.t 115, .t 118] 113 true,
 o3 120 .pick [.t 113, .t 119, .b false],
 om 6 120]
def F6c40 : Ac := .ret
def F6c37 : Ac := (cd 101 (so F6o39 F6c40) .skip)
def F6o43 := [
 om 121 10,
 o3 122 (.faddr 1) [.t 7],
 o3 123 (.load none) [.t 122],
 o3 124 (.callf 30) [.t 123],
 o3 125 (.bin .add) [.t 121, .t 124],
 om 15 125]
def F6o45 := [
 o3 126 (.faddr 0) [.t 8],
 o3 127 (.load none) [.t 126],
 om 128 15,
 o3 129 (.bin .sub) [.t 127, .t 128],
 om 16 129]
def F6o47 := [
 om 130 2,
 o3 131 (.faddr 2) [.t 8],
 o3 132 (.load none) [.t 131],
 o3 133 (.eqb true) [.t 130, .t 132],
 om 134 133,
 og 135 .mv [.t 15] 134 false,
 og 136 (.faddr 1) [.t 9] 134 false,
 og 137 (.load none) [.t 136] 134 false,
 og 138 (.bin .mul) [.i 16, .t 137] 134 false,
 og 139 (.bin .lss) [.t 135, .t 138] 134 false,
 o3 140 .pick [.t 134, .b true, .t 139],
 om 141 140,
 og 142 .mv [.t 15] 141 false,
 og 143 (.faddr 1) [.t 9] 141 false,
 og 144 (.load none) [.t 143] 141 false,
 og 145 (.bin .mul) [.i 16, .t 144] 141 false,
 og 146 (.bin .sub) [.t 142, .t 145] 141 false,
 og 147 (.bin .gtr) [.t 146, .i 65536] 141 false,
 o3 148 .pick [.t 141, .b true, .t 147],
 om 149 148,
 og 150 (.faddr 1) [.t 7] 149 false,
 og 151 (.load none) [.t 150] 149 false,
 og 152 (.bin .eql) [.t 151, .i 0] 149 false,
 og 153 .mv [.t 152] 149 false,
 og 154 .mv [.t 16] 153 true,
 og 155 (.bin .lss) [.t 154, .i (-128)] 153 true,
 og 156 .mv [.t 155] 153 true,
 og 157 .mv [.t 16] 156 false,
 og 158 (.bin .gtr) [.t 157, .i 127] 156 false,
 og 159 .pick [.t 156, .b true, .t 158] 153 true,
 og 160 .pick [.t 153, .t 159, .b false] 149 false,
 o3 161 .pick [.t 149, .b true, .t 160],
 om 17 161]
def F6o50 := [
 om 162 17]
def F6o53 := [
 o3 163 (.callf 29) [],
 om 164 163,
 og 165 .mv [.t 13] 164 true,
 og 166 (.bin .eql) [.t 165, .i 9] 164 true,
 o3 167 .pick [.t 164, .t 166, .b false],
 om 6 167]
def F6c54 : Ac := .ret
def F6c51 : Ac := (cd 162 (so F6o53 F6c54) .skip)
def F6o57 := [
 o3 168 (.callf 29) [],
 om 169 168,
 og 170 .mv [.t 13] 169 true,
 og 171 (.bin .eql) [.t 170, .i 0] 169 true,
 o3 172 .pick [.t 169, .t 171, .b false],
 om 173 172,
 og 174 .mv [.t 11] 173 true,
 og 175 .mv [.t 16] 173 true,
 og 176 (.toInt .u16) [.t 175] 173 true,
 og 177 (.bin .eql) [.t 174, .t 176] 173 true,
 o3 178 .pick [.t 173, .t 177, .b false],
 om 179 178,
 og 180 .mv [.t 12] 179 true,
 og 181 (.bin .eql) [.t 180, .w 0] 179 true,
 o3 182 .pick [.t 179, .t 181, .b false],
 om 6 182]
def F6c58 : Ac := .ret
def F6c56 : Ac := (so F6o57 F6c58)
def F6b48 : Ac := (.seq (so F6o50 F6c51) F6c56)
def F6c48 : Ac := (.seq (.gh []) (.seq (.keep [11, 12, 13, 16, 17] []) F6b48))
def F6c46 : Ac := (so F6o47 F6c48)
def F6c44 : Ac := (so F6o45 F6c46)
def F6c42 : Ac := (so F6o43 F6c44)
def F6c34 : Ac := (.seq (so F6o36 F6c37) F6c42)
def F6c26 : Ac := (.seq (so F6o28 F6c29) F6c34)
def F6c24 : Ac := (so F6o25 F6c26)
def F6b22 : Ac := (so F6o23 F6c24)
def F6c22 : Ac := (.seq (.gh []) (.seq (.keep [2, 7, 8, 9, 10] [[7], [8], [9]]) F6b22))
def F6c16 : Ac := (.seq (so F6o18 F6c19) F6c22)
def F6b14 : Ac := (so F6o15 F6c16)
def F6c14 : Ac := (.seq (.gh []) (.seq (.keep [2, 4, 7, 8, 9] [[4], [7], [8], [9]]) F6b14))
def F6c8 : Ac := (.seq (so F6o10 F6c11) F6c14)
def F6c6 : Ac := (so F6o7 F6c8)
def F6c4 : Ac := (so F6o5 F6c6)
def F6c2 : Ac := (so F6o3 F6c4)
def F6c0 : Ac := (so F6o1 F6c2)
/-- hansom/hansomlaw42.ApplyValues -/
def F6 : Fn := { np := 3, pb := [], rs := [.t 6], body := F6c0 }
def F27o1 := [
 o3 3 (.box 8) [.t 0],
 o3 5 (.box 3) [.t 2],
 o3 6 (.alloc [.d (.int .i64 0), .d (.int .i64 0), .d (.bool false), .d (.int .i64 0), .d (.int .i64 0), .d (.int .i64 0), .d (.int .i64 0), .d (.int .u16 0)]) []]
def F27o3 := [
 o3 7 (.faddr 1) [.t 3],
 o3 8 (.load none) [.t 7],
 o3 9 (.bin .and) [.t 8, .i 255],
 o3 10 (.bin .rem) [.t 9, .i 5],
 o3 11 (.faddr 1) [.t 6],
 o0 (.store 1) [.t 11, .t 10]]
def F27o5 := [
 o3 12 (.faddr 2) [.t 3],
 o3 13 (.load none) [.t 12],
 om 14 13,
 og 15 (.faddr 1) [.t 6] 14 true,
 og 16 (.load none) [.t 15] 14 true,
 og 17 (.bin .lss) [.t 16, .i 2] 14 true,
 o3 18 .pick [.t 14, .t 17, .b false],
 o3 19 (.faddr 2) [.t 6],
 o0 (.store 1) [.t 19, .t 18]]
def F27o7 := [
 o3 20 (.faddr 0) [.t 3],
  { dst := some 21, k := (.load none), xs := [.t 20], av := [[26]] },
 o3 22 (.bin .and) [.t 21, .i 65535],
 om 23 1,
 o3 24 (.faddr 1) [.t 6],
 o3 25 (.load none) [.t 24],
  { dst := some 26, k := (.callf 30), xs := [.t 25], al := some [] },
 o3 27 (.bin .sub) [.t 23, .t 26],
 o3 28 (.bin .add) [.t 27, .i 1],
 o3 29 .mn [.t 28, .i 1024],
 o3 30 (.bin .rem) [.t 22, .t 29],
 o3 31 (.faddr 0) [.t 6],
 o0 (.store 1) [.t 31, .t 30]]
def F27o9 := [
 o3 32 (.faddr 5) [.t 3],
 o3 33 (.load none) [.t 32],
 o3 34 (.bin .and) [.t 33, .i 255],
 o3 35 (.bin .rem) [.t 34, .i 3],
 o3 36 (.faddr 3) [.t 3],
  { dst := some 37, k := (.load none), xs := [.t 36], av := [[6]] },
 o3 38 (.bin .and) [.t 37, .i 255],
 o3 39 (.bin .rem) [.t 38, .i 5],
 o3 40 (.faddr 5) [.t 6],
  { dst := none, k := (.store 1), xs := [.t 40, .t 35], al := some [[6]] },
 o3 41 (.faddr 3) [.t 6],
 o0 (.store 1) [.t 41, .t 39]]
def F27o15 := [
 o3 42 (.faddr 5) [.t 6],
 o3 43 (.load none) [.t 42],
 o3 44 (.iaddrA 3 1) [.t 5, .t 43],
 o3 45 (.load none) [.t 44],
 o3 46 (.bin .eql) [.t 45, .i 0]]
def F27c16 : Ac := (cd 46 .skip (.exit 0))
def F27o20 := [
 o3 47 (.faddr 5) [.t 6],
 o3 48 (.load none) [.t 47],
 o3 49 (.bin .add) [.t 48, .i 1],
 o3 50 (.bin .rem) [.t 49, .i 3],
 o3 51 (.faddr 5) [.t 6],
 o0 (.store 1) [.t 51, .t 50]]
def F27c19 : Ac := (.block 1 (.ops F27o20))
def F27l12 : Ac := (.seq (so F27o15 F27c16) F27c19)
def F27o23 := [
 o3 52 (.faddr 3) [.t 6],
 o3 53 (.load none) [.t 52],
 o3 54 (.bin .eql) [.t 53, .i 3]]
def F27o25 := [
 o3 55 (.faddr 3) [.t 6],
 o0 (.store 1) [.t 55, .i 5]]
def F27c24 : Ac := (cd 54 (.ops F27o25) .skip)
def F27o29 := [
 o3 56 (.faddr 3) [.t 6],
 o3 57 (.load none) [.t 56],
 o3 58 (.bin .lss) [.t 57, .i 3],
 om 59 58,
 og 60 (.faddr 3) [.t 6] 59 true,
 og 61 (.load none) [.t 60] 59 true,
 og 62 (.iaddrA 3 1) [.t 5, .t 61] 59 true,
 og 63 (.load none) [.t 62] 59 true,
 og 64 (.bin .eql) [.t 63, .i 0] 59 true,
 o3 65 .pick [.t 59, .t 64, .b false]]
def F27o31 := [
 o3 66 (.faddr 3) [.t 6],
 o0 (.store 1) [.t 66, .i 5]]
def F27c30 : Ac := (cd 65 (.ops F27o31) .skip)
def F27o34 := [
 o3 67 (.faddr 6) [.t 3],
 o3 68 (.load none) [.t 67],
 o3 69 (.bin .and) [.t 68, .i 255],
 o3 70 (.faddr 5) [.t 6],
 o3 71 (.load none) [.t 70],
 o3 72 (.iaddrA 3 1) [.t 5, .t 71],
 o3 73 (.load none) [.t 72],
 o3 74 (.bin .rem) [.t 69, .t 73],
 o3 75 (.bin .add) [.t 74, .i 1],
 o3 76 (.faddr 6) [.t 6],
 o0 (.store 1) [.t 76, .t 75]]
def F27o37 := [
 o3 77 (.faddr 3) [.t 6],
 o3 78 (.load none) [.t 77],
 o3 79 (.bin .lss) [.t 78, .i 3]]
def F27o39 := [
 o3 80 (.faddr 4) [.t 3],
 o3 81 (.load none) [.t 80],
 o3 82 (.bin .and) [.t 81, .i 255],
 o3 83 (.faddr 3) [.t 6],
 o3 84 (.load none) [.t 83],
 o3 85 (.iaddrA 3 1) [.t 5, .t 84],
 o3 86 (.load none) [.t 85],
 o3 87 (.bin .rem) [.t 82, .t 86],
 o3 88 (.bin .add) [.t 87, .i 1],
 o3 89 (.faddr 4) [.t 6],
 o0 (.store 1) [.t 89, .t 88]]
def F27c38 : Ac := (cd 79 (.ops F27o39) .skip)
def F27o42 := [
 o3 90 (.faddr 7) [.t 3],
 o3 91 (.load none) [.t 90],
 o3 92 (.faddr 7) [.t 6],
 o0 (.store 1) [.t 92, .t 91]]
def F27o44 := [
 o3 93 (.load (some 8)) [.t 6],
 o0 (.store 8) [.t 6, .t 93]]
def F27c45 : Ac := .ret
def F27c43 : Ac := (so F27o44 F27c45)
def F27c41 : Ac := (so F27o42 F27c43)
def F27c35 : Ac := (.seq (so F27o37 F27c38) F27c41)
def F27b33 : Ac := (so F27o34 F27c35)
def F27c33 : Ac := (.seq (.gh []) (.seq (.keep [3, 5, 6] [[3], [5], [6]]) F27b33))
def F27b27 : Ac := (.seq (so F27o29 F27c30) F27c33)
def F27c27 : Ac := (.seq (.gh []) (.seq (.keep [3, 5, 6] [[3], [5], [6]]) F27b27))
def F27b21 : Ac := (.seq (so F27o23 F27c24) F27c27)
def F27c21 : Ac := (.seq (.gh []) (.seq (.keep [3, 5, 6] [[3], [5], [6]]) F27b21))
def F27c10 : Ac := (.seq (.block 0 (.loop (.seq (.gh []) (.seq (.keep [3, 5, 6] [[3], [5], [6]]) F27l12)))) F27c21)
def F27c8 : Ac := (so F27o9 F27c10)
def F27b6 : Ac := (so F27o7 F27c8)
def F27c6 : Ac := (.seq (.gh []) (.seq (.keep [1, 3, 5, 6] [[3], [5], [6]]) F27b6))
def F27c4 : Ac := (so F27o5 F27c6)
def F27c2 : Ac := (so F27o3 F27c4)
def F27c0 : Ac := (so F27o1 F27c2)
/-- hansom/hansomref25.Near -/
def F27 : Fn := { np := 3, pb := [], rs := [.c 6 (some 8)], body := F27c0 }
def F28o1 := [
 o3 5 (.box 8) [.t 0],
 o3 6 (.box 3) [.t 1],
 o3 7 (.box 3) [.t 2],
 o3 10 .mv [.w 0],
 o3 11 .mv [.w 0],
 o3 12 .mv [.i 0]]
def F28o3 := [
 o3 17 (.faddr 0) [.t 6],
 o3 18 (.load none) [.t 17],
 o3 19 (.faddr 1) [.t 7],
 o3 20 (.load none) [.t 19],
 o3 21 (.bin .shl) [.t 20, .c (.d (.int .u64 4))],
 o3 22 (.bin .sub) [.t 18, .t 21],
 om 13 22]
def F28o6 := [
 om 23 13,
 o3 24 (.bin .lss) [.t 23, .i 0],
 om 25 24,
 og 26 .mv [.t 13] 25 false,
 og 27 (.bin .geq) [.t 26, .i 65536] 25 false,
 o3 28 .pick [.t 25, .b true, .t 27]]
def F28o9 := [
 o3 10 .mv [.w 0],
 o3 11 .mv [.w 0],
 o3 12 .mv [.i 9]]
def F28c10 : Ac := .ret
def F28c7 : Ac := (cd 28 (so F28o9 F28c10) .skip)
def F28o14 := [
 o3 29 (.faddr 2) [.t 5],
 o3 30 (.load none) [.t 29],
 o3 31 (.un .not) [.t 30]]
def F28o17 := [
 om 32 13,
 o3 33 (.toInt .u16) [.t 32],
 o3 34 (.faddr 1) [.t 7],
 o3 35 (.load none) [.t 34],
 o3 36 (.toInt .u16) [.t 35],
 om 10 33,
 om 11 36,
 o3 12 .mv [.i 0]]
def F28c18 : Ac := .ret
def F28c15 : Ac := (cd 31 (so F28o17 F28c18) .skip)
def F28o21 := [
 om 37 3,
 o3 38 (.faddr 1) [.t 5],
 o3 39 (.load none) [.t 38],
 o3 40 (.callf 58) [.t 39],
 o3 41 (.bin .add) [.t 37, .t 40],
 om 14 41]
def F28o23 := [
 om 42 14,
 o3 43 (.faddr 1) [.t 7],
 o3 44 (.load none) [.t 43],
 o3 45 (.bin .shl) [.t 44, .c (.d (.int .u64 4))],
 o3 46 (.bin .sub) [.t 42, .t 45],
 om 15 46]
def F28o26 := [
 om 47 4,
 o3 48 (.faddr 2) [.t 6],
 o3 49 (.load none) [.t 48],
 o3 50 (.eqb true) [.t 47, .t 49],
 om 51 50,
 og 52 .mv [.t 15] 51 false,
 og 53 (.bin .lss) [.t 52, .i 0] 51 false,
 o3 54 .pick [.t 51, .b true, .t 53],
 om 55 54,
 og 56 .mv [.t 15] 55 false,
 og 57 (.bin .gtr) [.t 56, .i 65536] 55 false,
 o3 58 .pick [.t 55, .b true, .t 57]]
def F28o29 := [
 o3 10 .mv [.w 0],
 o3 11 .mv [.w 0],
 o3 12 .mv [.i 9]]
def F28c30 : Ac := .ret
def F28c27 : Ac := (cd 58 (so F28o29 F28c30) .skip)
def F28o33 := [
 o3 59 (.faddr 0) [.t 6],
 o3 60 (.load none) [.t 59],
 om 61 14,
 o3 62 (.bin .sub) [.t 60, .t 61],
 om 16 62]
def F28o36 := [
 o3 63 (.faddr 1) [.t 5],
 o3 64 (.load none) [.t 63],
 o3 65 (.bin .eql) [.t 64, .i 0],
 om 66 65,
 og 67 .mv [.t 16] 66 true,
 og 68 (.bin .lss) [.t 67, .i (-128)] 66 true,
 og 69 .mv [.t 68] 66 true,
 og 70 .mv [.t 16] 69 false,
 og 71 (.bin .gtr) [.t 70, .i 127] 69 false,
 og 72 .pick [.t 69, .b true, .t 71] 66 true,
 o3 73 .pick [.t 66, .t 72, .b false]]
def F28o39 := [
 o3 10 .mv [.w 0],
 o3 11 .mv [.w 0],
 o3 12 .mv [.i 9]]
def F28c40 : Ac := .ret
def F28c37 : Ac := (cd 73 (so F28o39 F28c40) .skip)
def F28o43 := [
 om 74 16,
 o3 75 (.toInt .u16) [.t 74],
 om 10 75,
 o3 11 .mv [.w 0],
 o3 12 .mv [.i 0]]
def F28c44 : Ac := .ret
def F28c42 : Ac := (so F28o43 F28c44)
def F28c34 : Ac := (.seq (so F28o36 F28c37) F28c42)
def F28c32 : Ac := (so F28o33 F28c34)
def F28c24 : Ac := (.seq (so F28o26 F28c27) F28c32)
def F28c22 : Ac := (so F28o23 F28c24)
def F28c20 : Ac := (so F28o21 F28c22)
def F28c12 : Ac := (.seq (so F28o14 F28c15) F28c20)
def F28c4 : Ac := (.seq (so F28o6 F28c7) F28c12)
def F28c2 : Ac := (so F28o3 F28c4)
def F28c0 : Ac := (so F28o1 F28c2)
/-- hansom/apply.Value -/
def F28 : Fn := { np := 5, pb := [], rs := [.t 10, .t 11, .t 12], body := F28c0 }
def F30o1 := [
 o3 2 .mv [.i 0]]
def F30o4 := [
 om 3 0,
 o3 4 (.bin .eql) [.t 3, .i 0],
 om 5 4,
 og 6 .mv [.t 0] 5 false,
 og 7 (.bin .eql) [.t 6, .i 4] 5 false,
 o3 8 .pick [.t 5, .b true, .t 7]]
def F30o7 := [
 o3 2 .mv [.i 1]]
def F30c8 : Ac := .ret
def F30c5 : Ac := (cd 8 (so F30o7 F30c8) .skip)
def F30o12 := [
 om 9 0,
 o3 10 (.bin .eql) [.t 9, .i 3]]
def F30o15 := [
 o3 2 .mv [.i 4]]
def F30c16 : Ac := .ret
def F30c13 : Ac := (cd 10 (so F30o15 F30c16) .skip)
def F30o19 := [
 o3 2 .mv [.i 2]]
def F30c20 : Ac := .ret
def F30c18 : Ac := (so F30o19 F30c20)
def F30c10 : Ac := (.seq (so F30o12 F30c13) F30c18)
def F30c2 : Ac := (.seq (so F30o4 F30c5) F30c10)
def F30c0 : Ac := (so F30o1 F30c2)
/-- hansom/hansomref25.Size -/
def F30 : Fn := { np := 1, pb := [], rs := [.t 2], body := F30c0 }
def F58o1 := [
 o3 2 .mv [.i 0]]
def F58o4 := [
 om 3 0]
def F58o8 := [
 o3 5 (.bin .eql) [.t 3, .i 0],
 om 4 5]
def F58o11 := [
 o3 6 (.bin .eql) [.t 3, .i 4],
 om 4 6]
def F58c9 : Ac := (cd 4 .skip (.ops F58o11))
def F58o14 := [
 o3 2 .mv [.i 1]]
def F58c15 : Ac := .ret
def F58o17 := [
 o3 8 (.bin .eql) [.t 3, .i 3],
 om 7 8]
def F58o20 := [
 o3 2 .mv [.i 4]]
def F58c21 : Ac := .ret
def F58c18 : Ac := (cd 7 (so F58o20 F58c21) .skip)
def F58c12 : Ac := (cd 4 (so F58o14 F58c15) (so F58o17 F58c18))
def F58c5 : Ac := (.block 0 (.seq (so F58o8 F58c9) F58c12))
def F58o24 := [
 o3 2 .mv [.i 2]]
def F58c25 : Ac := .ret
def F58c23 : Ac := (so F58o24 F58c25)
def F58c2 : Ac := (.seq (so F58o4 F58c5) F58c23)
def F58c0 : Ac := (so F58o1 F58c2)
/-- hansom/fixup.Size -/
def F58 : Fn := { np := 1, pb := [], rs := [.t 2], body := F58c0 }
def hints : Nat → Nat → Hint
  | _, _ => []
def spf : Nat → Bool := fun n => [].contains n
noncomputable def tab1 : Nat → Option Fn
  | 6 => some F6
  | 27 => some F27
  | 28 => some F28
  | 30 => some F30
  | 58 => some F58
  | n => autoT Try.prog (fun _ => none) spf hints n
noncomputable def L : Cs := lim tab1 (fun _ _ => none)

theorem no_globals : GOk (fun _ _ => none) (fun _ => none) := fun n a h => by cases h
theorem ok6 : FnOk (fun _ _ => none) Try.prog 6 F6 := compF_spec no_globals Try.func6 (by kernel_rfl)
theorem ok27 : FnOk (fun _ _ => none) Try.prog 27 F27 := compF_spec no_globals Try.func27 (by kernel_rfl)
theorem ok28 : FnOk (fun _ _ => none) Try.prog 28 F28 := compF_spec no_globals Try.func28 (by kernel_rfl)
theorem ok30 : FnOk (fun _ _ => none) Try.prog 30 F30 := compF_spec no_globals Try.func30 (by kernel_rfl)
theorem ok58 : FnOk (fun _ _ => none) Try.prog 58 F58 := compF_spec no_globals Try.func58 (by kernel_rfl)
theorem tab1_ok : ∀ f fn, tab1 f = some fn → FnOk (fun _ _ => none) Try.prog f fn := by
  intro f fn h
  unfold tab1 at h
  split at h
  · cases h; exact ok6
  · cases h; exact ok27
  · cases h; exact ok28
  · cases h; exact ok30
  · cases h; exact ok58
  · exact autoT_spec no_globals h
theorem meets1 (f : Nat) : Meets (fun _ _ => none) Try.prog f (L f) := lim_meets tab1_ok (fun f _ m w args vs bs _ _ _ _ _ r a h => by cases h) f

end Go.Es.Apv
