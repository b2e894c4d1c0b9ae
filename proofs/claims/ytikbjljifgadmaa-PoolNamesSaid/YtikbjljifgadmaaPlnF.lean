/- The code of the functions that the statement PoolNames reaches, as the interpreter reads it. No condition. -/
import Derived.Test.YtikbjljifgadmaaEsD
import Derived.Test.YtikbjljifgadmaaChecked
import Derived.KernelRfl
set_option linter.unusedVariables false
set_option linter.unusedSimpArgs false
set_option maxRecDepth 100000
set_option maxHeartbeats 4000000
namespace Go.Es.Pln
open Go.Proofs
def F10o1 := [
 o3 4 .mv [.b false]]
def F10o3 := [
 om 24 0,
 o3 25 (.callf 36) [.t 24],
 om 5 25]
def F10o5 := [
 o3 26 (.build [.d (.int .i64 0), .d (.int .i64 0), .d (.int .i64 0), .d (.int .i64 0), .d (.int .i64 0), .d (.int .i64 0), .d (.int .i64 0), .d (.int .i64 0)] [(0, 1), (1, 1), (2, 1), (3, 1), (4, 1), (5, 1), (6, 1), (7, 1)]) [.i (-1), .i (-1), .i (-1), .i (-1), .i (-1), .i (-1), .i (-1), .i (-1)],
 o3 27 (.build [.d (.int .i64 0), .d (.int .i64 0), .d (.int .i64 0), .d (.int .i64 0), .d (.int .i64 0), .d (.int .i64 0), .d (.int .i64 0), .d (.int .i64 0)] [(0, 1), (1, 1), (2, 1), (3, 1), (4, 1), (5, 1), (6, 1), (7, 1)]) [.i (-1), .i (-1), .i (-1), .i (-1), .i (-1), .i (-1), .i (-1), .i (-1)],
 o3 6 (.alloc [.d (.int .i64 0), .d (.int .i64 0), .d (.int .i64 0), .d (.int .i64 0), .d (.int .i64 0), .d (.int .i64 0), .d (.int .i64 0), .d (.int .i64 0)]) [],
 o3 7 (.alloc [.d (.int .i64 0), .d (.int .i64 0), .d (.int .i64 0), .d (.int .i64 0), .d (.int .i64 0), .d (.int .i64 0), .d (.int .i64 0), .d (.int .i64 0)]) [],
 o0 (.store 8) [.t 6, .t 26],
 o0 (.store 8) [.t 7, .t 27],
 o3 8 .mv [.b false]]
def F10o8 := [
 o3 9 .mv [.i 0]]
def F10o13 := [
 om 28 9,
 om 29 5,
 o3 30 .lenL [.t 29],
 o3 31 (.bin .lss) [.t 28, .t 30]]
def F10c14 : Ac := (cd 31 .skip (.exit 0))
def F10o20 := [
 om 34 0,
 om 35 9,
 o3 36 (.iaddrS 4) [.t 34, .t 35],
 o3 37 (.iaddrA 4 1) [.t 36, .i 1],
 o3 38 (.load none) [.t 37],
 o3 39 (.bin .and) [.t 38, .i 8],
 o3 40 (.bin .gtr) [.t 39, .i 0]]
def F10o23 := [
 om 41 0,
 om 42 9,
 o3 43 (.iaddrS 4) [.t 41, .t 42],
 o3 44 (.iaddrA 4 1) [.t 43, .i 1],
 o3 45 (.load none) [.t 44],
 o3 46 (.bin .and) [.t 45, .i 7],
 om 10 46]
def F10o25 := [
 om 47 8,
 om 48 47,
 og 49 .mv [.t 10] 48 false,
 og 50 (.iaddrA 8 1) [.t 6, .t 49] 48 false,
 og 51 (.load none) [.t 50] 48 false,
 og 52 (.bin .geq) [.t 51, .i 0] 48 false,
 o3 53 .pick [.t 48, .b true, .t 52],
 om 8 53]
def F10o27 := [
 om 54 10,
 o3 55 (.iaddrA 8 1) [.t 6, .t 54],
 o3 56 (.load none) [.t 55],
 o3 57 (.bin .lss) [.t 56, .i 0]]
def F10o29 := [
 om 58 10,
 om 59 9,
 o3 60 (.iaddrA 8 1) [.t 6, .t 58],
 o0 (.store 1) [.t 60, .t 59]]
def F10c28 : Ac := (cd 57 (.ops F10o29) .skip)
def F10c26 : Ac := (so F10o27 F10c28)
def F10c24 : Ac := (so F10o25 F10c26)
def F10c21 : Ac := (cd 40 (so F10o23 F10c24) .skip)
def F10o32 := [
 om 32 9,
 o3 33 (.bin .add) [.t 32, .i 1],
 om 9 33]
def F10c32 : Ac := (.ops F10o32)
def F10c17 : Ac := (.seq (.block 1 (so F10o20 F10c21)) F10c32)
def F10l10 : Ac := (.seq (so F10o13 F10c14) F10c17)
def F10c9 : Ac := (.block 0 (.loop (.seq (.gh []) (.seq (.keep [0, 1, 5, 6, 7, 8, 9] [[6], [7]]) F10l10))))
def F10o34 := [
 o3 61 (.bslice (.int .i64 0) 0 []) [],
 om 11 61]
def F10o37 := [
 o3 12 .mv [.i 0]]
def F10o42 := [
 om 62 12,
 om 63 5,
 o3 64 .lenL [.t 63],
 o3 65 (.bin .lss) [.t 62, .t 64]]
def F10c43 : Ac := (cd 65 .skip (.exit 2))
def F10o49 := [
 om 68 0,
 om 69 12,
 o3 70 (.iaddrS 4) [.t 68, .t 69],
 o3 71 (.iaddrA 4 1) [.t 70, .i 2],
 o3 72 (.load none) [.t 71],
 o3 73 (.bin .and) [.t 72, .i 7],
 om 13 73]
def F10o51 := [
 om 74 0,
 om 75 12,
 o3 76 (.iaddrS 4) [.t 74, .t 75],
 o3 77 (.iaddrA 4 1) [.t 76, .i 2],
 o3 78 (.load none) [.t 77],
 o3 79 (.bin .and) [.t 78, .i 8],
 o3 80 (.bin .gtr) [.t 79, .i 0],
 om 81 80,
 og 82 .mv [.t 13] 81 true,
 og 83 (.iaddrA 8 1) [.t 6, .t 82] 81 true,
 og 84 (.load none) [.t 83] 81 true,
 og 85 (.bin .lss) [.t 84, .i 0] 81 true,
 o3 86 .pick [.t 81, .t 85, .b false]]
def F10o55 := [
 om 87 13,
 o3 88 (.iaddrA 8 1) [.t 7, .t 87],
 o3 89 (.load none) [.t 88],
 o3 90 (.bin .lss) [.t 89, .i 0]]
def F10o57 := [
 om 91 11,
 om 92 13,
 o3 93 (.bslice (.int .i64 0) 1 [0]) [.t 92],
 o3 94 (.append 1 8 false) [.t 91, .t 93],
 om 11 94]
def F10c56 : Ac := (cd 90 (.ops F10o57) .skip)
def F10o59 := [
 om 95 13,
 om 96 13,
 o3 97 (.iaddrA 8 1) [.t 7, .t 96],
 o3 98 (.load none) [.t 97],
 om 99 0,
 om 100 12,
 o3 101 (.iaddrS 4) [.t 99, .t 100],
 o3 102 (.iaddrA 4 1) [.t 101, .i 3],
 o3 103 (.load none) [.t 102],
 o3 104 (.bin .and) [.t 103, .i 63],
 o3 105 .mx [.t 98, .t 104],
 o3 106 (.iaddrA 8 1) [.t 7, .t 95],
 o0 (.store 1) [.t 106, .t 105]]
def F10c59 : Ac := (.ops F10o59)
def F10b52 : Ac := (cd 86 (.seq (so F10o55 F10c56) F10c59) .skip)
def F10c52 : Ac := (.seq (.gh []) (.seq (.keep [0, 1, 5, 6, 7, 8, 11, 12, 13, 86] [[6], [7], [61]]) F10b52))
def F10c50 : Ac := (so F10o51 F10c52)
def F10o61 := [
 om 66 12,
 o3 67 (.bin .add) [.t 66, .i 1],
 om 12 67]
def F10c61 : Ac := (.ops F10o61)
def F10c46 : Ac := (.seq (.block 3 (so F10o49 F10c50)) F10c61)
def F10l39 : Ac := (.seq (so F10o42 F10c43) F10c46)
def F10c38 : Ac := (.block 2 (.loop (.seq (.gh []) (.seq (.keep [0, 1, 5, 6, 7, 8, 11, 12] [[6], [7], [61]]) F10l39))))
def F10o63 := [
 om 107 5,
 o3 108 (.callf 37) [.t 107],
 om 14 108]
def F10o66 := [
 om 109 14,
 o3 110 .lenL [.t 109],
 om 111 11,
 o3 112 .lenL [.t 111],
 o3 113 (.bin .neq) [.t 110, .t 112],
 om 114 113,
 og 115 .mv [.t 5] 114 false,
 og 116 (.callf 38) [.t 115] 114 false,
 og 117 .mv [.t 8] 114 false,
 og 118 (.eqb true) [.t 116, .t 117] 114 false,
 o3 119 .pick [.t 114, .b true, .t 118]]
def F10o69 := [
 o3 4 .mv [.b false]]
def F10c70 : Ac := .ret
def F10c67 : Ac := (cd 119 (so F10o69 F10c70) .skip)
def F10o74 := [
 o3 15 .mv [.i 0]]
def F10o79 := [
 om 120 15,
 om 121 14,
 o3 122 .lenL [.t 121],
 o3 123 (.bin .lss) [.t 120, .t 122]]
def F10c80 : Ac := (cd 123 .skip (.exit 4))
def F10o86 := [
 om 126 14,
 om 127 15,
 o3 128 (.iaddrS 3) [.t 126, .t 127],
  { dst := some 129, k := (.load (some 3)), xs := [.t 128], av := [[134]] },
 om 130 11,
 om 131 15,
 o3 132 (.iaddrS 1) [.t 130, .t 131],
 o3 133 (.load none) [.t 132],
  { dst := some 134, k := (.callf 39), xs := [.t 133], al := some [] },
 om 135 11,
 om 136 15,
 o3 137 (.iaddrS 1) [.t 135, .t 136],
  { dst := some 138, k := (.load none), xs := [.t 137], av := [[134]] },
 o3 139 (.iaddrA 8 1) [.t 7, .t 138],
  { dst := some 140, k := (.load none), xs := [.t 139], av := [[134]] },
 o3 141 (.toInt .u32) [.t 140],
 o3 142 (.build [.d (.str []), .d (.int .i64 0), .d (.int .u32 0)] [(0, 1), (1, 1), (2, 1)]) [.t 134, .i 98, .t 141],
 o3 143 (.eqa true [.s, .i, .i]) [.t 129, .t 142]]
def F10o89 := [
 o3 4 .mv [.b false]]
def F10c90 : Ac := .ret
def F10c87 : Ac := (cd 143 (so F10o89 F10c90) .skip)
def F10o92 := [
 om 124 15,
 o3 125 (.bin .add) [.t 124, .i 1],
 om 15 125]
def F10c92 : Ac := (.ops F10o92)
def F10c83 : Ac := (.seq (.block 5 (so F10o86 F10c87)) F10c92)
def F10l76 : Ac := (.seq (so F10o79 F10c80) F10c83)
def F10c75 : Ac := (.block 4 (.loop (.seq (.gh [.frz 14]) (.seq (.keep [0, 1, 5, 6, 7, 11, 14, 15] [[6], [7], [61]]) F10l76))))
def F10o94 := [
 om 144 5,
 o3 145 (.callf 40) [.t 144],
 o3 146 (.build [.d (.bool false), .d (.bool false), .d (.bool false), .d (.bool false), .d (.bool false), .d (.bool false), .d (.bool false), .d (.bool false)] []) [],
 o3 17 (.alloc [.d (.bool false), .d (.bool false), .d (.bool false), .d (.bool false), .d (.bool false), .d (.bool false), .d (.bool false), .d (.bool false)]) [],
 om 16 145,
 o0 (.store 8) [.t 17, .t 146]]
def F10o96 := [
 o3 18 .mv [.i 0]]
def F10o99 := [
 o3 19 .mv [.i 0]]
def F10o104 := [
 om 147 19,
 om 148 5,
 o3 149 .lenL [.t 148],
 o3 150 (.bin .lss) [.t 147, .t 149]]
def F10c105 : Ac := (cd 150 .skip (.exit 6))
def F10o111 := [
 om 153 0,
 om 154 19,
 o3 155 (.iaddrS 4) [.t 153, .t 154],
 o3 156 (.iaddrA 4 1) [.t 155, .i 0],
 o3 157 (.load none) [.t 156],
 o3 158 (.bin .and) [.t 157, .i 7],
 om 20 158]
def F10o114 := [
 om 159 20,
 o3 160 (.iaddrA 8 1) [.t 6, .t 159],
 o3 161 (.load none) [.t 160],
 o3 162 (.bin .geq) [.t 161, .i 0],
 om 163 162,
 og 164 .mv [.t 20] 163 false,
 og 165 (.iaddrA 8 1) [.t 7, .t 164] 163 false,
 og 166 (.load none) [.t 165] 163 false,
 og 167 (.bin .geq) [.t 166, .i 0] 163 false,
 o3 168 .pick [.t 163, .b true, .t 167],
 om 169 168,
 og 170 .mv [.t 20] 169 false,
 og 171 (.iaddrA 8 1) [.t 17, .t 170] 169 false,
 og 172 (.load none) [.t 171] 169 false,
 o3 173 .pick [.t 169, .b true, .t 172]]
def F10c115 : Ac := (cd 173 (.exit 7) .skip)
def F10o119 := [
 om 174 20,
 o3 175 (.iaddrA 8 1) [.t 17, .t 174],
 o0 (.store 1) [.t 175, .b true]]
def F10o122 := [
 om 176 18,
 om 177 16,
 o3 178 .lenL [.t 177],
 o3 179 (.bin .geq) [.t 176, .t 178],
 om 180 179,
 og 181 .mv [.t 16] 180 false,
 og 182 .mv [.t 18] 180 false,
 og 183 (.iaddrS 1) [.t 181, .t 182] 180 false,
  { dst := some 184, k := (.load none), xs := [.t 183], g := some (180, false), av := [[186]] },
 og 185 .mv [.t 20] 180 false,
  { dst := some 186, k := (.callf 39), xs := [.t 185], g := some (180, false), al := some [] },
 og 187 (.bin .neq) [.t 184, .t 186] 180 false,
 o3 188 .pick [.t 180, .b true, .t 187]]
def F10o125 := [
 o3 4 .mv [.b false]]
def F10c126 : Ac := .ret
def F10c123 : Ac := (cd 188 (so F10o125 F10c126) .skip)
def F10o128 := [
 om 189 18,
 o3 190 (.bin .add) [.t 189, .i 1],
 om 18 190]
def F10c128 : Ac := (.ops F10o128)
def F10c120 : Ac := (.seq (so F10o122 F10c123) F10c128)
def F10c118 : Ac := (so F10o119 F10c120)
def F10c112 : Ac := (.seq (so F10o114 F10c115) F10c118)
def F10o129 := [
 om 151 19,
 o3 152 (.bin .add) [.t 151, .i 1],
 om 19 152]
def F10c129 : Ac := (.ops F10o129)
def F10c108 : Ac := (.seq (.block 7 (so F10o111 F10c112)) F10c129)
def F10l101 : Ac := (.seq (so F10o104 F10c105) F10c108)
def F10c100 : Ac := (.block 6 (.loop (.seq (.gh []) (.seq (.keep [0, 1, 5, 6, 7, 14, 16, 17, 18, 19] [[6], [7], [17]]) F10l101))))
def F10o131 := [
 om 191 1,
 o3 192 (.bin .and) [.t 191, .i 7],
 om 21 192]
def F10o133 := [
 om 194 5,
 om 195 21,
 o3 196 (.callf 39) [.t 195],
 o3 197 (.callf 41) [.t 194, .t 196],
 om 193 197,
 oe 198 0 193,
 oe 199 1 193,
 o3 22 (.alloc [.d (.int .i64 0), .d (.int .i64 0), .d (.bool false)]) [],
 o0 (.store 3) [.t 22, .t 198],
 om 23 199]
def F10o136 := [
 om 200 21,
 o3 201 (.iaddrA 8 1) [.t 6, .t 200],
 o3 202 (.load none) [.t 201],
 o3 203 (.bin .geq) [.t 202, .i 0]]
def F10o139 := [
 o3 204 (.callf 42) [],
 om 205 204,
 og 206 .mv [.t 18] 205 true,
 og 207 .mv [.t 16] 205 true,
 og 208 .lenL [.t 207] 205 true,
 og 209 (.bin .eql) [.t 206, .t 208] 205 true,
 o3 210 .pick [.t 205, .t 209, .b false],
 om 211 210,
 og 212 .mv [.t 23] 211 true,
 o3 213 .pick [.t 211, .t 212, .b false],
 om 214 213,
 og 215 (.load (some 3)) [.t 22] 214 true,
 og 216 .mv [.t 21] 214 true,
 og 217 (.iaddrA 8 1) [.t 6, .t 216] 214 true,
 og 218 (.load none) [.t 217] 214 true,
 og 219 (.build [.d (.int .i64 0), .d (.int .i64 0), .d (.bool false)] [(0, 1)]) [.t 218] 214 true,
 og 220 (.eqa false [.i, .i, .b]) [.t 215, .t 219] 214 true,
 o3 221 .pick [.t 214, .t 220, .b false],
 om 4 221]
def F10c140 : Ac := .ret
def F10c137 : Ac := (cd 203 (so F10o139 F10c140) .skip)
def F10o143 := [
 o3 222 (.callf 42) [],
 om 223 222,
 og 224 .mv [.t 18] 223 true,
 og 225 .mv [.t 16] 223 true,
 og 226 .lenL [.t 225] 223 true,
 og 227 (.bin .eql) [.t 224, .t 226] 223 true,
 o3 228 .pick [.t 223, .t 227, .b false],
 om 229 228,
 og 230 .mv [.t 23] 229 true,
 og 231 .mv [.t 21] 229 true,
 og 232 (.iaddrA 8 1) [.t 7, .t 231] 229 true,
 og 233 (.load none) [.t 232] 229 true,
 og 234 (.bin .geq) [.t 233, .i 0] 229 true,
 og 235 (.eqb false) [.t 230, .t 234] 229 true,
 o3 236 .pick [.t 229, .t 235, .b false],
 om 237 236,
 og 238 .mv [.t 23] 237 true,
 og 239 (.un .not) [.t 238] 237 true,
 og 240 .mv [.t 239] 237 true,
 og 241 (.faddr 2) [.t 22] 240 false,
 og 242 (.load none) [.t 241] 240 false,
 og 243 .mv [.t 242] 240 false,
 og 244 .mv [.t 14] 243 true,
 og 245 (.faddr 1) [.t 22] 243 true,
  { dst := some 246, k := (.load none), xs := [.t 245], g := some (243, true), av := [[251]] },
 og 247 (.iaddrS 3) [.t 244, .t 246] 243 true,
 og 248 (.faddr 0) [.t 247] 243 true,
  { dst := some 249, k := (.load none), xs := [.t 248], g := some (243, true), av := [[251]] },
 og 250 .mv [.t 21] 243 true,
  { dst := some 251, k := (.callf 39), xs := [.t 250], g := some (243, true), al := some [] },
 og 252 (.bin .eql) [.t 249, .t 251] 243 true,
 og 253 .pick [.t 243, .t 252, .b false] 240 false,
 og 254 .pick [.t 240, .b true, .t 253] 237 true,
 o3 255 .pick [.t 237, .t 254, .b false],
 om 4 255]
def F10c144 : Ac := .ret
def F10c142 : Ac := (so F10o143 F10c144)
def F10c134 : Ac := (.seq (so F10o136 F10c137) F10c142)
def F10c132 : Ac := (so F10o133 F10c134)
def F10b130 : Ac := (so F10o131 F10c132)
def F10c130 : Ac := (.seq (.gh []) (.seq (.keep [1, 5, 6, 7, 14, 16, 18] [[6], [7]]) F10b130))
def F10c97 : Ac := (.seq (so F10o99 F10c100) F10c130)
def F10c95 : Ac := (so F10o96 F10c97)
def F10b93 : Ac := (so F10o94 F10c95)
def F10c93 : Ac := (.seq (.gh []) (.seq (.keep [0, 1, 5, 6, 7, 14] [[6], [7]]) F10b93))
def F10c72 : Ac := (.seq (so F10o74 F10c75) F10c93)
def F10c64 : Ac := (.seq (so F10o66 F10c67) F10c72)
def F10b62 : Ac := (so F10o63 F10c64)
def F10c62 : Ac := (.seq (.gh []) (.seq (.keep [0, 1, 5, 6, 7, 8, 11] [[6], [7], [61]]) F10b62))
def F10c35 : Ac := (.seq (so F10o37 F10c38) F10c62)
def F10b33 : Ac := (so F10o34 F10c35)
def F10c33 : Ac := (.seq (.gh []) (.seq (.keep [0, 1, 5, 6, 7, 8] [[6], [7]]) F10b33))
def F10c6 : Ac := (.seq (so F10o8 F10c9) F10c33)
def F10c4 : Ac := (so F10o5 F10c6)
def F10c2 : Ac := (so F10o3 F10c4)
def F10c0 : Ac := (so F10o1 F10c2)
/-- hansom/hansomlaw39.PoolNames -/
def F10 : Fn := { np := 2, pb := [], rs := [.t 4], body := F10c0 }
def F36o1 := [
 o3 2 .mv [.c (.nils)]]
def F36o3 := [
 o3 6 (.bslice (.agg [.str [], .sl [], .sl [], .sl [], .sl [], .sl [], .sl [], .sl [], .bool false, .bool false, .int .i64 0, .int .i64 0, .bool false, .int .i64 0, .int .i64 0, .int .i64 0, .int .i64 0, .int .u16 0]) 0 []) [],
 om 3 6]
def F36o6 := [
 o3 4 .mv [.i 0]]
def F36o11 := [
 om 7 4,
 om 8 0,
 o3 9 .lenL [.t 8],
 o3 10 (.bin .lss) [.t 7, .t 9],
 om 11 10,
 og 12 .mv [.t 4] 11 true,
 og 13 (.bin .lss) [.t 12, .i 5] 11 true,
 o3 14 .pick [.t 11, .t 13, .b false]]
def F36c12 : Ac := (cd 14 .skip (.exit 0))
def F36o18 := [
 om 17 0,
 om 18 4,
 o3 19 (.iaddrS 4) [.t 17, .t 18],
 o3 20 (.iaddrA 4 1) [.t 19, .i 0],
 o3 21 (.load none) [.t 20],
 o3 22 (.callf 39) [.t 21],
 o3 23 (.bslice (.str []) 1 [0]) [.t 22],
 o3 24 (.callf 76) [.t 23, .c (.nils)],
 o3 5 (.alloc [.d (.str []), .nils, .nils, .nils, .nils, .nils, .nils, .nils, .d (.bool false), .d (.bool false), .d (.int .i64 0), .d (.int .i64 0), .d (.bool false), .d (.int .i64 0), .d (.int .i64 0), .d (.int .i64 0), .d (.int .i64 0), .d (.int .u16 0)]) [],
 o0 (.store 18) [.t 5, .t 24]]
def F36o21 := [
 om 25 0,
 om 26 4,
 o3 27 (.iaddrS 4) [.t 25, .t 26],
 o3 28 (.iaddrA 4 1) [.t 27, .i 1],
 o3 29 (.load none) [.t 28],
 o3 30 (.bin .and) [.t 29, .i 8],
 o3 31 (.bin .gtr) [.t 30, .i 0]]
def F36o23 := [
 om 32 0,
 om 33 4,
 o3 34 (.iaddrS 4) [.t 32, .t 33],
 o3 35 (.iaddrA 4 1) [.t 34, .i 0],
 o3 36 (.load none) [.t 35],
  { dst := some 37, k := (.callf 39), xs := [.t 36], al := some [] },
  { dst := some 38, k := (.bslice (.str []) 1 [0]), xs := [.t 37], av := [[44], [45]] },
 om 39 0,
 om 40 4,
 o3 41 (.iaddrS 4) [.t 39, .t 40],
 o3 42 (.iaddrA 4 1) [.t 41, .i 1],
  { dst := some 43, k := (.load none), xs := [.t 42], av := [[37], [38]] },
  { dst := some 44, k := (.callf 39), xs := [.t 43], av := [[38]], al := some [] },
  { dst := some 45, k := (.bslice (.str []) 1 [0]), xs := [.t 44], av := [[38]] },
 o3 46 (.callf 76) [.t 38, .t 45],
 o0 (.store 18) [.t 5, .t 46]]
def F36c22 : Ac := (cd 31 (.ops F36o23) .skip)
def F36o27 := [
 om 47 0,
 om 48 4,
 o3 49 (.iaddrS 4) [.t 47, .t 48],
 o3 50 (.iaddrA 4 1) [.t 49, .i 2],
 o3 51 (.load none) [.t 50],
 o3 52 (.bin .and) [.t 51, .i 8],
 o3 53 (.bin .gtr) [.t 52, .i 0]]
def F36o29 := [
 o3 54 (.faddr 5) [.t 5],
  { dst := some 55, k := (.load none), xs := [.t 54], av := [[61], [70]] },
 om 56 0,
 om 57 4,
 o3 58 (.iaddrS 4) [.t 56, .t 57],
 o3 59 (.iaddrA 4 1) [.t 58, .i 2],
 o3 60 (.load none) [.t 59],
  { dst := some 61, k := (.callf 39), xs := [.t 60], al := some [] },
 om 62 0,
 om 63 4,
 o3 64 (.iaddrS 4) [.t 62, .t 63],
 o3 65 (.iaddrA 4 1) [.t 64, .i 3],
  { dst := some 66, k := (.load none), xs := [.t 65], av := [[61]] },
 o3 67 (.bin .and) [.t 66, .i 63],
 o3 68 (.toInt .u32) [.t 67],
 o3 69 (.build [.d (.str []), .d (.int .i64 0), .d (.int .u32 0)] [(0, 1), (1, 1), (2, 1)]) [.t 61, .i 98, .t 68],
 o3 70 (.bslice (.agg [.str [], .int .i64 0, .int .u32 0]) 1 [0]) [.t 69],
 o3 71 (.append 3 32 false) [.t 55, .t 70],
 o3 72 (.faddr 5) [.t 5],
 o0 (.store 1) [.t 72, .t 71]]
def F36b28 : Ac := (cd 53 (.ops F36o29) .skip)
def F36c28 : Ac := (.seq (.gh [.mvB [5] 5 [955, 5]]) (.seq (.keep [0, 3, 4, 5, 53] [[5], [6], [955, 5]]) F36b28))
def F36o31 := [
 om 73 3,
 o3 74 (.load (some 18)) [.t 5],
 o3 75 (.bslice (.agg [.str [], .sl [], .sl [], .sl [], .sl [], .sl [], .sl [], .sl [], .bool false, .bool false, .int .i64 0, .int .i64 0, .bool false, .int .i64 0, .int .i64 0, .int .i64 0, .int .i64 0, .int .u16 0]) 1 [0]) [.t 74],
 o3 76 (.append 18 256 false) [.t 73, .t 75],
 om 3 76]
def F36c31 : Ac := (.ops F36o31)
def F36b25 : Ac := (.seq (so F36o27 F36c28) F36c31)
def F36c25 : Ac := (.seq (.gh [.mvB [5] 5 [955, 5]]) (.seq (.keep [0, 3, 4, 5] [[5], [6], [955, 5]]) F36b25))
def F36c19 : Ac := (.seq (so F36o21 F36c22) F36c25)
def F36o32 := [
 om 15 4,
 o3 16 (.bin .add) [.t 15, .i 1],
 om 4 16]
def F36c32 : Ac := (.ops F36o32)
def F36c15 : Ac := (.seq (.block 1 (so F36o18 F36c19)) F36c32)
def F36l8 : Ac := (.seq (so F36o11 F36c12) F36c15)
def F36c7 : Ac := (.block 0 (.loop (.seq (.gh []) (.seq (.keep [0, 3, 4] [[6]]) F36l8))))
def F36o34 := [
 om 77 3,
 om 2 77]
def F36c35 : Ac := (.seq (.gh [.frz 2]) .ret)
def F36b33 : Ac := (so F36o34 F36c35)
def F36c33 : Ac := (.seq (.gh []) (.seq (.keep [3] [[6]]) F36b33))
def F36c4 : Ac := (.seq (so F36o6 F36c7) F36c33)
def F36c2 : Ac := (so F36o3 F36c4)
def F36c0 : Ac := (so F36o1 F36c2)
/-- hansom/hansomlaw39.mods -/
def F36 : Fn := { np := 1, pb := [], rs := [.t 2], body := F36c0 }
def F37o1 := [
 o3 2 .mv [.c (.nils)]]
def F37o3 := [
 o3 3 .mv [.c (.nils)]]
def F37o6 := [
 om 9 0,
 o3 10 .lenL [.t 9],
 o3 11 .mv [.i 0]]
def F37o10 := [
 o3 12 (.bin .lss) [.t 11, .t 10]]
def F37o18 := [
 o3 13 (.iaddrS 18) [.t 9, .t 11],
 o3 14 (.load (some 18)) [.t 13],
 o3 5 (.alloc [.d (.str []), .nils, .nils, .nils, .nils, .nils, .nils, .nils, .d (.bool false), .d (.bool false), .d (.int .i64 0), .d (.int .i64 0), .d (.bool false), .d (.int .i64 0), .d (.int .i64 0), .d (.int .i64 0), .d (.int .i64 0), .d (.int .u16 0)]) [],
 o0 (.store 18) [.t 5, .t 14]]
def F37o20 := [
 o3 15 (.faddr 5) [.t 5],
 o3 16 (.load none) [.t 15],
 o3 17 .lenL [.t 16],
 o3 18 .mv [.i 0]]
def F37o24 := [
 o3 19 (.bin .lss) [.t 18, .t 17]]
def F37o32 := [
 o3 20 (.iaddrS 3) [.t 16, .t 18],
 o3 21 (.load (some 3)) [.t 20],
 o3 7 (.alloc [.d (.str []), .d (.int .i64 0), .d (.int .u32 0)]) [],
 o0 (.store 3) [.t 7, .t 21]]
def F37o35 := [
 o3 22 (.faddr 1) [.t 7],
 o3 23 (.load none) [.t 22],
 o3 24 (.bin .eql) [.t 23, .i 0],
 om 25 24,
 og 26 .mv [.t 0] 25 false,
 og 27 (.faddr 0) [.t 7] 25 false,
 og 28 (.load none) [.t 27] 25 false,
 og 29 (.callf 77) [.t 26, .t 28] 25 false,
 og 30 (.bin .geq) [.t 29, .i 0] 25 false,
 o3 31 .pick [.t 25, .b true, .t 30]]
def F37c36 : Ac := (cd 31 (.exit 3) .skip)
def F37o40 := [
 om 32 3,
 o3 33 (.mkfn 79) [.t 7],
 o3 34 (.callf 78) [.l 32, .t 33],
 om 8 34]
def F37o43 := [
 om 35 8,
 o3 36 (.bin .lss) [.t 35, .i 0]]
def F37o46 := [
 om 37 3,
 o3 38 (.load (some 3)) [.t 7],
 o3 39 (.bslice (.agg [.str [], .int .i64 0, .int .u32 0]) 1 [0]) [.t 38],
 o3 40 (.append 3 32 false) [.t 37, .t 39],
 om 3 40]
def F37c47 : Ac := (.exit 3)
def F37c44 : Ac := (cd 36 (so F37o46 F37c47) .skip)
def F37o49 := [
 om 41 3,
 om 42 8,
 om 43 3,
 om 44 8,
 o3 45 (.iaddrS 3) [.t 43, .t 44],
 o3 46 (.faddr 2) [.t 45],
 o3 47 (.load none) [.t 46],
 o3 48 (.faddr 2) [.t 7],
 o3 49 (.load none) [.t 48],
 o3 50 .mx [.t 47, .t 49],
 o3 51 (.iaddrS 3) [.t 41, .t 42],
 o3 52 (.faddr 2) [.t 51],
 o0 (.store 1) [.t 52, .t 50]]
def F37c49 : Ac := (.ops F37o49)
def F37c41 : Ac := (.seq (so F37o43 F37c44) F37c49)
def F37c39 : Ac := (so F37o40 F37c41)
def F37c33 : Ac := (.seq (so F37o35 F37c36) F37c39)
def F37o50 := [
 o3 53 (.bin .add) [.t 18, .i 1],
 om 18 53]
def F37c50 : Ac := (.ops F37o50)
def F37c29 : Ac := (.seq (.block 3 (so F37o32 F37c33)) F37c50)
def F37c25 : Ac := (.seq (cd 19 .skip (.exit 2)) F37c29)
def F37l22 : Ac := (so F37o24 F37c25)
def F37c21 : Ac := (.block 2 (.loop (.seq (.gh []) (.seq (.keep [0, 3, 9, 10, 11, 16, 17, 18] [[3]]) F37l22))))
def F37c19 : Ac := (so F37o20 F37c21)
def F37o51 := [
 o3 54 (.bin .add) [.t 11, .i 1],
 om 11 54]
def F37b51 : Ac := (.ops F37o51)
def F37c51 : Ac := (.seq (.gh []) (.seq (.keep [0, 3, 9, 10, 11] [[3]]) F37b51))
def F37c15 : Ac := (.seq (.block 1 (so F37o18 F37c19)) F37c51)
def F37c11 : Ac := (.seq (cd 12 .skip (.exit 0)) F37c15)
def F37l8 : Ac := (so F37o10 F37c11)
def F37c7 : Ac := (.block 0 (.loop (.seq (.gh []) (.seq (.keep [0, 3, 9, 10, 11] [[3]]) F37l8))))
def F37o53 := [
 om 55 3,
 om 2 55]
def F37c54 : Ac := .ret
def F37b52 : Ac := (so F37o53 F37c54)
def F37c52 : Ac := (.seq (.gh []) (.seq (.keep [3] [[3]]) F37b52))
def F37b4 : Ac := (.seq (so F37o6 F37c7) F37c52)
def F37c4 : Ac := (.seq (.gh [.own 3 [3] 3]) (.seq (.keep [0, 3] [[3]]) F37b4))
def F37c2 : Ac := (so F37o3 F37c4)
def F37c0 : Ac := (so F37o1 F37c2)
/-- hansom/pool.Made -/
def F37 : Fn := { np := 1, pb := [], rs := [.t 2], body := F37c0 }
def F38o1 := [
 o3 2 .mv [.b false]]
def F38o3 := [
 o3 3 .mv [.c (.nils)]]
def F38o6 := [
 om 8 0,
 o3 9 .lenL [.t 8],
 o3 10 .mv [.i 0]]
def F38o10 := [
 o3 11 (.bin .lss) [.t 10, .t 9]]
def F38o18 := [
 o3 12 (.iaddrS 18) [.t 8, .t 10],
 o3 13 (.load (some 18)) [.t 12],
 o3 5 (.alloc [.d (.str []), .nils, .nils, .nils, .nils, .nils, .nils, .nils, .d (.bool false), .d (.bool false), .d (.int .i64 0), .d (.int .i64 0), .d (.bool false), .d (.int .i64 0), .d (.int .i64 0), .d (.int .i64 0), .d (.int .i64 0), .d (.int .u16 0)]) [],
 o0 (.store 18) [.t 5, .t 13]]
def F38o20 := [
 o3 14 (.faddr 6) [.t 5],
 o3 15 (.load none) [.t 14],
 o3 16 .lenL [.t 15],
 o3 17 .mv [.i 0]]
def F38o24 := [
 o3 18 (.bin .lss) [.t 17, .t 16]]
def F38o32 := [
 o3 19 (.iaddrS 5) [.t 15, .t 17],
 o3 20 (.load (some 5)) [.t 19],
 o3 7 (.alloc [.d (.int .i64 0), .d (.int .i64 0), .d (.int .u16 0), .d (.str []), .d (.int .u16 0)]) [],
 o0 (.store 5) [.t 7, .t 20]]
def F38o35 := [
 om 21 3,
 o3 22 (.faddr 3) [.t 7],
 o3 23 (.load none) [.t 22],
 o3 24 (.callf 80) [.t 21, .t 23]]
def F38o38 := [
 o3 2 .mv [.b true]]
def F38c39 : Ac := .ret
def F38c36 : Ac := (cd 24 (so F38o38 F38c39) .skip)
def F38o41 := [
 om 25 3,
 o3 26 (.faddr 3) [.t 7],
 o3 27 (.load none) [.t 26],
 o3 28 (.bslice (.str []) 1 [0]) [.t 27],
 o3 29 (.append 1 16 false) [.t 25, .t 28],
 om 3 29]
def F38c41 : Ac := (.ops F38o41)
def F38c33 : Ac := (.seq (so F38o35 F38c36) F38c41)
def F38o42 := [
 o3 30 (.bin .add) [.t 17, .i 1],
 om 17 30]
def F38c42 : Ac := (.ops F38o42)
def F38c29 : Ac := (.seq (.block 3 (so F38o32 F38c33)) F38c42)
def F38c25 : Ac := (.seq (cd 18 .skip (.exit 2)) F38c29)
def F38l22 : Ac := (so F38o24 F38c25)
def F38c21 : Ac := (.block 2 (.loop (.seq (.gh []) (.seq (.keep [3, 8, 9, 10, 15, 16, 17] [[3]]) F38l22))))
def F38c19 : Ac := (so F38o20 F38c21)
def F38o43 := [
 o3 31 (.bin .add) [.t 10, .i 1],
 om 10 31]
def F38b43 : Ac := (.ops F38o43)
def F38c43 : Ac := (.seq (.gh []) (.seq (.keep [3, 8, 9, 10] [[3]]) F38b43))
def F38c15 : Ac := (.seq (.block 1 (so F38o18 F38c19)) F38c43)
def F38c11 : Ac := (.seq (cd 11 .skip (.exit 0)) F38c15)
def F38l8 : Ac := (so F38o10 F38c11)
def F38c7 : Ac := (.block 0 (.loop (.seq (.gh []) (.seq (.keep [3, 8, 9, 10] [[3]]) F38l8))))
def F38o45 := [
 o3 2 .mv [.b false]]
def F38c46 : Ac := .ret
def F38b44 : Ac := (so F38o45 F38c46)
def F38c44 : Ac := (.seq (.gh []) (.seq (.keep [] []) F38b44))
def F38b4 : Ac := (.seq (so F38o6 F38c7) F38c44)
def F38c4 : Ac := (.seq (.gh [.own 3 [3] 1]) (.seq (.keep [0, 3] [[3]]) F38b4))
def F38c2 : Ac := (so F38o3 F38c4)
def F38c0 : Ac := (so F38o1 F38c2)
/-- hansom/pool.Twice -/
def F38 : Fn := { np := 1, pb := [], rs := [.t 2], body := F38c0 }
def F39o1 := [
 o3 2 .mv [.c (.d (.str []))]]
def F39o3 := [
 om 3 0,
 o3 4 (.bin .and) [.t 3, .i 7],
 o3 5 (.bin .add) [.i 65, .t 4],
 o3 6 (.toInt .u8) [.t 5],
 o3 7 (.bslice (.int .u8 0) 1 [0]) [.t 6],
 o3 8 .bytesStr [.t 7],
 om 2 8]
def F39c4 : Ac := .ret
def F39c2 : Ac := (so F39o3 F39c4)
def F39c0 : Ac := (so F39o1 F39c2)
/-- hansom/hansomlaw39.name -/
def F39 : Fn := { np := 1, pb := [], rs := [.t 2], body := F39c0 }
def F40o1 := [
 o3 2 .mv [.c (.nils)]]
def F40o3 := [
 o3 3 .mv [.c (.nils)]]
def F40o5 := [
 om 9 0,
 o3 10 (.callf 37) [.t 9],
 om 4 10]
def F40o8 := [
 om 11 0,
 o3 12 .lenL [.t 11],
 o3 13 .mv [.i 0]]
def F40o12 := [
 o3 14 (.bin .lss) [.t 13, .t 12]]
def F40o20 := [
 o3 15 (.iaddrS 18) [.t 11, .t 13],
 o3 16 (.load (some 18)) [.t 15],
 o3 6 (.alloc [.d (.str []), .nils, .nils, .nils, .nils, .nils, .nils, .nils, .d (.bool false), .d (.bool false), .d (.int .i64 0), .d (.int .i64 0), .d (.bool false), .d (.int .i64 0), .d (.int .i64 0), .d (.int .i64 0), .d (.int .i64 0), .d (.int .u16 0)]) [],
 o0 (.store 18) [.t 6, .t 16]]
def F40o22 := [
 o3 17 (.faddr 5) [.t 6],
 o3 18 (.load none) [.t 17],
 o3 19 .lenL [.t 18],
 o3 20 .mv [.i 0]]
def F40o26 := [
 o3 21 (.bin .lss) [.t 20, .t 19]]
def F40o34 := [
 o3 22 (.iaddrS 3) [.t 18, .t 20],
 o3 23 (.load (some 3)) [.t 22],
 o3 8 (.alloc [.d (.str []), .d (.int .i64 0), .d (.int .u32 0)]) [],
 o0 (.store 3) [.t 8, .t 23]]
def F40o37 := [
 om 24 0,
 o3 25 (.faddr 0) [.t 8],
 o3 26 (.load none) [.t 25],
 o3 27 (.callf 77) [.t 24, .t 26],
 o3 28 (.bin .geq) [.t 27, .i 0],
 om 29 28,
 og 30 .mv [.t 3] 29 false,
 og 31 (.faddr 0) [.t 8] 29 false,
 og 32 (.load none) [.t 31] 29 false,
 og 33 (.callf 80) [.t 30, .t 32] 29 false,
 o3 34 .pick [.t 29, .b true, .t 33],
 om 35 34,
 og 36 .mv [.t 4] 35 false,
 og 37 (.mkfn 82) [.t 8] 35 false,
 og 38 (.callf 81) [.l 36, .t 37] 35 false,
 o3 39 .pick [.t 35, .b true, .t 38]]
def F40c38 : Ac := (cd 39 (.exit 3) .skip)
def F40o41 := [
 om 40 3,
 o3 41 (.faddr 0) [.t 8],
 o3 42 (.load none) [.t 41],
 o3 43 (.bslice (.str []) 1 [0]) [.t 42],
 o3 44 (.append 1 16 false) [.t 40, .t 43],
 om 3 44]
def F40c41 : Ac := (.ops F40o41)
def F40c35 : Ac := (.seq (so F40o37 F40c38) F40c41)
def F40o42 := [
 o3 45 (.bin .add) [.t 20, .i 1],
 om 20 45]
def F40c42 : Ac := (.ops F40o42)
def F40c31 : Ac := (.seq (.block 3 (so F40o34 F40c35)) F40c42)
def F40c27 : Ac := (.seq (cd 21 .skip (.exit 2)) F40c31)
def F40l24 : Ac := (so F40o26 F40c27)
def F40c23 : Ac := (.block 2 (.loop (.seq (.gh []) (.seq (.keep [0, 3, 4, 11, 12, 13, 18, 19, 20] [[3], [10]]) F40l24))))
def F40c21 : Ac := (so F40o22 F40c23)
def F40o43 := [
 o3 46 (.bin .add) [.t 13, .i 1],
 om 13 46]
def F40b43 : Ac := (.ops F40o43)
def F40c43 : Ac := (.seq (.gh []) (.seq (.keep [0, 3, 4, 11, 12, 13] [[3], [10]]) F40b43))
def F40c17 : Ac := (.seq (.block 1 (so F40o20 F40c21)) F40c43)
def F40c13 : Ac := (.seq (cd 14 .skip (.exit 0)) F40c17)
def F40l10 : Ac := (so F40o12 F40c13)
def F40c9 : Ac := (.block 0 (.loop (.seq (.gh []) (.seq (.keep [0, 3, 4, 11, 12, 13] [[3], [10]]) F40l10))))
def F40o45 := [
 om 47 3,
 om 2 47]
def F40c46 : Ac := (.seq (.gh [.frz 2]) .ret)
def F40b44 : Ac := (so F40o45 F40c46)
def F40c44 : Ac := (.seq (.gh []) (.seq (.keep [3] [[3]]) F40b44))
def F40c6 : Ac := (.seq (so F40o8 F40c9) F40c44)
def F40b4 : Ac := (so F40o5 F40c6)
def F40c4 : Ac := (.seq (.gh [.own 3 [3] 1]) (.seq (.keep [0, 3] [[3]]) F40b4))
def F40c2 : Ac := (so F40o3 F40c4)
def F40c0 : Ac := (so F40o1 F40c2)
/-- hansom/pool.Lost -/
def F40 : Fn := { np := 1, pb := [], rs := [.t 2], body := F40c0 }
def F41o1 := [
 o3 3 (.box 1) [.t 1],
 o3 4 (.alloc [.d (.int .i64 0), .d (.int .i64 0), .d (.bool false)]) [],
 o3 5 .mv [.b false]]
def F41o4 := [
 om 9 0,
 o3 10 (.load none) [.t 3],
 o3 11 (.callf 77) [.t 9, .t 10],
 om 6 11]
def F41o6 := [
 om 12 6,
 o3 13 (.bin .geq) [.t 12, .i 0]]
def F41o9 := [
 om 14 0,
 om 15 6,
 o3 16 (.iaddrS 18) [.t 14, .t 15],
 o3 17 (.faddr 6) [.t 16],
 o3 18 (.load none) [.t 17],
 o3 19 (.mkfn 84) [.t 3],
 o3 20 (.callf 83) [.t 18, .t 19],
 om 7 20]
def F41o11 := [
 om 21 6,
 om 22 7,
 o3 23 (.build [.d (.int .i64 0), .d (.int .i64 0), .d (.bool false)] [(0, 1), (1, 1)]) [.t 21, .t 22],
 o0 (.store 3) [.t 4, .t 23],
 o3 5 .mv [.b true]]
def F41c12 : Ac := .ret
def F41c10 : Ac := (so F41o11 F41c12)
def F41c7 : Ac := (cd 13 (so F41o9 F41c10) .skip)
def F41c5 : Ac := (so F41o6 F41c7)
def F41o15 := [
 om 24 0,
 o3 25 (.callf 37) [.t 24],
 o3 26 (.mkfn 85) [.t 3],
 o3 27 (.callf 78) [.l 25, .t 26],
 om 8 27]
def F41o18 := [
 om 28 8,
 o3 29 (.bin .lss) [.t 28, .i 0]]
def F41o21 := [
 o3 30 (.build [.d (.int .i64 0), .d (.int .i64 0), .d (.bool false)] []) [],
 o0 (.store 3) [.t 4, .t 30],
 o3 5 .mv [.b false]]
def F41c22 : Ac := .ret
def F41c19 : Ac := (cd 29 (so F41o21 F41c22) .skip)
def F41o25 := [
 om 31 8,
 o3 32 (.build [.d (.int .i64 0), .d (.int .i64 0), .d (.bool false)] [(1, 1), (2, 1)]) [.t 31, .b true],
 o0 (.store 3) [.t 4, .t 32],
 o3 5 .mv [.b true]]
def F41c26 : Ac := .ret
def F41c24 : Ac := (so F41o25 F41c26)
def F41c16 : Ac := (.seq (so F41o18 F41c19) F41c24)
def F41c14 : Ac := (so F41o15 F41c16)
def F41c2 : Ac := (.seq (so F41o4 F41c5) F41c14)
def F41c0 : Ac := (so F41o1 F41c2)
/-- hansom/pool.Find -/
def F41 : Fn := { np := 2, pb := [], rs := [.c 4 (some 3), .t 5], body := F41c0 }
def F43o1 := [
 o3 1 (.box 18) [.t 0],
 o3 2 (.alloc [.d (.str []), .nils, .nils, .nils, .nils, .nils, .nils, .nils, .d (.bool false), .d (.bool false), .d (.int .i64 0), .d (.int .i64 0), .d (.bool false), .d (.int .i64 0), .d (.int .i64 0), .d (.int .i64 0), .d (.int .i64 0), .d (.int .u16 0)]) []]
def F43o3 := [
 o3 14 (.load (some 18)) [.t 1],
 o3 15 (.callf 87) [.t 14],
 o0 (.store 18) [.t 2, .t 15]]
def F43o6 := [
 o3 3 .mv [.i 0]]
def F43o11 := [
 om 16 3,
 o3 17 (.faddr 5) [.t 1],
 o3 18 (.load none) [.t 17],
 o3 19 .lenL [.t 18],
 o3 20 (.bin .lss) [.t 16, .t 19],
 om 21 20,
 og 22 .mv [.t 3] 21 true,
 og 23 (.bin .lss) [.t 22, .i 3] 21 true,
 o3 24 .pick [.t 21, .t 23, .b false]]
def F43c12 : Ac := (cd 24 .skip (.exit 0))
def F43o18 := [
 o3 27 (.faddr 5) [.t 1],
 o3 28 (.load none) [.t 27],
 om 29 3,
 o3 30 (.iaddrS 3) [.t 28, .t 29],
 o3 31 (.faddr 0) [.t 30],
 o3 32 (.load none) [.t 31],
 o3 33 (.callf 88) [.t 32],
 o3 34 (.build [.d (.str []), .d (.int .i64 0), .d (.int .u32 0)] [(0, 1)]) [.t 33],
 o3 4 (.alloc [.d (.str []), .d (.int .i64 0), .d (.int .u32 0)]) [],
 o0 (.store 3) [.t 4, .t 34]]
def F43o21 := [
 o3 35 (.faddr 5) [.t 1],
 o3 36 (.load none) [.t 35],
 om 37 3,
 o3 38 (.iaddrS 3) [.t 36, .t 37],
 o3 39 (.faddr 1) [.t 38],
 o3 40 (.load none) [.t 39],
 o3 41 (.bin .and) [.t 40, .i 1],
 o3 42 (.bin .eql) [.t 41, .i 1]]
def F43o23 := [
 o3 43 (.faddr 5) [.t 1],
 o3 44 (.load none) [.t 43],
 om 45 3,
 o3 46 (.iaddrS 3) [.t 44, .t 45],
 o3 47 (.faddr 1) [.t 46],
 o3 48 (.load none) [.t 47],
 o3 49 (.bin .shr) [.t 48, .c (.d (.int .u64 1))],
 o3 50 (.bin .and) [.t 49, .i 1],
 o3 51 (.bin .add) [.i 97, .t 50],
 o3 52 (.faddr 5) [.t 1],
  { dst := some 53, k := (.load none), xs := [.t 52], av := [[4]] },
 om 54 3,
 o3 55 (.iaddrS 3) [.t 53, .t 54],
 o3 56 (.faddr 2) [.t 55],
  { dst := some 57, k := (.load none), xs := [.t 56], av := [[4]] },
 o3 58 (.bin .and) [.t 57, .u 1023],
 o3 59 (.faddr 1) [.t 4],
  { dst := none, k := (.store 1), xs := [.t 59, .t 51], al := some [[4]] },
 o3 60 (.faddr 2) [.t 4],
 o0 (.store 1) [.t 60, .t 58]]
def F43c22 : Ac := (cd 42 (.ops F43o23) .skip)
def F43o25 := [
 o3 61 (.faddr 5) [.t 2],
 o3 62 (.load none) [.t 61],
 o3 63 (.load (some 3)) [.t 4],
 o3 64 (.bslice (.agg [.str [], .int .i64 0, .int .u32 0]) 1 [0]) [.t 63],
 o3 65 (.append 3 32 false) [.t 62, .t 64],
 o3 66 (.faddr 5) [.t 2],
 o0 (.store 1) [.t 66, .t 65]]
def F43c25 : Ac := (.ops F43o25)
def F43c19 : Ac := (.seq (so F43o21 F43c22) F43c25)
def F43o26 := [
 om 25 3,
 o3 26 (.bin .add) [.t 25, .i 1],
 om 3 26]
def F43c26 : Ac := (.ops F43o26)
def F43c15 : Ac := (.seq (.block 1 (so F43o18 F43c19)) F43c26)
def F43l8 : Ac := (.seq (so F43o11 F43c12) F43c15)
def F43c7 : Ac := (.block 0 (.loop (.seq (.gh []) (.seq (.keep [1, 2, 3] [[1], [2], [5, 15], [6, 15], [7, 15]]) F43l8))))
def F43o29 := [
 o3 5 .mv [.i 0]]
def F43o34 := [
 om 67 5,
 o3 68 (.faddr 6) [.t 1],
 o3 69 (.load none) [.t 68],
 o3 70 .lenL [.t 69],
 o3 71 (.bin .lss) [.t 67, .t 70],
 om 72 71,
 og 73 .mv [.t 5] 72 true,
 og 74 (.bin .lss) [.t 73, .i 3] 72 true,
 o3 75 .pick [.t 72, .t 74, .b false]]
def F43c35 : Ac := (cd 75 .skip (.exit 2))
def F43o41 := [
 o3 78 (.faddr 6) [.t 1],
 o3 79 (.load none) [.t 78],
 om 80 5,
 o3 81 (.iaddrS 5) [.t 79, .t 80],
 o3 82 (.load (some 5)) [.t 81],
 o3 6 (.alloc [.d (.int .i64 0), .d (.int .i64 0), .d (.int .u16 0), .d (.str []), .d (.int .u16 0)]) [],
 o0 (.store 5) [.t 6, .t 82]]
def F43o43 := [
 o3 83 (.faddr 0) [.t 6],
  { dst := some 84, k := (.load none), xs := [.t 83], av := [[101], [7]] },
 o3 85 (.bin .and) [.t 84, .i 255],
 o3 86 (.faddr 4) [.t 2],
  { dst := some 87, k := (.load none), xs := [.t 86], av := [[101], [7]] },
 o3 88 .lenL [.t 87],
 o3 89 (.bin .add) [.t 88, .i 1],
 o3 90 (.bin .rem) [.t 85, .t 89],
 o3 91 (.faddr 1) [.t 6],
  { dst := some 92, k := (.load none), xs := [.t 91], av := [[101], [7]] },
 o3 93 (.bin .and) [.t 92, .i 255],
 o3 94 (.faddr 3) [.t 2],
  { dst := some 95, k := (.load none), xs := [.t 94], av := [[101], [7]] },
 o3 96 .lenL [.t 95],
 o3 97 (.bin .add) [.t 96, .i 1],
 o3 98 (.bin .rem) [.t 93, .t 97],
 o3 99 (.faddr 3) [.t 6],
  { dst := some 100, k := (.load none), xs := [.t 99], av := [[7]] },
  { dst := some 101, k := (.callf 88), xs := [.t 100], av := [[7]], al := some [] },
 o3 102 (.faddr 4) [.t 6],
  { dst := some 103, k := (.load none), xs := [.t 102], av := [[101], [7]] },
 o3 104 (.build [.d (.int .i64 0), .d (.int .i64 0), .d (.int .u16 0), .d (.str []), .d (.int .u16 0)] [(0, 1), (1, 1), (3, 1), (4, 1)]) [.t 90, .t 98, .t 101, .t 103],
  { dst := some 7, k := (.alloc [.d (.int .i64 0), .d (.int .i64 0), .d (.int .u16 0), .d (.str []), .d (.int .u16 0)]), xs := [], av := [[101]] },
 o0 (.store 5) [.t 7, .t 104]]
def F43o46 := [
 o3 105 (.faddr 1) [.t 7],
 o3 106 (.load none) [.t 105],
 o3 107 (.bin .eql) [.t 106, .i 0]]
def F43o48 := [
 o3 108 (.faddr 2) [.t 6],
 o3 109 (.load none) [.t 108],
 o3 110 (.faddr 2) [.t 7],
 o0 (.store 1) [.t 110, .t 109]]
def F43c47 : Ac := (cd 107 (.ops F43o48) .skip)
def F43o50 := [
 o3 111 (.faddr 6) [.t 2],
 o3 112 (.load none) [.t 111],
 o3 113 (.load (some 5)) [.t 7],
 o3 114 (.bslice (.agg [.int .i64 0, .int .i64 0, .int .u16 0, .str [], .int .u16 0]) 1 [0]) [.t 113],
 o3 115 (.append 5 48 false) [.t 112, .t 114],
 o3 116 (.faddr 6) [.t 2],
 o0 (.store 1) [.t 116, .t 115]]
def F43c50 : Ac := (.ops F43o50)
def F43c44 : Ac := (.seq (so F43o46 F43c47) F43c50)
def F43c42 : Ac := (so F43o43 F43c44)
def F43o51 := [
 om 76 5,
 o3 77 (.bin .add) [.t 76, .i 1],
 om 5 77]
def F43c51 : Ac := (.ops F43o51)
def F43c38 : Ac := (.seq (.block 3 (so F43o41 F43c42)) F43c51)
def F43l31 : Ac := (.seq (so F43o34 F43c35) F43c38)
def F43c30 : Ac := (.block 2 (.loop (.seq (.gh []) (.seq (.keep [1, 2, 5] [[1], [2], [5, 15], [6, 15], [7, 15]]) F43l31))))
def F43o53 := [
 o3 117 (.faddr 3) [.t 2],
 o3 118 (.load none) [.t 117],
 o3 119 .lenL [.t 118],
 o3 120 (.faddr 4) [.t 2],
 o3 121 (.load none) [.t 120],
 o3 122 .lenL [.t 121],
 o3 123 (.faddr 5) [.t 2],
 o3 124 (.load none) [.t 123],
 o3 125 .lenL [.t 124],
 o3 126 (.build [.d (.int .i64 0), .d (.int .i64 0), .d (.int .i64 0)] [(0, 1), (1, 1), (2, 1)]) [.t 119, .t 122, .t 125],
 o3 8 (.alloc [.d (.int .i64 0), .d (.int .i64 0), .d (.int .i64 0)]) [],
 o0 (.store 3) [.t 8, .t 126]]
def F43o56 := [
 o3 9 .mv [.i 0]]
def F43o61 := [
 om 127 9,
 o3 128 (.faddr 7) [.t 1],
 o3 129 (.load none) [.t 128],
 o3 130 .lenL [.t 129],
 o3 131 (.bin .lss) [.t 127, .t 130],
 om 132 131,
 og 133 .mv [.t 9] 132 true,
 og 134 (.bin .lss) [.t 133, .i 4] 132 true,
 o3 135 .pick [.t 132, .t 134, .b false]]
def F43c62 : Ac := (cd 135 .skip (.exit 4))
def F43o68 := [
 o3 138 (.faddr 7) [.t 1],
 o3 139 (.load none) [.t 138],
 om 140 9,
 o3 141 (.iaddrS 4) [.t 139, .t 140],
 o3 142 (.load (some 4)) [.t 141],
 o3 10 (.alloc [.d (.int .i64 0), .d (.int .u16 0), .nils, .nils]) [],
 o0 (.store 4) [.t 10, .t 142]]
def F43o70 := [
 o3 143 (.faddr 0) [.t 10],
 o3 144 (.load none) [.t 143],
 o3 145 (.bin .and) [.t 144, .i 255],
 o3 146 (.faddr 3) [.t 2],
 o3 147 (.load none) [.t 146],
 o3 148 .lenL [.t 147],
 o3 149 (.bin .rem) [.t 145, .t 148],
 o3 150 (.bin .add) [.t 149, .i 1],
 o3 151 (.build [.d (.int .i64 0), .d (.int .u16 0), .nils, .nils] [(0, 1)]) [.t 150],
 o3 11 (.alloc [.d (.int .i64 0), .d (.int .u16 0), .nils, .nils]) [],
 o0 (.store 4) [.t 11, .t 151]]
def F43o72 := [
 o3 152 (.faddr 3) [.t 2],
 o3 153 (.load none) [.t 152],
 o3 154 (.faddr 0) [.t 11],
 o3 155 (.load none) [.t 154],
 o3 156 (.bin .sub) [.t 155, .i 1],
 o3 157 (.iaddrS 8) [.t 153, .t 156],
 o3 158 (.faddr 4) [.t 157],
 o3 159 (.load none) [.t 158],
 om 12 159]
def F43o74 := [
 o3 160 (.faddr 1) [.t 10],
 o3 161 (.load none) [.t 160],
 om 162 12,
 o3 163 (.bin .sub) [.t 162, .i 4],
 o3 164 (.toInt .u16) [.t 163],
 o3 165 (.bin .rem) [.t 161, .t 164],
 o3 166 (.faddr 1) [.t 11],
 o0 (.store 1) [.t 166, .t 165]]
def F43o76 := [
 o3 167 (.faddr 1) [.t 10],
 o3 168 (.load none) [.t 167],
 o3 169 (.toInt .u8) [.t 168],
 o3 170 (.bslice (.int .u8 0) 4 [0, 1, 2, 3]) [.t 169, .y 1, .y 2, .y 3],
 o3 171 (.faddr 2) [.t 10],
  { dst := some 172, k := (.load none), xs := [.t 171], av := [[170]] },
 o3 173 (.faddr 2) [.t 10],
  { dst := some 174, k := (.load none), xs := [.t 173], av := [[170]] },
 o3 175 .lenL [.t 174],
 om 176 12,
 o3 177 (.bin .sub) [.t 176, .i 4],
 o3 178 (.faddr 1) [.t 11],
  { dst := some 179, k := (.load none), xs := [.t 178], av := [[170]] },
 o3 180 (.toInt .i64) [.t 179],
 o3 181 (.bin .sub) [.t 177, .t 180],
 o3 182 .mn [.t 175, .t 181],
 o3 183 (.subsl 1 false true false) [.t 172, .t 182],
 o3 184 (.append 1 1 false) [.t 170, .t 183],
 o3 185 (.faddr 2) [.t 11],
 o0 (.store 1) [.t 185, .t 184]]
def F43o79 := [
 o3 13 .mv [.i 0]]
def F43o84 := [
 om 186 13,
 o3 187 (.faddr 3) [.t 10],
 o3 188 (.load none) [.t 187],
 o3 189 .lenL [.t 188],
 o3 190 (.bin .lss) [.t 186, .t 189],
 om 191 190,
 og 192 .mv [.t 13] 191 true,
 og 193 (.bin .lss) [.t 192, .i 3] 191 true,
 o3 194 .pick [.t 191, .t 193, .b false]]
def F43c85 : Ac := (cd 194 .skip (.exit 6))
def F43o90 := [
 o3 197 (.faddr 3) [.t 11],
  { dst := some 198, k := (.load none), xs := [.t 197], av := [[208], [209]] },
 o3 199 (.faddr 3) [.t 10],
 o3 200 (.load none) [.t 199],
 om 201 13,
 o3 202 (.iaddrS 8) [.t 200, .t 201],
 o3 203 (.load (some 8)) [.t 202],
 o3 204 (.faddr 2) [.t 11],
 o3 205 (.load none) [.t 204],
 o3 206 .lenL [.t 205],
 o3 207 (.load (some 3)) [.t 8],
  { dst := some 208, k := (.callf 89), xs := [.t 203, .t 206, .t 207], al := some [] },
 o3 209 (.bslice (.agg [.int .i64 0, .int .i64 0, .bool false, .int .i64 0, .int .i64 0, .int .i64 0, .int .i64 0, .int .u16 0]) 1 [0]) [.t 208],
 o3 210 (.append 8 64 false) [.t 198, .t 209],
 o3 211 (.faddr 3) [.t 11],
 o0 (.store 1) [.t 211, .t 210]]
def F43o91 := [
 om 195 13,
 o3 196 (.bin .add) [.t 195, .i 1],
 om 13 196]
def F43c91 : Ac := (.ops F43o91)
def F43c88 : Ac := (.seq (.block 7 (.ops F43o90)) F43c91)
def F43l81 : Ac := (.seq (so F43o84 F43c85) F43c88)
def F43c80 : Ac := (.block 6 (.loop (.seq (.gh []) (.seq (.keep [1, 2, 8, 9, 10, 11, 13] [[1], [2], [8], [10], [11], [170], [5, 15], [6, 15], [7, 15], [903, 11]]) F43l81))))
def F43o92 := [
 o3 212 (.faddr 7) [.t 2],
 o3 213 (.load none) [.t 212],
 o3 214 (.load (some 4)) [.t 11],
 o3 215 (.bslice (.agg [.int .i64 0, .int .u16 0, .sl [], .sl []]) 1 [0]) [.t 214],
 o3 216 (.append 4 64 false) [.t 213, .t 215],
 o3 217 (.faddr 7) [.t 2],
 o0 (.store 1) [.t 217, .t 216]]
def F43b92 : Ac := (.ops F43o92)
def F43c92 : Ac := (.seq (.gh []) (.seq (.keep [1, 2, 8, 9, 11] [[1], [2], [8], [11], [170], [5, 15], [6, 15], [7, 15], [903, 11]]) F43b92))
def F43c77 : Ac := (.seq (so F43o79 F43c80) F43c92)
def F43c75 : Ac := (so F43o76 F43c77)
def F43c73 : Ac := (so F43o74 F43c75)
def F43b71 : Ac := (so F43o72 F43c73)
def F43c71 : Ac := (.seq (.gh [.ownB [11] 3 [903, 11] 8]) (.seq (.keep [1, 2, 8, 9, 10, 11] [[1], [2], [8], [10], [11], [5, 15], [6, 15], [7, 15], [903, 11]]) F43b71))
def F43c69 : Ac := (so F43o70 F43c71)
def F43o93 := [
 om 136 9,
 o3 137 (.bin .add) [.t 136, .i 1],
 om 9 137]
def F43c93 : Ac := (.ops F43o93)
def F43c65 : Ac := (.seq (.block 5 (so F43o68 F43c69)) F43c93)
def F43l58 : Ac := (.seq (so F43o61 F43c62) F43c65)
def F43c57 : Ac := (.block 4 (.loop (.seq (.gh []) (.seq (.keep [1, 2, 8, 9] [[1], [2], [8], [5, 15], [6, 15], [7, 15]]) F43l58))))
def F43o95 := [
 o3 218 (.faddr 8) [.t 1],
 o3 219 (.load none) [.t 218],
 o3 220 (.faddr 9) [.t 1],
  { dst := some 221, k := (.load none), xs := [.t 220], av := [[2]] },
 o3 222 (.faddr 8) [.t 2],
  { dst := none, k := (.store 1), xs := [.t 222, .t 219], al := some [[2]] },
 o3 223 (.faddr 9) [.t 2],
 o0 (.store 1) [.t 223, .t 221]]
def F43o98 := [
 o3 224 (.faddr 9) [.t 2],
 o3 225 (.load none) [.t 224]]
def F43o101 := [
 o3 226 (.faddr 10) [.t 1],
 o3 227 (.load (some 8)) [.t 226],
 o3 228 (.load (some 3)) [.t 8],
 o3 229 (.callf 89) [.t 227, .i 4, .t 228],
 o3 230 (.faddr 10) [.t 2],
 o0 (.store 8) [.t 230, .t 229]]
def F43o103 := [
 o3 231 (.faddr 10) [.t 2],
 o3 232 (.faddr 1) [.t 231],
 o0 (.store 1) [.t 232, .i 0],
 o3 233 (.faddr 10) [.t 2],
 o3 234 (.faddr 0) [.t 233],
 o0 (.store 1) [.t 234, .i 0],
 o3 235 (.faddr 10) [.t 2],
 o3 236 (.faddr 2) [.t 235],
 o0 (.store 1) [.t 236, .b false]]
def F43o105 := [
 o3 237 (.faddr 10) [.t 2],
 o3 238 (.faddr 3) [.t 237],
 o3 239 (.load none) [.t 238],
 o3 240 (.bin .eql) [.t 239, .i 4]]
def F43o107 := [
 o3 241 (.faddr 10) [.t 2],
 o3 242 (.faddr 3) [.t 241],
 o0 (.store 1) [.t 242, .i 5]]
def F43c106 : Ac := (cd 240 (.ops F43o107) .skip)
def F43c104 : Ac := (so F43o105 F43c106)
def F43c102 : Ac := (so F43o103 F43c104)
def F43c99 : Ac := (cd 225 (so F43o101 F43c102) .skip)
def F43o111 := [
 o3 243 (.load (some 18)) [.t 2],
 o0 (.store 18) [.t 2, .t 243]]
def F43c112 : Ac := (.seq (.gh [.frzB [2] 7]) .ret)
def F43c110 : Ac := (so F43o111 F43c112)
def F43c96 : Ac := (.seq (so F43o98 F43c99) F43c110)
def F43b94 : Ac := (so F43o95 F43c96)
def F43c94 : Ac := (.seq (.gh []) (.seq (.keep [1, 2, 8] [[1], [2], [8], [5, 15], [6, 15], [7, 15]]) F43b94))
def F43c54 : Ac := (.seq (so F43o56 F43c57) F43c94)
def F43b52 : Ac := (so F43o53 F43c54)
def F43c52 : Ac := (.seq (.gh []) (.seq (.keep [1, 2] [[1], [2], [5, 15], [6, 15], [7, 15]]) F43b52))
def F43b27 : Ac := (.seq (so F43o29 F43c30) F43c52)
def F43c27 : Ac := (.seq (.gh []) (.seq (.keep [1, 2] [[1], [2], [5, 15], [6, 15], [7, 15]]) F43b27))
def F43c4 : Ac := (.seq (so F43o6 F43c7) F43c27)
def F43b2 : Ac := (so F43o3 F43c4)
def F43c2 : Ac := (.seq (.gh [.ownB [2] 5 [905, 2] 3, .ownB [2] 6 [906, 2] 5, .ownB [2] 7 [907, 2] 4]) (.seq (.keep [1, 2] [[1], [2], [905, 2], [906, 2], [907, 2]]) F43b2))
def F43c0 : Ac := (so F43o1 F43c2)
/-- hansom/hansomref26.Near -/
def F43 : Fn := { np := 1, pb := [], rs := [.c 2 (some 18)], body := F43c0 }
def F76o1 := [
 o3 4 (.alloc [.d (.str []), .nils, .nils, .nils, .nils, .nils, .nils, .nils, .d (.bool false), .d (.bool false), .d (.int .i64 0), .d (.int .i64 0), .d (.bool false), .d (.int .i64 0), .d (.int .i64 0), .d (.int .i64 0), .d (.int .i64 0), .d (.int .u16 0)]) []]
def F76o3 := [
 o3 8 (.build [.d (.str []), .nils, .nils, .nils, .nils, .nils, .nils, .nils, .d (.bool false), .d (.bool false), .d (.int .i64 0), .d (.int .i64 0), .d (.bool false), .d (.int .i64 0), .d (.int .i64 0), .d (.int .i64 0), .d (.int .i64 0), .d (.int .u16 0)] []) [],
 o3 9 (.callf 43) [.t 8],
 o3 5 (.alloc [.d (.str []), .nils, .nils, .nils, .nils, .nils, .nils, .nils, .d (.bool false), .d (.bool false), .d (.int .i64 0), .d (.int .i64 0), .d (.bool false), .d (.int .i64 0), .d (.int .i64 0), .d (.int .i64 0), .d (.int .i64 0), .d (.int .u16 0)]) [],
 o0 (.store 18) [.t 5, .t 9]]
def F76o6 := [
 o3 6 .mv [.i 0]]
def F76o11 := [
 om 10 6,
 om 11 0,
 o3 12 .lenL [.t 11],
 o3 13 (.bin .lss) [.t 10, .t 12]]
def F76c12 : Ac := (cd 13 .skip (.exit 0))
def F76o17 := [
 o3 16 (.faddr 5) [.t 5],
  { dst := some 17, k := (.load none), xs := [.t 16], av := [[23]] },
 om 18 0,
 om 19 6,
 o3 20 (.iaddrS 1) [.t 18, .t 19],
 o3 21 (.load none) [.t 20],
 o3 22 (.build [.d (.str []), .d (.int .i64 0), .d (.int .u32 0)] [(0, 1)]) [.t 21],
 o3 23 (.bslice (.agg [.str [], .int .i64 0, .int .u32 0]) 1 [0]) [.t 22],
 o3 24 (.append 3 32 false) [.t 17, .t 23],
 o3 25 (.faddr 5) [.t 5],
 o0 (.store 1) [.t 25, .t 24]]
def F76o18 := [
 om 14 6,
 o3 15 (.bin .add) [.t 14, .i 1],
 om 6 15]
def F76c18 : Ac := (.ops F76o18)
def F76c15 : Ac := (.seq (.block 1 (.ops F76o17)) F76c18)
def F76l8 : Ac := (.seq (so F76o11 F76c12) F76c15)
def F76c7 : Ac := (.block 0 (.loop (.seq (.gh []) (.seq (.keep [0, 1, 4, 5, 6] [[4], [5], [5, 9], [6, 9], [905, 4]]) F76l8))))
def F76o21 := [
 o3 7 .mv [.i 0]]
def F76o26 := [
 om 26 7,
 om 27 1,
 o3 28 .lenL [.t 27],
 o3 29 (.bin .lss) [.t 26, .t 28]]
def F76c27 : Ac := (cd 29 .skip (.exit 2))
def F76o32 := [
 o3 32 (.faddr 6) [.t 5],
  { dst := some 33, k := (.load none), xs := [.t 32], av := [[39]] },
 om 34 1,
 om 35 7,
 o3 36 (.iaddrS 1) [.t 34, .t 35],
 o3 37 (.load none) [.t 36],
 o3 38 (.build [.d (.int .i64 0), .d (.int .i64 0), .d (.int .u16 0), .d (.str []), .d (.int .u16 0)] [(1, 1), (3, 1)]) [.i 1, .t 37],
 o3 39 (.bslice (.agg [.int .i64 0, .int .i64 0, .int .u16 0, .str [], .int .u16 0]) 1 [0]) [.t 38],
 o3 40 (.append 5 48 false) [.t 33, .t 39],
 o3 41 (.faddr 6) [.t 5],
 o0 (.store 1) [.t 41, .t 40]]
def F76o33 := [
 om 30 7,
 o3 31 (.bin .add) [.t 30, .i 1],
 om 7 31]
def F76c33 : Ac := (.ops F76o33)
def F76c30 : Ac := (.seq (.block 3 (.ops F76o32)) F76c33)
def F76l23 : Ac := (.seq (so F76o26 F76c27) F76c30)
def F76c22 : Ac := (.block 2 (.loop (.seq (.gh []) (.seq (.keep [1, 4, 5, 7] [[4], [5], [5, 9], [6, 9], [905, 4]]) F76l23))))
def F76o35 := [
 o3 42 (.load (some 18)) [.t 5],
 o0 (.store 18) [.t 4, .t 42]]
def F76c36 : Ac := (.seq (.gh [.frzB [4] 6]) .ret)
def F76b34 : Ac := (so F76o35 F76c36)
def F76c34 : Ac := (.seq (.gh []) (.seq (.keep [4, 5] [[4], [5], [5, 9], [6, 9], [905, 4]]) F76b34))
def F76b19 : Ac := (.seq (so F76o21 F76c22) F76c34)
def F76c19 : Ac := (.seq (.gh []) (.seq (.keep [1, 4, 5] [[4], [5], [5, 9], [6, 9], [905, 4]]) F76b19))
def F76c4 : Ac := (.seq (so F76o6 F76c7) F76c19)
def F76b2 : Ac := (so F76o3 F76c4)
def F76c2 : Ac := (.seq (.gh [.ownB [4] 5 [905, 4] 3]) (.seq (.keep [0, 1, 4] [[4], [905, 4]]) F76b2))
def F76c0 : Ac := (so F76o1 F76c2)
/-- hansom/hansomlaw39.with -/
def F76 : Fn := { np := 2, pb := [], rs := [.c 4 (some 18)], body := F76c0 }
def F77o1 := [
 o3 3 (.box 1) [.t 1],
 o3 4 .mv [.i 0]]
def F77o3 := [
 om 5 0,
 o3 6 (.mkfn 108) [.t 3],
 o3 7 (.callf 107) [.t 5, .t 6],
 om 4 7]
def F77c4 : Ac := .ret
def F77c2 : Ac := (so F77o3 F77c4)
def F77c0 : Ac := (so F77o1 F77c2)
/-- hansom/pool.given -/
def F77 : Fn := { np := 2, pb := [], rs := [.t 4], body := F77c0 }
def F78o1 := [
 o3 4 .mv [.i 0]]
def F78o4 := [
 om 6 0,
 o3 7 .lenL [.t 6],
 o3 8 .mv [.i 0]]
def F78o8 := [
 o3 9 (.bin .lss) [.t 8, .t 7]]
def F78o16 := [
 om 10 8,
 om 5 10]
def F78o18 := [
 om 11 1,
 om 12 0,
 om 13 5,
 o3 14 (.iaddrS 3) [.t 12, .t 13],
 o3 15 (.load (some 3)) [.t 14],
 o3 16 .callv [.t 11, .t 15]]
def F78o21 := [
 om 17 5,
 om 4 17]
def F78c22 : Ac := .ret
def F78c19 : Ac := (cd 16 (so F78o21 F78c22) .skip)
def F78c17 : Ac := (so F78o18 F78c19)
def F78o24 := [
 o3 18 (.bin .add) [.t 8, .i 1],
 om 8 18]
def F78c24 : Ac := (.ops F78o24)
def F78c13 : Ac := (.seq (.block 1 (so F78o16 F78c17)) F78c24)
def F78c9 : Ac := (.seq (cd 9 .skip (.exit 0)) F78c13)
def F78l6 : Ac := (so F78o8 F78c9)
def F78c5 : Ac := (.block 0 (.loop (.seq (.gh []) (.seq (.keep [0, 1, 7, 8] [[0], [0, 1]]) F78l6))))
def F78o26 := [
 o3 4 .mv [.i (-1)]]
def F78c27 : Ac := .ret
def F78b25 : Ac := (so F78o26 F78c27)
def F78c25 : Ac := (.seq (.gh []) (.seq (.keep [] [[0], [0, 1]]) F78b25))
def F78c2 : Ac := (.seq (so F78o4 F78c5) F78c25)
def F78c0 : Ac := (so F78o1 F78c2)
/-- slices.IndexFunc[[]hansom/api.Ext,hansom/api.Ext] -/
def F78 : Fn := { np := 2, pb := [[0], [0, 1]], rs := [.t 4], body := F78c0 }
def F79o1 := [
 o3 2 (.box 3) [.t 0],
 o3 3 .mv [.b false]]
def F79o3 := [
 o3 4 (.faddr 0) [.t 2],
 o3 5 (.load none) [.t 4],
 o3 6 (.faddr 0) [.t 1],
 o3 7 (.load none) [.t 6],
 o3 8 (.bin .eql) [.t 5, .t 7],
 om 3 8]
def F79c4 : Ac := .ret
def F79c2 : Ac := (so F79o3 F79c4)
def F79c0 : Ac := (so F79o1 F79c2)
/-- hansom/pool.Made$1 -/
def F79 : Fn := { np := 2, pb := [[1]], rs := [.t 3], body := F79c0 }
def F80o1 := [
 o3 4 .mv [.b false]]
def F80o3 := [
 om 5 0,
 om 6 1,
 o3 7 (.callf 111) [.t 5, .t 6],
 o3 8 (.bin .geq) [.t 7, .i 0],
 om 4 8]
def F80c4 : Ac := .ret
def F80c2 : Ac := (so F80o3 F80c4)
def F80c0 : Ac := (so F80o1 F80c2)
/-- slices.Contains[[]string,string] -/
def F80 : Fn := { np := 2, pb := [], rs := [.t 4], body := F80c0 }
def F81o1 := [
 o3 4 .mv [.b false]]
def F81o3 := [
 om 5 0,
 om 6 1,
 o3 7 (.callf 78) [.l 5, .t 6],
 o3 8 (.bin .geq) [.t 7, .i 0],
 om 4 8]
def F81c4 : Ac := .ret
def F81c2 : Ac := (so F81o3 F81c4)
def F81c0 : Ac := (so F81o1 F81c2)
/-- slices.ContainsFunc[[]hansom/api.Ext,hansom/api.Ext] -/
def F81 : Fn := { np := 2, pb := [[0], [0, 1]], rs := [.t 4], body := F81c0 }
def F82o1 := [
 o3 2 (.box 3) [.t 0],
 o3 3 .mv [.b false]]
def F82o3 := [
 o3 4 (.faddr 0) [.t 2],
 o3 5 (.load none) [.t 4],
 o3 6 (.faddr 0) [.t 1],
 o3 7 (.load none) [.t 6],
 o3 8 (.bin .eql) [.t 5, .t 7],
 om 3 8]
def F82c4 : Ac := .ret
def F82c2 : Ac := (so F82o3 F82c4)
def F82c0 : Ac := (so F82o1 F82c2)
/-- hansom/pool.Lost$1 -/
def F82 : Fn := { np := 2, pb := [[1]], rs := [.t 3], body := F82c0 }
def F83o1 := [
 o3 4 .mv [.i 0]]
def F83o4 := [
 om 6 0,
 o3 7 .lenL [.t 6],
 o3 8 .mv [.i 0]]
def F83o8 := [
 o3 9 (.bin .lss) [.t 8, .t 7]]
def F83o16 := [
 om 10 8,
 om 5 10]
def F83o18 := [
 om 11 1,
 om 12 0,
 om 13 5,
 o3 14 (.iaddrS 5) [.t 12, .t 13],
 o3 15 (.load (some 5)) [.t 14],
 o3 16 .callv [.t 11, .t 15]]
def F83o21 := [
 om 17 5,
 om 4 17]
def F83c22 : Ac := .ret
def F83c19 : Ac := (cd 16 (so F83o21 F83c22) .skip)
def F83c17 : Ac := (so F83o18 F83c19)
def F83o24 := [
 o3 18 (.bin .add) [.t 8, .i 1],
 om 8 18]
def F83c24 : Ac := (.ops F83o24)
def F83c13 : Ac := (.seq (.block 1 (so F83o16 F83c17)) F83c24)
def F83c9 : Ac := (.seq (cd 9 .skip (.exit 0)) F83c13)
def F83l6 : Ac := (so F83o8 F83c9)
def F83c5 : Ac := (.block 0 (.loop (.seq (.gh []) (.seq (.keep [0, 1, 7, 8] [[0, 1]]) F83l6))))
def F83o26 := [
 o3 4 .mv [.i (-1)]]
def F83c27 : Ac := .ret
def F83b25 : Ac := (so F83o26 F83c27)
def F83c25 : Ac := (.seq (.gh []) (.seq (.keep [] [[0, 1]]) F83b25))
def F83c2 : Ac := (.seq (so F83o4 F83c5) F83c25)
def F83c0 : Ac := (so F83o1 F83c2)
/-- slices.IndexFunc[[]hansom/api.Pub,hansom/api.Pub] -/
def F83 : Fn := { np := 2, pb := [[0, 1]], rs := [.t 4], body := F83c0 }
def F84o1 := [
 o3 2 (.box 5) [.t 0],
 o3 3 .mv [.b false]]
def F84o3 := [
 o3 4 (.faddr 3) [.t 2],
 o3 5 (.load none) [.t 4],
 o3 6 (.load none) [.t 1],
 o3 7 (.bin .eql) [.t 5, .t 6],
 om 3 7]
def F84c4 : Ac := .ret
def F84c2 : Ac := (so F84o3 F84c4)
def F84c0 : Ac := (so F84o1 F84c2)
/-- hansom/pool.Find$1 -/
def F84 : Fn := { np := 2, pb := [[1]], rs := [.t 3], body := F84c0 }
def F85o1 := [
 o3 2 (.box 3) [.t 0],
 o3 3 .mv [.b false]]
def F85o3 := [
 o3 4 (.faddr 0) [.t 2],
 o3 5 (.load none) [.t 4],
 o3 6 (.load none) [.t 1],
 o3 7 (.bin .eql) [.t 5, .t 6],
 om 3 7]
def F85c4 : Ac := .ret
def F85c2 : Ac := (so F85o3 F85c4)
def F85c0 : Ac := (so F85o1 F85c2)
/-- hansom/pool.Find$2 -/
def F85 : Fn := { np := 2, pb := [[1]], rs := [.t 3], body := F85c0 }
def F87o1 := [
 o3 1 (.box 18) [.t 0],
 o3 2 (.alloc [.d (.str []), .nils, .nils, .nils, .nils, .nils, .nils, .nils, .d (.bool false), .d (.bool false), .d (.int .i64 0), .d (.int .i64 0), .d (.bool false), .d (.int .i64 0), .d (.int .i64 0), .d (.int .i64 0), .d (.int .i64 0), .d (.int .u16 0)]) []]
def F87o3 := [
 o3 12 (.faddr 0) [.t 1],
 o3 13 (.load none) [.t 12],
 o3 14 (.callf 88) [.t 13],
 o3 15 (.faddr 0) [.t 2],
 o0 (.store 1) [.t 15, .t 14]]
def F87o5 := [
 o3 16 (.bslice (.str []) 1 [0]) [.c (.d (.str []))],
 o3 17 (.faddr 2) [.t 2],
 o0 (.store 1) [.t 17, .t 16]]
def F87o8 := [
 o3 3 .mv [.i 0]]
def F87o13 := [
 om 18 3,
 o3 19 (.faddr 2) [.t 1],
 o3 20 (.load none) [.t 19],
 o3 21 .lenL [.t 20],
 o3 22 (.bin .lss) [.t 18, .t 21],
 om 23 22,
 og 24 .mv [.t 3] 23 true,
 og 25 (.bin .lss) [.t 24, .i 4] 23 true,
 o3 26 .pick [.t 23, .t 25, .b false]]
def F87c14 : Ac := (cd 26 .skip (.exit 0))
def F87o19 := [
 o3 29 (.faddr 2) [.t 2],
  { dst := some 30, k := (.load none), xs := [.t 29], av := [[36], [37]] },
 o3 31 (.faddr 2) [.t 1],
 o3 32 (.load none) [.t 31],
 om 33 3,
 o3 34 (.iaddrS 1) [.t 32, .t 33],
 o3 35 (.load none) [.t 34],
  { dst := some 36, k := (.callf 88), xs := [.t 35], al := some [] },
 o3 37 (.bslice (.str []) 1 [0]) [.t 36],
 o3 38 (.append 1 16 false) [.t 30, .t 37],
 o3 39 (.faddr 2) [.t 2],
 o0 (.store 1) [.t 39, .t 38]]
def F87o20 := [
 om 27 3,
 o3 28 (.bin .add) [.t 27, .i 1],
 om 3 28]
def F87c20 : Ac := (.ops F87o20)
def F87c17 : Ac := (.seq (.block 1 (.ops F87o19)) F87c20)
def F87l10 : Ac := (.seq (so F87o13 F87c14) F87c17)
def F87c9 : Ac := (.block 0 (.loop (.seq (.gh []) (.seq (.keep [1, 2, 3] [[1], [2], [16], [901, 2], [903, 2], [904, 2], [905, 2], [906, 2], [907, 2]]) F87l10))))
def F87o22 := [
 o3 40 (.faddr 2) [.t 2],
 o3 41 (.load none) [.t 40],
 o3 42 .lenL [.t 41],
 om 4 42]
def F87o25 := [
 o3 5 .mv [.i 0]]
def F87o30 := [
 om 43 5,
 o3 44 (.faddr 1) [.t 1],
 o3 45 (.load none) [.t 44],
 o3 46 .lenL [.t 45],
 o3 47 (.bin .lss) [.t 43, .t 46],
 om 48 47,
 og 49 .mv [.t 5] 48 true,
 og 50 (.bin .lss) [.t 49, .i 2] 48 true,
 o3 51 .pick [.t 48, .t 50, .b false]]
def F87c31 : Ac := (cd 51 .skip (.exit 2))
def F87o37 := [
 o3 54 (.faddr 1) [.t 1],
 o3 55 (.load none) [.t 54],
 om 56 5,
 o3 57 (.iaddrS 3) [.t 55, .t 56],
 o3 58 (.load (some 3)) [.t 57],
 o3 6 (.alloc [.d (.int .u8 0), .d (.int .u8 0), .d (.str [])]) [],
 o0 (.store 3) [.t 6, .t 58]]
def F87o39 := [
 o3 59 (.faddr 2) [.t 6],
 o3 60 (.load none) [.t 59],
 o3 61 (.callf 88) [.t 60],
 o3 62 (.faddr 2) [.t 6],
 o0 (.store 1) [.t 62, .t 61]]
def F87o40 := [
 o3 63 (.faddr 1) [.t 2],
 o3 64 (.load none) [.t 63],
 o3 65 (.load (some 3)) [.t 6],
 o3 66 (.bslice (.agg [.int .u8 0, .int .u8 0, .str []]) 1 [0]) [.t 65],
 o3 67 (.append 3 24 false) [.t 64, .t 66],
 o3 68 (.faddr 1) [.t 2],
 o0 (.store 1) [.t 68, .t 67]]
def F87c40 : Ac := (.ops F87o40)
def F87c38 : Ac := (so F87o39 F87c40)
def F87o41 := [
 om 52 5,
 o3 53 (.bin .add) [.t 52, .i 1],
 om 5 53]
def F87c41 : Ac := (.ops F87o41)
def F87c34 : Ac := (.seq (.block 3 (so F87o37 F87c38)) F87c41)
def F87l27 : Ac := (.seq (so F87o30 F87c31) F87c34)
def F87c26 : Ac := (.block 2 (.loop (.seq (.gh []) (.seq (.keep [1, 2, 4, 5] [[1], [2], [16], [901, 2], [903, 2], [904, 2], [905, 2], [906, 2], [907, 2]]) F87l27))))
def F87o44 := [
 o3 7 .mv [.i 0]]
def F87o49 := [
 om 69 7,
 o3 70 (.bin .eql) [.t 69, .i 0],
 om 71 70,
 og 72 .mv [.t 7] 71 false,
 og 73 (.faddr 3) [.t 1] 71 false,
 og 74 (.load none) [.t 73] 71 false,
 og 75 .lenL [.t 74] 71 false,
 og 76 (.bin .lss) [.t 72, .t 75] 71 false,
 og 77 .mv [.t 76] 71 false,
 og 78 .mv [.t 7] 77 true,
 og 79 (.bin .lss) [.t 78, .i 4] 77 true,
 og 80 .pick [.t 77, .t 79, .b false] 71 false,
 o3 81 .pick [.t 71, .b true, .t 80]]
def F87c50 : Ac := (cd 81 .skip (.exit 4))
def F87o56 := [
 o3 84 (.build [.d (.int .i64 0), .d (.int .i64 0), .d (.int .u16 0), .d (.int .u8 0), .d (.int .i64 0), .d (.int .i64 0), .d (.int .i64 0), .d (.int .i64 0)] []) [],
 o3 8 (.alloc [.d (.int .i64 0), .d (.int .i64 0), .d (.int .u16 0), .d (.int .u8 0), .d (.int .i64 0), .d (.int .i64 0), .d (.int .i64 0), .d (.int .i64 0)]) [],
 o0 (.store 8) [.t 8, .t 84]]
def F87o59 := [
 om 85 7,
 o3 86 (.faddr 3) [.t 1],
 o3 87 (.load none) [.t 86],
 o3 88 .lenL [.t 87],
 o3 89 (.bin .lss) [.t 85, .t 88]]
def F87o61 := [
 o3 90 (.faddr 3) [.t 1],
 o3 91 (.load none) [.t 90],
 om 92 7,
 o3 93 (.iaddrS 8) [.t 91, .t 92],
 o3 94 (.load (some 8)) [.t 93],
 o0 (.store 8) [.t 8, .t 94]]
def F87c60 : Ac := (cd 89 (.ops F87o61) .skip)
def F87o63 := [
 o3 95 (.faddr 3) [.t 2],
  { dst := some 96, k := (.load none), xs := [.t 95], av := [[101], [124]] },
 o3 97 (.faddr 0) [.t 8],
  { dst := some 98, k := (.load none), xs := [.t 97], av := [[101]] },
 o3 99 (.bin .and) [.t 98, .i 3],
 o3 100 (.bin .add) [.t 99, .i 1],
 o3 101 (.bslice (.int .i64 0) 4 [0, 1, 2, 3]) [.i 0, .i 2, .i 5, .i 6],
 o3 102 (.faddr 1) [.t 8],
  { dst := some 103, k := (.load none), xs := [.t 102], av := [[101]] },
 o3 104 (.bin .and) [.t 103, .i 3],
 o3 105 (.iaddrS 1) [.t 101, .t 104],
 o3 106 (.load none) [.t 105],
 o3 107 (.faddr 4) [.t 8],
  { dst := some 108, k := (.load none), xs := [.t 107], av := [[101]] },
 o3 109 (.bin .and) [.t 108, .i 63],
 o3 110 (.bin .add) [.t 109, .i 8],
 o3 111 (.faddr 5) [.t 8],
  { dst := some 112, k := (.load none), xs := [.t 111], av := [[101]] },
 o3 113 (.bin .and) [.t 112, .i 255],
 om 114 4,
 o3 115 (.bin .add) [.t 114, .i 1],
 o3 116 (.bin .rem) [.t 113, .t 115],
 o3 117 (.faddr 6) [.t 8],
  { dst := some 118, k := (.load none), xs := [.t 117], av := [[101]] },
 o3 119 (.bin .and) [.t 118, .i 255],
 om 120 4,
 o3 121 (.bin .add) [.t 120, .i 1],
 o3 122 (.bin .rem) [.t 119, .t 121],
 o3 123 (.build [.d (.int .i64 0), .d (.int .i64 0), .d (.int .u16 0), .d (.int .u8 0), .d (.int .i64 0), .d (.int .i64 0), .d (.int .i64 0), .d (.int .i64 0)] [(0, 1), (1, 1), (4, 1), (5, 1), (6, 1), (7, 1)]) [.t 100, .t 106, .t 110, .t 116, .t 122, .i 1],
 o3 124 (.bslice (.agg [.int .i64 0, .int .i64 0, .int .u16 0, .int .u8 0, .int .i64 0, .int .i64 0, .int .i64 0, .int .i64 0]) 1 [0]) [.t 123],
 o3 125 (.append 8 56 false) [.t 96, .t 124],
 o3 126 (.faddr 3) [.t 2],
 o0 (.store 1) [.t 126, .t 125]]
def F87b63 : Ac := (.ops F87o63)
def F87c63 : Ac := (.seq (.gh []) (.seq (.keep [1, 2, 4, 7, 8] [[1], [2], [8], [16], [901, 2], [903, 2], [904, 2], [905, 2], [906, 2], [907, 2]]) F87b63))
def F87c57 : Ac := (.seq (so F87o59 F87c60) F87c63)
def F87o64 := [
 om 82 7,
 o3 83 (.bin .add) [.t 82, .i 1],
 om 7 83]
def F87c64 : Ac := (.ops F87o64)
def F87b53 : Ac := (.seq (.block 5 (so F87o56 F87c57)) F87c64)
def F87c53 : Ac := (.seq (.gh []) (.seq (.keep [1, 2, 4, 7] [[1], [2], [16], [901, 2], [903, 2], [904, 2], [905, 2], [906, 2], [907, 2]]) F87b53))
def F87l46 : Ac := (.seq (so F87o49 F87c50) F87c53)
def F87c45 : Ac := (.block 4 (.loop (.seq (.gh []) (.seq (.keep [1, 2, 4, 7] [[1], [2], [16], [901, 2], [903, 2], [904, 2], [905, 2], [906, 2], [907, 2]]) F87l46))))
def F87o67 := [
 o3 9 .mv [.i 0]]
def F87o72 := [
 om 127 9,
 o3 128 (.faddr 4) [.t 1],
 o3 129 (.load none) [.t 128],
 o3 130 .lenL [.t 129],
 o3 131 (.bin .lss) [.t 127, .t 130],
 om 132 131,
 og 133 .mv [.t 9] 132 true,
 og 134 (.bin .lss) [.t 133, .i 2] 132 true,
 o3 135 .pick [.t 132, .t 134, .b false]]
def F87c73 : Ac := (cd 135 .skip (.exit 6))
def F87o79 := [
 o3 138 (.faddr 4) [.t 1],
 o3 139 (.load none) [.t 138],
 om 140 9,
 o3 141 (.iaddrS 2) [.t 139, .t 140],
 o3 142 (.faddr 0) [.t 141],
 o3 143 (.load none) [.t 142],
 o3 144 (.bin .and) [.t 143, .i 255],
 om 145 4,
 o3 146 (.bin .rem) [.t 144, .t 145],
 o3 147 (.bin .add) [.t 146, .i 1],
 o3 148 (.build [.d (.int .i64 0), .nils] [(0, 1)]) [.t 147],
 o3 10 (.alloc [.d (.int .i64 0), .nils]) [],
 o0 (.store 2) [.t 10, .t 148]]
def F87o82 := [
 o3 11 .mv [.i 0]]
def F87o87 := [
 om 149 11,
 o3 150 (.faddr 4) [.t 1],
 o3 151 (.load none) [.t 150],
 om 152 9,
 o3 153 (.iaddrS 2) [.t 151, .t 152],
 o3 154 (.faddr 1) [.t 153],
 o3 155 (.load none) [.t 154],
 o3 156 .lenL [.t 155],
 o3 157 (.bin .lss) [.t 149, .t 156],
 om 158 157,
 og 159 .mv [.t 11] 158 true,
 og 160 (.bin .lss) [.t 159, .i 3] 158 true,
 o3 161 .pick [.t 158, .t 160, .b false]]
def F87c88 : Ac := (cd 161 .skip (.exit 8))
def F87o93 := [
 o3 164 (.faddr 1) [.t 10],
  { dst := some 165, k := (.load none), xs := [.t 164], av := [[181]] },
 o3 166 (.faddr 4) [.t 1],
 o3 167 (.load none) [.t 166],
 om 168 9,
 o3 169 (.iaddrS 2) [.t 167, .t 168],
 o3 170 (.faddr 1) [.t 169],
 o3 171 (.load none) [.t 170],
 om 172 11,
 o3 173 (.iaddrS 1) [.t 171, .t 172],
 o3 174 (.load none) [.t 173],
 o3 175 (.bin .and) [.t 174, .i 255],
 o3 176 (.faddr 3) [.t 2],
 o3 177 (.load none) [.t 176],
 o3 178 .lenL [.t 177],
 o3 179 (.bin .rem) [.t 175, .t 178],
 o3 180 (.bin .add) [.t 179, .i 1],
 o3 181 (.bslice (.int .i64 0) 1 [0]) [.t 180],
 o3 182 (.append 1 8 false) [.t 165, .t 181],
 o3 183 (.faddr 1) [.t 10],
 o0 (.store 1) [.t 183, .t 182]]
def F87o94 := [
 om 162 11,
 o3 163 (.bin .add) [.t 162, .i 1],
 om 11 163]
def F87c94 : Ac := (.ops F87o94)
def F87c91 : Ac := (.seq (.block 9 (.ops F87o93)) F87c94)
def F87l84 : Ac := (.seq (so F87o87 F87c88) F87c91)
def F87c83 : Ac := (.block 8 (.loop (.seq (.gh []) (.seq (.keep [1, 2, 4, 9, 10, 11] [[1], [2], [10], [16], [901, 2], [901, 10], [903, 2], [904, 2], [905, 2], [906, 2], [907, 2]]) F87l84))))
def F87o95 := [
 o3 184 (.faddr 4) [.t 2],
 o3 185 (.load none) [.t 184],
 o3 186 (.load (some 2)) [.t 10],
 o3 187 (.bslice (.agg [.int .i64 0, .sl []]) 1 [0]) [.t 186],
 o3 188 (.append 2 32 false) [.t 185, .t 187],
 o3 189 (.faddr 4) [.t 2],
 o0 (.store 1) [.t 189, .t 188]]
def F87b95 : Ac := (.ops F87o95)
def F87c95 : Ac := (.seq (.gh []) (.seq (.keep [1, 2, 4, 9, 10] [[1], [2], [10], [16], [901, 2], [901, 10], [903, 2], [904, 2], [905, 2], [906, 2], [907, 2]]) F87b95))
def F87b80 : Ac := (.seq (so F87o82 F87c83) F87c95)
def F87c80 : Ac := (.seq (.gh [.ownB [10] 1 [901, 10] 1]) (.seq (.keep [1, 2, 4, 9, 10] [[1], [2], [10], [16], [901, 2], [901, 10], [903, 2], [904, 2], [905, 2], [906, 2], [907, 2]]) F87b80))
def F87o96 := [
 om 136 9,
 o3 137 (.bin .add) [.t 136, .i 1],
 om 9 137]
def F87c96 : Ac := (.ops F87o96)
def F87c76 : Ac := (.seq (.block 7 (so F87o79 F87c80)) F87c96)
def F87l69 : Ac := (.seq (so F87o72 F87c73) F87c76)
def F87c68 : Ac := (.block 6 (.loop (.seq (.gh []) (.seq (.keep [1, 2, 4, 9] [[1], [2], [16], [901, 2], [903, 2], [904, 2], [905, 2], [906, 2], [907, 2]]) F87l69))))
def F87o98 := [
 o3 190 (.load (some 18)) [.t 2],
 o0 (.store 18) [.t 2, .t 190]]
def F87c99 : Ac := (.seq (.gh [.frzB [2] 1, .frzB [2] 2, .frzB [2] 3, .frzB [2] 4]) .ret)
def F87b97 : Ac := (so F87o98 F87c99)
def F87c97 : Ac := (.seq (.gh []) (.seq (.keep [2] [[2], [16], [901, 2], [903, 2], [904, 2], [905, 2], [906, 2], [907, 2]]) F87b97))
def F87b65 : Ac := (.seq (so F87o67 F87c68) F87c97)
def F87c65 : Ac := (.seq (.gh []) (.seq (.keep [1, 2, 4] [[1], [2], [16], [901, 2], [903, 2], [904, 2], [905, 2], [906, 2], [907, 2]]) F87b65))
def F87b42 : Ac := (.seq (so F87o44 F87c45) F87c65)
def F87c42 : Ac := (.seq (.gh []) (.seq (.keep [1, 2, 4] [[1], [2], [16], [901, 2], [903, 2], [904, 2], [905, 2], [906, 2], [907, 2]]) F87b42))
def F87c23 : Ac := (.seq (so F87o25 F87c26) F87c42)
def F87b21 : Ac := (so F87o22 F87c23)
def F87c21 : Ac := (.seq (.gh []) (.seq (.keep [1, 2] [[1], [2], [16], [901, 2], [903, 2], [904, 2], [905, 2], [906, 2], [907, 2]]) F87b21))
def F87c6 : Ac := (.seq (so F87o8 F87c9) F87c21)
def F87c4 : Ac := (so F87o5 F87c6)
def F87b2 : Ac := (so F87o3 F87c4)
def F87c2 : Ac := (.seq (.gh [.ownB [2] 1 [901, 2] 3, .ownB [2] 2 [902, 2] 1, .ownB [2] 3 [903, 2] 8, .ownB [2] 4 [904, 2] 2, .ownB [2] 5 [905, 2] 3, .ownB [2] 6 [906, 2] 5, .ownB [2] 7 [907, 2] 4]) (.seq (.keep [1, 2] [[1], [2], [901, 2], [902, 2], [903, 2], [904, 2], [905, 2], [906, 2], [907, 2]]) F87b2))
def F87c0 : Ac := (so F87o1 F87c2)
/-- hansom/hansomref26.base -/
def F87 : Fn := { np := 1, pb := [], rs := [.c 2 (some 18)], body := F87c0 }
def F88o1 := [
 o3 2 .mv [.c (.d (.str []))]]
def F88o3 := [
 om 3 0,
 om 4 0,
 o3 5 .lenS [.t 4],
 o3 6 .mn [.t 5, .i 12],
 o3 7 (.substr false true) [.t 3, .t 6],
 om 2 7]
def F88c4 : Ac := .ret
def F88c2 : Ac := (so F88o3 F88c4)
def F88c0 : Ac := (so F88o1 F88c2)
/-- hansom/hansomref26.cut -/
def F88 : Fn := { np := 1, pb := [], rs := [.t 2], body := F88c0 }
def F89o1 := [
 o3 3 (.box 8) [.t 0],
 o3 5 (.box 3) [.t 2],
 o3 6 (.alloc [.d (.int .i64 0), .d (.int .i64 0), .d (.bool false), .d (.int .i64 0), .d (.int .i64 0), .d (.int .i64 0), .d (.int .i64 0), .d (.int .u16 0)]) []]
def F89o3 := [
 o3 7 (.faddr 1) [.t 3],
 o3 8 (.load none) [.t 7],
 o3 9 (.bin .and) [.t 8, .i 255],
 o3 10 (.bin .rem) [.t 9, .i 5],
 o3 11 (.faddr 1) [.t 6],
 o0 (.store 1) [.t 11, .t 10]]
def F89o5 := [
 o3 12 (.faddr 2) [.t 3],
 o3 13 (.load none) [.t 12],
 om 14 13,
 og 15 (.faddr 1) [.t 6] 14 true,
 og 16 (.load none) [.t 15] 14 true,
 og 17 (.bin .lss) [.t 16, .i 2] 14 true,
 o3 18 .pick [.t 14, .t 17, .b false],
 o3 19 (.faddr 2) [.t 6],
 o0 (.store 1) [.t 19, .t 18]]
def F89o7 := [
 o3 20 (.faddr 0) [.t 3],
  { dst := some 21, k := (.load none), xs := [.t 20], av := [[26]] },
 o3 22 (.bin .and) [.t 21, .i 65535],
 om 23 1,
 o3 24 (.faddr 1) [.t 6],
 o3 25 (.load none) [.t 24],
  { dst := some 26, k := (.callf 115), xs := [.t 25], al := some [] },
 o3 27 (.bin .sub) [.t 23, .t 26],
 o3 28 (.bin .add) [.t 27, .i 1],
 o3 29 .mn [.t 28, .i 1024],
 o3 30 (.bin .rem) [.t 22, .t 29],
 o3 31 (.faddr 0) [.t 6],
 o0 (.store 1) [.t 31, .t 30]]
def F89o9 := [
 o3 32 (.faddr 5) [.t 3],
 o3 33 (.load none) [.t 32],
 o3 34 (.bin .and) [.t 33, .i 255],
 o3 35 (.bin .rem) [.t 34, .i 3],
 o3 36 (.faddr 3) [.t 3],
  { dst := some 37, k := (.load none), xs := [.t 36], av := [[6]] },
 o3 38 (.bin .and) [.t 37, .i 255],
 o3 39 (.bin .rem) [.t 38, .i 5],
 o3 40 (.faddr 5) [.t 6],
  { dst := none, k := (.store 1), xs := [.t 40, .t 35], al := some [[6]] },
 o3 41 (.faddr 3) [.t 6],
 o0 (.store 1) [.t 41, .t 39]]
def F89o15 := [
 o3 42 (.faddr 5) [.t 6],
 o3 43 (.load none) [.t 42],
 o3 44 (.iaddrA 3 1) [.t 5, .t 43],
 o3 45 (.load none) [.t 44],
 o3 46 (.bin .eql) [.t 45, .i 0]]
def F89c16 : Ac := (cd 46 .skip (.exit 0))
def F89o20 := [
 o3 47 (.faddr 5) [.t 6],
 o3 48 (.load none) [.t 47],
 o3 49 (.bin .add) [.t 48, .i 1],
 o3 50 (.bin .rem) [.t 49, .i 3],
 o3 51 (.faddr 5) [.t 6],
 o0 (.store 1) [.t 51, .t 50]]
def F89c19 : Ac := (.block 1 (.ops F89o20))
def F89l12 : Ac := (.seq (so F89o15 F89c16) F89c19)
def F89o23 := [
 o3 52 (.faddr 3) [.t 6],
 o3 53 (.load none) [.t 52],
 o3 54 (.bin .eql) [.t 53, .i 3]]
def F89o25 := [
 o3 55 (.faddr 3) [.t 6],
 o0 (.store 1) [.t 55, .i 5]]
def F89c24 : Ac := (cd 54 (.ops F89o25) .skip)
def F89o29 := [
 o3 56 (.faddr 3) [.t 6],
 o3 57 (.load none) [.t 56],
 o3 58 (.bin .lss) [.t 57, .i 3],
 om 59 58,
 og 60 (.faddr 3) [.t 6] 59 true,
 og 61 (.load none) [.t 60] 59 true,
 og 62 (.iaddrA 3 1) [.t 5, .t 61] 59 true,
 og 63 (.load none) [.t 62] 59 true,
 og 64 (.bin .eql) [.t 63, .i 0] 59 true,
 o3 65 .pick [.t 59, .t 64, .b false]]
def F89o31 := [
 o3 66 (.faddr 3) [.t 6],
 o0 (.store 1) [.t 66, .i 5]]
def F89c30 : Ac := (cd 65 (.ops F89o31) .skip)
def F89o34 := [
 o3 67 (.faddr 6) [.t 3],
 o3 68 (.load none) [.t 67],
 o3 69 (.bin .and) [.t 68, .i 255],
 o3 70 (.faddr 5) [.t 6],
 o3 71 (.load none) [.t 70],
 o3 72 (.iaddrA 3 1) [.t 5, .t 71],
 o3 73 (.load none) [.t 72],
 o3 74 (.bin .rem) [.t 69, .t 73],
 o3 75 (.bin .add) [.t 74, .i 1],
 o3 76 (.faddr 6) [.t 6],
 o0 (.store 1) [.t 76, .t 75]]
def F89o37 := [
 o3 77 (.faddr 3) [.t 6],
 o3 78 (.load none) [.t 77],
 o3 79 (.bin .lss) [.t 78, .i 3]]
def F89o39 := [
 o3 80 (.faddr 4) [.t 3],
 o3 81 (.load none) [.t 80],
 o3 82 (.bin .and) [.t 81, .i 255],
 o3 83 (.faddr 3) [.t 6],
 o3 84 (.load none) [.t 83],
 o3 85 (.iaddrA 3 1) [.t 5, .t 84],
 o3 86 (.load none) [.t 85],
 o3 87 (.bin .rem) [.t 82, .t 86],
 o3 88 (.bin .add) [.t 87, .i 1],
 o3 89 (.faddr 4) [.t 6],
 o0 (.store 1) [.t 89, .t 88]]
def F89c38 : Ac := (cd 79 (.ops F89o39) .skip)
def F89o42 := [
 o3 90 (.faddr 7) [.t 3],
 o3 91 (.load none) [.t 90],
 o3 92 (.faddr 7) [.t 6],
 o0 (.store 1) [.t 92, .t 91]]
def F89o44 := [
 o3 93 (.load (some 8)) [.t 6],
 o0 (.store 8) [.t 6, .t 93]]
def F89c45 : Ac := .ret
def F89c43 : Ac := (so F89o44 F89c45)
def F89c41 : Ac := (so F89o42 F89c43)
def F89c35 : Ac := (.seq (so F89o37 F89c38) F89c41)
def F89b33 : Ac := (so F89o34 F89c35)
def F89c33 : Ac := (.seq (.gh []) (.seq (.keep [3, 5, 6] [[3], [5], [6]]) F89b33))
def F89b27 : Ac := (.seq (so F89o29 F89c30) F89c33)
def F89c27 : Ac := (.seq (.gh []) (.seq (.keep [3, 5, 6] [[3], [5], [6]]) F89b27))
def F89b21 : Ac := (.seq (so F89o23 F89c24) F89c27)
def F89c21 : Ac := (.seq (.gh []) (.seq (.keep [3, 5, 6] [[3], [5], [6]]) F89b21))
def F89c10 : Ac := (.seq (.block 0 (.loop (.seq (.gh []) (.seq (.keep [3, 5, 6] [[3], [5], [6]]) F89l12)))) F89c21)
def F89c8 : Ac := (so F89o9 F89c10)
def F89b6 : Ac := (so F89o7 F89c8)
def F89c6 : Ac := (.seq (.gh []) (.seq (.keep [1, 3, 5, 6] [[3], [5], [6]]) F89b6))
def F89c4 : Ac := (so F89o5 F89c6)
def F89c2 : Ac := (so F89o3 F89c4)
def F89c0 : Ac := (so F89o1 F89c2)
/-- hansom/hansomref25.Near -/
def F89 : Fn := { np := 3, pb := [], rs := [.c 6 (some 8)], body := F89c0 }
def F107o1 := [
 o3 4 .mv [.i 0]]
def F107o4 := [
 om 6 0,
 o3 7 .lenL [.t 6],
 o3 8 .mv [.i 0]]
def F107o8 := [
 o3 9 (.bin .lss) [.t 8, .t 7]]
def F107o16 := [
 om 10 8,
 om 5 10]
def F107o18 := [
 om 11 1,
 om 12 0,
 om 13 5,
 o3 14 (.iaddrS 18) [.t 12, .t 13],
 o3 15 (.load (some 18)) [.t 14],
 o3 16 .callv [.t 11, .t 15]]
def F107o21 := [
 om 17 5,
 om 4 17]
def F107c22 : Ac := .ret
def F107c19 : Ac := (cd 16 (so F107o21 F107c22) .skip)
def F107c17 : Ac := (so F107o18 F107c19)
def F107o24 := [
 o3 18 (.bin .add) [.t 8, .i 1],
 om 8 18]
def F107c24 : Ac := (.ops F107o24)
def F107c13 : Ac := (.seq (.block 1 (so F107o16 F107c17)) F107c24)
def F107c9 : Ac := (.seq (cd 9 .skip (.exit 0)) F107c13)
def F107l6 : Ac := (so F107o8 F107c9)
def F107c5 : Ac := (.block 0 (.loop (.seq (.gh []) (.seq (.keep [0, 1, 7, 8] [[0, 1]]) F107l6))))
def F107o26 := [
 o3 4 .mv [.i (-1)]]
def F107c27 : Ac := .ret
def F107b25 : Ac := (so F107o26 F107c27)
def F107c25 : Ac := (.seq (.gh []) (.seq (.keep [] [[0, 1]]) F107b25))
def F107c2 : Ac := (.seq (so F107o4 F107c5) F107c25)
def F107c0 : Ac := (so F107o1 F107c2)
/-- slices.IndexFunc[[]hansom/api.Module,hansom/api.Module] -/
def F107 : Fn := { np := 2, pb := [[0, 1]], rs := [.t 4], body := F107c0 }
def F108o1 := [
 o3 2 (.box 18) [.t 0],
 o3 3 .mv [.b false]]
def F108o3 := [
 o3 4 (.faddr 6) [.t 2],
 o3 5 (.load none) [.t 4],
 o3 6 (.mkfn 110) [.t 1],
 o3 7 (.callf 109) [.t 5, .t 6],
 om 3 7]
def F108c4 : Ac := .ret
def F108c2 : Ac := (so F108o3 F108c4)
def F108c0 : Ac := (so F108o1 F108c2)
/-- hansom/pool.given$1 -/
def F108 : Fn := { np := 2, pb := [[1]], rs := [.t 3], body := F108c0 }
def F109o1 := [
 o3 4 .mv [.b false]]
def F109o3 := [
 om 5 0,
 om 6 1,
 o3 7 (.callf 83) [.t 5, .t 6],
 o3 8 (.bin .geq) [.t 7, .i 0],
 om 4 8]
def F109c4 : Ac := .ret
def F109c2 : Ac := (so F109o3 F109c4)
def F109c0 : Ac := (so F109o1 F109c2)
/-- slices.ContainsFunc[[]hansom/api.Pub,hansom/api.Pub] -/
def F109 : Fn := { np := 2, pb := [[0, 1]], rs := [.t 4], body := F109c0 }
def F110o1 := [
 o3 2 (.box 5) [.t 0],
 o3 3 .mv [.b false]]
def F110o3 := [
 o3 4 (.faddr 3) [.t 2],
 o3 5 (.load none) [.t 4],
 o3 6 (.load none) [.t 1],
 o3 7 (.bin .eql) [.t 5, .t 6],
 om 3 7]
def F110c4 : Ac := .ret
def F110c2 : Ac := (so F110o3 F110c4)
def F110c0 : Ac := (so F110o1 F110c2)
/-- hansom/pool.given$1$1 -/
def F110 : Fn := { np := 2, pb := [[1]], rs := [.t 3], body := F110c0 }
def F111o1 := [
 o3 4 .mv [.i 0]]
def F111o4 := [
 om 6 0,
 o3 7 .lenL [.t 6],
 o3 8 .mv [.i 0]]
def F111o8 := [
 o3 9 (.bin .lss) [.t 8, .t 7]]
def F111o16 := [
 om 10 8,
 om 5 10]
def F111o18 := [
 om 11 1,
 om 12 0,
 om 13 5,
 o3 14 (.iaddrS 1) [.t 12, .t 13],
 o3 15 (.load none) [.t 14],
 o3 16 (.bin .eql) [.t 11, .t 15]]
def F111o21 := [
 om 17 5,
 om 4 17]
def F111c22 : Ac := .ret
def F111c19 : Ac := (cd 16 (so F111o21 F111c22) .skip)
def F111c17 : Ac := (so F111o18 F111c19)
def F111o24 := [
 o3 18 (.bin .add) [.t 8, .i 1],
 om 8 18]
def F111c24 : Ac := (.ops F111o24)
def F111c13 : Ac := (.seq (.block 1 (so F111o16 F111c17)) F111c24)
def F111c9 : Ac := (.seq (cd 9 .skip (.exit 0)) F111c13)
def F111l6 : Ac := (so F111o8 F111c9)
def F111c5 : Ac := (.block 0 (.loop (.seq (.gh []) (.seq (.keep [0, 1, 7, 8] []) F111l6))))
def F111o26 := [
 o3 4 .mv [.i (-1)]]
def F111c27 : Ac := .ret
def F111b25 : Ac := (so F111o26 F111c27)
def F111c25 : Ac := (.seq (.gh []) (.seq (.keep [] []) F111b25))
def F111c2 : Ac := (.seq (so F111o4 F111c5) F111c25)
def F111c0 : Ac := (so F111o1 F111c2)
/-- slices.Index[[]string,string] -/
def F111 : Fn := { np := 2, pb := [], rs := [.t 4], body := F111c0 }
def F115o1 := [
 o3 2 .mv [.i 0]]
def F115o4 := [
 om 3 0,
 o3 4 (.bin .eql) [.t 3, .i 0],
 om 5 4,
 og 6 .mv [.t 0] 5 false,
 og 7 (.bin .eql) [.t 6, .i 4] 5 false,
 o3 8 .pick [.t 5, .b true, .t 7]]
def F115o7 := [
 o3 2 .mv [.i 1]]
def F115c8 : Ac := .ret
def F115c5 : Ac := (cd 8 (so F115o7 F115c8) .skip)
def F115o12 := [
 om 9 0,
 o3 10 (.bin .eql) [.t 9, .i 3]]
def F115o15 := [
 o3 2 .mv [.i 4]]
def F115c16 : Ac := .ret
def F115c13 : Ac := (cd 10 (so F115o15 F115c16) .skip)
def F115o19 := [
 o3 2 .mv [.i 2]]
def F115c20 : Ac := .ret
def F115c18 : Ac := (so F115o19 F115c20)
def F115c10 : Ac := (.seq (so F115o12 F115c13) F115c18)
def F115c2 : Ac := (.seq (so F115o4 F115c5) F115c10)
def F115c0 : Ac := (so F115o1 F115c2)
/-- hansom/hansomref25.Size -/
def F115 : Fn := { np := 1, pb := [], rs := [.t 2], body := F115c0 }
def hints : Nat → Nat → Hint
  | 43, 7 => [(10, [[4]], none), (14, [[4]], none), (17, [], some [[4]])]
  | 43, 13 => [(1, [[101], [7]], none), (4, [[101], [7]], none), (9, [[101], [7]], none), (12, [[101], [7]], none), (17, [[7]], none), (18, [[7]], some []), (20, [[101], [7]], none), (22, [[101]], none)]
  | 43, 25 => [(5, [[170]], none), (7, [[170]], none), (12, [[170]], none)]
  | 43, 29 => [(1, [[208], [209]], none), (11, [], some [])]
  | 43, 31 => [(3, [[2]], none), (5, [], some [[2]])]
  | 65, 11 => [(1, [[36], [0], [0, 0], [37]], none), (5, [], some [[0], [0, 0]])]
  | 76, 5 => [(1, [[23]], none)]
  | 76, 9 => [(1, [[39]], none)]
  | 86, 12 => [(1, [[51]], none), (2, [[51]], none), (3, [[51]], some [[14], [48]]), (5, [[47], [48], [14]], none), (6, [[47], [48], [14]], none)]
  | 87, 6 => [(1, [[36], [37]], none), (7, [], some [])]
  | 87, 20 => [(1, [[101], [124]], none), (3, [[101]], none), (8, [[101]], none), (13, [[101]], none), (17, [[101]], none), (23, [[101]], none)]
  | 87, 28 => [(1, [[181]], none)]
  | 89, 3 => [(1, [[26]], none), (6, [], some [])]
  | 89, 4 => [(5, [[6]], none), (9, [], some [[6]])]
  | 128, 14 => [(2, [[67]], none), (8, [], some [])]
  | 130, 13 => [(5, [[44]], none)]
  | 132, 1 => [(20, [[29]], none), (24, [], some [])]
  | 138, 3 => [(3, [[6]], none), (8, [[6]], none), (11, [[6]], some []), (16, [[42]], none)]
  | 153, 7 => [(5, [[31]], none)]
  | 153, 15 => [(5, [[70]], none)]
  | 153, 19 => [(5, [[90]], none)]
  | 156, 11 => [(0, [[47], [0, 13], [13]], none), (2, [], some [[0, 13], [13]])]
  | 175, 6 => [(1, [[23], [0, 8], [8], [24]], none), (3, [], some [[0, 8], [8]])]
  | _, _ => []
def keepf : Nat → Keeps
  | 13, 3 => some ([0, 4, 5], [[0, 10], [6], [10], [48], [49]])
  | 21, 3 => some ([0, 2, 4, 5], [[0, 11], [0, 27], [1, 6], [1, 21], [2], [2, 2], [2, 5], [2, 6], [2, 21], [3, 2], [3, 5], [5], [6], [11], [57]])
  | 26, 5 => some ([0, 1, 4, 21, 22, 23], [[0, 29], [1], [1, 1], [1, 6], [2, 1], [2, 6], [6], [19], [34], [39]])
  | 28, 3 => some ([0, 1, 3, 10, 11, 12], [[1], [1, 1], [1, 5], [2, 1], [2, 5], [5]])
  | 37, 3 => some ([0, 3, 9, 10, 11], [[1, 5], [2, 5], [3, 5], [4, 5], [5], [5, 5], [6, 5], [7], [7, 5], [39], [40]])
  | 37, 6 => some ([0, 3, 9, 10, 11, 16, 17, 18], [[1, 5], [2, 5], [3, 5], [4, 5], [5], [5, 5], [6, 5], [7], [7, 5], [39], [40]])
  | 38, 3 => some ([0, 3, 8, 9, 10], [[1, 5], [2, 5], [3, 5], [4, 5], [5], [5, 5], [6, 5], [7], [7, 5], [28], [29]])
  | 38, 6 => some ([0, 3, 8, 9, 10, 15, 16, 17], [[1, 5], [2, 5], [3, 5], [4, 5], [5], [5, 5], [6, 5], [7], [7, 5], [28], [29]])
  | 40, 4 => some ([0, 3, 4, 11, 12, 13], [[1, 6], [2, 6], [3, 6], [4, 6], [5, 6], [6], [6, 6], [7, 6], [8], [10], [43], [44]])
  | 40, 7 => some ([0, 3, 4, 11, 12, 13, 18, 19, 20], [[1, 6], [2, 6], [3, 6], [4, 6], [5, 6], [6], [6, 6], [7, 6], [8], [10], [43], [44]])
  | 43, 3 => some ([0, 1, 2, 3], [[1], [1, 1], [1, 2], [1, 15], [2], [2, 1], [2, 2], [2, 10], [2, 11], [2, 15], [3, 1], [3, 2], [3, 10], [3, 11], [3, 15], [4], [4, 1], [4, 2], [4, 15], [5, 1], [5, 2], [5, 15], [6], [6, 1], [6, 2], [6, 15], [7], [7, 1], [7, 2], [7, 15], [8], [10], [11], [64], [65], [114], [115], [170], [184], [209], [210], [215], [216]])
  | 43, 10 => some ([0, 1, 2, 5], [[1], [1, 1], [1, 2], [1, 15], [2], [2, 1], [2, 2], [2, 10], [2, 11], [2, 15], [3, 1], [3, 2], [3, 10], [3, 11], [3, 15], [4], [4, 1], [4, 2], [4, 15], [5, 1], [5, 2], [5, 15], [6], [6, 1], [6, 2], [6, 15], [7], [7, 1], [7, 2], [7, 15], [8], [10], [11], [64], [65], [114], [115], [170], [184], [209], [210], [215], [216]])
  | 43, 19 => some ([0, 1, 2, 8, 9], [[1], [1, 1], [1, 2], [1, 15], [2], [2, 1], [2, 2], [2, 10], [2, 11], [2, 15], [3, 1], [3, 2], [3, 10], [3, 11], [3, 15], [4], [4, 1], [4, 2], [4, 15], [5, 1], [5, 2], [5, 15], [6], [6, 1], [6, 2], [6, 15], [7], [7, 1], [7, 2], [7, 15], [8], [10], [11], [64], [65], [114], [115], [170], [184], [209], [210], [215], [216]])
  | 43, 27 => some ([0, 1, 2, 8, 9, 10, 11, 13], [[1], [1, 1], [1, 2], [1, 15], [2], [2, 1], [2, 2], [2, 10], [2, 11], [2, 15], [3, 1], [3, 2], [3, 10], [3, 11], [3, 15], [4], [4, 1], [4, 2], [4, 15], [5, 1], [5, 2], [5, 15], [6], [6, 1], [6, 2], [6, 15], [7], [7, 1], [7, 2], [7, 15], [8], [10], [11], [64], [65], [114], [115], [170], [184], [209], [210], [215], [216]])
  | 46, 4 => some ([0, 1, 15, 16, 17], [[1], [1, 1], [1, 6], [2, 1], [3, 1], [4], [4, 1], [5, 1], [6], [6, 1], [7, 1], [10]])
  | 46, 12 => some ([0, 1, 45, 46, 47], [[1], [1, 1], [1, 6], [2, 1], [3, 1], [4], [4, 1], [5, 1], [6], [6, 1], [7, 1], [10]])
  | 46, 17 => some ([0, 1, 45, 46, 47, 57, 58, 59], [[1], [1, 1], [1, 6], [2, 1], [3, 1], [4], [4, 1], [5, 1], [6], [6, 1], [7, 1], [10]])
  | 46, 24 => some ([0, 1, 72, 73, 74], [[1], [1, 1], [1, 6], [2, 1], [3, 1], [4], [4, 1], [5, 1], [6], [6, 1], [7, 1], [10]])
  | 55, 10 => some ([0, 5, 26, 27, 28], [[26]])
  | 59, 6 => some ([0, 4, 5, 6], [[0, 10], [5], [7], [10], [36], [37]])
  | 65, 9 => some ([0, 1, 4, 5, 25, 26], [[1, 4], [1, 5], [1, 36], [2, 4], [2, 5], [2, 36], [4], [5], [22], [37], [38]])
  | 68, 8 => some ([0, 1, 7, 8], [[30]])
  | 69, 8 => some ([0, 1, 44, 45, 46], [[1, 2], [1, 6], [2], [2, 2], [2, 6], [6]])
  | 76, 3 => some ([0, 1, 4, 5, 6], [[1, 4], [1, 5], [1, 9], [2, 4], [2, 5], [2, 9], [3, 4], [3, 5], [3, 9], [4], [4, 4], [4, 5], [4, 9], [5], [5, 4], [5, 5], [5, 9], [6, 4], [6, 5], [6, 9], [7, 4], [7, 5], [7, 9], [23], [24], [39], [40]])
  | 76, 7 => some ([0, 1, 4, 5, 7], [[1, 4], [1, 5], [1, 9], [2, 4], [2, 5], [2, 9], [3, 4], [3, 5], [3, 9], [4], [4, 4], [4, 5], [4, 9], [5], [5, 4], [5, 5], [5, 9], [6, 4], [6, 5], [6, 9], [7, 4], [7, 5], [7, 9], [23], [24], [39], [40]])
  | 78, 2 => some ([0, 1, 7, 8], [])
  | 83, 2 => some ([0, 1, 7, 8], [])
  | 86, 3 => some ([0, 1, 6, 7], [[1, 0, 28], [1, 9], [2, 0, 28], [2, 9], [3, 0, 28], [3, 9], [4, 0, 28], [4, 9], [5, 0, 28], [5, 9], [6, 0, 28], [6, 9], [7, 0, 28], [7, 9], [9], [10], [14], [19], [47], [48], [51], [52]])
  | 87, 4 => some ([0, 1, 2, 3], [[1], [1, 1], [1, 2], [1, 10], [2], [2, 1], [2, 2], [3, 1], [3, 2], [4, 1], [4, 2], [5, 1], [5, 2], [6], [6, 1], [6, 2], [7, 1], [7, 2], [8], [10], [16], [37], [38], [66], [67], [101], [124], [125], [181], [182], [187], [188]])
  | 87, 9 => some ([0, 1, 2, 4, 5], [[1], [1, 1], [1, 2], [1, 10], [2], [2, 1], [2, 2], [3, 1], [3, 2], [4, 1], [4, 2], [5, 1], [5, 2], [6], [6, 1], [6, 2], [7, 1], [7, 2], [8], [10], [16], [37], [38], [66], [67], [101], [124], [125], [181], [182], [187], [188]])
  | 87, 15 => some ([0, 1, 2, 4, 7], [[1], [1, 1], [1, 2], [1, 10], [2], [2, 1], [2, 2], [3, 1], [3, 2], [4, 1], [4, 2], [5, 1], [5, 2], [6], [6, 1], [6, 2], [7, 1], [7, 2], [8], [10], [16], [37], [38], [66], [67], [101], [124], [125], [181], [182], [187], [188]])
  | 87, 22 => some ([0, 1, 2, 4, 9], [[1], [1, 1], [1, 2], [1, 10], [2], [2, 1], [2, 2], [3, 1], [3, 2], [4, 1], [4, 2], [5, 1], [5, 2], [6], [6, 1], [6, 2], [7, 1], [7, 2], [8], [10], [16], [37], [38], [66], [67], [101], [124], [125], [181], [182], [187], [188]])
  | 87, 26 => some ([0, 1, 2, 4, 9, 10, 11], [[1], [1, 1], [1, 2], [1, 10], [2], [2, 1], [2, 2], [3, 1], [3, 2], [4, 1], [4, 2], [5, 1], [5, 2], [6], [6, 1], [6, 2], [7, 1], [7, 2], [8], [10], [16], [37], [38], [66], [67], [101], [124], [125], [181], [182], [187], [188]])
  | 89, 5 => some ([0, 1, 2, 3, 5, 6], [[3], [5], [6]])
  | 92, 10 => some ([0, 2, 6, 8], [[1, 0, 15], [1, 0, 46], [1, 2], [1, 5], [1, 8], [1, 9], [2], [2, 2], [2, 8], [3, 2], [3, 8], [4, 2], [4, 8], [5], [5, 2], [5, 8], [6, 2], [6, 8], [7, 2], [7, 8], [8], [9]])
  | 94, 8 => some ([0, 60, 61], [[1]])
  | 97, 2 => some ([0, 1, 8, 9, 10], [[1], [1, 1], [2, 1], [2, 4], [3, 1], [3, 4], [4], [4, 1], [5, 1], [6], [6, 1], [7, 1], [77]])
  | 97, 9 => some ([0, 1, 4, 8, 9, 10, 45, 46, 47], [[1], [1, 1], [2, 1], [2, 4], [3, 1], [3, 4], [4], [4, 1], [5, 1], [6], [6, 1], [7, 1], [77]])
  | 107, 2 => some ([0, 1, 7, 8], [])
  | 111, 2 => some ([0, 1, 7, 8], [])
  | 113, 2 => some ([0, 1, 4, 5, 13, 14, 15], [[1, 0, 28], [1, 4], [1, 11], [2, 0, 28], [2, 4], [2, 11], [3, 0, 28], [3, 4], [3, 11], [4], [4, 0, 28], [4, 4], [4, 11], [5], [5, 0, 28], [5, 4], [5, 11], [6, 0, 28], [6, 4], [6, 11], [7, 0, 28], [7, 4], [7, 11], [11]])
  | 131, 2 => some ([0, 1, 2, 7, 8, 9], [[1, 2], [2], [2, 2], [3, 2], [4, 2], [5, 2], [6], [6, 2], [7, 2]])
  | 139, 2 => some ([0, 1, 3, 7, 8], [[3]])
  | 152, 3 => some ([0, 3, 6, 7, 8], [])
  | 171, 6 => some ([0, 1, 5, 6, 22, 23], [[5]])
  | 171, 9 => some ([0, 1, 5, 6, 7, 22, 23, 27], [[5]])
  | 173, 3 => some ([0, 4, 5], [[0, 8], [8], [15], [16]])
  | 175, 3 => some ([0, 2, 4, 5], [[0, 8], [1, 2], [1, 5], [2], [5], [8], [24], [25]])
  | 176, 3 => some ([0, 4, 5], [[0, 8], [8], [16], [17]])
  | 177, 3 => some ([0, 1, 2, 5, 7, 9, 10], [[0, 14], [5], [7], [14], [33], [34]])
  | 184, 5 => some ([0, 1, 4, 5, 6, 7, 8, 9, 19, 20], [[4], [16]])
  | _, _ => none
def spf : Nat → Bool := fun n => [67, 112, 1000010, 1000036, 1000037, 1000038, 1000039, 1000040, 1000041, 1000043, 1000076, 1000077, 1000079, 1000080, 1000082, 1000083, 1000084, 1000085, 1000087, 1000088, 1000089, 1000107, 1000108, 1000109, 1000110, 1000111, 1000115].contains n
noncomputable def tab1 : Nat → Option Fn
  | 10 => some F10
  | 36 => some F36
  | 37 => some F37
  | 38 => some F38
  | 39 => some F39
  | 40 => some F40
  | 41 => some F41
  | 43 => some F43
  | 76 => some F76
  | 77 => some F77
  | 78 => some F78
  | 79 => some F79
  | 80 => some F80
  | 81 => some F81
  | 82 => some F82
  | 83 => some F83
  | 84 => some F84
  | 85 => some F85
  | 87 => some F87
  | 88 => some F88
  | 89 => some F89
  | 107 => some F107
  | 108 => some F108
  | 109 => some F109
  | 110 => some F110
  | 111 => some F111
  | 115 => some F115
  | n => autoK Try.prog (fun _ => none) spf hints keepf n
noncomputable def L : Cs := lim tab1 (fun _ _ => none)

theorem no_globals : GOk (fun _ _ => none) (fun _ => none) := fun n a h => by cases h
theorem ok10 : FnOk (fun _ _ => none) Try.prog 10 F10 := compF_spec no_globals Try.func10 (by kernel_rfl)
theorem ok36 : FnOk (fun _ _ => none) Try.prog 36 F36 := compF_spec no_globals Try.func36 (by kernel_rfl)
theorem ok37 : FnOk (fun _ _ => none) Try.prog 37 F37 := compF_spec no_globals Try.func37 (by kernel_rfl)
theorem ok38 : FnOk (fun _ _ => none) Try.prog 38 F38 := compF_spec no_globals Try.func38 (by kernel_rfl)
theorem ok39 : FnOk (fun _ _ => none) Try.prog 39 F39 := compF_spec no_globals Try.func39 (by kernel_rfl)
theorem ok40 : FnOk (fun _ _ => none) Try.prog 40 F40 := compF_spec no_globals Try.func40 (by kernel_rfl)
theorem ok41 : FnOk (fun _ _ => none) Try.prog 41 F41 := compF_spec no_globals Try.func41 (by kernel_rfl)
theorem ok43 : FnOk (fun _ _ => none) Try.prog 43 F43 := compF_spec no_globals Try.func43 (by kernel_rfl)
theorem ok76 : FnOk (fun _ _ => none) Try.prog 76 F76 := compF_spec no_globals Try.func76 (by kernel_rfl)
theorem ok77 : FnOk (fun _ _ => none) Try.prog 77 F77 := compF_spec no_globals Try.func77 (by kernel_rfl)
theorem ok78 : FnOk (fun _ _ => none) Try.prog 78 F78 := compF_spec no_globals Try.func78 (by kernel_rfl)
theorem ok79 : FnOk (fun _ _ => none) Try.prog 79 F79 := compF_spec no_globals Try.func79 (by kernel_rfl)
theorem ok80 : FnOk (fun _ _ => none) Try.prog 80 F80 := compF_spec no_globals Try.func80 (by kernel_rfl)
theorem ok81 : FnOk (fun _ _ => none) Try.prog 81 F81 := compF_spec no_globals Try.func81 (by kernel_rfl)
theorem ok82 : FnOk (fun _ _ => none) Try.prog 82 F82 := compF_spec no_globals Try.func82 (by kernel_rfl)
theorem ok83 : FnOk (fun _ _ => none) Try.prog 83 F83 := compF_spec no_globals Try.func83 (by kernel_rfl)
theorem ok84 : FnOk (fun _ _ => none) Try.prog 84 F84 := compF_spec no_globals Try.func84 (by kernel_rfl)
theorem ok85 : FnOk (fun _ _ => none) Try.prog 85 F85 := compF_spec no_globals Try.func85 (by kernel_rfl)
theorem ok87 : FnOk (fun _ _ => none) Try.prog 87 F87 := compF_spec no_globals Try.func87 (by kernel_rfl)
theorem ok88 : FnOk (fun _ _ => none) Try.prog 88 F88 := compF_spec no_globals Try.func88 (by kernel_rfl)
theorem ok89 : FnOk (fun _ _ => none) Try.prog 89 F89 := compF_spec no_globals Try.func89 (by kernel_rfl)
theorem ok107 : FnOk (fun _ _ => none) Try.prog 107 F107 := compF_spec no_globals Try.func107 (by kernel_rfl)
theorem ok108 : FnOk (fun _ _ => none) Try.prog 108 F108 := compF_spec no_globals Try.func108 (by kernel_rfl)
theorem ok109 : FnOk (fun _ _ => none) Try.prog 109 F109 := compF_spec no_globals Try.func109 (by kernel_rfl)
theorem ok110 : FnOk (fun _ _ => none) Try.prog 110 F110 := compF_spec no_globals Try.func110 (by kernel_rfl)
theorem ok111 : FnOk (fun _ _ => none) Try.prog 111 F111 := compF_spec no_globals Try.func111 (by kernel_rfl)
theorem ok115 : FnOk (fun _ _ => none) Try.prog 115 F115 := compF_spec no_globals Try.func115 (by kernel_rfl)
theorem tab1_ok : ∀ f fn, tab1 f = some fn → FnOk (fun _ _ => none) Try.prog f fn := by
  intro f fn h
  unfold tab1 at h
  split at h
  · cases h; exact ok10
  · cases h; exact ok36
  · cases h; exact ok37
  · cases h; exact ok38
  · cases h; exact ok39
  · cases h; exact ok40
  · cases h; exact ok41
  · cases h; exact ok43
  · cases h; exact ok76
  · cases h; exact ok77
  · cases h; exact ok78
  · cases h; exact ok79
  · cases h; exact ok80
  · cases h; exact ok81
  · cases h; exact ok82
  · cases h; exact ok83
  · cases h; exact ok84
  · cases h; exact ok85
  · cases h; exact ok87
  · cases h; exact ok88
  · cases h; exact ok89
  · cases h; exact ok107
  · cases h; exact ok108
  · cases h; exact ok109
  · cases h; exact ok110
  · cases h; exact ok111
  · cases h; exact ok115
  · exact autoK_spec no_globals h
theorem meets1 (f : Nat) : Meets (fun _ _ => none) Try.prog f (L f) := lim_meets tab1_ok (fun f _ m w args vs bs _ _ _ _ _ r a h => by cases h) f

end Go.Es.Pln
