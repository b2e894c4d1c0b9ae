/- The code of the functions that the statement EmitInst reaches, as the interpreter reads it. No condition. -/
import Derived.Test.YtncfbghdnnhfiaaDoorEsD
import Derived.Test.YtncfbghdnnhfiaaDoorChecked
import Derived.KernelRfl
set_option linter.unusedVariables false
set_option linter.unusedSimpArgs false
set_option maxRecDepth 100000
set_option maxHeartbeats 4000000
namespace Go.Es.Emi
open Go.Proofs
def F6o1 := [
 o3 3 (.box 10) [.t 0],
 o3 6 .mv [.b false]]
def F6o3 := [
 o3 36 (.load (some 10)) [.t 3],
 o3 37 (.callf 7) [.t 36],
 o3 7 (.alloc [.d (.bool false), .d (.int .i64 0), .d (.int .i64 0), .d (.int .u8 0), .d (.int .i64 0), .d (.int .i64 0), .d (.int .i64 0), .d (.int .u16 0), .d (.int .u16 0), .d (.int .u16 0)]) [],
 o0 (.store 10) [.t 7, .t 37]]
def F6o5 := [
 o3 39 (.load (some 10)) [.t 7],
 o3 40 (.callf 13) [.t 39],
 om 38 40,
 oe 41 0 38,
 oe 42 1 38,
 o3 8 (.alloc [.d (.int .i64 0), .d (.int .i64 0), .d (.int .i64 0), .d (.bool false)]) [],
 o0 (.store 4) [.t 8, .t 41],
 om 9 42]
def F6o7 := [
 o3 43 (.load (some 10)) [.t 7],
 o3 44 (.callf 11) [.t 43],
 om 10 44]
def F6o9 := [
 om 45 2,
 o3 46 (.bin .and) [.t 45, .i 65535],
 o3 47 (.build [.d (.int .i64 0), .d (.int .i64 0), .d (.int .i64 0), .d (.int .i64 0), .d (.int .i64 0), .d (.bool false)] [(0, 1), (1, 1), (2, 1), (5, 1)]) [.t 46, .i 1, .i 2, .b true],
 o3 11 (.alloc [.d (.int .i64 0), .d (.int .i64 0), .d (.int .i64 0), .d (.int .i64 0), .d (.int .i64 0), .d (.bool false)]) [],
 o0 (.store 6) [.t 11, .t 47]]
def F6o11 := [
 o3 48 (.load (some 10)) [.t 7],
 o3 49 (.faddr 8) [.t 7],
 o3 50 (.load none) [.t 49],
 o3 51 (.toInt .i64) [.t 50],
 o3 52 (.build [.d (.int .i64 0), .d (.int .i64 0), .d (.int .i64 0), .d (.int .i64 0), .d (.int .i64 0), .d (.bool false)] [(0, 1), (5, 1)]) [.t 51, .b true],
 o3 53 (.faddr 7) [.t 7],
 o3 54 (.load none) [.t 53],
 o3 55 (.toInt .i64) [.t 54],
 o3 56 (.build [.d (.int .i64 0), .d (.int .i64 0), .d (.int .i64 0), .d (.int .i64 0), .d (.int .i64 0), .d (.bool false)] [(0, 1), (5, 1)]) [.t 55, .b true],
 o3 57 (.build [.d (.bool false), .d (.int .i64 0), .d (.int .i64 0), .d (.int .u8 0), .d (.int .i64 0), .d (.int .i64 0), .d (.int .i64 0), .d (.int .u16 0), .d (.int .u16 0), .d (.int .u16 0), .d (.int .i64 0), .d (.int .i64 0), .d (.int .i64 0), .d (.int .i64 0), .d (.int .i64 0), .d (.bool false), .d (.int .i64 0), .d (.int .i64 0), .d (.int .i64 0), .d (.int .i64 0), .d (.int .i64 0), .d (.bool false), .d (.bool false), .d (.bool false), .d (.bool false)] [(0, 10), (16, 6), (10, 6)]) [.t 48, .t 52, .t 56],
 o3 12 (.alloc [.d (.bool false), .d (.int .i64 0), .d (.int .i64 0), .d (.int .u8 0), .d (.int .i64 0), .d (.int .i64 0), .d (.int .i64 0), .d (.int .u16 0), .d (.int .u16 0), .d (.int .u16 0), .d (.int .i64 0), .d (.int .i64 0), .d (.int .i64 0), .d (.int .i64 0), .d (.int .i64 0), .d (.bool false), .d (.int .i64 0), .d (.int .i64 0), .d (.int .i64 0), .d (.int .i64 0), .d (.int .i64 0), .d (.bool false), .d (.bool false), .d (.bool false), .d (.bool false)]) [],
 o0 (.store 25) [.t 12, .t 57]]
def F6o13 := [
 o3 59 (.load (some 25)) [.t 12],
 o3 60 (.callf 14) [.t 59, .i 1, .i 0, .i 0, .i 0],
 om 58 60,
 oe 61 0 58,
 oe 62 1 58,
 oe 63 2 58,
 om 13 61,
 om 14 62,
 om 15 63]
def F6o16 := [
 om 64 15,
 o3 65 (.un .not) [.t 64],
 om 66 65,
 og 67 .mv [.t 13] 66 false,
 og 68 .bytesStr [.t 67] 66 false,
 og 69 .mv [.t 10] 66 false,
 og 70 .bytesStr [.t 69] 66 false,
 og 71 (.bin .neq) [.t 68, .t 70] 66 false,
 o3 72 .pick [.t 66, .b true, .t 71],
 om 73 72,
 og 74 .mv [.t 14] 73 false,
 og 75 .lenL [.t 74] 73 false,
 og 76 (.bin .neq) [.t 75, .i 0] 73 false,
 o3 77 .pick [.t 73, .b true, .t 76]]
def F6o19 := [
 o3 6 .mv [.b false]]
def F6c20 : Ac := .ret
def F6c17 : Ac := (cd 77 (so F6o19 F6c20) .skip)
def F6o23 := [
 o3 78 (.load (some 4)) [.t 8],
 o3 79 (.callf 15) [.t 78],
 om 16 79]
def F6o25 := [
 om 80 10,
 o3 81 .lenL [.t 80],
 om 82 16,
 o3 83 (.bin .sub) [.t 81, .t 82],
 om 17 83]
def F6o27 := [
 om 84 1,
 o3 85 (.bin .and) [.t 84, .i 16383],
 om 18 85]
def F6o31 := [
 o3 87 (.faddr 1) [.t 8],
 o3 88 (.load none) [.t 87],
 o3 89 (.bin .eql) [.t 88, .i 9],
 om 90 89,
 og 91 (.faddr 1) [.t 8] 90 false,
 og 92 (.load none) [.t 91] 90 false,
 og 93 (.bin .eql) [.t 92, .i 10] 90 false,
 o3 94 .pick [.t 90, .b true, .t 93],
 om 86 94]
def F6o34 := [
 om 95 18,
 om 96 2,
 o3 97 (.bin .and) [.t 96, .i 1023],
 o3 98 (.bin .add) [.t 95, .t 97],
 o3 99 (.bin .sub) [.t 98, .i 512],
 o3 100 (.build [.d (.int .i64 0), .d (.int .i64 0), .d (.int .i64 0), .d (.int .i64 0), .d (.int .i64 0), .d (.bool false)] [(0, 1), (1, 1), (2, 1), (5, 1)]) [.t 99, .i 1, .i 1, .b true],
 o3 101 (.faddr 24) [.t 12],
 o0 (.store 1) [.t 101, .b true],
 o3 102 (.faddr 23) [.t 12],
 o0 (.store 1) [.t 102, .b true],
 o3 103 (.faddr 16) [.t 12],
 o0 (.store 6) [.t 103, .t 100]]
def F6o36 := [
 o3 104 (.faddr 16) [.t 12],
 o3 105 (.faddr 0) [.t 104],
 o3 106 (.load none) [.t 105],
 om 107 18,
 o3 108 (.bin .sub) [.t 106, .t 107],
 om 109 10,
 o3 110 .lenL [.t 109],
 o3 111 (.bin .sub) [.t 108, .t 110],
 om 19 111]
def F6o38 := [
 o3 113 (.load (some 25)) [.t 12],
 om 114 18,
 o3 115 (.callf 14) [.t 113, .i 1, .t 114, .i 0, .i 0],
 om 112 115,
 oe 116 0 112,
 oe 117 1 112,
 oe 118 2 112,
 om 20 116,
 om 21 117,
 om 22 118]
def F6o41 := [
 o3 119 (.faddr 1) [.t 8],
 o3 120 (.load none) [.t 119],
 o3 121 (.bin .eql) [.t 120, .i 9],
 om 122 121,
 og 123 .mv [.t 19] 122 true,
 og 124 (.bin .lss) [.t 123, .i (-128)] 122 true,
 og 125 .mv [.t 124] 122 true,
 og 126 .mv [.t 19] 125 false,
 og 127 (.bin .gtr) [.t 126, .i 127] 125 false,
 og 128 .pick [.t 125, .b true, .t 127] 122 true,
 o3 129 .pick [.t 122, .t 128, .b false]]
def F6o44 := [
 o3 130 (.callf 16) [],
 om 131 130,
 og 132 .mv [.t 22] 131 true,
 og 133 (.un .not) [.t 132] 131 true,
 o3 134 .pick [.t 131, .t 133, .b false],
 om 135 134,
 og 136 .mv [.t 20] 135 true,
 og 137 .lenL [.t 136] 135 true,
 og 138 (.bin .eql) [.t 137, .i 0] 135 true,
 o3 139 .pick [.t 135, .t 138, .b false],
 om 6 139]
def F6c45 : Ac := .ret
def F6c42 : Ac := (cd 129 (so F6o44 F6c45) .skip)
def F6o49 := [
 om 140 22,
 o3 141 (.un .not) [.t 140],
 om 142 141,
 og 143 .mv [.t 21] 142 false,
 og 144 .lenL [.t 143] 142 false,
 og 145 (.bin .neq) [.t 144, .i 0] 142 false,
 o3 146 .pick [.t 142, .b true, .t 145],
 om 147 146,
 og 148 .mv [.t 20] 147 false,
 og 149 .lenL [.t 148] 147 false,
 og 150 .mv [.t 10] 147 false,
 og 151 .lenL [.t 150] 147 false,
 og 152 (.bin .neq) [.t 149, .t 151] 147 false,
 o3 153 .pick [.t 147, .b true, .t 152],
 om 154 153,
 og 155 .mv [.t 20] 154 false,
 og 156 .mv [.t 17] 154 false,
 og 157 (.iaddrS 1) [.t 155, .t 156] 154 false,
 og 158 (.load none) [.t 157] 154 false,
 og 159 .mv [.t 19] 154 false,
 og 160 (.toInt .u8) [.t 159] 154 false,
 og 161 (.bin .neq) [.t 158, .t 160] 154 false,
 o3 162 .pick [.t 154, .b true, .t 161],
 om 163 162,
 og 164 .mv [.t 16] 163 false,
 og 165 (.bin .eql) [.t 164, .i 2] 163 false,
 og 166 .mv [.t 165] 163 false,
 og 167 .mv [.t 20] 166 true,
 og 168 .mv [.t 17] 166 true,
 og 169 (.bin .add) [.t 168, .i 1] 166 true,
 og 170 (.iaddrS 1) [.t 167, .t 169] 166 true,
 og 171 (.load none) [.t 170] 166 true,
 og 172 .mv [.t 19] 166 true,
 og 173 (.bin .shr) [.t 172, .c (.d (.int .u64 8))] 166 true,
 og 174 (.toInt .u8) [.t 173] 166 true,
 og 175 (.bin .neq) [.t 171, .t 174] 166 true,
 og 176 .pick [.t 166, .t 175, .b false] 163 false,
 o3 177 .pick [.t 163, .b true, .t 176]]
def F6o52 := [
 o3 6 .mv [.b false]]
def F6c53 : Ac := .ret
def F6c50 : Ac := (cd 177 (so F6o52 F6c53) .skip)
def F6o56 := [
 o3 178 (.faddr 16) [.t 12],
 o3 179 (.faddr 2) [.t 178],
 o0 (.store 1) [.t 179, .i 2]]
def F6o58 := [
 o3 181 (.load (some 25)) [.t 12],
 om 182 18,
 o3 183 (.callf 14) [.t 181, .i 1, .t 182, .i 0, .i 0],
 om 180 183,
 oe 184 0 180,
 oe 185 1 180,
 oe 186 2 180,
 om 23 184,
 om 24 185,
 om 25 186]
def F6o60 := [
 o3 187 (.build [.d (.int .i64 0), .d (.int .i64 0), .d (.int .i64 0), .d (.int .i64 0), .d (.int .i64 0), .d (.bool false)] [(1, 1), (2, 1), (5, 1)]) [.i 3, .i 3, .b true],
 o3 188 (.faddr 16) [.t 12],
 o0 (.store 6) [.t 188, .t 187]]
def F6o62 := [
 o3 190 (.load (some 25)) [.t 12],
 om 191 18,
 o3 192 (.callf 14) [.t 190, .i 1, .t 191, .i 0, .i 0],
 om 189 192,
 oe 193 0 189,
 oe 194 1 189,
 oe 195 2 189,
 om 26 193,
 om 27 194,
 om 28 195]
def F6o64 := [
 o3 196 (.callf 16) [],
 om 197 196,
 og 198 .mv [.t 25] 197 true,
 og 199 (.un .not) [.t 198] 197 true,
 o3 200 .pick [.t 197, .t 199, .b false],
 om 201 200,
 og 202 .mv [.t 28] 201 true,
 og 203 (.faddr 1) [.t 8] 201 true,
 og 204 (.load none) [.t 203] 201 true,
 og 205 (.bin .eql) [.t 204, .i 10] 201 true,
 og 206 (.eqb false) [.t 202, .t 205] 201 true,
 o3 207 .pick [.t 201, .t 206, .b false],
 om 208 207,
 og 209 .mv [.t 28] 208 true,
 og 210 (.un .not) [.t 209] 208 true,
 og 211 .mv [.t 210] 208 true,
 og 212 .mv [.t 27] 211 false,
 og 213 .lenL [.t 212] 211 false,
 og 214 (.bin .eql) [.t 213, .i 1] 211 false,
 og 215 .mv [.t 214] 211 false,
 og 216 .mv [.t 27] 215 true,
 og 217 (.iaddrS 8) [.t 216, .i 0] 215 true,
 og 218 (.faddr 2) [.t 217] 215 true,
 og 219 (.load none) [.t 218] 215 true,
 og 220 .pick [.t 215, .t 219, .b false] 211 false,
 og 221 .mv [.t 220] 211 false,
 og 222 .mv [.t 27] 221 true,
 og 223 (.iaddrS 8) [.t 222, .i 0] 221 true,
 og 224 (.faddr 0) [.t 223] 221 true,
 og 225 (.load none) [.t 224] 221 true,
 og 226 .mv [.t 17] 221 true,
 og 227 (.bin .eql) [.t 225, .t 226] 221 true,
 og 228 .pick [.t 221, .t 227, .b false] 211 false,
 og 229 .mv [.t 228] 211 false,
 og 230 .mv [.t 27] 229 true,
 og 231 (.iaddrS 8) [.t 230, .i 0] 229 true,
 og 232 (.faddr 1) [.t 231] 229 true,
 og 233 (.load none) [.t 232] 229 true,
 og 234 (.bin .eql) [.t 233, .i 1] 229 true,
 og 235 .pick [.t 229, .t 234, .b false] 211 false,
 og 236 .mv [.t 235] 211 false,
 og 237 .mv [.t 27] 236 true,
 og 238 (.iaddrS 8) [.t 237, .i 0] 236 true,
 og 239 (.faddr 6) [.t 238] 236 true,
 og 240 (.load none) [.t 239] 236 true,
 og 241 (.bin .eql) [.t 240, .i 3] 236 true,
 og 242 .pick [.t 236, .t 241, .b false] 211 false,
 og 243 .mv [.t 242] 211 false,
 og 244 .mv [.t 26] 243 true,
 og 245 .lenL [.t 244] 243 true,
 og 246 .mv [.t 10] 243 true,
 og 247 .lenL [.t 246] 243 true,
 og 248 (.bin .eql) [.t 245, .t 247] 243 true,
 og 249 .pick [.t 243, .t 248, .b false] 211 false,
 og 250 .pick [.t 211, .b true, .t 249] 208 true,
 o3 251 .pick [.t 208, .t 250, .b false],
 om 6 251]
def F6c65 : Ac := .ret
def F6c63 : Ac := (so F6o64 F6c65)
def F6c61 : Ac := (so F6o62 F6c63)
def F6c59 : Ac := (so F6o60 F6c61)
def F6c57 : Ac := (so F6o58 F6c59)
def F6b55 : Ac := (so F6o56 F6c57)
def F6c55 : Ac := (.seq (.gh []) (.seq (.keep [8, 10, 12, 17, 18] [[8], [12]]) F6b55))
def F6b47 : Ac := (.seq (so F6o49 F6c50) F6c55)
def F6c47 : Ac := (.seq (.gh []) (.seq (.keep [8, 10, 12, 16, 17, 18, 19, 20, 21, 22] [[8], [12]]) F6b47))
def F6c39 : Ac := (.seq (so F6o41 F6c42) F6c47)
def F6c37 : Ac := (so F6o38 F6c39)
def F6c35 : Ac := (so F6o36 F6c37)
def F6o67 := [
 o3 253 (.faddr 3) [.t 8],
 o3 254 (.load none) [.t 253],
 om 255 254,
 og 256 (.faddr 4) [.t 7] 255 true,
 og 257 (.load none) [.t 256] 255 true,
 og 258 (.faddr 6) [.t 7] 255 true,
 og 259 (.load none) [.t 258] 255 true,
 og 260 (.callf 17) [.t 257, .t 259] 255 true,
 og 261 (.bin .eql) [.t 260, .i 2] 255 true,
 o3 262 .pick [.t 255, .t 261, .b false],
 om 252 262]
def F6o70 : List Ao := [
  { dst := some 263, k := (.load (some 6)), xs := [.t 11], av := [[12]] },
 o3 264 (.faddr 22) [.t 12],
  { dst := none, k := (.store 1), xs := [.t 264, .b true], al := some [[12]] },
 o3 265 (.faddr 10) [.t 12],
 o0 (.store 6) [.t 265, .t 263]]
def F6o72 := [
 o3 267 (.load (some 25)) [.t 12],
 om 268 18,
 o3 269 (.callf 14) [.t 267, .i 1, .t 268, .i 2, .i 4],
 om 266 269,
 oe 270 0 266,
 oe 271 1 266,
 oe 272 2 266,
 om 29 270,
 om 30 271,
 om 31 272]
def F6o74 := [
 o3 273 (.callf 16) [],
 om 274 273,
 og 275 .mv [.t 31] 274 true,
 o3 276 .pick [.t 274, .t 275, .b false],
 om 277 276,
 og 278 .mv [.t 29] 277 true,
 og 279 .lenL [.t 278] 277 true,
 og 280 .mv [.t 10] 277 true,
 og 281 .lenL [.t 280] 277 true,
 og 282 (.bin .eql) [.t 279, .t 281] 277 true,
 o3 283 .pick [.t 277, .t 282, .b false],
 om 284 283,
 og 285 .mv [.t 29] 284 true,
 og 286 .mv [.t 17] 284 true,
 og 287 (.bin .sub) [.t 286, .i 1] 284 true,
 og 288 (.iaddrS 1) [.t 285, .t 287] 284 true,
 og 289 (.load none) [.t 288] 284 true,
 og 290 (.bin .eql) [.t 289, .y 0] 284 true,
 o3 291 .pick [.t 284, .t 290, .b false],
 om 292 291,
 og 293 .mv [.t 29] 292 true,
 og 294 .mv [.t 17] 292 true,
 og 295 (.bin .sub) [.t 294, .i 2] 292 true,
 og 296 (.iaddrS 1) [.t 293, .t 295] 292 true,
 og 297 (.load none) [.t 296] 292 true,
 og 298 (.bin .eql) [.t 297, .y 0] 292 true,
 o3 299 .pick [.t 292, .t 298, .b false],
 om 300 299,
 og 301 .mv [.t 30] 300 true,
 og 302 .lenL [.t 301] 300 true,
 og 303 (.bin .eql) [.t 302, .i 1] 300 true,
 o3 304 .pick [.t 300, .t 303, .b false],
 om 305 304,
 og 306 .mv [.t 30] 305 true,
 og 307 (.iaddrS 8) [.t 306, .i 0] 305 true,
 og 308 (.load (some 8)) [.t 307] 305 true,
 og 309 .mv [.t 17] 305 true,
 og 310 (.bin .sub) [.t 309, .i 2] 305 true,
 og 311 .mv [.t 2] 305 true,
 og 312 (.toInt .u16) [.t 311] 305 true,
 og 313 (.build [.d (.int .i64 0), .d (.int .i64 0), .d (.bool false), .d (.int .i64 0), .d (.int .i64 0), .d (.int .i64 0), .d (.int .i64 0), .d (.int .u16 0)] [(0, 1), (1, 1), (3, 1), (4, 1), (5, 1), (6, 1), (7, 1)]) [.t 310, .i 1, .i 1, .i 4, .i 0, .i 2, .t 312] 305 true,
 og 314 (.eqa false [.i, .i, .b, .i, .i, .i, .i, .i]) [.t 308, .t 313] 305 true,
 o3 315 .pick [.t 305, .t 314, .b false],
 om 6 315]
def F6c75 : Ac := .ret
def F6c73 : Ac := (so F6o74 F6c75)
def F6c71 : Ac := (so F6o72 F6c73)
def F6o77 := [
 o3 317 (.faddr 1) [.t 8],
 o3 318 (.load none) [.t 317],
 o3 319 (.bin .eql) [.t 318, .i 7],
 om 320 319,
 og 321 (.faddr 2) [.t 8] 320 false,
 og 322 (.load none) [.t 321] 320 false,
 og 323 (.bin .eql) [.t 322, .i 7] 320 false,
 o3 324 .pick [.t 320, .b true, .t 323],
 om 316 324]
def F6o80 := [
 om 325 2,
 o3 326 (.bin .shr) [.t 325, .c (.d (.int .u64 16))],
 o3 327 (.bin .and) [.t 326, .i 1],
 o3 328 (.bin .add) [.i 1, .t 327],
 o3 329 (.faddr 4) [.t 11],
 o0 (.store 1) [.t 329, .t 328]]
def F6o82 : List Ao := [
  { dst := some 330, k := (.load (some 6)), xs := [.t 11], av := [[12]] },
 o3 331 (.faddr 23) [.t 12],
  { dst := none, k := (.store 1), xs := [.t 331, .b true], al := some [[12]] },
 o3 332 (.faddr 16) [.t 12],
 o0 (.store 6) [.t 332, .t 330]]
def F6o84 := [
 o3 334 (.load (some 25)) [.t 12],
 om 335 18,
 o3 336 (.callf 14) [.t 334, .i 1, .t 335, .i 0, .i 0],
 om 333 336,
 oe 337 0 333,
 oe 338 1 333,
 oe 339 2 333,
 om 32 337,
 om 33 338,
 om 34 339]
def F6o86 := [
 o3 35 .mv [.i 1]]
def F6o89 := [
 o3 340 (.faddr 4) [.t 11],
 o3 341 (.load none) [.t 340],
 o3 342 (.bin .eql) [.t 341, .i 2]]
def F6o91 := [
 o3 35 .mv [.i 2]]
def F6c90 : Ac := (cd 342 (.ops F6o91) .skip)
def F6o94 := [
 o3 343 (.callf 16) [],
 om 344 343,
 og 345 .mv [.t 34] 344 true,
 o3 346 .pick [.t 344, .t 345, .b false],
 om 347 346,
 og 348 .mv [.t 32] 347 true,
 og 349 .mv [.t 17] 347 true,
 og 350 (.iaddrS 1) [.t 348, .t 349] 347 true,
 og 351 (.load none) [.t 350] 347 true,
 og 352 (.bin .eql) [.t 351, .y 0] 347 true,
 o3 353 .pick [.t 347, .t 352, .b false],
 om 354 353,
 og 355 .mv [.t 32] 354 true,
 og 356 .mv [.t 17] 354 true,
 og 357 (.bin .add) [.t 356, .i 1] 354 true,
 og 358 (.iaddrS 1) [.t 355, .t 357] 354 true,
 og 359 (.load none) [.t 358] 354 true,
 og 360 (.bin .eql) [.t 359, .y 0] 354 true,
 o3 361 .pick [.t 354, .t 360, .b false],
 om 362 361,
 og 363 .mv [.t 33] 362 true,
 og 364 .lenL [.t 363] 362 true,
 og 365 (.bin .eql) [.t 364, .i 1] 362 true,
 o3 366 .pick [.t 362, .t 365, .b false],
 om 367 366,
 og 368 .mv [.t 33] 367 true,
 og 369 (.iaddrS 8) [.t 368, .i 0] 367 true,
 og 370 (.load (some 8)) [.t 369] 367 true,
 og 371 .mv [.t 17] 367 true,
 og 372 .mv [.t 35] 367 true,
 og 373 .mv [.t 2] 367 true,
 og 374 (.toInt .u16) [.t 373] 367 true,
 og 375 (.build [.d (.int .i64 0), .d (.int .i64 0), .d (.bool false), .d (.int .i64 0), .d (.int .i64 0), .d (.int .i64 0), .d (.int .i64 0), .d (.int .u16 0)] [(0, 1), (1, 1), (3, 1), (5, 1), (6, 1), (7, 1)]) [.t 371, .t 372, .i 5, .i 0, .i 2, .t 374] 367 true,
 og 376 (.eqa false [.i, .i, .b, .i, .i, .i, .i, .i]) [.t 370, .t 375] 367 true,
 o3 377 .pick [.t 367, .t 376, .b false],
 om 6 377]
def F6c95 : Ac := .ret
def F6b93 : Ac := (so F6o94 F6c95)
def F6c93 : Ac := (.seq (.gh []) (.seq (.keep [2, 17, 32, 33, 34, 35] []) F6b93))
def F6c87 : Ac := (.seq (so F6o89 F6c90) F6c93)
def F6c85 : Ac := (so F6o86 F6c87)
def F6c83 : Ac := (so F6o84 F6c85)
def F6c81 : Ac := (so F6o82 F6c83)
def F6b78 : Ac := (cd 316 (so F6o80 F6c81) .skip)
def F6c78 : Ac := (.seq (.gh []) (.seq (.keep [2, 11, 12, 17, 18, 316] [[11], [12]]) F6b78))
def F6b68 : Ac := (cd 252 (so F6o70 F6c71) (so F6o77 F6c78))
def F6c68 : Ac := (.seq (.gh []) (.seq (.keep [2, 8, 10, 11, 12, 17, 18, 252] [[8], [11], [12]]) F6b68))
def F6b32 : Ac := (cd 86 (so F6o34 F6c35) (so F6o67 F6c68))
def F6c32 : Ac := (.seq (.gh []) (.seq (.keep [2, 7, 8, 10, 11, 12, 16, 17, 18, 86] [[7], [8], [11], [12]]) F6b32))
def F6o98 := [
 o3 378 (.callf 16) [],
 om 6 378]
def F6c99 : Ac := .ret
def F6c97 : Ac := (so F6o98 F6c99)
def F6c28 : Ac := (.seq (.block 0 (so F6o31 F6c32)) F6c97)
def F6c26 : Ac := (so F6o27 F6c28)
def F6c24 : Ac := (so F6o25 F6c26)
def F6c22 : Ac := (so F6o23 F6c24)
def F6c14 : Ac := (.seq (so F6o16 F6c17) F6c22)
def F6c12 : Ac := (so F6o13 F6c14)
def F6c10 : Ac := (so F6o11 F6c12)
def F6c8 : Ac := (so F6o9 F6c10)
def F6c6 : Ac := (so F6o7 F6c8)
def F6c4 : Ac := (so F6o5 F6c6)
def F6c2 : Ac := (so F6o3 F6c4)
def F6c0 : Ac := (so F6o1 F6c2)
/-- hansom/hansomlaw37.EmitInst -/
def F6 : Fn := { np := 3, pb := [], rs := [.t 6], body := F6c0 }
def F7o1 := [
 o3 1 (.box 10) [.t 0],
 o3 2 (.alloc [.d (.bool false), .d (.int .i64 0), .d (.int .i64 0), .d (.int .u8 0), .d (.int .i64 0), .d (.int .i64 0), .d (.int .i64 0), .d (.int .u16 0), .d (.int .u16 0), .d (.int .u16 0)]) []]
def F7o3 := [
 o3 7 (.faddr 3) [.t 1],
 o3 8 (.load none) [.t 7],
 o3 9 (.faddr 0) [.t 1],
 o3 10 (.load none) [.t 9],
 o3 11 (.build [.d (.bool false), .d (.int .i64 0), .d (.int .i64 0), .d (.int .u8 0), .d (.int .i64 0), .d (.int .i64 0), .d (.int .i64 0), .d (.int .u16 0), .d (.int .u16 0), .d (.int .u16 0)] [(3, 1), (0, 1)]) [.t 8, .t 10],
 o0 (.store 10) [.t 2, .t 11]]
def F7o5 := [
 o3 12 (.faddr 5) [.t 1],
 o3 13 (.load none) [.t 12],
 o3 14 (.bin .and) [.t 13, .i 7],
 o3 15 (.faddr 5) [.t 2],
 o0 (.store 1) [.t 15, .t 14]]
def F7o7 := [
 o3 17 (.load (some 10)) [.t 2],
 o3 18 (.callf 13) [.t 17],
 om 16 18,
 oe 19 0 16,
 oe 20 1 16,
 o3 3 (.alloc [.d (.int .i64 0), .d (.int .i64 0), .d (.int .i64 0), .d (.bool false)]) [],
 o0 (.store 4) [.t 3, .t 19],
 om 4 20]
def F7o10 := [
 om 21 4,
 o3 22 (.un .not) [.t 21]]
def F7o13 := [
 o3 23 (.build [.d (.bool false), .d (.int .i64 0), .d (.int .i64 0), .d (.int .u8 0), .d (.int .i64 0), .d (.int .i64 0), .d (.int .i64 0), .d (.int .u16 0), .d (.int .u16 0), .d (.int .u16 0)] [(3, 1)]) [.y 144],
 o0 (.store 10) [.t 2, .t 23]]
def F7c14 : Ac := .ret
def F7c11 : Ac := (cd 22 (so F7o13 F7c14) .skip)
def F7o18 := [
 o3 24 (.faddr 3) [.t 3],
 o3 25 (.load none) [.t 24],
 o3 26 (.un .not) [.t 25]]
def F7o20 := [
 o3 27 (.faddr 5) [.t 2],
 o0 (.store 1) [.t 27, .i 0]]
def F7o22 := [
 o3 28 (.faddr 4) [.t 1],
 o3 29 (.load none) [.t 28],
 o3 30 (.bin .and) [.t 29, .i 3],
 o3 31 (.faddr 6) [.t 1],
  { dst := some 32, k := (.load none), xs := [.t 31], av := [[2]] },
 o3 33 (.bin .and) [.t 32, .i 7],
 o3 34 (.faddr 4) [.t 2],
  { dst := none, k := (.store 1), xs := [.t 34, .t 30], al := some [[2]] },
 o3 35 (.faddr 6) [.t 2],
 o0 (.store 1) [.t 35, .t 33]]
def F7o24 := [
 o3 36 (.faddr 4) [.t 2],
 o3 37 (.load none) [.t 36],
 o3 38 (.faddr 6) [.t 2],
 o3 39 (.load none) [.t 38],
 o3 40 (.callf 17) [.t 37, .t 39]]
def F7o27 := [
 o3 42 (.bin .eql) [.t 40, .i 1],
 om 41 42]
def F7o29 := [
 o3 43 (.faddr 7) [.t 1],
 o3 44 (.load none) [.t 43],
 o3 45 (.bin .rem) [.t 44, .w 256],
 o3 46 (.toInt .u8) [.t 45],
 o3 47 (.callf 18) [.t 46],
 o3 48 (.faddr 7) [.t 2],
 o0 (.store 1) [.t 48, .t 47]]
def F7o31 := [
 o3 50 (.bin .eql) [.t 40, .i 2],
 om 49 50]
def F7o33 := [
 o3 51 (.faddr 7) [.t 1],
 o3 52 (.load none) [.t 51],
 o3 53 (.faddr 7) [.t 2],
 o0 (.store 1) [.t 53, .t 52]]
def F7c32 : Ac := (cd 49 (.ops F7o33) .skip)
def F7c28 : Ac := (cd 41 (.ops F7o29) (so F7o31 F7c32))
def F7c25 : Ac := (.block 0 (so F7o27 F7c28))
def F7c23 : Ac := (so F7o24 F7c25)
def F7c19 : Ac := (cd 26 (.ops F7o20) (so F7o22 F7c23))
def F7o36 := [
 o3 54 (.faddr 1) [.t 3],
 o3 55 (.load none) [.t 54],
 om 5 55]
def F7o39 := [
 om 56 5,
 o3 57 (.callf 19) [.t 56],
 o3 58 (.bin .eql) [.t 57, .i 0]]
def F7o41 := [
 o3 59 (.faddr 2) [.t 3],
 o3 60 (.load none) [.t 59],
 om 5 60]
def F7c40 : Ac := (cd 58 (.ops F7o41) .skip)
def F7o45 := [
 om 61 5]
def F7o48 := [
 o3 63 (.bin .eql) [.t 61, .i 6],
 om 62 63]
def F7o51 := [
 o3 64 (.faddr 8) [.t 1],
 o3 65 (.load none) [.t 64],
 o3 66 (.bin .rem) [.t 65, .w 256],
 o3 67 (.faddr 8) [.t 2],
 o0 (.store 1) [.t 67, .t 66]]
def F7o53 := [
 o3 68 (.faddr 0) [.t 3],
 o3 69 (.load none) [.t 68],
 o3 70 (.bin .eql) [.t 69, .i 70],
 om 71 70,
 og 72 (.faddr 0) [.t 3] 71 false,
 og 73 (.load none) [.t 72] 71 false,
 og 74 (.bin .eql) [.t 73, .i 71] 71 false,
 o3 75 .pick [.t 71, .b true, .t 74]]
def F7o55 := [
 o3 76 (.faddr 8) [.t 2],
 o0 (.store 1) [.t 76, .w 10]]
def F7c54 : Ac := (cd 75 (.ops F7o55) .skip)
def F7c52 : Ac := (so F7o53 F7c54)
def F7o59 := [
 o3 78 (.bin .eql) [.t 61, .i 8],
 om 77 78]
def F7o62 := [
 o3 79 (.bin .eql) [.t 61, .i 9],
 om 77 79]
def F7c60 : Ac := (cd 77 .skip (.ops F7o62))
def F7o64 := [
 o3 80 (.faddr 8) [.t 1],
 o3 81 (.load none) [.t 80],
 o3 82 (.bin .rem) [.t 81, .w 256],
 o3 83 (.toInt .u8) [.t 82],
 o3 84 (.callf 18) [.t 83],
 o3 85 (.faddr 8) [.t 2],
 o0 (.store 1) [.t 85, .t 84]]
def F7o67 := [
 o3 87 (.bin .eql) [.t 61, .i 7],
 om 86 87]
def F7o71 := [
 o3 88 (.bin .eql) [.t 61, .i 10],
 om 86 88]
def F7o75 := [
 o3 89 (.bin .eql) [.t 61, .i 12],
 om 86 89]
def F7o78 := [
 o3 90 (.bin .eql) [.t 61, .i 13],
 om 86 90]
def F7c76 : Ac := (cd 86 .skip (.ops F7o78))
def F7c72 : Ac := (cd 86 .skip (so F7o75 F7c76))
def F7c68 : Ac := (cd 86 .skip (so F7o71 F7c72))
def F7o80 := [
 o3 91 (.faddr 8) [.t 1],
 o3 92 (.load none) [.t 91],
 o3 93 (.faddr 8) [.t 2],
 o0 (.store 1) [.t 93, .t 92]]
def F7o82 := [
 o3 95 (.bin .eql) [.t 61, .i 11],
 om 94 95]
def F7o84 := [
 o3 96 (.faddr 8) [.t 1],
 o3 97 (.load none) [.t 96],
 o3 98 (.faddr 9) [.t 1],
  { dst := some 99, k := (.load none), xs := [.t 98], av := [[2]] },
 o3 100 (.faddr 8) [.t 2],
  { dst := none, k := (.store 1), xs := [.t 100, .t 97], al := some [[2]] },
 o3 101 (.faddr 9) [.t 2],
 o0 (.store 1) [.t 101, .t 99]]
def F7c83 : Ac := (cd 94 (.ops F7o84) .skip)
def F7b79 : Ac := (cd 86 (.ops F7o80) (so F7o82 F7c83))
def F7c79 : Ac := (.seq (.gh []) (.seq (.keep [1, 2, 3, 61, 86] [[1], [2], [3]]) F7b79))
def F7b63 : Ac := (cd 77 (.ops F7o64) (.seq (so F7o67 F7c68) F7c79))
def F7c63 : Ac := (.seq (.gh []) (.seq (.keep [1, 2, 3, 61, 77] [[1], [2], [3]]) F7b63))
def F7c49 : Ac := (cd 62 (so F7o51 F7c52) (.seq (so F7o59 F7c60) F7c63))
def F7c46 : Ac := (.block 1 (so F7o48 F7c49))
def F7o88 := [
 o3 102 (.faddr 0) [.t 3],
 o3 103 (.load none) [.t 102],
 o3 104 (.callf 20) [.t 103],
 om 6 104]
def F7o90 := [
 om 105 6,
 o3 106 (.bin .gtr) [.t 105, .i 0],
 om 107 106,
 og 108 (.faddr 1) [.t 1] 107 true,
 og 109 (.load none) [.t 108] 107 true,
 og 110 (.bin .and) [.t 109, .i 3] 107 true,
 og 111 (.bin .gtr) [.t 110, .i 0] 107 true,
 o3 112 .pick [.t 107, .t 111, .b false]]
def F7o93 := [
 o3 113 (.faddr 1) [.t 2],
 o0 (.store 1) [.t 113, .i 2]]
def F7o95 := [
 om 114 6,
 o3 115 (.bin .eql) [.t 114, .i 2],
 om 116 115,
 og 117 (.faddr 1) [.t 1] 116 true,
 og 118 (.load none) [.t 117] 116 true,
 og 119 (.bin .and) [.t 118, .i 1] 116 true,
 og 120 (.bin .eql) [.t 119, .i 1] 116 true,
 o3 121 .pick [.t 116, .t 120, .b false]]
def F7o97 := [
 o3 122 (.faddr 1) [.t 2],
 o0 (.store 1) [.t 122, .i 1]]
def F7c96 : Ac := (cd 121 (.ops F7o97) .skip)
def F7c94 : Ac := (so F7o95 F7c96)
def F7c91 : Ac := (cd 112 (so F7o93 F7c94) .skip)
def F7c89 : Ac := (so F7o90 F7c91)
def F7o102 := [
 o3 123 (.faddr 2) [.t 1],
 o3 124 (.load none) [.t 123],
 o3 125 (.bin .and) [.t 124, .i 7],
 o3 126 (.bin .leq) [.t 125, .i 4]]
def F7o104 := [
 o3 127 (.faddr 2) [.t 1],
 o3 128 (.load none) [.t 127],
 o3 129 (.bin .and) [.t 128, .i 7],
 o3 130 (.faddr 2) [.t 2],
 o0 (.store 1) [.t 130, .t 129]]
def F7c103 : Ac := (cd 126 (.ops F7o104) .skip)
def F7o108 := [
 o3 131 (.load (some 10)) [.t 2],
 o3 132 (.callf 9) [.t 131],
 o3 133 (.un .not) [.t 132]]
def F7o111 := [
 o3 134 (.build [.d (.bool false), .d (.int .i64 0), .d (.int .i64 0), .d (.int .u8 0), .d (.int .i64 0), .d (.int .i64 0), .d (.int .i64 0), .d (.int .u16 0), .d (.int .u16 0), .d (.int .u16 0)] [(3, 1)]) [.y 144],
 o0 (.store 10) [.t 2, .t 134]]
def F7c112 : Ac := .ret
def F7c109 : Ac := (cd 133 (so F7o111 F7c112) .skip)
def F7o115 := [
 o3 135 (.load (some 10)) [.t 2],
 o0 (.store 10) [.t 2, .t 135]]
def F7c116 : Ac := .ret
def F7c114 : Ac := (so F7o115 F7c116)
def F7c106 : Ac := (.seq (so F7o108 F7c109) F7c114)
def F7b100 : Ac := (.seq (so F7o102 F7c103) F7c106)
def F7c100 : Ac := (.seq (.gh []) (.seq (.keep [1, 2] [[1], [2]]) F7b100))
def F7b86 : Ac := (.seq (so F7o88 F7c89) F7c100)
def F7c86 : Ac := (.seq (.gh []) (.seq (.keep [1, 2, 3] [[1], [2], [3]]) F7b86))
def F7b43 : Ac := (.seq (so F7o45 F7c46) F7c86)
def F7c43 : Ac := (.seq (.gh []) (.seq (.keep [1, 2, 3, 5] [[1], [2], [3]]) F7b43))
def F7c37 : Ac := (.seq (so F7o39 F7c40) F7c43)
def F7b35 : Ac := (so F7o36 F7c37)
def F7c35 : Ac := (.seq (.gh []) (.seq (.keep [1, 2, 3] [[1], [2], [3]]) F7b35))
def F7c16 : Ac := (.seq (so F7o18 F7c19) F7c35)
def F7c8 : Ac := (.seq (so F7o10 F7c11) F7c16)
def F7c6 : Ac := (so F7o7 F7c8)
def F7c4 : Ac := (so F7o5 F7c6)
def F7c2 : Ac := (so F7o3 F7c4)
def F7c0 : Ac := (so F7o1 F7c2)
/-- hansom/hansomref05.Near -/
def F7 : Fn := { np := 1, pb := [], rs := [.c 2 (some 10)], body := F7c0 }
def F8o1 := [
 o3 1 (.box 10) [.t 0],
 o3 2 .mv [.c (.nils)],
 o3 3 .mv [.i 0]]
def F8o4 := [
 o3 7 (.load (some 10)) [.t 1],
 o3 8 (.callf 21) [.t 7],
 o3 9 (.un .not) [.t 8]]
def F8o7 := [
 o3 2 .mv [.c (.nils)],
 o3 3 .mv [.i 1]]
def F8c8 : Ac := (.seq (.gh [.frz 2]) .ret)
def F8c5 : Ac := (cd 9 (so F8o7 F8c8) .skip)
def F8o11 := [
 o3 11 (.load (some 10)) [.t 1],
 o3 12 (.callf 22) [.t 11],
 om 10 12,
 oe 13 0 10,
 oe 14 1 10,
 o3 4 (.alloc [.d (.int .i64 0), .d (.int .i64 0), .d (.int .i64 0), .d (.bool false)]) [],
 o0 (.store 4) [.t 4, .t 13],
 om 5 14]
def F8o13 : List Ao := [
  { dst := some 15, k := (.load (some 10)), xs := [.t 1], av := [[19]] },
  { dst := some 16, k := (.callf 23), xs := [.t 15], av := [[19]], al := some [] },
 o3 17 (.faddr 3) [.t 1],
  { dst := some 18, k := (.load none), xs := [.t 17], av := [[16]] },
  { dst := some 19, k := (.bslice (.int .u8 0) 1 [0]), xs := [.t 18], av := [[16]] },
 o3 20 (.append 1 1 false) [.t 16, .t 19],
 om 6 20]
def F8o16 := [
 o3 21 (.faddr 3) [.t 4],
 o3 22 (.load none) [.t 21]]
def F8o19 := [
 om 23 6,
 o3 24 (.faddr 4) [.t 1],
 o3 25 (.load none) [.t 24],
 o3 26 (.bin .shl) [.t 25, .c (.d (.int .u64 6))],
 o3 27 (.faddr 5) [.t 1],
 o3 28 (.load none) [.t 27],
 o3 29 (.bin .shl) [.t 28, .c (.d (.int .u64 3))],
 o3 30 (.bin .or) [.t 26, .t 29],
 o3 31 (.faddr 6) [.t 1],
 o3 32 (.load none) [.t 31],
 o3 33 (.bin .or) [.t 30, .t 32],
 o3 34 (.toInt .u8) [.t 33],
 o3 35 (.bslice (.int .u8 0) 1 [0]) [.t 34],
 o3 36 (.append 1 1 false) [.t 23, .t 35],
 om 6 36]
def F8o21 := [
 o3 37 (.faddr 4) [.t 1],
 o3 38 (.load none) [.t 37],
 o3 39 (.faddr 6) [.t 1],
 o3 40 (.load none) [.t 39],
 o3 41 (.callf 24) [.t 38, .t 40]]
def F8o24 := [
 o3 43 (.bin .eql) [.t 41, .i 1],
 om 42 43]
def F8o26 := [
 om 44 6,
 o3 45 (.faddr 7) [.t 1],
 o3 46 (.load none) [.t 45],
 o3 47 (.callf 25) [.t 46],
 o3 48 (.bslice (.int .u8 0) 1 [0]) [.t 47],
 o3 49 (.append 1 1 false) [.t 44, .t 48],
 om 6 49]
def F8o28 := [
 o3 51 (.bin .eql) [.t 41, .i 2],
 om 50 51]
def F8o30 := [
 om 52 6,
 o3 53 (.faddr 7) [.t 1],
 o3 54 (.load none) [.t 53],
  { dst := some 55, k := (.callf 25), xs := [.t 54], al := some [] },
 o3 56 (.faddr 7) [.t 1],
  { dst := some 57, k := (.load none), xs := [.t 56], av := [[55]] },
 o3 58 (.callf 26) [.t 57],
 o3 59 (.bslice (.int .u8 0) 2 [0, 1]) [.t 55, .t 58],
 o3 60 (.append 1 1 false) [.t 52, .t 59],
 om 6 60]
def F8c29 : Ac := (cd 50 (.ops F8o30) .skip)
def F8c25 : Ac := (cd 42 (.ops F8o26) (so F8o28 F8c29))
def F8c22 : Ac := (.block 0 (so F8o24 F8c25))
def F8c20 : Ac := (so F8o21 F8c22)
def F8c17 : Ac := (cd 22 (so F8o19 F8c20) .skip)
def F8o35 := [
 o3 61 (.load (some 4)) [.t 4],
 o3 62 (.callf 27) [.t 61]]
def F8o38 := [
 o3 64 (.bin .eql) [.t 62, .i 1],
 om 63 64]
def F8o40 := [
 om 65 6,
 o3 66 (.faddr 8) [.t 1],
 o3 67 (.load none) [.t 66],
 o3 68 (.callf 25) [.t 67],
 o3 69 (.bslice (.int .u8 0) 1 [0]) [.t 68],
 o3 70 (.append 1 1 false) [.t 65, .t 69],
 om 6 70]
def F8o42 := [
 o3 72 (.bin .eql) [.t 62, .i 2],
 om 71 72]
def F8o44 := [
 om 73 6,
 o3 74 (.faddr 8) [.t 1],
 o3 75 (.load none) [.t 74],
  { dst := some 76, k := (.callf 25), xs := [.t 75], al := some [] },
 o3 77 (.faddr 8) [.t 1],
  { dst := some 78, k := (.load none), xs := [.t 77], av := [[76]] },
 o3 79 (.callf 26) [.t 78],
 o3 80 (.bslice (.int .u8 0) 2 [0, 1]) [.t 76, .t 79],
 o3 81 (.append 1 1 false) [.t 73, .t 80],
 om 6 81]
def F8o46 := [
 o3 83 (.bin .eql) [.t 62, .i 4],
 om 82 83]
def F8o48 := [
 om 84 6,
 o3 85 (.faddr 8) [.t 1],
 o3 86 (.load none) [.t 85],
  { dst := some 87, k := (.callf 25), xs := [.t 86], al := some [] },
 o3 88 (.faddr 8) [.t 1],
  { dst := some 89, k := (.load none), xs := [.t 88], av := [[87]] },
  { dst := some 90, k := (.callf 26), xs := [.t 89], al := some [] },
 o3 91 (.faddr 9) [.t 1],
  { dst := some 92, k := (.load none), xs := [.t 91], av := [[87], [90]] },
  { dst := some 93, k := (.callf 25), xs := [.t 92], al := some [] },
 o3 94 (.faddr 9) [.t 1],
  { dst := some 95, k := (.load none), xs := [.t 94], av := [[87], [90], [93]] },
 o3 96 (.callf 26) [.t 95],
 o3 97 (.bslice (.int .u8 0) 4 [0, 1, 2, 3]) [.t 87, .t 90, .t 93, .t 96],
 o3 98 (.append 1 1 false) [.t 84, .t 97],
 om 6 98]
def F8c47 : Ac := (cd 82 (.ops F8o48) .skip)
def F8c43 : Ac := (cd 71 (.ops F8o44) (so F8o46 F8c47))
def F8c39 : Ac := (cd 63 (.ops F8o40) (so F8o42 F8c43))
def F8c36 : Ac := (.block 1 (so F8o38 F8c39))
def F8o51 := [
 om 99 6,
 om 2 99,
 o3 3 .mv [.i 0]]
def F8c52 : Ac := (.seq (.gh [.frz 2]) .ret)
def F8c50 : Ac := (so F8o51 F8c52)
def F8b33 : Ac := (.seq (so F8o35 F8c36) F8c50)
def F8c33 : Ac := (.seq (.gh []) (.seq (.keep [1, 4, 6] [[1], [4], [16]]) F8b33))
def F8c14 : Ac := (.seq (so F8o16 F8c17) F8c33)
def F8c12 : Ac := (so F8o13 F8c14)
def F8c10 : Ac := (so F8o11 F8c12)
def F8c2 : Ac := (.seq (so F8o4 F8c5) F8c10)
def F8c0 : Ac := (so F8o1 F8c2)
/-- hansom/code.Put -/
def F8 : Fn := { np := 1, pb := [], rs := [.t 2, .t 3], body := F8c0 }
def F9o1 := [
 o3 1 (.box 10) [.t 0],
 o3 2 .mv [.b false]]
def F9o3 := [
 o3 9 (.load (some 10)) [.t 1],
 o3 10 (.callf 13) [.t 9],
 om 8 10,
 oe 11 0 8,
 oe 12 1 8,
 o3 3 (.alloc [.d (.int .i64 0), .d (.int .i64 0), .d (.int .i64 0), .d (.bool false)]) [],
 o0 (.store 4) [.t 3, .t 11],
 om 4 12]
def F9o6 := [
 om 13 4,
 o3 14 (.un .not) [.t 13],
 om 15 14,
 og 16 (.faddr 2) [.t 1] 15 false,
 og 17 (.load none) [.t 16] 15 false,
 og 18 (.bin .lss) [.t 17, .i 0] 15 false,
 o3 19 .pick [.t 15, .b true, .t 18],
 om 20 19,
 og 21 (.faddr 2) [.t 1] 20 false,
 og 22 (.load none) [.t 21] 20 false,
 og 23 (.bin .gtr) [.t 22, .i 4] 20 false,
 o3 24 .pick [.t 20, .b true, .t 23]]
def F9o9 := [
 o3 2 .mv [.b false]]
def F9c10 : Ac := .ret
def F9c7 : Ac := (cd 24 (so F9o9 F9c10) .skip)
def F9o13 := [
 o3 25 (.faddr 0) [.t 3],
 o3 26 (.load none) [.t 25],
 o3 27 (.callf 20) [.t 26],
 om 5 27]
def F9o16 := [
 o3 28 (.faddr 1) [.t 1],
 o3 29 (.load none) [.t 28],
 o3 30 (.bin .lss) [.t 29, .i 0],
 om 31 30,
 og 32 (.faddr 1) [.t 1] 31 false,
 og 33 (.load none) [.t 32] 31 false,
 og 34 (.bin .gtr) [.t 33, .i 2] 31 false,
 o3 35 .pick [.t 31, .b true, .t 34],
 om 36 35,
 og 37 (.faddr 1) [.t 1] 36 false,
 og 38 (.load none) [.t 37] 36 false,
 og 39 (.bin .eql) [.t 38, .i 1] 36 false,
 og 40 .mv [.t 39] 36 false,
 og 41 .mv [.t 5] 40 true,
 og 42 (.bin .lss) [.t 41, .i 2] 40 true,
 og 43 .pick [.t 40, .t 42, .b false] 36 false,
 o3 44 .pick [.t 36, .b true, .t 43],
 om 45 44,
 og 46 (.faddr 1) [.t 1] 45 false,
 og 47 (.load none) [.t 46] 45 false,
 og 48 (.bin .eql) [.t 47, .i 2] 45 false,
 og 49 .mv [.t 48] 45 false,
 og 50 .mv [.t 5] 49 true,
 og 51 (.bin .lss) [.t 50, .i 1] 49 true,
 og 52 .pick [.t 49, .t 51, .b false] 45 false,
 o3 53 .pick [.t 45, .b true, .t 52]]
def F9o19 := [
 o3 2 .mv [.b false]]
def F9c20 : Ac := .ret
def F9c17 : Ac := (cd 53 (so F9o19 F9c20) .skip)
def F9o24 := [
 o3 54 (.faddr 3) [.t 3],
 o3 55 (.load none) [.t 54],
 o3 56 (.un .not) [.t 55]]
def F9o27 := [
 o3 57 (.faddr 4) [.t 1],
 o3 58 (.load none) [.t 57],
 o3 59 (.bin .neq) [.t 58, .i 0],
 om 60 59,
 og 61 (.faddr 5) [.t 1] 60 false,
 og 62 (.load none) [.t 61] 60 false,
 og 63 (.bin .neq) [.t 62, .i 0] 60 false,
 o3 64 .pick [.t 60, .b true, .t 63],
 om 65 64,
 og 66 (.faddr 6) [.t 1] 65 false,
 og 67 (.load none) [.t 66] 65 false,
 og 68 (.bin .neq) [.t 67, .i 0] 65 false,
 o3 69 .pick [.t 65, .b true, .t 68],
 om 70 69,
 og 71 (.faddr 7) [.t 1] 70 false,
 og 72 (.load none) [.t 71] 70 false,
 og 73 (.bin .neq) [.t 72, .w 0] 70 false,
 o3 74 .pick [.t 70, .b true, .t 73]]
def F9o30 := [
 o3 2 .mv [.b false]]
def F9c31 : Ac := .ret
def F9c28 : Ac := (cd 74 (so F9o30 F9c31) .skip)
def F9o35 := [
 o3 75 (.faddr 4) [.t 1],
 o3 76 (.load none) [.t 75],
 o3 77 (.bin .lss) [.t 76, .i 0],
 om 78 77,
 og 79 (.faddr 4) [.t 1] 78 false,
 og 80 (.load none) [.t 79] 78 false,
 og 81 (.bin .gtr) [.t 80, .i 3] 78 false,
 o3 82 .pick [.t 78, .b true, .t 81],
 om 83 82,
 og 84 (.faddr 5) [.t 1] 83 false,
 og 85 (.load none) [.t 84] 83 false,
 og 86 (.bin .lss) [.t 85, .i 0] 83 false,
 o3 87 .pick [.t 83, .b true, .t 86],
 om 88 87,
 og 89 (.faddr 5) [.t 1] 88 false,
 og 90 (.load none) [.t 89] 88 false,
 og 91 (.bin .gtr) [.t 90, .i 7] 88 false,
 o3 92 .pick [.t 88, .b true, .t 91],
 om 93 92,
 og 94 (.faddr 6) [.t 1] 93 false,
 og 95 (.load none) [.t 94] 93 false,
 og 96 (.bin .lss) [.t 95, .i 0] 93 false,
 o3 97 .pick [.t 93, .b true, .t 96],
 om 98 97,
 og 99 (.faddr 6) [.t 1] 98 false,
 og 100 (.load none) [.t 99] 98 false,
 og 101 (.bin .gtr) [.t 100, .i 7] 98 false,
 o3 102 .pick [.t 98, .b true, .t 101]]
def F9o38 := [
 o3 2 .mv [.b false]]
def F9c39 : Ac := .ret
def F9c36 : Ac := (cd 102 (so F9o38 F9c39) .skip)
def F9o43 := [
 o3 103 (.faddr 4) [.t 1],
 o3 104 (.load none) [.t 103],
 o3 105 (.bin .eql) [.t 104, .i 3],
 om 106 105,
 og 107 (.faddr 1) [.t 3] 106 true,
 og 108 (.load none) [.t 107] 106 true,
 og 109 (.bin .eql) [.t 108, .i 19] 106 true,
 og 110 .mv [.t 109] 106 true,
 og 111 (.faddr 1) [.t 3] 110 false,
 og 112 (.load none) [.t 111] 110 false,
 og 113 (.bin .eql) [.t 112, .i 20] 110 false,
 og 114 .pick [.t 110, .b true, .t 113] 106 true,
 og 115 .mv [.t 114] 106 true,
 og 116 (.faddr 2) [.t 3] 115 false,
 og 117 (.load none) [.t 116] 115 false,
 og 118 (.bin .eql) [.t 117, .i 19] 115 false,
 og 119 .pick [.t 115, .b true, .t 118] 106 true,
 og 120 .mv [.t 119] 106 true,
 og 121 (.faddr 2) [.t 3] 120 false,
 og 122 (.load none) [.t 121] 120 false,
 og 123 (.bin .eql) [.t 122, .i 20] 120 false,
 og 124 .pick [.t 120, .b true, .t 123] 106 true,
 o3 125 .pick [.t 106, .t 124, .b false]]
def F9o46 := [
 o3 2 .mv [.b false]]
def F9c47 : Ac := .ret
def F9c44 : Ac := (cd 125 (so F9o46 F9c47) .skip)
def F9o50 := [
 o3 126 (.faddr 4) [.t 1],
 o3 127 (.load none) [.t 126],
 o3 128 (.faddr 6) [.t 1],
 o3 129 (.load none) [.t 128],
 o3 130 (.callf 17) [.t 127, .t 129],
 om 6 130]
def F9o52 := [
 om 131 6,
 o3 132 (.bin .eql) [.t 131, .i 0],
 om 133 132,
 og 134 (.faddr 7) [.t 1] 133 true,
 og 135 (.load none) [.t 134] 133 true,
 og 136 (.bin .neq) [.t 135, .w 0] 133 true,
 o3 137 .pick [.t 133, .t 136, .b false],
 om 138 137,
 og 139 .mv [.t 6] 138 false,
 og 140 (.bin .eql) [.t 139, .i 1] 138 false,
 og 141 .mv [.t 140] 138 false,
 og 142 (.faddr 7) [.t 1] 141 true,
 og 143 (.load none) [.t 142] 141 true,
 og 144 (.callf 28) [.t 143] 141 true,
 og 145 (.un .not) [.t 144] 141 true,
 og 146 .pick [.t 141, .t 145, .b false] 138 false,
 o3 147 .pick [.t 138, .b true, .t 146]]
def F9o55 := [
 o3 2 .mv [.b false]]
def F9c56 : Ac := .ret
def F9c53 : Ac := (cd 147 (so F9o55 F9c56) .skip)
def F9c51 : Ac := (so F9o52 F9c53)
def F9b49 : Ac := (so F9o50 F9c51)
def F9c49 : Ac := (.seq (.gh []) (.seq (.keep [1, 3] [[1], [3]]) F9b49))
def F9c41 : Ac := (.seq (so F9o43 F9c44) F9c49)
def F9c25 : Ac := (cd 56 (so F9o27 F9c28) (.seq (so F9o35 F9c36) F9c41))
def F9o59 := [
 o3 148 (.faddr 1) [.t 3],
 o3 149 (.load none) [.t 148],
 om 7 149]
def F9o62 := [
 om 150 7,
 o3 151 (.callf 19) [.t 150],
 o3 152 (.bin .eql) [.t 151, .i 0]]
def F9o64 := [
 o3 153 (.faddr 2) [.t 3],
 o3 154 (.load none) [.t 153],
 om 7 154]
def F9c63 : Ac := (cd 152 (.ops F9o64) .skip)
def F9o68 := [
 om 155 7]
def F9o71 := [
 o3 157 (.bin .eql) [.t 155, .i 6],
 om 156 157]
def F9o74 := [
 o3 158 (.faddr 8) [.t 1],
 o3 159 (.load none) [.t 158],
 o3 160 (.bin .lss) [.t 159, .w 256],
 om 161 160,
 og 162 (.faddr 9) [.t 1] 161 true,
 og 163 (.load none) [.t 162] 161 true,
 og 164 (.bin .eql) [.t 163, .w 0] 161 true,
 o3 165 .pick [.t 161, .t 164, .b false],
 om 166 165,
 og 167 (.faddr 0) [.t 3] 166 true,
 og 168 (.load none) [.t 167] 166 true,
 og 169 (.bin .neq) [.t 168, .i 70] 166 true,
 og 170 .mv [.t 169] 166 true,
 og 171 (.faddr 0) [.t 3] 170 true,
 og 172 (.load none) [.t 171] 170 true,
 og 173 (.bin .neq) [.t 172, .i 71] 170 true,
 og 174 .pick [.t 170, .t 173, .b false] 166 true,
 og 175 .mv [.t 174] 166 true,
 og 176 (.faddr 8) [.t 1] 175 false,
 og 177 (.load none) [.t 176] 175 false,
 og 178 (.bin .eql) [.t 177, .w 10] 175 false,
 og 179 .pick [.t 175, .b true, .t 178] 166 true,
 o3 180 .pick [.t 166, .t 179, .b false],
 om 2 180]
def F9c75 : Ac := .ret
def F9o78 := [
 o3 182 (.bin .eql) [.t 155, .i 8],
 om 181 182]
def F9o81 := [
 o3 183 (.bin .eql) [.t 155, .i 9],
 om 181 183]
def F9c79 : Ac := (cd 181 .skip (.ops F9o81))
def F9o84 := [
 o3 184 (.faddr 8) [.t 1],
 o3 185 (.load none) [.t 184],
 o3 186 (.callf 28) [.t 185],
 om 187 186,
 og 188 (.faddr 9) [.t 1] 187 true,
 og 189 (.load none) [.t 188] 187 true,
 og 190 (.bin .eql) [.t 189, .w 0] 187 true,
 o3 191 .pick [.t 187, .t 190, .b false],
 om 2 191]
def F9c85 : Ac := .ret
def F9o88 := [
 o3 193 (.bin .eql) [.t 155, .i 7],
 om 192 193]
def F9o92 := [
 o3 194 (.bin .eql) [.t 155, .i 10],
 om 192 194]
def F9o96 := [
 o3 195 (.bin .eql) [.t 155, .i 12],
 om 192 195]
def F9o99 := [
 o3 196 (.bin .eql) [.t 155, .i 13],
 om 192 196]
def F9c97 : Ac := (cd 192 .skip (.ops F9o99))
def F9c93 : Ac := (cd 192 .skip (so F9o96 F9c97))
def F9c89 : Ac := (cd 192 .skip (so F9o92 F9c93))
def F9o102 := [
 o3 197 (.faddr 9) [.t 1],
 o3 198 (.load none) [.t 197],
 o3 199 (.bin .eql) [.t 198, .w 0],
 om 2 199]
def F9c103 : Ac := .ret
def F9o105 := [
 o3 201 (.bin .eql) [.t 155, .i 11],
 om 200 201]
def F9o108 := [
 o3 2 .mv [.b true]]
def F9c109 : Ac := .ret
def F9c106 : Ac := (cd 200 (so F9o108 F9c109) .skip)
def F9c100 : Ac := (cd 192 (so F9o102 F9c103) (so F9o105 F9c106))
def F9b82 : Ac := (cd 181 (so F9o84 F9c85) (.seq (so F9o88 F9c89) F9c100))
def F9c82 : Ac := (.seq (.gh []) (.seq (.keep [1, 155, 181] [[1]]) F9b82))
def F9c72 : Ac := (cd 156 (so F9o74 F9c75) (.seq (so F9o78 F9c79) F9c82))
def F9c69 : Ac := (.block 0 (so F9o71 F9c72))
def F9o112 := [
 o3 202 (.faddr 8) [.t 1],
 o3 203 (.load none) [.t 202],
 o3 204 (.bin .eql) [.t 203, .w 0],
 om 205 204,
 og 206 (.faddr 9) [.t 1] 205 true,
 og 207 (.load none) [.t 206] 205 true,
 og 208 (.bin .eql) [.t 207, .w 0] 205 true,
 o3 209 .pick [.t 205, .t 208, .b false],
 om 2 209]
def F9c113 : Ac := .ret
def F9c111 : Ac := (so F9o112 F9c113)
def F9b66 : Ac := (.seq (so F9o68 F9c69) F9c111)
def F9c66 : Ac := (.seq (.gh []) (.seq (.keep [1, 3, 7] [[1], [3]]) F9b66))
def F9c60 : Ac := (.seq (so F9o62 F9c63) F9c66)
def F9b58 : Ac := (so F9o59 F9c60)
def F9c58 : Ac := (.seq (.gh []) (.seq (.keep [1, 3] [[1], [3]]) F9b58))
def F9b22 : Ac := (.seq (so F9o24 F9c25) F9c58)
def F9c22 : Ac := (.seq (.gh []) (.seq (.keep [1, 3] [[1], [3]]) F9b22))
def F9c14 : Ac := (.seq (so F9o16 F9c17) F9c22)
def F9c12 : Ac := (so F9o13 F9c14)
def F9c4 : Ac := (.seq (so F9o6 F9c7) F9c12)
def F9c2 : Ac := (so F9o3 F9c4)
def F9c0 : Ac := (so F9o1 F9c2)
/-- hansom/hansomref05.May -/
def F9 : Fn := { np := 1, pb := [], rs := [.t 2], body := F9c0 }
def F11o1 := [
 o3 1 (.box 10) [.t 0],
 o3 2 .mv [.c (.nils)]]
def F11o3 := [
 o3 8 (.load (some 10)) [.t 1],
 o3 9 (.callf 13) [.t 8],
 om 7 9,
 oe 10 0 7,
 oe 11 1 7,
 o3 3 (.alloc [.d (.int .i64 0), .d (.int .i64 0), .d (.int .i64 0), .d (.bool false)]) [],
 o0 (.store 4) [.t 3, .t 10],
 om 4 11]
def F11o5 := [
 o3 12 (.bslice (.int .u8 0) 0 []) [],
 om 5 12]
def F11o8 := [
 o3 13 (.faddr 0) [.t 1],
 o3 14 (.load none) [.t 13]]
def F11o10 := [
 om 15 5,
 o3 16 (.bslice (.int .u8 0) 1 [0]) [.y 240],
 o3 17 (.append 1 1 false) [.t 15, .t 16],
 om 5 17]
def F11c9 : Ac := (cd 14 (.ops F11o10) .skip)
def F11o14 := [
 o3 18 (.faddr 1) [.t 1],
 o3 19 (.load none) [.t 18],
 o3 20 (.bin .gtr) [.t 19, .i 0]]
def F11o16 := [
 om 21 5,
 o3 22 (.faddr 1) [.t 1],
 o3 23 (.load none) [.t 22],
 o3 24 (.bin .add) [.i 241, .t 23],
 o3 25 (.toInt .u8) [.t 24],
 o3 26 (.bslice (.int .u8 0) 1 [0]) [.t 25],
 o3 27 (.append 1 1 false) [.t 21, .t 26],
 om 5 27]
def F11c15 : Ac := (cd 20 (.ops F11o16) .skip)
def F11o20 := [
 o3 28 (.faddr 2) [.t 1],
 o3 29 (.load none) [.t 28],
 o3 30 (.bin .gtr) [.t 29, .i 0]]
def F11o22 := [
 om 31 5,
 o3 32 (.faddr 2) [.t 1],
 o3 33 (.load none) [.t 32],
 o3 34 (.bin .mul) [.i 8, .t 33],
 o3 35 (.bin .add) [.i 30, .t 34],
 o3 36 (.toInt .u8) [.t 35],
 o3 37 (.bslice (.int .u8 0) 1 [0]) [.t 36],
 o3 38 (.append 1 1 false) [.t 31, .t 37],
 om 5 38]
def F11c21 : Ac := (cd 30 (.ops F11o22) .skip)
def F11o25 := [
 om 39 5,
 o3 40 (.faddr 3) [.t 1],
 o3 41 (.load none) [.t 40],
 o3 42 (.bslice (.int .u8 0) 1 [0]) [.t 41],
 o3 43 (.append 1 1 false) [.t 39, .t 42],
 om 5 43]
def F11o28 := [
 o3 44 (.faddr 3) [.t 3],
 o3 45 (.load none) [.t 44]]
def F11o31 := [
 om 46 5,
 o3 47 (.faddr 4) [.t 1],
 o3 48 (.load none) [.t 47],
 o3 49 (.bin .mul) [.i 64, .t 48],
 o3 50 (.faddr 5) [.t 1],
 o3 51 (.load none) [.t 50],
 o3 52 (.bin .mul) [.i 8, .t 51],
 o3 53 (.bin .add) [.t 49, .t 52],
 o3 54 (.faddr 6) [.t 1],
 o3 55 (.load none) [.t 54],
 o3 56 (.bin .add) [.t 53, .t 55],
 o3 57 (.toInt .u8) [.t 56],
 o3 58 (.bslice (.int .u8 0) 1 [0]) [.t 57],
 o3 59 (.append 1 1 false) [.t 46, .t 58],
 om 5 59]
def F11o32 := [
 om 60 5,
 o3 61 (.faddr 7) [.t 1],
 o3 62 (.load none) [.t 61],
  { dst := some 63, k := (.callf 29), xs := [.t 62], al := some [] },
 o3 64 (.faddr 4) [.t 1],
  { dst := some 65, k := (.load none), xs := [.t 64], av := [[63]] },
 o3 66 (.faddr 6) [.t 1],
  { dst := some 67, k := (.load none), xs := [.t 66], av := [[63]] },
 o3 68 (.callf 17) [.t 65, .t 67],
 o3 69 (.subsl 1 false true false) [.t 63, .t 68],
 o3 70 (.append 1 1 false) [.t 60, .t 69],
 om 5 70]
def F11c32 : Ac := (.ops F11o32)
def F11c29 : Ac := (cd 45 (so F11o31 F11c32) .skip)
def F11o36 := [
 o3 71 (.load (some 4)) [.t 3],
 o3 72 (.callf 15) [.t 71],
 om 6 72]
def F11o38 := [
 om 73 6]
def F11o42 := [
 o3 75 (.bin .eql) [.t 73, .i 1],
 om 74 75]
def F11o45 := [
 o3 76 (.bin .eql) [.t 73, .i 2],
 om 74 76]
def F11c43 : Ac := (cd 74 .skip (.ops F11o45))
def F11o47 := [
 om 77 5,
 o3 78 (.faddr 8) [.t 1],
 o3 79 (.load none) [.t 78],
 o3 80 (.callf 29) [.t 79],
 om 81 6,
 o3 82 (.subsl 1 false true false) [.t 80, .t 81],
 o3 83 (.append 1 1 false) [.t 77, .t 82],
 om 5 83]
def F11o49 := [
 o3 85 (.bin .eql) [.t 73, .i 4],
 om 84 85]
def F11o51 := [
 om 86 5,
 o3 87 (.faddr 8) [.t 1],
 o3 88 (.load none) [.t 87],
  { dst := some 89, k := (.callf 29), xs := [.t 88], al := some [] },
  { dst := some 90, k := (.append 1 1 false), xs := [.t 86, .t 89], al := some [[12], [17], [27], [38], [43], [59], [70], [83], [90], [94]] },
 o3 91 (.faddr 9) [.t 1],
  { dst := some 92, k := (.load none), xs := [.t 91], av := [[89], [90], [12], [17], [27], [38], [43], [59], [70], [83], [94]] },
 o3 93 (.callf 29) [.t 92],
 o3 94 (.append 1 1 false) [.t 90, .t 93],
 om 5 94]
def F11c50 : Ac := (cd 84 (.ops F11o51) .skip)
def F11b46 : Ac := (cd 74 (.ops F11o47) (so F11o49 F11c50))
def F11c46 : Ac := (.seq (.gh []) (.seq (.keep [1, 5, 6, 73, 74] [[1], [12]]) F11b46))
def F11c39 : Ac := (.block 0 (.seq (so F11o42 F11c43) F11c46))
def F11c37 : Ac := (so F11o38 F11c39)
def F11o54 := [
 om 95 5,
 om 2 95]
def F11c55 : Ac := (.seq (.gh [.frz 2]) .ret)
def F11c53 : Ac := (so F11o54 F11c55)
def F11b34 : Ac := (.seq (so F11o36 F11c37) F11c53)
def F11c34 : Ac := (.seq (.gh []) (.seq (.keep [1, 3, 5] [[1], [3], [12]]) F11b34))
def F11c26 : Ac := (.seq (so F11o28 F11c29) F11c34)
def F11b24 : Ac := (so F11o25 F11c26)
def F11c24 : Ac := (.seq (.gh []) (.seq (.keep [1, 3, 5] [[1], [3], [12]]) F11b24))
def F11b18 : Ac := (.seq (so F11o20 F11c21) F11c24)
def F11c18 : Ac := (.seq (.gh []) (.seq (.keep [1, 3, 5] [[1], [3], [12]]) F11b18))
def F11b12 : Ac := (.seq (so F11o14 F11c15) F11c18)
def F11c12 : Ac := (.seq (.gh []) (.seq (.keep [1, 3, 5] [[1], [3], [12]]) F11b12))
def F11c6 : Ac := (.seq (so F11o8 F11c9) F11c12)
def F11c4 : Ac := (so F11o5 F11c6)
def F11c2 : Ac := (so F11o3 F11c4)
def F11c0 : Ac := (so F11o1 F11c2)
/-- hansom/hansomref05.Put -/
def F11 : Fn := { np := 1, pb := [], rs := [.t 2], body := F11c0 }
def F13o1 := [
 o3 1 (.box 10) [.t 0],
 o3 2 (.alloc [.d (.int .i64 0), .d (.int .i64 0), .d (.int .i64 0), .d (.bool false)]) [],
 o3 3 .mv [.b false]]
def F13o4 := [
 o3 4 (.faddr 3) [.t 1],
 o3 5 (.load none) [.t 4],
 o3 6 (.callf 30) [.t 5]]
def F13o7 := [
 o3 7 (.build [.d (.int .i64 0), .d (.int .i64 0), .d (.int .i64 0), .d (.bool false)] []) [],
 o0 (.store 4) [.t 2, .t 7],
 o3 3 .mv [.b false]]
def F13c8 : Ac := .ret
def F13c5 : Ac := (cd 6 (so F13o7 F13c8) .skip)
def F13o11 := [
 o3 8 (.faddr 3) [.t 1],
 o3 9 (.load none) [.t 8],
 o3 10 (.faddr 5) [.t 1],
 o3 11 (.load none) [.t 10],
 o3 12 (.callf 31) [.t 9, .t 11],
 oe 13 0 12,
 oe 14 1 12,
 o0 (.store 4) [.t 2, .t 13],
 om 3 14]
def F13c12 : Ac := .ret
def F13c10 : Ac := (so F13o11 F13c12)
def F13c2 : Ac := (.seq (so F13o4 F13c5) F13c10)
def F13c0 : Ac := (so F13o1 F13c2)
/-- hansom/hansomref05.Row -/
def F13 : Fn := { np := 1, pb := [], rs := [.c 2 (some 4), .t 3], body := F13c0 }
def F14o1 := [
 o3 5 (.box 25) [.t 0],
 o3 10 .mv [.c (.nils)],
 o3 11 .mv [.c (.nils)],
 o3 12 .mv [.b false]]
def F14o3 := [
 o3 23 (.faddr 0) [.t 5],
 o3 24 (.load (some 10)) [.t 23],
 o3 13 (.alloc [.d (.bool false), .d (.int .i64 0), .d (.int .i64 0), .d (.int .u8 0), .d (.int .i64 0), .d (.int .i64 0), .d (.int .i64 0), .d (.int .u16 0), .d (.int .u16 0), .d (.int .u16 0)]) [],
 o0 (.store 10) [.t 13, .t 24]]
def F14o5 := [
 o3 25 (.load (some 10)) [.t 13],
 o3 26 (.callf 32) [.t 25],
 om 14 26]
def F14o7 := [
 o3 15 .mv [.c (.nils)]]
def F14o9 := [
 o3 28 (.load (some 10)) [.t 13],
 o3 29 (.callf 22) [.t 28],
 om 27 29,
 oe 30 0 27,
 oe 31 1 27,
 o3 16 (.alloc [.d (.int .i64 0), .d (.int .i64 0), .d (.int .i64 0), .d (.bool false)]) [],
 o0 (.store 4) [.t 16, .t 30],
 om 17 31]
def F14o11 := [
 o3 32 (.load (some 10)) [.t 13],
 o3 33 (.callf 33) [.t 32],
 om 18 33]
def F14o14 := [
 o3 34 (.faddr 22) [.t 5],
 o3 35 (.load none) [.t 34],
 om 36 35,
 og 37 (.faddr 10) [.t 5] 36 true,
 og 38 (.load (some 6)) [.t 37] 36 true,
 og 39 (.callf 34) [.t 38] 36 true,
 og 40 (.un .not) [.t 39] 36 true,
 o3 41 .pick [.t 36, .t 40, .b false]]
def F14o17 := [
 om 42 15,
 om 43 18,
 o3 44 (.bin .sub) [.t 43, .i 2],
 o3 45 (.faddr 10) [.t 5],
 o3 46 (.load (some 6)) [.t 45],
 om 47 3,
 om 48 4,
 o3 49 (.callf 35) [.t 44, .i 1, .t 46, .t 47, .t 48],
 o3 50 (.bslice (.agg [.int .i64 0, .int .i64 0, .bool false, .int .i64 0, .int .i64 0, .int .i64 0, .int .i64 0, .int .u16 0]) 1 [0]) [.t 49],
 o3 51 (.append 8 64 false) [.t 42, .t 50],
 om 15 51]
def F14o18 := [
 o3 52 (.faddr 7) [.t 13],
 o0 (.store 1) [.t 52, .w 0]]
def F14c18 : Ac := (.ops F14o18)
def F14c15 : Ac := (cd 41 (so F14o17 F14c18) .skip)
def F14o23 := [
 o3 54 (.faddr 24) [.t 5],
 o3 55 (.load none) [.t 54],
 om 56 55,
 og 57 (.faddr 16) [.t 5] 56 true,
 og 58 (.faddr 1) [.t 57] 56 true,
 og 59 (.load none) [.t 58] 56 true,
 og 60 (.bin .eql) [.t 59, .i 3] 56 true,
 o3 61 .pick [.t 56, .t 60, .b false],
 om 53 61]
def F14o26 := [
 om 62 18,
 o3 63 (.faddr 16) [.t 5],
 o3 64 (.load (some 6)) [.t 63],
 o3 65 (.callf 35) [.t 62, .i 1, .t 64, .i 0, .i 0],
 o3 19 (.alloc [.d (.int .i64 0), .d (.int .i64 0), .d (.bool false), .d (.int .i64 0), .d (.int .i64 0), .d (.int .i64 0), .d (.int .i64 0), .d (.int .u16 0)]) [],
 o0 (.store 8) [.t 19, .t 65]]
def F14o28 := [
 o3 66 (.faddr 2) [.t 19],
 o0 (.store 1) [.t 66, .b true]]
def F14o30 := [
 om 67 15,
 o3 68 (.load (some 8)) [.t 19],
 o3 69 (.bslice (.agg [.int .i64 0, .int .i64 0, .bool false, .int .i64 0, .int .i64 0, .int .i64 0, .int .i64 0, .int .u16 0]) 1 [0]) [.t 68],
 o3 70 (.append 8 64 false) [.t 67, .t 69],
 om 15 70]
def F14o32 := [
 o3 71 (.load (some 4)) [.t 16],
 o3 72 (.callf 27) [.t 71],
 o3 73 (.bin .neq) [.t 72, .i 2]]
def F14o35 := [
 o3 10 .mv [.c (.nils)],
 o3 11 .mv [.c (.nils)],
 o3 12 .mv [.b false]]
def F14c36 : Ac := (.seq (.gh [.frz 10, .frz 11]) .ret)
def F14c33 : Ac := (cd 73 (so F14o35 F14c36) .skip)
def F14c31 : Ac := (so F14o32 F14c33)
def F14c29 : Ac := (so F14o30 F14c31)
def F14c27 : Ac := (so F14o28 F14c29)
def F14o39 := [
 o3 75 (.faddr 24) [.t 5],
 o3 76 (.load none) [.t 75],
 om 74 76]
def F14o42 := [
 o3 77 (.faddr 16) [.t 5],
 o3 78 (.faddr 0) [.t 77],
 o3 79 (.load none) [.t 78],
 om 80 2,
 o3 81 (.bin .sub) [.t 79, .t 80],
 om 82 14,
 o3 83 (.bin .sub) [.t 81, .t 82],
 om 20 83]
def F14o45 := [
 o3 84 (.faddr 16) [.t 5],
 o3 85 (.faddr 5) [.t 84],
 o3 86 (.load none) [.t 85],
 o3 87 (.un .not) [.t 86]]
def F14o47 := [
 o3 20 .mv [.i 0]]
def F14c46 : Ac := (cd 87 (.ops F14o47) .skip)
def F14o50 := [
 om 88 20,
 o3 89 (.toInt .u16) [.t 88],
 o3 90 (.faddr 8) [.t 13],
 o0 (.store 1) [.t 90, .t 89]]
def F14o52 := [
 o3 91 (.faddr 16) [.t 5],
 o3 92 (.faddr 1) [.t 91],
 o3 93 (.load none) [.t 92],
 o3 94 (.bin .eql) [.t 93, .i 1],
 om 95 94,
 og 96 (.faddr 16) [.t 5] 95 true,
 og 97 (.faddr 2) [.t 96] 95 true,
 og 98 (.load none) [.t 97] 95 true,
 og 99 .mv [.t 1] 95 true,
 og 100 (.bin .neq) [.t 98, .t 99] 95 true,
 o3 101 .pick [.t 95, .t 100, .b false],
 om 102 101,
 og 103 (.load (some 4)) [.t 16] 102 false,
 og 104 (.callf 27) [.t 103] 102 false,
 og 105 (.bin .eql) [.t 104, .i 1] 102 false,
 og 106 .mv [.t 105] 102 false,
 og 107 .mv [.t 20] 106 true,
 og 108 (.bin .lss) [.t 107, .i (-128)] 106 true,
 og 109 .mv [.t 108] 106 true,
 og 110 .mv [.t 20] 109 false,
 og 111 (.bin .gtr) [.t 110, .i 127] 109 false,
 og 112 .pick [.t 109, .b true, .t 111] 106 true,
 og 113 .pick [.t 106, .t 112, .b false] 102 false,
 o3 114 .pick [.t 102, .b true, .t 113]]
def F14o55 := [
 o3 10 .mv [.c (.nils)],
 o3 11 .mv [.c (.nils)],
 o3 12 .mv [.b false]]
def F14c56 : Ac := (.seq (.gh [.frz 10, .frz 11]) .ret)
def F14c53 : Ac := (cd 114 (so F14o55 F14c56) .skip)
def F14c51 : Ac := (so F14o52 F14c53)
def F14b49 : Ac := (so F14o50 F14c51)
def F14c49 : Ac := (.seq (.gh []) (.seq (.keep [1, 5, 13, 15, 16, 20] [[5], [13], [15], [16]]) F14b49))
def F14c43 : Ac := (.seq (so F14o45 F14c46) F14c49)
def F14o59 := [
 o3 116 (.faddr 23) [.t 5],
 o3 117 (.load none) [.t 116],
 om 118 117,
 og 119 (.faddr 1) [.t 16] 118 true,
 og 120 (.load none) [.t 119] 118 true,
 og 121 (.bin .eql) [.t 120, .i 11] 118 true,
 o3 122 .pick [.t 118, .t 121, .b false],
 om 115 122]
def F14o61 := [
 om 123 15,
 om 124 18,
 o3 125 (.faddr 16) [.t 5],
 o3 126 (.load (some 6)) [.t 125],
 o3 127 (.callf 35) [.t 124, .i 3, .t 126, .i 0, .i 0],
 o3 128 (.bslice (.agg [.int .i64 0, .int .i64 0, .bool false, .int .i64 0, .int .i64 0, .int .i64 0, .int .i64 0, .int .u16 0]) 1 [0]) [.t 127],
 o3 129 (.append 8 64 false) [.t 123, .t 128],
 om 15 129]
def F14o63 := [
 o3 131 (.faddr 23) [.t 5],
 o3 132 (.load none) [.t 131],
 om 133 132,
 og 134 (.faddr 16) [.t 5] 133 true,
 og 135 (.load (some 6)) [.t 134] 133 true,
 og 136 (.callf 34) [.t 135] 133 true,
 og 137 (.un .not) [.t 136] 133 true,
 o3 138 .pick [.t 133, .t 137, .b false],
 om 130 138]
def F14o66 := [
 om 139 15,
 o3 140 (.load (some 25)) [.t 5],
 o3 141 (.load (some 4)) [.t 16],
 om 142 18,
 om 143 3,
 om 144 4,
 o3 145 (.callf 36) [.t 140, .t 141, .t 142, .t 143, .t 144],
 o3 146 (.bslice (.agg [.int .i64 0, .int .i64 0, .bool false, .int .i64 0, .int .i64 0, .int .i64 0, .int .i64 0, .int .u16 0]) 1 [0]) [.t 145],
 o3 147 (.append 8 64 false) [.t 139, .t 146],
 om 15 147]
def F14o67 := [
 o3 148 (.faddr 8) [.t 13],
 o0 (.store 1) [.t 148, .w 0]]
def F14c67 : Ac := (.ops F14o67)
def F14c64 : Ac := (cd 130 (so F14o66 F14c67) .skip)
def F14b60 : Ac := (cd 115 (.ops F14o61) (so F14o63 F14c64))
def F14c60 : Ac := (.seq (.gh []) (.seq (.keep [3, 4, 5, 13, 15, 16, 18, 115] [[5], [13], [15], [16]]) F14b60))
def F14c40 : Ac := (cd 74 (so F14o42 F14c43) (so F14o59 F14c60))
def F14b24 : Ac := (cd 53 (so F14o26 F14c27) (so F14o39 F14c40))
def F14c24 : Ac := (.seq (.gh []) (.seq (.keep [1, 2, 3, 4, 5, 13, 14, 15, 16, 18, 53] [[5], [13], [15], [16]]) F14b24))
def F14o70 := [
 o3 150 (.load (some 10)) [.t 13],
 o3 151 (.callf 8) [.t 150],
 om 149 151,
 oe 152 0 149,
 oe 153 1 149,
 om 21 152,
 om 22 153]
def F14o72 := [
 om 154 21,
 om 155 15,
 om 156 22,
 o3 157 (.bin .eql) [.t 156, .i 0],
 om 10 154,
 om 11 155,
 om 12 157]
def F14c73 : Ac := (.seq (.gh [.frz 11]) .ret)
def F14c71 : Ac := (so F14o72 F14c73)
def F14c69 : Ac := (so F14o70 F14c71)
def F14b20 : Ac := (.seq (.block 0 (so F14o23 F14c24)) F14c69)
def F14c20 : Ac := (.seq (.gh []) (.seq (.keep [1, 2, 3, 4, 5, 13, 14, 15, 16, 18] [[5], [13], [15], [16]]) F14b20))
def F14c12 : Ac := (.seq (so F14o14 F14c15) F14c20)
def F14c10 : Ac := (so F14o11 F14c12)
def F14b8 : Ac := (so F14o9 F14c10)
def F14c8 : Ac := (.seq (.gh [.own 15 [15] 8]) (.seq (.keep [1, 2, 3, 4, 5, 13, 14, 15] [[5], [13], [15]]) F14b8))
def F14c6 : Ac := (so F14o7 F14c8)
def F14c4 : Ac := (so F14o5 F14c6)
def F14c2 : Ac := (so F14o3 F14c4)
def F14c0 : Ac := (so F14o1 F14c2)
/-- hansom/emit.Inst -/
def F14 : Fn := { np := 5, pb := [], rs := [.t 10, .t 11, .t 12], body := F14c0 }
def F15o1 := [
 o3 1 (.box 4) [.t 0],
 o3 2 .mv [.i 0]]
def F15o3 := [
 o3 3 (.faddr 1) [.t 1],
 o3 4 (.load none) [.t 3],
  { dst := some 5, k := (.callf 19), xs := [.t 4], al := some [] },
 o3 6 (.faddr 2) [.t 1],
  { dst := some 7, k := (.load none), xs := [.t 6], av := [[5]] },
 o3 8 (.callf 19) [.t 7],
 o3 9 (.bin .add) [.t 5, .t 8],
 om 2 9]
def F15c4 : Ac := .ret
def F15c2 : Ac := (so F15o3 F15c4)
def F15c0 : Ac := (so F15o1 F15c2)
/-- hansom/hansomref05.Imms -/
def F15 : Fn := { np := 1, pb := [], rs := [.t 2], body := F15c0 }
def F16o1 := [
 o3 0 .mv [.b false]]
def F16o3 := [
 o3 6 (.build [.d (.int .i64 0), .d (.int .i64 0), .d (.int .i64 0), .d (.int .i64 0), .d (.int .i64 0), .d (.bool false)] [(0, 1), (5, 1)]) [.i 4660, .b true],
 o3 7 (.callf 37) [.t 6],
 om 5 7,
 oe 8 0 5,
 oe 9 1 5,
 om 1 8,
 om 2 9]
def F16o5 := [
 o3 11 (.build [.d (.int .i64 0), .d (.int .i64 0), .d (.int .i64 0), .d (.int .i64 0), .d (.int .i64 0), .d (.bool false)] [(1, 1), (2, 1), (4, 1)]) [.i 3, .i 2, .i 1],
 o3 12 (.callf 37) [.t 11],
 om 10 12,
 oe 13 0 10,
 oe 14 1 10,
 om 3 13,
 om 4 14]
def F16o7 := [
 om 15 1,
 o3 16 .bytesStr [.t 15],
 o3 17 (.bin .eql) [.t 16, .c (.d (.str [52, 18]))],
 om 18 17,
 og 19 .mv [.t 2] 18 true,
 og 20 .lenL [.t 19] 18 true,
 og 21 (.bin .eql) [.t 20, .i 0] 18 true,
 o3 22 .pick [.t 18, .t 21, .b false],
 om 23 22,
 og 24 .mv [.t 4] 23 true,
 og 25 .lenL [.t 24] 23 true,
 og 26 (.bin .eql) [.t 25, .i 1] 23 true,
 o3 27 .pick [.t 23, .t 26, .b false],
 om 28 27,
 og 29 .mv [.t 4] 28 true,
 og 30 (.iaddrS 8) [.t 29, .i 0] 28 true,
 og 31 (.faddr 5) [.t 30] 28 true,
 og 32 (.load none) [.t 31] 28 true,
 og 33 (.bin .eql) [.t 32, .i 2] 28 true,
 o3 34 .pick [.t 28, .t 33, .b false],
 om 35 34,
 og 36 .mv [.t 4] 35 true,
 og 37 (.iaddrS 8) [.t 36, .i 0] 35 true,
 og 38 (.faddr 3) [.t 37] 35 true,
 og 39 (.load none) [.t 38] 35 true,
 og 40 (.bin .eql) [.t 39, .i 5] 35 true,
 o3 41 .pick [.t 35, .t 40, .b false],
 om 0 41]
def F16c8 : Ac := .ret
def F16c6 : Ac := (so F16o7 F16c8)
def F16c4 : Ac := (so F16o5 F16c6)
def F16c2 : Ac := (so F16o3 F16c4)
def F16c0 : Ac := (so F16o1 F16c2)
/-- hansom/hansomlaw37.awake -/
def F16 : Fn := { np := 0, pb := [], rs := [.t 0], body := F16c0 }
def F17o1 := [
 o3 4 .mv [.i 0]]
def F17o4 := [
 om 5 0,
 o3 6 (.bin .eql) [.t 5, .i 1]]
def F17o7 := [
 o3 4 .mv [.i 1]]
def F17c8 : Ac := .ret
def F17c5 : Ac := (cd 6 (so F17o7 F17c8) .skip)
def F17o12 := [
 om 7 0,
 o3 8 (.bin .eql) [.t 7, .i 2],
 om 9 8,
 og 10 .mv [.t 0] 9 false,
 og 11 (.bin .eql) [.t 10, .i 0] 9 false,
 og 12 .mv [.t 11] 9 false,
 og 13 .mv [.t 1] 12 true,
 og 14 (.bin .eql) [.t 13, .i 6] 12 true,
 og 15 .pick [.t 12, .t 14, .b false] 9 false,
 o3 16 .pick [.t 9, .b true, .t 15]]
def F17o15 := [
 o3 4 .mv [.i 2]]
def F17c16 : Ac := .ret
def F17c13 : Ac := (cd 16 (so F17o15 F17c16) .skip)
def F17o19 := [
 o3 4 .mv [.i 0]]
def F17c20 : Ac := .ret
def F17c18 : Ac := (so F17o19 F17c20)
def F17c10 : Ac := (.seq (so F17o12 F17c13) F17c18)
def F17c2 : Ac := (.seq (so F17o4 F17c5) F17c10)
def F17c0 : Ac := (so F17o1 F17c2)
/-- hansom/hansomref05.Disps -/
def F17 : Fn := { np := 2, pb := [], rs := [.t 4], body := F17c0 }
def F18o1 := [
 o3 2 .mv [.w 0]]
def F18o4 := [
 om 3 0,
 o3 4 (.bin .lss) [.t 3, .y 128]]
def F18o7 := [
 om 5 0,
 o3 6 (.toInt .u16) [.t 5],
 om 2 6]
def F18c8 : Ac := .ret
def F18c5 : Ac := (cd 4 (so F18o7 F18c8) .skip)
def F18o11 := [
 om 7 0,
 o3 8 (.toInt .u16) [.t 7],
 o3 9 (.bin .add) [.w 65280, .t 8],
 om 2 9]
def F18c12 : Ac := .ret
def F18c10 : Ac := (so F18o11 F18c12)
def F18c2 : Ac := (.seq (so F18o4 F18c5) F18c10)
def F18c0 : Ac := (so F18o1 F18c2)
/-- hansom/hansomref01.Sign -/
def F18 : Fn := { np := 1, pb := [], rs := [.t 2], body := F18c0 }
def F19o1 := [
 o3 2 .mv [.i 0]]
def F19o4 := [
 om 3 0]
def F19o8 := [
 o3 5 (.bin .eql) [.t 3, .i 6],
 om 4 5]
def F19o12 := [
 o3 6 (.bin .eql) [.t 3, .i 8],
 om 4 6]
def F19o15 := [
 o3 7 (.bin .eql) [.t 3, .i 9],
 om 4 7]
def F19c13 : Ac := (cd 4 .skip (.ops F19o15))
def F19c9 : Ac := (cd 4 .skip (so F19o12 F19c13))
def F19o18 := [
 o3 2 .mv [.i 1]]
def F19c19 : Ac := .ret
def F19o22 := [
 o3 9 (.bin .eql) [.t 3, .i 7],
 om 8 9]
def F19o26 := [
 o3 10 (.bin .eql) [.t 3, .i 10],
 om 8 10]
def F19o30 := [
 o3 11 (.bin .eql) [.t 3, .i 12],
 om 8 11]
def F19o33 := [
 o3 12 (.bin .eql) [.t 3, .i 13],
 om 8 12]
def F19c31 : Ac := (cd 8 .skip (.ops F19o33))
def F19c27 : Ac := (cd 8 .skip (so F19o30 F19c31))
def F19c23 : Ac := (cd 8 .skip (so F19o26 F19c27))
def F19o36 := [
 o3 2 .mv [.i 2]]
def F19c37 : Ac := .ret
def F19o39 := [
 o3 14 (.bin .eql) [.t 3, .i 11],
 om 13 14]
def F19o42 := [
 o3 2 .mv [.i 4]]
def F19c43 : Ac := .ret
def F19c40 : Ac := (cd 13 (so F19o42 F19c43) .skip)
def F19c34 : Ac := (cd 8 (so F19o36 F19c37) (so F19o39 F19c40))
def F19b16 : Ac := (cd 4 (so F19o18 F19c19) (.seq (so F19o22 F19c23) F19c34))
def F19c16 : Ac := (.seq (.gh []) (.seq (.keep [3, 4] []) F19b16))
def F19c5 : Ac := (.block 0 (.seq (so F19o8 F19c9) F19c16))
def F19o46 := [
 o3 2 .mv [.i 0]]
def F19c47 : Ac := .ret
def F19c45 : Ac := (so F19o46 F19c47)
def F19c2 : Ac := (.seq (so F19o4 F19c5) F19c45)
def F19c0 : Ac := (so F19o1 F19c2)
/-- hansom/hansomref04.Bytes -/
def F19 : Fn := { np := 1, pb := [], rs := [.t 2], body := F19c0 }
def F20o1 := [
 o3 2 .mv [.i 0]]
def F20o4 := [
 om 3 0,
 o3 4 (.callf 38) [.t 3]]
def F20o8 := [
 o3 6 (.bin .eql) [.t 4, .c (.d (.str [77, 79, 86, 83, 66]))],
 om 5 6]
def F20o12 := [
 o3 7 (.bin .eql) [.t 4, .c (.d (.str [77, 79, 86, 83, 87]))],
 om 5 7]
def F20o16 := [
 o3 8 (.bin .eql) [.t 4, .c (.d (.str [83, 84, 79, 83, 66]))],
 om 5 8]
def F20o20 := [
 o3 9 (.bin .eql) [.t 4, .c (.d (.str [83, 84, 79, 83, 87]))],
 om 5 9]
def F20o24 := [
 o3 10 (.bin .eql) [.t 4, .c (.d (.str [76, 79, 68, 83, 66]))],
 om 5 10]
def F20o27 := [
 o3 11 (.bin .eql) [.t 4, .c (.d (.str [76, 79, 68, 83, 87]))],
 om 5 11]
def F20c25 : Ac := (cd 5 .skip (.ops F20o27))
def F20c21 : Ac := (cd 5 .skip (so F20o24 F20c25))
def F20c17 : Ac := (cd 5 .skip (so F20o20 F20c21))
def F20c13 : Ac := (cd 5 .skip (so F20o16 F20c17))
def F20c9 : Ac := (cd 5 .skip (so F20o12 F20c13))
def F20o30 := [
 o3 2 .mv [.i 1]]
def F20c31 : Ac := .ret
def F20o34 := [
 o3 13 (.bin .eql) [.t 4, .c (.d (.str [67, 77, 80, 83, 66]))],
 om 12 13]
def F20o38 := [
 o3 14 (.bin .eql) [.t 4, .c (.d (.str [67, 77, 80, 83, 87]))],
 om 12 14]
def F20o42 := [
 o3 15 (.bin .eql) [.t 4, .c (.d (.str [83, 67, 65, 83, 66]))],
 om 12 15]
def F20o45 := [
 o3 16 (.bin .eql) [.t 4, .c (.d (.str [83, 67, 65, 83, 87]))],
 om 12 16]
def F20c43 : Ac := (cd 12 .skip (.ops F20o45))
def F20c39 : Ac := (cd 12 .skip (so F20o42 F20c43))
def F20c35 : Ac := (cd 12 .skip (so F20o38 F20c39))
def F20o48 := [
 o3 2 .mv [.i 2]]
def F20c49 : Ac := .ret
def F20c46 : Ac := (cd 12 (so F20o48 F20c49) .skip)
def F20b28 : Ac := (cd 5 (so F20o30 F20c31) (.seq (so F20o34 F20c35) F20c46))
def F20c28 : Ac := (.seq (.gh []) (.seq (.keep [4, 5] []) F20b28))
def F20c5 : Ac := (.block 0 (.seq (so F20o8 F20c9) F20c28))
def F20o52 := [
 o3 2 .mv [.i 0]]
def F20c53 : Ac := .ret
def F20c51 : Ac := (so F20o52 F20c53)
def F20c2 : Ac := (.seq (so F20o4 F20c5) F20c51)
def F20c0 : Ac := (so F20o1 F20c2)
/-- hansom/hansomref04.Repeats -/
def F20 : Fn := { np := 1, pb := [], rs := [.t 2], body := F20c0 }
def F21o1 := [
 o3 1 (.box 10) [.t 0],
 o3 2 .mv [.b false]]
def F21o3 := [
 o3 6 (.load (some 10)) [.t 1],
 o3 7 (.callf 22) [.t 6],
 om 5 7,
 oe 8 0 5,
 oe 9 1 5,
 o3 3 (.alloc [.d (.int .i64 0), .d (.int .i64 0), .d (.int .i64 0), .d (.bool false)]) [],
 o0 (.store 4) [.t 3, .t 8],
 om 4 9]
def F21o5 := [
 om 10 4,
 om 11 10,
 og 12 (.load (some 10)) [.t 1] 11 true,
 og 13 (.load (some 4)) [.t 3] 11 true,
 og 14 (.callf 39) [.t 12, .t 13] 11 true,
 o3 15 .pick [.t 11, .t 14, .b false],
 om 16 15,
 og 17 (.load (some 10)) [.t 1] 16 true,
 og 18 (.load (some 4)) [.t 3] 16 true,
 og 19 (.callf 40) [.t 17, .t 18] 16 true,
 o3 20 .pick [.t 16, .t 19, .b false],
 om 21 20,
 og 22 (.load (some 10)) [.t 1] 21 true,
 og 23 (.load (some 4)) [.t 3] 21 true,
 og 24 (.callf 41) [.t 22, .t 23] 21 true,
 o3 25 .pick [.t 21, .t 24, .b false],
 om 2 25]
def F21c6 : Ac := .ret
def F21c4 : Ac := (so F21o5 F21c6)
def F21c2 : Ac := (so F21o3 F21c4)
def F21c0 : Ac := (so F21o1 F21c2)
/-- hansom/inst.May -/
def F21 : Fn := { np := 1, pb := [], rs := [.t 2], body := F21c0 }
def F22o1 := [
 o3 1 (.box 10) [.t 0],
 o3 2 (.alloc [.d (.int .i64 0), .d (.int .i64 0), .d (.int .i64 0), .d (.bool false)]) [],
 o3 3 .mv [.b false]]
def F22o4 := [
 o3 4 (.faddr 3) [.t 1],
 o3 5 (.load none) [.t 4],
 o3 6 (.callf 42) [.t 5]]
def F22o7 := [
 o3 7 (.build [.d (.int .i64 0), .d (.int .i64 0), .d (.int .i64 0), .d (.bool false)] []) [],
 o0 (.store 4) [.t 2, .t 7],
 o3 3 .mv [.b false]]
def F22c8 : Ac := .ret
def F22c5 : Ac := (cd 6 (so F22o7 F22c8) .skip)
def F22o11 := [
 o3 8 (.faddr 3) [.t 1],
 o3 9 (.load none) [.t 8],
 o3 10 (.faddr 5) [.t 1],
 o3 11 (.load none) [.t 10],
 o3 12 (.callf 43) [.t 9, .t 11],
 oe 13 0 12,
 oe 14 1 12,
 o0 (.store 4) [.t 2, .t 13],
 om 3 14]
def F22c12 : Ac := .ret
def F22c10 : Ac := (so F22o11 F22c12)
def F22c2 : Ac := (.seq (so F22o4 F22c5) F22c10)
def F22c0 : Ac := (so F22o1 F22c2)
/-- hansom/inst.Row -/
def F22 : Fn := { np := 1, pb := [], rs := [.c 2 (some 4), .t 3], body := F22c0 }
def F23o1 := [
 o3 1 (.box 10) [.t 0],
 o3 2 .mv [.c (.nils)]]
def F23o3 := [
 o3 3 .mv [.c (.nils)]]
def F23o6 := [
 o3 4 (.faddr 0) [.t 1],
 o3 5 (.load none) [.t 4]]
def F23o8 := [
 om 6 3,
 o3 7 (.bslice (.int .u8 0) 1 [0]) [.y 240],
 o3 8 (.append 1 1 false) [.t 6, .t 7],
 om 3 8]
def F23c7 : Ac := (cd 5 (.ops F23o8) .skip)
def F23o12 := [
 o3 9 (.faddr 1) [.t 1],
 o3 10 (.load none) [.t 9],
 o3 11 (.bin .gtr) [.t 10, .i 0]]
def F23o14 := [
 om 12 3,
 o3 13 (.faddr 1) [.t 1],
 o3 14 (.load none) [.t 13],
 o3 15 (.bin .add) [.i 241, .t 14],
 o3 16 (.toInt .u8) [.t 15],
 o3 17 (.bslice (.int .u8 0) 1 [0]) [.t 16],
 o3 18 (.append 1 1 false) [.t 12, .t 17],
 om 3 18]
def F23c13 : Ac := (cd 11 (.ops F23o14) .skip)
def F23o18 := [
 o3 19 (.faddr 2) [.t 1],
 o3 20 (.load none) [.t 19],
 o3 21 (.bin .gtr) [.t 20, .i 0]]
def F23o20 := [
 om 22 3,
 o3 23 (.faddr 2) [.t 1],
 o3 24 (.load none) [.t 23],
 o3 25 (.iaddrA 5 1) [.c (.elt (.agg [.int .u8 0, .int .u8 38, .int .u8 46, .int .u8 54, .int .u8 62]) 0), .t 24],
 o3 26 (.load none) [.t 25],
 o3 27 (.bslice (.int .u8 0) 1 [0]) [.t 26],
 o3 28 (.append 1 1 false) [.t 22, .t 27],
 om 3 28]
def F23c19 : Ac := (cd 21 (.ops F23o20) .skip)
def F23o23 := [
 om 29 3,
 om 2 29]
def F23c24 : Ac := .ret
def F23c22 : Ac := (so F23o23 F23c24)
def F23c16 : Ac := (.seq (so F23o18 F23c19) F23c22)
def F23b10 : Ac := (.seq (so F23o12 F23c13) F23c16)
def F23c10 : Ac := (.seq (.gh []) (.seq (.keep [1, 3] [[1], [3]]) F23b10))
def F23b4 : Ac := (.seq (so F23o6 F23c7) F23c10)
def F23c4 : Ac := (.seq (.gh [.own 3 [3] 1]) (.seq (.keep [1, 3] [[1], [3]]) F23b4))
def F23c2 : Ac := (so F23o3 F23c4)
def F23c0 : Ac := (so F23o1 F23c2)
/-- hansom/code.ahead -/
def F23 : Fn := { np := 1, pb := [], rs := [.t 2], body := F23c0 }
def F24o1 := [
 o3 4 .mv [.i 0]]
def F24o5 := [
 om 6 0,
 o3 7 (.bin .eql) [.t 6, .i 1],
 om 5 7]
def F24o8 := [
 o3 4 .mv [.i 1]]
def F24c9 : Ac := .ret
def F24o12 := [
 om 9 0,
 o3 10 (.bin .eql) [.t 9, .i 2],
 om 8 10]
def F24o15 := [
 om 11 0,
 o3 12 (.bin .eql) [.t 11, .i 0],
 om 13 12,
 og 14 .mv [.t 1] 13 true,
 og 15 (.bin .eql) [.t 14, .i 6] 13 true,
 o3 16 .pick [.t 13, .t 15, .b false],
 om 8 16]
def F24c13 : Ac := (cd 8 .skip (.ops F24o15))
def F24o18 := [
 o3 4 .mv [.i 2]]
def F24c19 : Ac := .ret
def F24c16 : Ac := (cd 8 (so F24o18 F24c19) .skip)
def F24c6 : Ac := (cd 5 (so F24o8 F24c9) (.seq (so F24o12 F24c13) F24c16))
def F24o22 := [
 o3 4 .mv [.i 0]]
def F24c23 : Ac := .ret
def F24c21 : Ac := (so F24o22 F24c23)
def F24c2 : Ac := (.seq (.block 0 (so F24o5 F24c6)) F24c21)
def F24c0 : Ac := (so F24o1 F24c2)
/-- hansom/inst.Disps -/
def F24 : Fn := { np := 2, pb := [], rs := [.t 4], body := F24c0 }
def F25o1 := [
 o3 2 .mv [.y 0]]
def F25o3 := [
 om 3 0,
 o3 4 (.toInt .u8) [.t 3],
 om 2 4]
def F25c4 : Ac := .ret
def F25c2 : Ac := (so F25o3 F25c4)
def F25c0 : Ac := (so F25o1 F25c2)
/-- hansom/bits.Low -/
def F25 : Fn := { np := 1, pb := [], rs := [.t 2], body := F25c0 }
def F26o1 := [
 o3 2 .mv [.y 0]]
def F26o3 := [
 om 3 0,
 o3 4 (.bin .shr) [.t 3, .c (.d (.int .u64 8))],
 o3 5 (.toInt .u8) [.t 4],
 om 2 5]
def F26c4 : Ac := .ret
def F26c2 : Ac := (so F26o3 F26c4)
def F26c0 : Ac := (so F26o1 F26c2)
/-- hansom/bits.High -/
def F26 : Fn := { np := 1, pb := [], rs := [.t 2], body := F26c0 }
def F27o1 := [
 o3 1 (.box 4) [.t 0],
 o3 2 .mv [.i 0]]
def F27o3 := [
 o3 3 (.faddr 1) [.t 1],
 o3 4 (.load none) [.t 3],
  { dst := some 5, k := (.callf 44), xs := [.t 4], al := some [] },
 o3 6 (.faddr 2) [.t 1],
  { dst := some 7, k := (.load none), xs := [.t 6], av := [[5]] },
 o3 8 (.callf 44) [.t 7],
 o3 9 (.bin .add) [.t 5, .t 8],
 om 2 9]
def F27c4 : Ac := .ret
def F27c2 : Ac := (so F27o3 F27c4)
def F27c0 : Ac := (so F27o1 F27c2)
/-- hansom/inst.Imms -/
def F27 : Fn := { np := 1, pb := [], rs := [.t 2], body := F27c0 }
def F28o1 := [
 o3 2 .mv [.b false]]
def F28o3 := [
 om 3 0,
 o3 4 (.bin .lss) [.t 3, .w 128],
 om 5 4,
 og 6 .mv [.t 0] 5 false,
 og 7 (.bin .geq) [.t 6, .w 65408] 5 false,
 o3 8 .pick [.t 5, .b true, .t 7],
 om 2 8]
def F28c4 : Ac := .ret
def F28c2 : Ac := (so F28o3 F28c4)
def F28c0 : Ac := (so F28o1 F28c2)
/-- hansom/hansomref01.Fits -/
def F28 : Fn := { np := 1, pb := [], rs := [.t 2], body := F28c0 }
def F29o1 := [
 o3 2 .mv [.c (.nils)]]
def F29o3 := [
 om 3 0,
 o3 4 (.bin .rem) [.t 3, .w 256],
 o3 5 (.toInt .u8) [.t 4],
 om 6 0,
 o3 7 (.bin .quo) [.t 6, .w 256],
 o3 8 (.toInt .u8) [.t 7],
 o3 9 (.bslice (.int .u8 0) 2 [0, 1]) [.t 5, .t 8],
 om 2 9]
def F29c4 : Ac := (.seq (.gh [.frz 2]) .ret)
def F29c2 : Ac := (so F29o3 F29c4)
def F29c0 : Ac := (so F29o1 F29c2)
/-- hansom/hansomref05.two -/
def F29 : Fn := { np := 1, pb := [], rs := [.t 2], body := F29c0 }
def F30o1 := [
 o3 2 .mv [.b false]]
def F30o3 := [
 om 3 0,
 o3 4 (.bin .eql) [.t 3, .y 38],
 om 5 4,
 og 6 .mv [.t 0] 5 false,
 og 7 (.bin .eql) [.t 6, .y 46] 5 false,
 o3 8 .pick [.t 5, .b true, .t 7],
 om 9 8,
 og 10 .mv [.t 0] 9 false,
 og 11 (.bin .eql) [.t 10, .y 54] 9 false,
 o3 12 .pick [.t 9, .b true, .t 11],
 om 13 12,
 og 14 .mv [.t 0] 13 false,
 og 15 (.bin .eql) [.t 14, .y 62] 13 false,
 o3 16 .pick [.t 13, .b true, .t 15],
 om 17 16,
 og 18 .mv [.t 0] 17 false,
 og 19 (.bin .eql) [.t 18, .y 240] 17 false,
 o3 20 .pick [.t 17, .b true, .t 19],
 om 21 20,
 og 22 .mv [.t 0] 21 false,
 og 23 (.bin .eql) [.t 22, .y 242] 21 false,
 o3 24 .pick [.t 21, .b true, .t 23],
 om 25 24,
 og 26 .mv [.t 0] 25 false,
 og 27 (.bin .eql) [.t 26, .y 243] 25 false,
 o3 28 .pick [.t 25, .b true, .t 27],
 om 2 28]
def F30c4 : Ac := .ret
def F30c2 : Ac := (so F30o3 F30c4)
def F30c0 : Ac := (so F30o1 F30c2)
/-- hansom/hansomref05.prefix -/
def F30 : Fn := { np := 1, pb := [], rs := [.t 2], body := F30c0 }
def F31o1 := [
 o3 4 (.alloc [.d (.int .i64 0), .d (.int .i64 0), .d (.int .i64 0), .d (.bool false)]) [],
 o3 5 .mv [.b false]]
def F31o3 := [
 om 8 0,
 om 9 1,
 o3 10 (.callf 45) [.t 8, .t 9],
 om 6 10]
def F31o6 := [
 om 11 6,
 o3 12 (.bin .eql) [.t 11, .c (.d (.str [45]))],
 om 13 12,
 og 14 .mv [.t 6] 13 false,
 og 15 (.bin .eql) [.t 14, .c (.d (.str []))] 13 false,
 o3 16 .pick [.t 13, .b true, .t 15]]
def F31o9 := [
 o3 17 (.build [.d (.int .i64 0), .d (.int .i64 0), .d (.int .i64 0), .d (.bool false)] []) [],
 o0 (.store 4) [.t 4, .t 17],
 o3 5 .mv [.b false]]
def F31c10 : Ac := .ret
def F31c7 : Ac := (cd 16 (so F31o9 F31c10) .skip)
def F31o13 := [
 om 18 6,
 o3 19 (.callf 47) [.t 18, .y 58, .i 0],
 o3 20 (.callf 46) [.t 19],
 om 21 6,
 o3 22 (.callf 47) [.t 21, .y 58, .i 1],
 o3 23 (.callf 48) [.c (.d (.str [69, 98, 32, 69, 118, 32, 71, 98, 32, 71, 118, 32, 83, 119, 32, 73, 98, 32, 73, 118, 32, 73, 115, 32, 74, 98, 32, 74, 118, 32, 65, 112, 32, 79, 98, 32, 79, 118, 32, 65, 76, 32, 67, 76, 32, 65, 88, 32, 68, 88, 32, 79, 110, 101, 32, 77, 112, 32, 77, 32, 90, 98, 32, 90, 118, 32, 90, 115, 32, 84, 104, 114, 101, 101, 32])), .t 22],
 om 24 6,
 o3 25 (.callf 47) [.t 24, .y 58, .i 2],
 o3 26 (.callf 48) [.c (.d (.str [69, 98, 32, 69, 118, 32, 71, 98, 32, 71, 118, 32, 83, 119, 32, 73, 98, 32, 73, 118, 32, 73, 115, 32, 74, 98, 32, 74, 118, 32, 65, 112, 32, 79, 98, 32, 79, 118, 32, 65, 76, 32, 67, 76, 32, 65, 88, 32, 68, 88, 32, 79, 110, 101, 32, 77, 112, 32, 77, 32, 90, 98, 32, 90, 118, 32, 90, 115, 32, 84, 104, 114, 101, 101, 32])), .t 25],
 o3 27 (.build [.d (.int .i64 0), .d (.int .i64 0), .d (.int .i64 0), .d (.bool false)] [(0, 1), (1, 1), (2, 1)]) [.t 20, .t 23, .t 26],
 o3 7 (.alloc [.d (.int .i64 0), .d (.int .i64 0), .d (.int .i64 0), .d (.bool false)]) [],
 o0 (.store 4) [.t 7, .t 27]]
def F31o15 := [
 o3 28 (.faddr 1) [.t 7],
 o3 29 (.load none) [.t 28],
 o3 30 (.callf 49) [.t 29],
 om 31 30,
 og 32 (.faddr 2) [.t 7] 31 false,
 og 33 (.load none) [.t 32] 31 false,
 og 34 (.callf 49) [.t 33] 31 false,
 o3 35 .pick [.t 31, .b true, .t 34],
 o3 36 (.faddr 3) [.t 7],
 o0 (.store 1) [.t 36, .t 35]]
def F31o17 := [
 o3 37 (.load (some 4)) [.t 7],
 o0 (.store 4) [.t 4, .t 37],
 o3 5 .mv [.b true]]
def F31c18 : Ac := .ret
def F31c16 : Ac := (so F31o17 F31c18)
def F31c14 : Ac := (so F31o15 F31c16)
def F31c12 : Ac := (so F31o13 F31c14)
def F31c4 : Ac := (.seq (so F31o6 F31c7) F31c12)
def F31c2 : Ac := (so F31o3 F31c4)
def F31c0 : Ac := (so F31o1 F31c2)
/-- hansom/hansomref04.Row -/
def F31 : Fn := { np := 2, pb := [], rs := [.c 4 (some 4), .t 5], body := F31c0 }
def F32o1 := [
 o3 1 (.box 10) [.t 0],
 o3 2 .mv [.i 0]]
def F32o4 := [
 o3 6 (.load (some 10)) [.t 1],
 o3 7 (.callf 21) [.t 6],
 o3 8 (.un .not) [.t 7]]
def F32o7 := [
 o3 2 .mv [.i 0]]
def F32c8 : Ac := .ret
def F32c5 : Ac := (cd 8 (so F32o7 F32c8) .skip)
def F32o11 := [
 o3 10 (.load (some 10)) [.t 1],
 o3 11 (.callf 22) [.t 10],
 om 9 11,
 oe 12 0 9,
 oe 13 1 9,
 o3 3 (.alloc [.d (.int .i64 0), .d (.int .i64 0), .d (.int .i64 0), .d (.bool false)]) [],
 o0 (.store 4) [.t 3, .t 12],
 om 4 13]
def F32o13 := [
 o3 14 (.load (some 4)) [.t 3],
 o3 15 (.callf 27) [.t 14],
 o3 16 (.bin .add) [.i 1, .t 15],
 om 5 16]
def F32o16 := [
 o3 17 (.faddr 0) [.t 1],
 o3 18 (.load none) [.t 17]]
def F32o18 := [
 om 19 5,
 o3 20 (.bin .add) [.t 19, .i 1],
 om 5 20]
def F32c17 : Ac := (cd 18 (.ops F32o18) .skip)
def F32o22 := [
 o3 21 (.faddr 1) [.t 1],
 o3 22 (.load none) [.t 21],
 o3 23 (.bin .gtr) [.t 22, .i 0]]
def F32o24 := [
 om 24 5,
 o3 25 (.bin .add) [.t 24, .i 1],
 om 5 25]
def F32c23 : Ac := (cd 23 (.ops F32o24) .skip)
def F32o28 := [
 o3 26 (.faddr 2) [.t 1],
 o3 27 (.load none) [.t 26],
 o3 28 (.bin .gtr) [.t 27, .i 0]]
def F32o30 := [
 om 29 5,
 o3 30 (.bin .add) [.t 29, .i 1],
 om 5 30]
def F32c29 : Ac := (cd 28 (.ops F32o30) .skip)
def F32o34 := [
 o3 31 (.faddr 3) [.t 3],
 o3 32 (.load none) [.t 31]]
def F32o36 := [
 om 33 5,
 o3 34 (.faddr 4) [.t 1],
 o3 35 (.load none) [.t 34],
 o3 36 (.faddr 6) [.t 1],
 o3 37 (.load none) [.t 36],
 o3 38 (.callf 24) [.t 35, .t 37],
 o3 39 (.bin .add) [.i 1, .t 38],
 o3 40 (.bin .add) [.t 33, .t 39],
 om 5 40]
def F32c35 : Ac := (cd 32 (.ops F32o36) .skip)
def F32o39 := [
 om 41 5,
 om 2 41]
def F32c40 : Ac := .ret
def F32c38 : Ac := (so F32o39 F32c40)
def F32c32 : Ac := (.seq (so F32o34 F32c35) F32c38)
def F32b26 : Ac := (.seq (so F32o28 F32c29) F32c32)
def F32c26 : Ac := (.seq (.gh []) (.seq (.keep [1, 3, 5] [[1], [3]]) F32b26))
def F32b20 : Ac := (.seq (so F32o22 F32c23) F32c26)
def F32c20 : Ac := (.seq (.gh []) (.seq (.keep [1, 3, 5] [[1], [3]]) F32b20))
def F32c14 : Ac := (.seq (so F32o16 F32c17) F32c20)
def F32c12 : Ac := (so F32o13 F32c14)
def F32c10 : Ac := (so F32o11 F32c12)
def F32c2 : Ac := (.seq (so F32o4 F32c5) F32c10)
def F32c0 : Ac := (so F32o1 F32c2)
/-- hansom/inst.Len -/
def F32 : Fn := { np := 1, pb := [], rs := [.t 2], body := F32c0 }
def F33o1 := [
 o3 1 (.box 10) [.t 0],
 o3 2 .mv [.i 0]]
def F33o3 := [
 o3 6 (.load (some 10)) [.t 1],
 o3 7 (.callf 22) [.t 6],
 om 5 7,
 oe 8 0 5,
 oe 9 1 5,
 o3 3 (.alloc [.d (.int .i64 0), .d (.int .i64 0), .d (.int .i64 0), .d (.bool false)]) [],
 o0 (.store 4) [.t 3, .t 8],
 om 4 9]
def F33o6 := [
 om 10 4,
 o3 11 (.un .not) [.t 10],
 om 12 11,
 og 13 (.load (some 10)) [.t 1] 12 false,
 og 14 (.callf 21) [.t 13] 12 false,
 og 15 (.un .not) [.t 14] 12 false,
 o3 16 .pick [.t 12, .b true, .t 15]]
def F33o9 := [
 o3 2 .mv [.i 0]]
def F33c10 : Ac := .ret
def F33c7 : Ac := (cd 16 (so F33o9 F33c10) .skip)
def F33o13 := [
 o3 17 (.load (some 10)) [.t 1],
  { dst := some 18, k := (.callf 32), xs := [.t 17], al := some [] },
  { dst := some 19, k := (.load (some 4)), xs := [.t 3], av := [[18]] },
 o3 20 (.callf 27) [.t 19],
 o3 21 (.bin .sub) [.t 18, .t 20],
 om 2 21]
def F33c14 : Ac := .ret
def F33c12 : Ac := (so F33o13 F33c14)
def F33c4 : Ac := (.seq (so F33o6 F33c7) F33c12)
def F33c2 : Ac := (so F33o3 F33c4)
def F33c0 : Ac := (so F33o1 F33c2)
/-- hansom/inst.Tail -/
def F33 : Fn := { np := 1, pb := [], rs := [.t 2], body := F33c0 }
def F34o1 := [
 o3 1 (.box 6) [.t 0],
 o3 2 .mv [.b false]]
def F34o3 := [
 o3 3 (.faddr 1) [.t 1],
 o3 4 (.load none) [.t 3],
 o3 5 (.bin .eql) [.t 4, .i 0],
 om 6 5,
 og 7 (.faddr 4) [.t 1] 6 true,
 og 8 (.load none) [.t 7] 6 true,
 og 9 (.bin .eql) [.t 8, .i 0] 6 true,
 o3 10 .pick [.t 6, .t 9, .b false],
 om 2 10]
def F34c4 : Ac := .ret
def F34c2 : Ac := (so F34o3 F34c4)
def F34c0 : Ac := (so F34o1 F34c2)
/-- hansom/value.Plain -/
def F34 : Fn := { np := 1, pb := [], rs := [.t 2], body := F34c0 }
def F35o1 := [
 o3 7 (.box 6) [.t 2],
 o3 10 (.alloc [.d (.int .i64 0), .d (.int .i64 0), .d (.bool false), .d (.int .i64 0), .d (.int .i64 0), .d (.int .i64 0), .d (.int .i64 0), .d (.int .u16 0)]) []]
def F35o3 := [
 om 12 0,
 om 13 1,
 o3 14 (.faddr 1) [.t 7],
  { dst := some 15, k := (.load none), xs := [.t 14], av := [[11]] },
  { dst := some 16, k := (.callf 50), xs := [.t 15], av := [[11]], al := some [] },
 o3 17 (.faddr 2) [.t 7],
  { dst := some 18, k := (.load none), xs := [.t 17], av := [[16], [23], [11]] },
 o3 19 (.faddr 0) [.t 7],
  { dst := some 20, k := (.load none), xs := [.t 19], av := [[16], [23], [11]] },
 o3 21 (.toInt .u16) [.t 20],
 om 22 3,
  { dst := some 23, k := (.callf 50), xs := [.t 22], av := [[11]], al := some [] },
 om 24 4,
 o3 25 (.build [.d (.int .i64 0), .d (.int .i64 0), .d (.bool false), .d (.int .i64 0), .d (.int .i64 0), .d (.int .i64 0), .d (.int .i64 0), .d (.int .u16 0)] [(0, 1), (1, 1), (5, 1), (6, 1), (7, 1), (3, 1), (4, 1)]) [.t 12, .t 13, .t 16, .t 18, .t 21, .t 23, .t 24],
  { dst := some 11, k := (.alloc [.d (.int .i64 0), .d (.int .i64 0), .d (.bool false), .d (.int .i64 0), .d (.int .i64 0), .d (.int .i64 0), .d (.int .i64 0), .d (.int .u16 0)]), xs := [], av := [[16], [23]] },
 o0 (.store 8) [.t 11, .t 25]]
def F35o6 := [
 om 26 3,
 o3 27 (.bin .eql) [.t 26, .i 0]]
def F35o8 := [
 o3 28 (.faddr 3) [.t 11],
 o0 (.store 1) [.t 28, .i 5],
 o3 29 (.faddr 4) [.t 11],
 o0 (.store 1) [.t 29, .i 0]]
def F35c7 : Ac := (cd 27 (.ops F35o8) .skip)
def F35o11 := [
 o3 30 (.load (some 8)) [.t 11],
 o0 (.store 8) [.t 10, .t 30]]
def F35c12 : Ac := .ret
def F35c10 : Ac := (so F35o11 F35c12)
def F35c4 : Ac := (.seq (so F35o6 F35c7) F35c10)
def F35c2 : Ac := (so F35o3 F35c4)
def F35c0 : Ac := (so F35o1 F35c2)
/-- hansom/emit.Fix -/
def F35 : Fn := { np := 5, pb := [], rs := [.c 10 (some 8)], body := F35c0 }
def F36o1 := [
 o3 5 (.box 25) [.t 0],
 o3 6 (.box 4) [.t 1],
 o3 10 (.alloc [.d (.int .i64 0), .d (.int .i64 0), .d (.bool false), .d (.int .i64 0), .d (.int .i64 0), .d (.int .i64 0), .d (.int .i64 0), .d (.int .u16 0)]) []]
def F36o5 := [
 o3 12 (.faddr 16) [.t 5],
 o3 13 (.faddr 4) [.t 12],
 o3 14 (.load none) [.t 13],
 o3 15 (.bin .eql) [.t 14, .i 2],
 om 11 15]
def F36o8 := [
 om 16 2,
 o3 17 (.faddr 16) [.t 5],
 o3 18 (.load (some 6)) [.t 17],
 o3 19 (.callf 35) [.t 16, .i 2, .t 18, .i 0, .i 0],
 o0 (.store 8) [.t 10, .t 19]]
def F36c9 : Ac := .ret
def F36o11 := [
 o3 21 (.faddr 1) [.t 6],
 o3 22 (.load none) [.t 21],
 o3 23 (.bin .eql) [.t 22, .i 12],
 om 24 23,
 og 25 (.faddr 1) [.t 6] 24 false,
 og 26 (.load none) [.t 25] 24 false,
 og 27 (.bin .eql) [.t 26, .i 13] 24 false,
 o3 28 .pick [.t 24, .b true, .t 27],
 om 29 28,
 og 30 (.faddr 2) [.t 6] 29 false,
 og 31 (.load none) [.t 30] 29 false,
 og 32 (.bin .eql) [.t 31, .i 12] 29 false,
 o3 33 .pick [.t 29, .b true, .t 32],
 om 34 33,
 og 35 (.faddr 2) [.t 6] 34 false,
 og 36 (.load none) [.t 35] 34 false,
 og 37 (.bin .eql) [.t 36, .i 13] 34 false,
 o3 38 .pick [.t 34, .b true, .t 37],
 om 20 38]
def F36o14 := [
 om 39 2,
 o3 40 (.faddr 16) [.t 5],
 o3 41 (.load (some 6)) [.t 40],
 om 42 3,
 om 43 4,
 o3 44 (.callf 35) [.t 39, .i 1, .t 41, .t 42, .t 43],
 o0 (.store 8) [.t 10, .t 44]]
def F36c15 : Ac := .ret
def F36c12 : Ac := (cd 20 (so F36o14 F36c15) .skip)
def F36c6 : Ac := (cd 11 (so F36o8 F36c9) (so F36o11 F36c12))
def F36o18 := [
 om 45 2,
 o3 46 (.faddr 16) [.t 5],
 o3 47 (.load (some 6)) [.t 46],
 o3 48 (.callf 35) [.t 45, .i 1, .t 47, .i 0, .i 0],
 o0 (.store 8) [.t 10, .t 48]]
def F36c19 : Ac := .ret
def F36c17 : Ac := (so F36o18 F36c19)
def F36c2 : Ac := (.seq (.block 0 (so F36o5 F36c6)) F36c17)
def F36c0 : Ac := (so F36o1 F36c2)
/-- hansom/emit.imm -/
def F36 : Fn := { np := 5, pb := [], rs := [.c 10 (some 8)], body := F36c0 }
def F37o1 := [
 o3 1 (.box 6) [.t 0],
 o3 2 .mv [.c (.nils)],
 o3 3 .mv [.c (.nils)]]
def F37o4 := [
 o3 5 (.load (some 6)) [.t 1],
 o3 6 (.callf 34) [.t 5]]
def F37o7 := [
 o3 7 (.faddr 0) [.t 1],
 o3 8 (.load none) [.t 7],
 o3 9 (.toInt .u16) [.t 8],
  { dst := some 10, k := (.callf 25), xs := [.t 9], al := some [] },
 o3 11 (.faddr 0) [.t 1],
  { dst := some 12, k := (.load none), xs := [.t 11], av := [[10]] },
 o3 13 (.toInt .u16) [.t 12],
 o3 14 (.callf 26) [.t 13],
 o3 15 (.bslice (.int .u8 0) 2 [0, 1]) [.t 10, .t 14],
 om 2 15,
 o3 3 .mv [.c (.nils)]]
def F37c8 : Ac := (.seq (.gh [.frz 2, .frz 3]) .ret)
def F37c5 : Ac := (cd 6 (so F37o7 F37c8) .skip)
def F37o11 := [
 o3 4 .mv [.i 1]]
def F37o14 := [
 o3 16 (.faddr 4) [.t 1],
 o3 17 (.load none) [.t 16],
 o3 18 (.bin .eql) [.t 17, .i 2]]
def F37o16 := [
 o3 4 .mv [.i 2]]
def F37c15 : Ac := (cd 18 (.ops F37o16) .skip)
def F37o19 : List Ao := [
  { dst := some 19, k := (.mkslice (.int .u8 0) 1), xs := [.i 2, .i 2], av := [[22], [23]] },
 om 20 4,
  { dst := some 21, k := (.load (some 6)), xs := [.t 1], av := [[19]] },
  { dst := some 22, k := (.callf 35), xs := [.i 0, .t 20, .t 21, .i 0, .i 0], av := [[19]], al := some [] },
  { dst := some 23, k := (.bslice (.agg [.int .i64 0, .int .i64 0, .bool false, .int .i64 0, .int .i64 0, .int .i64 0, .int .i64 0, .int .u16 0]) 1 [0]), xs := [.t 22], av := [[19]] },
 om 2 19,
 om 3 23]
def F37c20 : Ac := (.seq (.gh [.frz 2, .frz 3]) .ret)
def F37c18 : Ac := (so F37o19 F37c20)
def F37c12 : Ac := (.seq (so F37o14 F37c15) F37c18)
def F37c10 : Ac := (so F37o11 F37c12)
def F37c2 : Ac := (.seq (so F37o4 F37c5) F37c10)
def F37c0 : Ac := (so F37o1 F37c2)
/-- hansom/emit.Word -/
def F37 : Fn := { np := 1, pb := [], rs := [.t 2, .t 3], body := F37c0 }
def F38o1 := [
 o3 2 .mv [.c (.d (.str []))]]
def F38o4 := [
 om 3 0,
 o3 4 (.bin .lss) [.t 3, .i 1],
 om 5 4,
 og 6 .mv [.t 0] 5 false,
 og 7 (.bin .gtr) [.t 6, .i 95] 5 false,
 o3 8 .pick [.t 5, .b true, .t 7]]
def F38o7 := [
 o3 2 .mv [.c (.d (.str [63]))]]
def F38c8 : Ac := .ret
def F38c5 : Ac := (cd 8 (so F38o7 F38c8) .skip)
def F38o11 := [
 om 9 0,
 o3 10 (.bin .sub) [.t 9, .i 1],
 o3 11 (.callf 51) [.c (.d (.str [65, 68, 68, 32, 79, 82, 32, 65, 68, 67, 32, 83, 66, 66, 32, 65, 78, 68, 32, 83, 85, 66, 32, 88, 79, 82, 32, 67, 77, 80, 32, 80, 85, 83, 72, 32, 80, 79, 80, 32, 68, 65, 65, 32, 68, 65, 83, 32, 65, 65, 65, 32, 65, 65, 83, 32, 73, 78, 67, 32, 68, 69, 67, 32, 74, 79, 32, 74, 78, 79, 32, 74, 66, 32, 74, 78, 66, 32, 74, 90, 32, 74, 78, 90, 32, 74, 66, 69, 32, 74, 65, 32, 74, 83, 32, 74, 78, 83, 32, 74, 80, 32, 74, 78, 80, 32, 74, 76, 32, 74, 71, 69, 32, 74, 76, 69, 32, 74, 71, 32, 84, 69, 83, 84, 32, 88, 67, 72, 71, 32, 77, 79, 86, 32, 76, 69, 65, 32, 67, 66, 87, 32, 67, 87, 68, 32, 67, 65, 76, 76, 32, 67, 65, 76, 76, 70, 32, 87, 65, 73, 84, 32, 80, 85, 83, 72, 70, 32, 80, 79, 80, 70, 32, 83, 65, 72, 70, 32, 76, 65, 72, 70, 32, 77, 79, 86, 83, 66, 32, 77, 79, 86, 83, 87, 32, 67, 77, 80, 83, 66, 32, 67, 77, 80, 83, 87, 32, 83, 84, 79, 83, 66, 32, 83, 84, 79, 83, 87, 32, 76, 79, 68, 83, 66, 32, 76, 79, 68, 83, 87, 32, 83, 67, 65, 83, 66, 32, 83, 67, 65, 83, 87, 32, 82, 69, 84, 32, 82, 69, 84, 70, 32, 76, 69, 83, 32, 76, 68, 83, 32, 73, 78, 84, 32, 73, 78, 84, 79, 32, 73, 82, 69, 84, 32, 82, 79, 76, 32, 82, 79, 82, 32, 82, 67, 76, 32, 82, 67, 82, 32, 83, 72, 76, 32, 83, 72, 82, 32, 83, 65, 82, 32, 65, 65, 77, 32, 65, 65, 68, 32, 88, 76, 65, 84, 32, 69, 83, 67, 32, 76, 79, 79, 80, 78, 90, 32, 76, 79, 79, 80, 90, 32, 76, 79, 79, 80, 32, 74, 67, 88, 90, 32, 73, 78, 32, 79, 85, 84, 32, 74, 77, 80, 32, 74, 77, 80, 70, 32, 72, 76, 84, 32, 67, 77, 67, 32, 78, 79, 84, 32, 78, 69, 71, 32, 77, 85, 76, 32, 73, 77, 85, 76, 32, 68, 73, 86, 32, 73, 68, 73, 86, 32, 67, 76, 67, 32, 83, 84, 67, 32, 67, 76, 73, 32, 83, 84, 73, 32, 67, 76, 68, 32, 83, 84, 68, 32])), .t 10],
 om 2 11]
def F38c12 : Ac := .ret
def F38c10 : Ac := (so F38o11 F38c12)
def F38c2 : Ac := (.seq (so F38o4 F38c5) F38c10)
def F38c0 : Ac := (so F38o1 F38c2)
/-- hansom/hansomref04.Name -/
def F38 : Fn := { np := 1, pb := [], rs := [.t 2], body := F38c0 }
def F39o1 := [
 o3 2 (.box 10) [.t 0],
 o3 3 (.box 4) [.t 1],
 o3 4 .mv [.b false]]
def F39o4 := [
 o3 5 (.faddr 3) [.t 3],
 o3 6 (.load none) [.t 5],
 o3 7 (.un .not) [.t 6]]
def F39o7 := [
 o3 8 (.faddr 4) [.t 2],
 o3 9 (.load none) [.t 8],
 o3 10 (.bin .eql) [.t 9, .i 0],
 om 11 10,
 og 12 (.faddr 5) [.t 2] 11 true,
 og 13 (.load none) [.t 12] 11 true,
 og 14 (.bin .eql) [.t 13, .i 0] 11 true,
 o3 15 .pick [.t 11, .t 14, .b false],
 om 16 15,
 og 17 (.faddr 6) [.t 2] 16 true,
 og 18 (.load none) [.t 17] 16 true,
 og 19 (.bin .eql) [.t 18, .i 0] 16 true,
 o3 20 .pick [.t 16, .t 19, .b false],
 om 21 20,
 og 22 (.faddr 7) [.t 2] 21 true,
 og 23 (.load none) [.t 22] 21 true,
 og 24 (.bin .eql) [.t 23, .w 0] 21 true,
 o3 25 .pick [.t 21, .t 24, .b false],
 om 4 25]
def F39c8 : Ac := .ret
def F39c5 : Ac := (cd 7 (so F39o7 F39c8) .skip)
def F39o12 := [
 o3 26 (.faddr 4) [.t 2],
 o3 27 (.load none) [.t 26],
 o3 28 (.bin .lss) [.t 27, .i 0],
 om 29 28,
 og 30 (.faddr 4) [.t 2] 29 false,
 og 31 (.load none) [.t 30] 29 false,
 og 32 (.bin .gtr) [.t 31, .i 3] 29 false,
 o3 33 .pick [.t 29, .b true, .t 32],
 om 34 33,
 og 35 (.faddr 5) [.t 2] 34 false,
 og 36 (.load none) [.t 35] 34 false,
 og 37 (.bin .lss) [.t 36, .i 0] 34 false,
 o3 38 .pick [.t 34, .b true, .t 37],
 om 39 38,
 og 40 (.faddr 5) [.t 2] 39 false,
 og 41 (.load none) [.t 40] 39 false,
 og 42 (.bin .gtr) [.t 41, .i 7] 39 false,
 o3 43 .pick [.t 39, .b true, .t 42],
 om 44 43,
 og 45 (.faddr 6) [.t 2] 44 false,
 og 46 (.load none) [.t 45] 44 false,
 og 47 (.bin .lss) [.t 46, .i 0] 44 false,
 o3 48 .pick [.t 44, .b true, .t 47],
 om 49 48,
 og 50 (.faddr 6) [.t 2] 49 false,
 og 51 (.load none) [.t 50] 49 false,
 og 52 (.bin .gtr) [.t 51, .i 7] 49 false,
 o3 53 .pick [.t 49, .b true, .t 52]]
def F39o15 := [
 o3 4 .mv [.b false]]
def F39c16 : Ac := .ret
def F39c13 : Ac := (cd 53 (so F39o15 F39c16) .skip)
def F39o20 := [
 o3 54 (.faddr 4) [.t 2],
 o3 55 (.load none) [.t 54],
 o3 56 (.bin .eql) [.t 55, .i 3],
 om 57 56,
 og 58 (.faddr 1) [.t 3] 57 true,
 og 59 (.load none) [.t 58] 57 true,
 og 60 (.bin .eql) [.t 59, .i 19] 57 true,
 og 61 .mv [.t 60] 57 true,
 og 62 (.faddr 2) [.t 3] 61 false,
 og 63 (.load none) [.t 62] 61 false,
 og 64 (.bin .eql) [.t 63, .i 19] 61 false,
 og 65 .pick [.t 61, .b true, .t 64] 57 true,
 og 66 .mv [.t 65] 57 true,
 og 67 (.faddr 2) [.t 3] 66 false,
 og 68 (.load none) [.t 67] 66 false,
 og 69 (.bin .eql) [.t 68, .i 20] 66 false,
 og 70 .pick [.t 66, .b true, .t 69] 57 true,
 o3 71 .pick [.t 57, .t 70, .b false]]
def F39o23 := [
 o3 4 .mv [.b false]]
def F39c24 : Ac := .ret
def F39c21 : Ac := (cd 71 (so F39o23 F39c24) .skip)
def F39o28 := [
 o3 72 (.faddr 4) [.t 2],
 o3 73 (.load none) [.t 72],
 o3 74 (.faddr 6) [.t 2],
 o3 75 (.load none) [.t 74],
 o3 76 (.callf 24) [.t 73, .t 75]]
def F39o31 := [
 o3 78 (.bin .eql) [.t 76, .i 0],
 om 77 78]
def F39o34 := [
 o3 79 (.faddr 7) [.t 2],
 o3 80 (.load none) [.t 79],
 o3 81 (.bin .eql) [.t 80, .w 0],
 om 4 81]
def F39c35 : Ac := .ret
def F39o37 := [
 o3 83 (.bin .eql) [.t 76, .i 1],
 om 82 83]
def F39o40 := [
 o3 84 (.faddr 7) [.t 2],
 o3 85 (.load none) [.t 84],
 o3 86 (.callf 52) [.t 85],
 om 4 86]
def F39c41 : Ac := .ret
def F39c38 : Ac := (cd 82 (so F39o40 F39c41) .skip)
def F39c32 : Ac := (cd 77 (so F39o34 F39c35) (so F39o37 F39c38))
def F39c29 : Ac := (.block 0 (so F39o31 F39c32))
def F39o44 := [
 o3 4 .mv [.b true]]
def F39c45 : Ac := .ret
def F39c43 : Ac := (so F39o44 F39c45)
def F39b26 : Ac := (.seq (so F39o28 F39c29) F39c43)
def F39c26 : Ac := (.seq (.gh []) (.seq (.keep [2] [[2]]) F39b26))
def F39c18 : Ac := (.seq (so F39o20 F39c21) F39c26)
def F39c10 : Ac := (.seq (so F39o12 F39c13) F39c18)
def F39c2 : Ac := (.seq (so F39o4 F39c5) F39c10)
def F39c0 : Ac := (so F39o1 F39c2)
/-- hansom/inst.second -/
def F39 : Fn := { np := 2, pb := [], rs := [.t 4], body := F39c0 }
def F40o1 := [
 o3 2 (.box 10) [.t 0],
 o3 3 (.box 4) [.t 1],
 o3 4 .mv [.b false]]
def F40o4 := [
 o3 7 (.faddr 1) [.t 3],
 o3 8 (.load none) [.t 7],
 o3 9 (.faddr 2) [.t 3],
 o3 10 (.load none) [.t 9],
 o3 11 (.build [.d (.int .i64 0), .d (.int .i64 0)] [(0, 1), (1, 1)]) [.t 8, .t 10],
 o3 12 .mv [.i 0]]
def F40o8 := [
 o3 13 (.bin .lss) [.t 12, .i 2]]
def F40o16 := [
 o3 14 (.indexA 2 1 none) [.t 11, .t 12],
 om 6 14]
def F40o18 := [
 om 15 6]
def F40o21 := [
 o3 17 (.bin .eql) [.t 15, .i 6],
 om 16 17]
def F40o24 := [
 o3 18 (.faddr 8) [.t 2],
 o3 19 (.load none) [.t 18],
 o3 20 (.bin .lss) [.t 19, .w 256],
 om 21 20,
 og 22 (.faddr 9) [.t 2] 21 true,
 og 23 (.load none) [.t 22] 21 true,
 og 24 (.bin .eql) [.t 23, .w 0] 21 true,
 o3 25 .pick [.t 21, .t 24, .b false],
 om 26 25,
 og 27 (.faddr 0) [.t 3] 26 true,
 og 28 (.load none) [.t 27] 26 true,
 og 29 (.bin .neq) [.t 28, .i 70] 26 true,
 og 30 .mv [.t 29] 26 true,
 og 31 (.faddr 0) [.t 3] 30 true,
 og 32 (.load none) [.t 31] 30 true,
 og 33 (.bin .neq) [.t 32, .i 71] 30 true,
 og 34 .pick [.t 30, .t 33, .b false] 26 true,
 og 35 .mv [.t 34] 26 true,
 og 36 (.faddr 8) [.t 2] 35 false,
 og 37 (.load none) [.t 36] 35 false,
 og 38 (.bin .eql) [.t 37, .w 10] 35 false,
 og 39 .pick [.t 35, .b true, .t 38] 26 true,
 o3 40 .pick [.t 26, .t 39, .b false],
 om 4 40]
def F40c25 : Ac := .ret
def F40o28 := [
 o3 42 (.bin .eql) [.t 15, .i 8],
 om 41 42]
def F40o31 := [
 o3 43 (.bin .eql) [.t 15, .i 9],
 om 41 43]
def F40c29 : Ac := (cd 41 .skip (.ops F40o31))
def F40o34 := [
 o3 44 (.faddr 8) [.t 2],
 o3 45 (.load none) [.t 44],
 o3 46 (.callf 52) [.t 45],
 om 47 46,
 og 48 (.faddr 9) [.t 2] 47 true,
 og 49 (.load none) [.t 48] 47 true,
 og 50 (.bin .eql) [.t 49, .w 0] 47 true,
 o3 51 .pick [.t 47, .t 50, .b false],
 om 4 51]
def F40c35 : Ac := .ret
def F40o38 := [
 o3 53 (.bin .eql) [.t 15, .i 7],
 om 52 53]
def F40o42 := [
 o3 54 (.bin .eql) [.t 15, .i 10],
 om 52 54]
def F40o46 := [
 o3 55 (.bin .eql) [.t 15, .i 12],
 om 52 55]
def F40o49 := [
 o3 56 (.bin .eql) [.t 15, .i 13],
 om 52 56]
def F40c47 : Ac := (cd 52 .skip (.ops F40o49))
def F40c43 : Ac := (cd 52 .skip (so F40o46 F40c47))
def F40c39 : Ac := (cd 52 .skip (so F40o42 F40c43))
def F40o52 := [
 o3 57 (.faddr 9) [.t 2],
 o3 58 (.load none) [.t 57],
 o3 59 (.bin .eql) [.t 58, .w 0],
 om 4 59]
def F40c53 : Ac := .ret
def F40o55 := [
 o3 61 (.bin .eql) [.t 15, .i 11],
 om 60 61]
def F40o58 := [
 o3 4 .mv [.b true]]
def F40c59 : Ac := .ret
def F40c56 : Ac := (cd 60 (so F40o58 F40c59) .skip)
def F40c50 : Ac := (cd 52 (so F40o52 F40c53) (so F40o55 F40c56))
def F40b32 : Ac := (cd 41 (so F40o34 F40c35) (.seq (so F40o38 F40c39) F40c50))
def F40c32 : Ac := (.seq (.gh []) (.seq (.keep [2, 3, 11, 12, 15, 41] [[2], [3]]) F40b32))
def F40c22 : Ac := (cd 16 (so F40o24 F40c25) (.seq (so F40o28 F40c29) F40c32))
def F40c19 : Ac := (.block 2 (so F40o21 F40c22))
def F40c17 : Ac := (so F40o18 F40c19)
def F40o61 := [
 o3 62 (.bin .add) [.t 12, .i 1],
 om 12 62]
def F40c61 : Ac := (.ops F40o61)
def F40c13 : Ac := (.seq (.block 1 (so F40o16 F40c17)) F40c61)
def F40c9 : Ac := (.seq (cd 13 .skip (.exit 0)) F40c13)
def F40l6 : Ac := (so F40o8 F40c9)
def F40c5 : Ac := (.block 0 (.loop (.seq (.gh []) (.seq (.keep [2, 3, 11, 12] [[2], [3]]) F40l6))))
def F40o63 := [
 o3 63 (.faddr 8) [.t 2],
 o3 64 (.load none) [.t 63],
 o3 65 (.bin .eql) [.t 64, .w 0],
 om 66 65,
 og 67 (.faddr 9) [.t 2] 66 true,
 og 68 (.load none) [.t 67] 66 true,
 og 69 (.bin .eql) [.t 68, .w 0] 66 true,
 o3 70 .pick [.t 66, .t 69, .b false],
 om 4 70]
def F40c64 : Ac := .ret
def F40b62 : Ac := (so F40o63 F40c64)
def F40c62 : Ac := (.seq (.gh []) (.seq (.keep [2] [[2]]) F40b62))
def F40c2 : Ac := (.seq (so F40o4 F40c5) F40c62)
def F40c0 : Ac := (so F40o1 F40c2)
/-- hansom/inst.behind -/
def F40 : Fn := { np := 2, pb := [], rs := [.t 4], body := F40c0 }
def F41o1 := [
 o3 2 (.box 10) [.t 0],
 o3 3 (.box 4) [.t 1],
 o3 4 .mv [.b false]]
def F41o3 := [
 o3 6 (.faddr 0) [.t 3],
 o3 7 (.load none) [.t 6],
 o3 8 (.callf 53) [.t 7],
 om 5 8]
def F41o6 := [
 o3 9 (.faddr 1) [.t 2],
 o3 10 (.load none) [.t 9]]
def F41o9 := [
 o3 12 (.bin .eql) [.t 10, .i 0],
 om 11 12]
def F41o13 := [
 o3 14 (.bin .eql) [.t 10, .i 1],
 om 13 14]
def F41o16 := [
 om 15 5,
 o3 16 (.bin .lss) [.t 15, .i 2]]
def F41o19 := [
 o3 4 .mv [.b false]]
def F41c20 : Ac := .ret
def F41c17 : Ac := (cd 16 (so F41o19 F41c20) .skip)
def F41o23 := [
 o3 18 (.bin .eql) [.t 10, .i 2],
 om 17 18]
def F41o26 := [
 om 19 5,
 o3 20 (.bin .lss) [.t 19, .i 1]]
def F41o29 := [
 o3 4 .mv [.b false]]
def F41c30 : Ac := .ret
def F41c27 : Ac := (cd 20 (so F41o29 F41c30) .skip)
def F41o33 := [
 o3 4 .mv [.b false]]
def F41c34 : Ac := .ret
def F41c24 : Ac := (cd 17 (so F41o26 F41c27) (so F41o33 F41c34))
def F41c14 : Ac := (cd 13 (so F41o16 F41c17) (so F41o23 F41c24))
def F41c10 : Ac := (cd 11 .skip (so F41o13 F41c14))
def F41c7 : Ac := (.block 0 (so F41o9 F41c10))
def F41o36 := [
 o3 21 (.faddr 2) [.t 2],
 o3 22 (.load none) [.t 21],
 o3 23 (.bin .geq) [.t 22, .i 0],
 om 24 23,
 og 25 (.faddr 2) [.t 2] 24 true,
 og 26 (.load none) [.t 25] 24 true,
 og 27 (.bin .leq) [.t 26, .i 4] 24 true,
 o3 28 .pick [.t 24, .t 27, .b false],
 om 4 28]
def F41c37 : Ac := .ret
def F41c35 : Ac := (so F41o36 F41c37)
def F41c4 : Ac := (.seq (so F41o6 F41c7) F41c35)
def F41c2 : Ac := (so F41o3 F41c4)
def F41c0 : Ac := (so F41o1 F41c2)
/-- hansom/inst.prefixes -/
def F41 : Fn := { np := 2, pb := [], rs := [.t 4], body := F41c0 }
def F42o1 := [
 o3 2 .mv [.b false]]
def F42o4 := [
 om 3 0]
def F42o8 := [
 o3 5 (.bin .eql) [.t 3, .y 38],
 om 4 5]
def F42o12 := [
 o3 6 (.bin .eql) [.t 3, .y 46],
 om 4 6]
def F42o16 := [
 o3 7 (.bin .eql) [.t 3, .y 54],
 om 4 7]
def F42o20 := [
 o3 8 (.bin .eql) [.t 3, .y 62],
 om 4 8]
def F42o24 := [
 o3 9 (.bin .eql) [.t 3, .y 240],
 om 4 9]
def F42o28 := [
 o3 10 (.bin .eql) [.t 3, .y 242],
 om 4 10]
def F42o31 := [
 o3 11 (.bin .eql) [.t 3, .y 243],
 om 4 11]
def F42c29 : Ac := (cd 4 .skip (.ops F42o31))
def F42c25 : Ac := (cd 4 .skip (so F42o28 F42c29))
def F42c21 : Ac := (cd 4 .skip (so F42o24 F42c25))
def F42c17 : Ac := (cd 4 .skip (so F42o20 F42c21))
def F42c13 : Ac := (cd 4 .skip (so F42o16 F42c17))
def F42c9 : Ac := (cd 4 .skip (so F42o12 F42c13))
def F42o34 := [
 o3 2 .mv [.b true]]
def F42c35 : Ac := .ret
def F42c32 : Ac := (cd 4 (so F42o34 F42c35) .skip)
def F42c5 : Ac := (.block 0 (.seq (so F42o8 F42c9) F42c32))
def F42o38 := [
 o3 2 .mv [.b false]]
def F42c39 : Ac := .ret
def F42c37 : Ac := (so F42o38 F42c39)
def F42c2 : Ac := (.seq (so F42o4 F42c5) F42c37)
def F42c0 : Ac := (so F42o1 F42c2)
/-- hansom/isa.Prefix -/
def F42 : Fn := { np := 1, pb := [], rs := [.t 2], body := F42c0 }
def F43o1 := [
 o3 4 (.alloc [.d (.int .i64 0), .d (.int .i64 0), .d (.int .i64 0), .d (.bool false)]) [],
 o3 5 .mv [.b false]]
def F43o3 := [
 om 7 1,
 o3 8 (.bin .and) [.t 7, .i 7],
 om 1 8]
def F43o7 := [
 om 10 0,
 o3 11 (.bin .lss) [.t 10, .y 64],
 om 9 11]
def F43o10 := [
 om 12 0,
 o3 13 (.callf 54) [.t 12],
 oe 14 0 13,
 oe 15 1 13,
 o0 (.store 4) [.t 4, .t 14],
 om 5 15]
def F43c11 : Ac := .ret
def F43o13 := [
 om 17 0,
 o3 18 (.bin .lss) [.t 17, .y 96],
 om 16 18]
def F43o16 := [
 o3 19 (.bslice (.int .i64 0) 4 [0, 1, 2, 3]) [.i 15, .i 16, .i 9, .i 10],
 om 20 0,
 o3 21 (.bin .sub) [.t 20, .y 64],
 o3 22 (.bin .shr) [.t 21, .c (.d (.int .u64 3))],
 o3 23 (.iaddrS 1) [.t 19, .t 22],
 o3 24 (.load none) [.t 23],
 om 6 24]
def F43o18 := [
 om 25 6,
 o3 26 (.callf 55) [.t 25, .i 22, .i 0],
 oe 27 0 26,
 oe 28 1 26,
 o0 (.store 4) [.t 4, .t 27],
 om 5 28]
def F43c19 : Ac := .ret
def F43c17 : Ac := (so F43o18 F43c19)
def F43o21 := [
 om 30 0,
 o3 31 (.bin .lss) [.t 30, .y 112],
 om 29 31]
def F43o24 := [
 o3 32 (.callf 56) [],
 oe 33 0 32,
 oe 34 1 32,
 o0 (.store 4) [.t 4, .t 33],
 om 5 34]
def F43c25 : Ac := .ret
def F43o27 := [
 om 36 0,
 o3 37 (.bin .lss) [.t 36, .y 128],
 om 35 37]
def F43o30 := [
 om 38 0,
 o3 39 (.bin .sub) [.t 38, .y 112],
 o3 40 (.toInt .i64) [.t 39],
 o3 41 (.bin .add) [.i 17, .t 40],
 o3 42 (.callf 55) [.t 41, .i 9, .i 0],
 oe 43 0 42,
 oe 44 1 42,
 o0 (.store 4) [.t 4, .t 43],
 om 5 44]
def F43c31 : Ac := .ret
def F43o33 := [
 om 46 0,
 o3 47 (.bin .lss) [.t 46, .y 144],
 om 45 47]
def F43o36 := [
 om 48 0,
 om 49 1,
 o3 50 (.callf 57) [.t 48, .t 49],
 oe 51 0 50,
 oe 52 1 50,
 o0 (.store 4) [.t 4, .t 51],
 om 5 52]
def F43c37 : Ac := .ret
def F43o39 := [
 om 54 0,
 o3 55 (.bin .lss) [.t 54, .y 160],
 om 53 55]
def F43o42 := [
 om 56 0,
 o3 57 (.callf 58) [.t 56],
 oe 58 0 57,
 oe 59 1 57,
 o0 (.store 4) [.t 4, .t 58],
 om 5 59]
def F43c43 : Ac := .ret
def F43o45 := [
 om 61 0,
 o3 62 (.bin .lss) [.t 61, .y 176],
 om 60 62]
def F43o48 := [
 om 63 0,
 o3 64 (.callf 59) [.t 63],
 oe 65 0 64,
 oe 66 1 64,
 o0 (.store 4) [.t 4, .t 65],
 om 5 66]
def F43c49 : Ac := .ret
def F43o51 := [
 om 68 0,
 o3 69 (.bin .lss) [.t 68, .y 184],
 om 67 69]
def F43o54 := [
 o3 70 (.callf 55) [.i 35, .i 21, .i 6],
 oe 71 0 70,
 oe 72 1 70,
 o0 (.store 4) [.t 4, .t 71],
 om 5 72]
def F43c55 : Ac := .ret
def F43o57 := [
 om 74 0,
 o3 75 (.bin .lss) [.t 74, .y 192],
 om 73 75]
def F43o60 := [
 o3 76 (.callf 55) [.i 35, .i 22, .i 7],
 oe 77 0 76,
 oe 78 1 76,
 o0 (.store 4) [.t 4, .t 77],
 om 5 78]
def F43c61 : Ac := .ret
def F43o63 := [
 om 80 0,
 o3 81 (.bin .lss) [.t 80, .y 208],
 om 79 81]
def F43o66 := [
 om 82 0,
 om 83 1,
 o3 84 (.callf 60) [.t 82, .t 83],
 oe 85 0 84,
 oe 86 1 84,
 o0 (.store 4) [.t 4, .t 85],
 om 5 86]
def F43c67 : Ac := .ret
def F43o69 := [
 om 88 0,
 o3 89 (.bin .lss) [.t 88, .y 224],
 om 87 89]
def F43o72 := [
 om 90 0,
 om 91 1,
 o3 92 (.callf 61) [.t 90, .t 91],
 oe 93 0 92,
 oe 94 1 92,
 o0 (.store 4) [.t 4, .t 93],
 om 5 94]
def F43c73 : Ac := .ret
def F43o75 := [
 om 96 0,
 o3 97 (.bin .lss) [.t 96, .y 240],
 om 95 97]
def F43o78 := [
 om 98 0,
 o3 99 (.callf 62) [.t 98],
 oe 100 0 99,
 oe 101 1 99,
 o0 (.store 4) [.t 4, .t 100],
 om 5 101]
def F43c79 : Ac := .ret
def F43c76 : Ac := (cd 95 (so F43o78 F43c79) .skip)
def F43c70 : Ac := (cd 87 (so F43o72 F43c73) (so F43o75 F43c76))
def F43c64 : Ac := (cd 79 (so F43o66 F43c67) (so F43o69 F43c70))
def F43c58 : Ac := (cd 73 (so F43o60 F43c61) (so F43o63 F43c64))
def F43c52 : Ac := (cd 67 (so F43o54 F43c55) (so F43o57 F43c58))
def F43c46 : Ac := (cd 60 (so F43o48 F43c49) (so F43o51 F43c52))
def F43c40 : Ac := (cd 53 (so F43o42 F43c43) (so F43o45 F43c46))
def F43c34 : Ac := (cd 45 (so F43o36 F43c37) (so F43o39 F43c40))
def F43c28 : Ac := (cd 35 (so F43o30 F43c31) (so F43o33 F43c34))
def F43c22 : Ac := (cd 29 (so F43o24 F43c25) (so F43o27 F43c28))
def F43c14 : Ac := (cd 16 (so F43o16 F43c17) (so F43o21 F43c22))
def F43c8 : Ac := (cd 9 (so F43o10 F43c11) (so F43o13 F43c14))
def F43o82 := [
 om 102 0,
 om 103 1,
 o3 104 (.callf 63) [.t 102, .t 103],
 oe 105 0 104,
 oe 106 1 104,
 o0 (.store 4) [.t 4, .t 105],
 om 5 106]
def F43c83 : Ac := .ret
def F43c81 : Ac := (so F43o82 F43c83)
def F43c4 : Ac := (.seq (.block 0 (so F43o7 F43c8)) F43c81)
def F43c2 : Ac := (so F43o3 F43c4)
def F43c0 : Ac := (so F43o1 F43c2)
/-- hansom/isa.Of -/
def F43 : Fn := { np := 2, pb := [], rs := [.c 4 (some 4), .t 5], body := F43c0 }
def F44o1 := [
 o3 2 .mv [.i 0]]
def F44o4 := [
 om 3 0]
def F44o8 := [
 o3 5 (.bin .eql) [.t 3, .i 6],
 om 4 5]
def F44o12 := [
 o3 6 (.bin .eql) [.t 3, .i 8],
 om 4 6]
def F44o15 := [
 o3 7 (.bin .eql) [.t 3, .i 9],
 om 4 7]
def F44c13 : Ac := (cd 4 .skip (.ops F44o15))
def F44c9 : Ac := (cd 4 .skip (so F44o12 F44c13))
def F44o18 := [
 o3 2 .mv [.i 1]]
def F44c19 : Ac := .ret
def F44o22 := [
 o3 9 (.bin .eql) [.t 3, .i 7],
 om 8 9]
def F44o26 := [
 o3 10 (.bin .eql) [.t 3, .i 10],
 om 8 10]
def F44o30 := [
 o3 11 (.bin .eql) [.t 3, .i 12],
 om 8 11]
def F44o33 := [
 o3 12 (.bin .eql) [.t 3, .i 13],
 om 8 12]
def F44c31 : Ac := (cd 8 .skip (.ops F44o33))
def F44c27 : Ac := (cd 8 .skip (so F44o30 F44c31))
def F44c23 : Ac := (cd 8 .skip (so F44o26 F44c27))
def F44o36 := [
 o3 2 .mv [.i 2]]
def F44c37 : Ac := .ret
def F44o39 := [
 o3 14 (.bin .eql) [.t 3, .i 11],
 om 13 14]
def F44o42 := [
 o3 2 .mv [.i 4]]
def F44c43 : Ac := .ret
def F44c40 : Ac := (cd 13 (so F44o42 F44c43) .skip)
def F44c34 : Ac := (cd 8 (so F44o36 F44c37) (so F44o39 F44c40))
def F44b16 : Ac := (cd 4 (so F44o18 F44c19) (.seq (so F44o22 F44c23) F44c34))
def F44c16 : Ac := (.seq (.gh []) (.seq (.keep [3, 4] []) F44b16))
def F44c5 : Ac := (.block 0 (.seq (so F44o8 F44c9) F44c16))
def F44o46 := [
 o3 2 .mv [.i 0]]
def F44c47 : Ac := .ret
def F44c45 : Ac := (so F44o46 F44c47)
def F44c2 : Ac := (.seq (so F44o4 F44c5) F44c45)
def F44c0 : Ac := (so F44o1 F44c2)
/-- hansom/isa.Immediate -/
def F44 : Fn := { np := 1, pb := [], rs := [.t 2], body := F44c0 }
def F45o1 := [
 o3 4 .mv [.c (.d (.str []))]]
def F45o3 := [
 om 6 0,
 o3 7 (.toInt .i64) [.t 6],
 o3 8 (.callf 51) [.c (.d (.str [65, 68, 68, 58, 69, 98, 58, 71, 98, 32, 65, 68, 68, 58, 69, 118, 58, 71, 118, 32, 65, 68, 68, 58, 71, 98, 58, 69, 98, 32, 65, 68, 68, 58, 71, 118, 58, 69, 118, 32, 65, 68, 68, 58, 65, 76, 58, 73, 98, 32, 65, 68, 68, 58, 65, 88, 58, 73, 118, 32, 80, 85, 83, 72, 58, 90, 115, 32, 80, 79, 80, 58, 90, 115, 32, 79, 82, 58, 69, 98, 58, 71, 98, 32, 79, 82, 58, 69, 118, 58, 71, 118, 32, 79, 82, 58, 71, 98, 58, 69, 98, 32, 79, 82, 58, 71, 118, 58, 69, 118, 32, 79, 82, 58, 65, 76, 58, 73, 98, 32, 79, 82, 58, 65, 88, 58, 73, 118, 32, 80, 85, 83, 72, 58, 90, 115, 32, 45, 32, 65, 68, 67, 58, 69, 98, 58, 71, 98, 32, 65, 68, 67, 58, 69, 118, 58, 71, 118, 32, 65, 68, 67, 58, 71, 98, 58, 69, 98, 32, 65, 68, 67, 58, 71, 118, 58, 69, 118, 32, 65, 68, 67, 58, 65, 76, 58, 73, 98, 32, 65, 68, 67, 58, 65, 88, 58, 73, 118, 32, 80, 85, 83, 72, 58, 90, 115, 32, 80, 79, 80, 58, 90, 115, 32, 83, 66, 66, 58, 69, 98, 58, 71, 98, 32, 83, 66, 66, 58, 69, 118, 58, 71, 118, 32, 83, 66, 66, 58, 71, 98, 58, 69, 98, 32, 83, 66, 66, 58, 71, 118, 58, 69, 118, 32, 83, 66, 66, 58, 65, 76, 58, 73, 98, 32, 83, 66, 66, 58, 65, 88, 58, 73, 118, 32, 80, 85, 83, 72, 58, 90, 115, 32, 80, 79, 80, 58, 90, 115, 32, 65, 78, 68, 58, 69, 98, 58, 71, 98, 32, 65, 78, 68, 58, 69, 118, 58, 71, 118, 32, 65, 78, 68, 58, 71, 98, 58, 69, 98, 32, 65, 78, 68, 58, 71, 118, 58, 69, 118, 32, 65, 78, 68, 58, 65, 76, 58, 73, 98, 32, 65, 78, 68, 58, 65, 88, 58, 73, 118, 32, 45, 32, 68, 65, 65, 32, 83, 85, 66, 58, 69, 98, 58, 71, 98, 32, 83, 85, 66, 58, 69, 118, 58, 71, 118, 32, 83, 85, 66, 58, 71, 98, 58, 69, 98, 32, 83, 85, 66, 58, 71, 118, 58, 69, 118, 32, 83, 85, 66, 58, 65, 76, 58, 73, 98, 32, 83, 85, 66, 58, 65, 88, 58, 73, 118, 32, 45, 32, 68, 65, 83, 32, 88, 79, 82, 58, 69, 98, 58, 71, 98, 32, 88, 79, 82, 58, 69, 118, 58, 71, 118, 32, 88, 79, 82, 58, 71, 98, 58, 69, 98, 32, 88, 79, 82, 58, 71, 118, 58, 69, 118, 32, 88, 79, 82, 58, 65, 76, 58, 73, 98, 32, 88, 79, 82, 58, 65, 88, 58, 73, 118, 32, 45, 32, 65, 65, 65, 32, 67, 77, 80, 58, 69, 98, 58, 71, 98, 32, 67, 77, 80, 58, 69, 118, 58, 71, 118, 32, 67, 77, 80, 58, 71, 98, 58, 69, 98, 32, 67, 77, 80, 58, 71, 118, 58, 69, 118, 32, 67, 77, 80, 58, 65, 76, 58, 73, 98, 32, 67, 77, 80, 58, 65, 88, 58, 73, 118, 32, 45, 32, 65, 65, 83, 32, 73, 78, 67, 58, 90, 118, 32, 73, 78, 67, 58, 90, 118, 32, 73, 78, 67, 58, 90, 118, 32, 73, 78, 67, 58, 90, 118, 32, 73, 78, 67, 58, 90, 118, 32, 73, 78, 67, 58, 90, 118, 32, 73, 78, 67, 58, 90, 118, 32, 73, 78, 67, 58, 90, 118, 32, 68, 69, 67, 58, 90, 118, 32, 68, 69, 67, 58, 90, 118, 32, 68, 69, 67, 58, 90, 118, 32, 68, 69, 67, 58, 90, 118, 32, 68, 69, 67, 58, 90, 118, 32, 68, 69, 67, 58, 90, 118, 32, 68, 69, 67, 58, 90, 118, 32, 68, 69, 67, 58, 90, 118, 32, 80, 85, 83, 72, 58, 90, 118, 32, 80, 85, 83, 72, 58, 90, 118, 32, 80, 85, 83, 72, 58, 90, 118, 32, 80, 85, 83, 72, 58, 90, 118, 32, 80, 85, 83, 72, 58, 90, 118, 32, 80, 85, 83, 72, 58, 90, 118, 32, 80, 85, 83, 72, 58, 90, 118, 32, 80, 85, 83, 72, 58, 90, 118, 32, 80, 79, 80, 58, 90, 118, 32, 80, 79, 80, 58, 90, 118, 32, 80, 79, 80, 58, 90, 118, 32, 80, 79, 80, 58, 90, 118, 32, 80, 79, 80, 58, 90, 118, 32, 80, 79, 80, 58, 90, 118, 32, 80, 79, 80, 58, 90, 118, 32, 80, 79, 80, 58, 90, 118, 32, 45, 32, 45, 32, 45, 32, 45, 32, 45, 32, 45, 32, 45, 32, 45, 32, 45, 32, 45, 32, 45, 32, 45, 32, 45, 32, 45, 32, 45, 32, 45, 32, 74, 79, 58, 74, 98, 32, 74, 78, 79, 58, 74, 98, 32, 74, 66, 58, 74, 98, 32, 74, 78, 66, 58, 74, 98, 32, 74, 90, 58, 74, 98, 32, 74, 78, 90, 58, 74, 98, 32, 74, 66, 69, 58, 74, 98, 32, 74, 65, 58, 74, 98, 32, 74, 83, 58, 74, 98, 32, 74, 78, 83, 58, 74, 98, 32, 74, 80, 58, 74, 98, 32, 74, 78, 80, 58, 74, 98, 32, 74, 76, 58, 74, 98, 32, 74, 71, 69, 58, 74, 98, 32, 74, 76, 69, 58, 74, 98, 32, 74, 71, 58, 74, 98, 32, 47, 65, 68, 68, 58, 69, 98, 58, 73, 98, 47, 79, 82, 58, 69, 98, 58, 73, 98, 47, 65, 68, 67, 58, 69, 98, 58, 73, 98, 47, 83, 66, 66, 58, 69, 98, 58, 73, 98, 47, 65, 78, 68, 58, 69, 98, 58, 73, 98, 47, 83, 85, 66, 58, 69, 98, 58, 73, 98, 47, 88, 79, 82, 58, 69, 98, 58, 73, 98, 47, 67, 77, 80, 58, 69, 98, 58, 73, 98, 32, 47, 65, 68, 68, 58, 69, 118, 58, 73, 118, 47, 79, 82, 58, 69, 118, 58, 73, 118, 47, 65, 68, 67, 58, 69, 118, 58, 73, 118, 47, 83, 66, 66, 58, 69, 118, 58, 73, 118, 47, 65, 78, 68, 58, 69, 118, 58, 73, 118, 47, 83, 85, 66, 58, 69, 118, 58, 73, 118, 47, 88, 79, 82, 58, 69, 118, 58, 73, 118, 47, 67, 77, 80, 58, 69, 118, 58, 73, 118, 32, 45, 32, 47, 65, 68, 68, 58, 69, 118, 58, 73, 115, 47, 45, 47, 65, 68, 67, 58, 69, 118, 58, 73, 115, 47, 83, 66, 66, 58, 69, 118, 58, 73, 115, 47, 45, 47, 83, 85, 66, 58, 69, 118, 58, 73, 115, 47, 45, 47, 67, 77, 80, 58, 69, 118, 58, 73, 115, 32, 84, 69, 83, 84, 58, 69, 98, 58, 71, 98, 32, 84, 69, 83, 84, 58, 69, 118, 58, 71, 118, 32, 88, 67, 72, 71, 58, 69, 98, 58, 71, 98, 32, 88, 67, 72, 71, 58, 69, 118, 58, 71, 118, 32, 77, 79, 86, 58, 69, 98, 58, 71, 98, 32, 77, 79, 86, 58, 69, 118, 58, 71, 118, 32, 77, 79, 86, 58, 71, 98, 58, 69, 98, 32, 77, 79, 86, 58, 71, 118, 58, 69, 118, 32, 47, 77, 79, 86, 58, 69, 118, 58, 83, 119, 47, 77, 79, 86, 58, 69, 118, 58, 83, 119, 47, 77, 79, 86, 58, 69, 118, 58, 83, 119, 47, 77, 79, 86, 58, 69, 118, 58, 83, 119, 47, 45, 47, 45, 47, 45, 47, 45, 32, 76, 69, 65, 58, 71, 118, 58, 77, 32, 47, 77, 79, 86, 58, 83, 119, 58, 69, 118, 47, 45, 47, 77, 79, 86, 58, 83, 119, 58, 69, 118, 47, 77, 79, 86, 58, 83, 119, 58, 69, 118, 47, 45, 47, 45, 47, 45, 47, 45, 32, 47, 80, 79, 80, 58, 69, 118, 47, 45, 47, 45, 47, 45, 47, 45, 47, 45, 47, 45, 47, 45, 32, 88, 67, 72, 71, 58, 65, 88, 58, 90, 118, 32, 88, 67, 72, 71, 58, 65, 88, 58, 90, 118, 32, 88, 67, 72, 71, 58, 65, 88, 58, 90, 118, 32, 88, 67, 72, 71, 58, 65, 88, 58, 90, 118, 32, 88, 67, 72, 71, 58, 65, 88, 58, 90, 118, 32, 88, 67, 72, 71, 58, 65, 88, 58, 90, 118, 32, 88, 67, 72, 71, 58, 65, 88, 58, 90, 118, 32, 88, 67, 72, 71, 58, 65, 88, 58, 90, 118, 32, 67, 66, 87, 32, 67, 87, 68, 32, 67, 65, 76, 76, 70, 58, 65, 112, 32, 87, 65, 73, 84, 32, 80, 85, 83, 72, 70, 32, 80, 79, 80, 70, 32, 83, 65, 72, 70, 32, 76, 65, 72, 70, 32, 77, 79, 86, 58, 65, 76, 58, 79, 98, 32, 77, 79, 86, 58, 65, 88, 58, 79, 118, 32, 77, 79, 86, 58, 79, 98, 58, 65, 76, 32, 77, 79, 86, 58, 79, 118, 58, 65, 88, 32, 77, 79, 86, 83, 66, 32, 77, 79, 86, 83, 87, 32, 67, 77, 80, 83, 66, 32, 67, 77, 80, 83, 87, 32, 84, 69, 83, 84, 58, 65, 76, 58, 73, 98, 32, 84, 69, 83, 84, 58, 65, 88, 58, 73, 118, 32, 83, 84, 79, 83, 66, 32, 83, 84, 79, 83, 87, 32, 76, 79, 68, 83, 66, 32, 76, 79, 68, 83, 87, 32, 83, 67, 65, 83, 66, 32, 83, 67, 65, 83, 87, 32, 77, 79, 86, 58, 90, 98, 58, 73, 98, 32, 77, 79, 86, 58, 90, 98, 58, 73, 98, 32, 77, 79, 86, 58, 90, 98, 58, 73, 98, 32, 77, 79, 86, 58, 90, 98, 58, 73, 98, 32, 77, 79, 86, 58, 90, 98, 58, 73, 98, 32, 77, 79, 86, 58, 90, 98, 58, 73, 98, 32, 77, 79, 86, 58, 90, 98, 58, 73, 98, 32, 77, 79, 86, 58, 90, 98, 58, 73, 98, 32, 77, 79, 86, 58, 90, 118, 58, 73, 118, 32, 77, 79, 86, 58, 90, 118, 58, 73, 118, 32, 77, 79, 86, 58, 90, 118, 58, 73, 118, 32, 77, 79, 86, 58, 90, 118, 58, 73, 118, 32, 77, 79, 86, 58, 90, 118, 58, 73, 118, 32, 77, 79, 86, 58, 90, 118, 58, 73, 118, 32, 77, 79, 86, 58, 90, 118, 58, 73, 118, 32, 77, 79, 86, 58, 90, 118, 58, 73, 118, 32, 45, 32, 45, 32, 82, 69, 84, 58, 73, 118, 32, 82, 69, 84, 32, 76, 69, 83, 58, 71, 118, 58, 77, 112, 32, 76, 68, 83, 58, 71, 118, 58, 77, 112, 32, 47, 77, 79, 86, 58, 69, 98, 58, 73, 98, 47, 45, 47, 45, 47, 45, 47, 45, 47, 45, 47, 45, 47, 45, 32, 47, 77, 79, 86, 58, 69, 118, 58, 73, 118, 47, 45, 47, 45, 47, 45, 47, 45, 47, 45, 47, 45, 47, 45, 32, 45, 32, 45, 32, 82, 69, 84, 70, 58, 73, 118, 32, 82, 69, 84, 70, 32, 73, 78, 84, 58, 84, 104, 114, 101, 101, 32, 73, 78, 84, 58, 73, 98, 32, 73, 78, 84, 79, 32, 73, 82, 69, 84, 32, 47, 82, 79, 76, 58, 69, 98, 58, 79, 110, 101, 47, 82, 79, 82, 58, 69, 98, 58, 79, 110, 101, 47, 82, 67, 76, 58, 69, 98, 58, 79, 110, 101, 47, 82, 67, 82, 58, 69, 98, 58, 79, 110, 101, 47, 83, 72, 76, 58, 69, 98, 58, 79, 110, 101, 47, 83, 72, 82, 58, 69, 98, 58, 79, 110, 101, 47, 45, 47, 83, 65, 82, 58, 69, 98, 58, 79, 110, 101, 32, 47, 82, 79, 76, 58, 69, 118, 58, 79, 110, 101, 47, 82, 79, 82, 58, 69, 118, 58, 79, 110, 101, 47, 82, 67, 76, 58, 69, 118, 58, 79, 110, 101, 47, 82, 67, 82, 58, 69, 118, 58, 79, 110, 101, 47, 83, 72, 76, 58, 69, 118, 58, 79, 110, 101, 47, 83, 72, 82, 58, 69, 118, 58, 79, 110, 101, 47, 45, 47, 83, 65, 82, 58, 69, 118, 58, 79, 110, 101, 32, 47, 82, 79, 76, 58, 69, 98, 58, 67, 76, 47, 82, 79, 82, 58, 69, 98, 58, 67, 76, 47, 82, 67, 76, 58, 69, 98, 58, 67, 76, 47, 82, 67, 82, 58, 69, 98, 58, 67, 76, 47, 83, 72, 76, 58, 69, 98, 58, 67, 76, 47, 83, 72, 82, 58, 69, 98, 58, 67, 76, 47, 45, 47, 83, 65, 82, 58, 69, 98, 58, 67, 76, 32, 47, 82, 79, 76, 58, 69, 118, 58, 67, 76, 47, 82, 79, 82, 58, 69, 118, 58, 67, 76, 47, 82, 67, 76, 58, 69, 118, 58, 67, 76, 47, 82, 67, 82, 58, 69, 118, 58, 67, 76, 47, 83, 72, 76, 58, 69, 118, 58, 67, 76, 47, 83, 72, 82, 58, 69, 118, 58, 67, 76, 47, 45, 47, 83, 65, 82, 58, 69, 118, 58, 67, 76, 32, 65, 65, 77, 58, 73, 98, 32, 65, 65, 68, 58, 73, 98, 32, 45, 32, 88, 76, 65, 84, 32, 69, 83, 67, 58, 69, 118, 32, 69, 83, 67, 58, 69, 118, 32, 69, 83, 67, 58, 69, 118, 32, 69, 83, 67, 58, 69, 118, 32, 69, 83, 67, 58, 69, 118, 32, 69, 83, 67, 58, 69, 118, 32, 69, 83, 67, 58, 69, 118, 32, 69, 83, 67, 58, 69, 118, 32, 76, 79, 79, 80, 78, 90, 58, 74, 98, 32, 76, 79, 79, 80, 90, 58, 74, 98, 32, 76, 79, 79, 80, 58, 74, 98, 32, 74, 67, 88, 90, 58, 74, 98, 32, 73, 78, 58, 65, 76, 58, 73, 98, 32, 73, 78, 58, 65, 88, 58, 73, 98, 32, 79, 85, 84, 58, 73, 98, 58, 65, 76, 32, 79, 85, 84, 58, 73, 98, 58, 65, 88, 32, 67, 65, 76, 76, 58, 74, 118, 32, 74, 77, 80, 58, 74, 118, 32, 74, 77, 80, 70, 58, 65, 112, 32, 74, 77, 80, 58, 74, 98, 32, 73, 78, 58, 65, 76, 58, 68, 88, 32, 73, 78, 58, 65, 88, 58, 68, 88, 32, 79, 85, 84, 58, 68, 88, 58, 65, 76, 32, 79, 85, 84, 58, 68, 88, 58, 65, 88, 32, 45, 32, 45, 32, 45, 32, 45, 32, 72, 76, 84, 32, 67, 77, 67, 32, 47, 84, 69, 83, 84, 58, 69, 98, 58, 73, 98, 47, 45, 47, 78, 79, 84, 58, 69, 98, 47, 78, 69, 71, 58, 69, 98, 47, 77, 85, 76, 58, 69, 98, 47, 73, 77, 85, 76, 58, 69, 98, 47, 68, 73, 86, 58, 69, 98, 47, 73, 68, 73, 86, 58, 69, 98, 32, 47, 84, 69, 83, 84, 58, 69, 118, 58, 73, 118, 47, 45, 47, 78, 79, 84, 58, 69, 118, 47, 78, 69, 71, 58, 69, 118, 47, 77, 85, 76, 58, 69, 118, 47, 73, 77, 85, 76, 58, 69, 118, 47, 68, 73, 86, 58, 69, 118, 47, 73, 68, 73, 86, 58, 69, 118, 32, 67, 76, 67, 32, 83, 84, 67, 32, 67, 76, 73, 32, 83, 84, 73, 32, 67, 76, 68, 32, 83, 84, 68, 32, 47, 73, 78, 67, 58, 69, 98, 47, 68, 69, 67, 58, 69, 98, 47, 45, 47, 45, 47, 45, 47, 45, 47, 45, 47, 45, 32, 47, 73, 78, 67, 58, 69, 118, 47, 68, 69, 67, 58, 69, 118, 47, 67, 65, 76, 76, 58, 69, 118, 47, 67, 65, 76, 76, 70, 58, 77, 112, 47, 74, 77, 80, 58, 69, 118, 47, 74, 77, 80, 70, 58, 77, 112, 47, 80, 85, 83, 72, 58, 69, 118, 47, 45, 32])), .t 7],
 om 5 8]
def F45o6 := [
 om 9 5,
 o3 10 .lenS [.t 9],
 o3 11 (.bin .gtr) [.t 10, .i 0],
 om 12 11,
 og 13 .mv [.t 5] 12 true,
 og 14 .indexS [.t 13, .i 0] 12 true,
 og 15 (.bin .eql) [.t 14, .y 47] 12 true,
 o3 16 .pick [.t 12, .t 15, .b false]]
def F45o9 := [
 om 17 5,
 om 18 1,
 o3 19 (.bin .and) [.t 18, .i 7],
 o3 20 (.bin .add) [.t 19, .i 1],
 o3 21 (.callf 47) [.t 17, .y 47, .t 20],
 om 4 21]
def F45c10 : Ac := .ret
def F45c7 : Ac := (cd 16 (so F45o9 F45c10) .skip)
def F45o13 := [
 om 22 5,
 om 4 22]
def F45c14 : Ac := .ret
def F45c12 : Ac := (so F45o13 F45c14)
def F45c4 : Ac := (.seq (so F45o6 F45c7) F45c12)
def F45c2 : Ac := (so F45o3 F45c4)
def F45c0 : Ac := (so F45o1 F45c2)
/-- hansom/hansomref04.Entry -/
def F45 : Fn := { np := 2, pb := [], rs := [.t 4], body := F45c0 }
def F46o1 := [
 o3 2 .mv [.i 0]]
def F46o3 := [
 om 3 0,
 o3 4 (.callf 48) [.c (.d (.str [65, 68, 68, 32, 79, 82, 32, 65, 68, 67, 32, 83, 66, 66, 32, 65, 78, 68, 32, 83, 85, 66, 32, 88, 79, 82, 32, 67, 77, 80, 32, 80, 85, 83, 72, 32, 80, 79, 80, 32, 68, 65, 65, 32, 68, 65, 83, 32, 65, 65, 65, 32, 65, 65, 83, 32, 73, 78, 67, 32, 68, 69, 67, 32, 74, 79, 32, 74, 78, 79, 32, 74, 66, 32, 74, 78, 66, 32, 74, 90, 32, 74, 78, 90, 32, 74, 66, 69, 32, 74, 65, 32, 74, 83, 32, 74, 78, 83, 32, 74, 80, 32, 74, 78, 80, 32, 74, 76, 32, 74, 71, 69, 32, 74, 76, 69, 32, 74, 71, 32, 84, 69, 83, 84, 32, 88, 67, 72, 71, 32, 77, 79, 86, 32, 76, 69, 65, 32, 67, 66, 87, 32, 67, 87, 68, 32, 67, 65, 76, 76, 32, 67, 65, 76, 76, 70, 32, 87, 65, 73, 84, 32, 80, 85, 83, 72, 70, 32, 80, 79, 80, 70, 32, 83, 65, 72, 70, 32, 76, 65, 72, 70, 32, 77, 79, 86, 83, 66, 32, 77, 79, 86, 83, 87, 32, 67, 77, 80, 83, 66, 32, 67, 77, 80, 83, 87, 32, 83, 84, 79, 83, 66, 32, 83, 84, 79, 83, 87, 32, 76, 79, 68, 83, 66, 32, 76, 79, 68, 83, 87, 32, 83, 67, 65, 83, 66, 32, 83, 67, 65, 83, 87, 32, 82, 69, 84, 32, 82, 69, 84, 70, 32, 76, 69, 83, 32, 76, 68, 83, 32, 73, 78, 84, 32, 73, 78, 84, 79, 32, 73, 82, 69, 84, 32, 82, 79, 76, 32, 82, 79, 82, 32, 82, 67, 76, 32, 82, 67, 82, 32, 83, 72, 76, 32, 83, 72, 82, 32, 83, 65, 82, 32, 65, 65, 77, 32, 65, 65, 68, 32, 88, 76, 65, 84, 32, 69, 83, 67, 32, 76, 79, 79, 80, 78, 90, 32, 76, 79, 79, 80, 90, 32, 76, 79, 79, 80, 32, 74, 67, 88, 90, 32, 73, 78, 32, 79, 85, 84, 32, 74, 77, 80, 32, 74, 77, 80, 70, 32, 72, 76, 84, 32, 67, 77, 67, 32, 78, 79, 84, 32, 78, 69, 71, 32, 77, 85, 76, 32, 73, 77, 85, 76, 32, 68, 73, 86, 32, 73, 68, 73, 86, 32, 67, 76, 67, 32, 83, 84, 67, 32, 67, 76, 73, 32, 83, 84, 73, 32, 67, 76, 68, 32, 83, 84, 68, 32])), .t 3],
 om 2 4]
def F46c4 : Ac := .ret
def F46c2 : Ac := (so F46o3 F46c4)
def F46c0 : Ac := (so F46o1 F46c2)
/-- hansom/hansomref04.Find -/
def F46 : Fn := { np := 1, pb := [], rs := [.t 2], body := F46c0 }
def F47o1 := [
 o3 6 .mv [.c (.d (.str []))]]
def F47o3 := [
 o3 7 .mv [.i 0]]
def F47o6 := [
 o3 8 .mv [.i 0]]
def F47o11 := [
 om 9 8,
 om 10 0,
 o3 11 .lenS [.t 10],
 o3 12 (.bin .leq) [.t 9, .t 11]]
def F47c12 : Ac := (cd 12 .skip (.exit 0))
def F47o19 := [
 om 15 8,
 om 16 0,
 o3 17 .lenS [.t 16],
 o3 18 (.bin .lss) [.t 15, .t 17],
 om 19 18,
 og 20 .mv [.t 0] 19 true,
 og 21 .mv [.t 8] 19 true,
 og 22 .indexS [.t 20, .t 21] 19 true,
 og 23 .mv [.t 1] 19 true,
 og 24 (.bin .neq) [.t 22, .t 23] 19 true,
 o3 25 .pick [.t 19, .t 24, .b false]]
def F47c20 : Ac := (cd 25 (.exit 1) .skip)
def F47o25 := [
 om 26 2,
 o3 27 (.bin .eql) [.t 26, .i 0]]
def F47o28 := [
 om 28 0,
 om 29 7,
 om 30 8,
 o3 31 (.substr true true) [.t 28, .t 29, .t 30],
 om 6 31]
def F47c29 : Ac := .ret
def F47c26 : Ac := (cd 27 (so F47o28 F47c29) .skip)
def F47o32 := [
 om 32 2,
 o3 33 (.bin .sub) [.t 32, .i 1],
 om 2 33]
def F47o33 := [
 om 34 8,
 o3 35 (.bin .add) [.t 34, .i 1],
 om 7 35]
def F47c33 : Ac := (.ops F47o33)
def F47c31 : Ac := (so F47o32 F47c33)
def F47c23 : Ac := (.seq (so F47o25 F47c26) F47c31)
def F47o34 := [
 om 13 8,
 o3 14 (.bin .add) [.t 13, .i 1],
 om 8 14]
def F47c34 : Ac := (.ops F47o34)
def F47c15 : Ac := (.seq (.block 1 (.seq (so F47o19 F47c20) F47c23)) F47c34)
def F47l8 : Ac := (.seq (so F47o11 F47c12) F47c15)
def F47c7 : Ac := (.block 0 (.loop (.seq (.gh []) (.seq (.keep [0, 1, 2, 7, 8] []) F47l8))))
def F47o36 := [
 o3 6 .mv [.c (.d (.str []))]]
def F47c37 : Ac := .ret
def F47b35 : Ac := (so F47o36 F47c37)
def F47c35 : Ac := (.seq (.gh []) (.seq (.keep [] []) F47b35))
def F47c4 : Ac := (.seq (so F47o6 F47c7) F47c35)
def F47c2 : Ac := (so F47o3 F47c4)
def F47c0 : Ac := (so F47o1 F47c2)
/-- hansom/hansomref04.part -/
def F47 : Fn := { np := 3, pb := [], rs := [.t 6], body := F47c0 }
def F48o1 := [
 o3 4 .mv [.i 0]]
def F48o3 := [
 o3 5 .mv [.i 1],
 o3 6 .mv [.i 0]]
def F48o6 := [
 o3 7 .mv [.i 0]]
def F48o11 := [
 om 8 7,
 om 9 0,
 o3 10 .lenS [.t 9],
 o3 11 (.bin .lss) [.t 8, .t 10]]
def F48c12 : Ac := (cd 11 .skip (.exit 0))
def F48o19 := [
 om 14 0,
 om 15 7,
 o3 16 .indexS [.t 14, .t 15],
 o3 17 (.bin .neq) [.t 16, .y 32]]
def F48c20 : Ac := (cd 17 (.exit 1) .skip)
def F48o25 := [
 om 18 0,
 om 19 6,
 om 20 7,
 o3 21 (.substr true true) [.t 18, .t 19, .t 20],
 om 22 1,
 o3 23 (.bin .eql) [.t 21, .t 22]]
def F48o28 := [
 om 24 5,
 om 4 24]
def F48c29 : Ac := .ret
def F48c26 : Ac := (cd 23 (so F48o28 F48c29) .skip)
def F48o32 := [
 om 25 5,
 o3 26 (.bin .add) [.t 25, .i 1],
 om 5 26]
def F48o33 := [
 om 27 7,
 o3 28 (.bin .add) [.t 27, .i 1],
 om 6 28]
def F48c33 : Ac := (.ops F48o33)
def F48c31 : Ac := (so F48o32 F48c33)
def F48c23 : Ac := (.seq (so F48o25 F48c26) F48c31)
def F48o34 := [
 om 12 7,
 o3 13 (.bin .add) [.t 12, .i 1],
 om 7 13]
def F48c34 : Ac := (.ops F48o34)
def F48c15 : Ac := (.seq (.block 1 (.seq (so F48o19 F48c20) F48c23)) F48c34)
def F48l8 : Ac := (.seq (so F48o11 F48c12) F48c15)
def F48c7 : Ac := (.block 0 (.loop (.seq (.gh []) (.seq (.keep [0, 1, 5, 6, 7] []) F48l8))))
def F48o36 := [
 o3 4 .mv [.i 0]]
def F48c37 : Ac := .ret
def F48b35 : Ac := (so F48o36 F48c37)
def F48c35 : Ac := (.seq (.gh []) (.seq (.keep [] []) F48b35))
def F48c4 : Ac := (.seq (so F48o6 F48c7) F48c35)
def F48c2 : Ac := (so F48o3 F48c4)
def F48c0 : Ac := (so F48o1 F48c2)
/-- hansom/hansomref04.find -/
def F48 : Fn := { np := 2, pb := [], rs := [.t 4], body := F48c0 }
def F49o1 := [
 o3 2 .mv [.b false]]
def F49o3 := [
 om 3 0,
 o3 4 (.bin .geq) [.t 3, .i 1],
 om 5 4,
 og 6 .mv [.t 0] 5 true,
 og 7 (.bin .leq) [.t 6, .i 5] 5 true,
 o3 8 .pick [.t 5, .t 7, .b false],
 om 9 8,
 og 10 .mv [.t 0] 9 false,
 og 11 (.bin .eql) [.t 10, .i 19] 9 false,
 o3 12 .pick [.t 9, .b true, .t 11],
 om 13 12,
 og 14 .mv [.t 0] 13 false,
 og 15 (.bin .eql) [.t 14, .i 20] 13 false,
 o3 16 .pick [.t 13, .b true, .t 15],
 om 2 16]
def F49c4 : Ac := .ret
def F49c2 : Ac := (so F49o3 F49c4)
def F49c0 : Ac := (so F49o1 F49c2)
/-- hansom/hansomref04.second -/
def F49 : Fn := { np := 1, pb := [], rs := [.t 2], body := F49c0 }
def F50o1 := [
 o3 2 .mv [.i 0]]
def F50o4 := [
 om 3 0]
def F50o7 := [
 o3 5 (.bin .eql) [.t 3, .i 2],
 om 4 5]
def F50o10 := [
 o3 2 .mv [.i 1]]
def F50c11 : Ac := .ret
def F50o13 := [
 o3 7 (.bin .eql) [.t 3, .i 3],
 om 6 7]
def F50o16 := [
 o3 2 .mv [.i 2]]
def F50c17 : Ac := .ret
def F50c14 : Ac := (cd 6 (so F50o16 F50c17) .skip)
def F50c8 : Ac := (cd 4 (so F50o10 F50c11) (so F50o13 F50c14))
def F50c5 : Ac := (.block 0 (so F50o7 F50c8))
def F50o20 := [
 o3 2 .mv [.i 0]]
def F50c21 : Ac := .ret
def F50c19 : Ac := (so F50o20 F50c21)
def F50c2 : Ac := (.seq (so F50o4 F50c5) F50c19)
def F50c0 : Ac := (so F50o1 F50c2)
/-- hansom/emit.By -/
def F50 : Fn := { np := 1, pb := [], rs := [.t 2], body := F50c0 }
def F51o1 := [
 o3 4 .mv [.c (.d (.str []))]]
def F51o3 := [
 o3 5 .mv [.i 0]]
def F51o6 := [
 o3 6 .mv [.i 0]]
def F51o11 := [
 om 8 6,
 om 9 1,
 o3 10 (.bin .lss) [.t 8, .t 9],
 om 11 10,
 og 12 .mv [.t 5] 11 true,
 og 13 .mv [.t 0] 11 true,
 og 14 .lenS [.t 13] 11 true,
 og 15 (.bin .lss) [.t 12, .t 14] 11 true,
 o3 16 .pick [.t 11, .t 15, .b false]]
def F51c12 : Ac := (cd 16 .skip (.exit 0))
def F51o22 := [
 om 19 5,
 om 20 0,
 o3 21 .lenS [.t 20],
 o3 22 (.bin .lss) [.t 19, .t 21],
 om 23 22,
 og 24 .mv [.t 0] 23 true,
 og 25 .mv [.t 5] 23 true,
 og 26 .indexS [.t 24, .t 25] 23 true,
 og 27 (.bin .neq) [.t 26, .y 32] 23 true,
 o3 28 .pick [.t 23, .t 27, .b false]]
def F51c23 : Ac := (cd 28 .skip (.exit 2))
def F51o27 := [
 om 29 5,
 o3 30 (.bin .add) [.t 29, .i 1],
 om 5 30]
def F51c26 : Ac := (.block 3 (.ops F51o27))
def F51l19 : Ac := (.seq (so F51o22 F51c23) F51c26)
def F51o28 := [
 om 31 5,
 o3 32 (.bin .add) [.t 31, .i 1],
 om 5 32]
def F51b28 : Ac := (.ops F51o28)
def F51c28 : Ac := (.seq (.gh []) (.seq (.keep [0, 1, 5, 6] []) F51b28))
def F51o29 := [
 om 17 6,
 o3 18 (.bin .add) [.t 17, .i 1],
 om 6 18]
def F51c29 : Ac := (.ops F51o29)
def F51c15 : Ac := (.seq (.block 1 (.seq (.block 2 (.loop (.seq (.gh []) (.seq (.keep [0, 1, 5, 6] []) F51l19)))) F51c28)) F51c29)
def F51l8 : Ac := (.seq (so F51o11 F51c12) F51c15)
def F51c7 : Ac := (.block 0 (.loop (.seq (.gh []) (.seq (.keep [0, 1, 5, 6] []) F51l8))))
def F51o31 := [
 om 33 5,
 om 7 33]
def F51o37 := [
 om 34 7,
 om 35 0,
 o3 36 .lenS [.t 35],
 o3 37 (.bin .lss) [.t 34, .t 36],
 om 38 37,
 og 39 .mv [.t 0] 38 true,
 og 40 .mv [.t 7] 38 true,
 og 41 .indexS [.t 39, .t 40] 38 true,
 og 42 (.bin .neq) [.t 41, .y 32] 38 true,
 o3 43 .pick [.t 38, .t 42, .b false]]
def F51c38 : Ac := (cd 43 .skip (.exit 4))
def F51o42 := [
 om 44 7,
 o3 45 (.bin .add) [.t 44, .i 1],
 om 7 45]
def F51c41 : Ac := (.block 5 (.ops F51o42))
def F51l34 : Ac := (.seq (so F51o37 F51c38) F51c41)
def F51o45 := [
 om 46 5,
 om 47 0,
 o3 48 .lenS [.t 47],
 o3 49 (.bin .geq) [.t 46, .t 48]]
def F51o48 := [
 o3 4 .mv [.c (.d (.str []))]]
def F51c49 : Ac := .ret
def F51c46 : Ac := (cd 49 (so F51o48 F51c49) .skip)
def F51o52 := [
 om 50 0,
 om 51 5,
 om 52 7,
 o3 53 (.substr true true) [.t 50, .t 51, .t 52],
 om 4 53]
def F51c53 : Ac := .ret
def F51c51 : Ac := (so F51o52 F51c53)
def F51b43 : Ac := (.seq (so F51o45 F51c46) F51c51)
def F51c43 : Ac := (.seq (.gh []) (.seq (.keep [0, 5, 7] []) F51b43))
def F51c32 : Ac := (.seq (.block 4 (.loop (.seq (.gh []) (.seq (.keep [0, 5, 7] []) F51l34)))) F51c43)
def F51b30 : Ac := (so F51o31 F51c32)
def F51c30 : Ac := (.seq (.gh []) (.seq (.keep [0, 5] []) F51b30))
def F51c4 : Ac := (.seq (so F51o6 F51c7) F51c30)
def F51c2 : Ac := (so F51o3 F51c4)
def F51c0 : Ac := (so F51o1 F51c2)
/-- hansom/hansomref04.word -/
def F51 : Fn := { np := 2, pb := [], rs := [.t 4], body := F51c0 }
def F52o1 := [
 o3 2 .mv [.b false]]
def F52o3 := [
 om 3 0,
 o3 4 (.callf 25) [.t 3],
 o3 5 (.callf 64) [.t 4],
 om 6 0,
 o3 7 (.bin .eql) [.t 5, .t 6],
 om 2 7]
def F52c4 : Ac := .ret
def F52c2 : Ac := (so F52o3 F52c4)
def F52c0 : Ac := (so F52o1 F52c2)
/-- hansom/bits.Fits -/
def F52 : Fn := { np := 1, pb := [], rs := [.t 2], body := F52c0 }
def F53o1 := [
 o3 2 .mv [.i 0]]
def F53o4 := [
 om 3 0]
def F53o8 := [
 o3 5 (.bin .eql) [.t 3, .i 46],
 om 4 5]
def F53o12 := [
 o3 6 (.bin .eql) [.t 3, .i 47],
 om 4 6]
def F53o16 := [
 o3 7 (.bin .eql) [.t 3, .i 50],
 om 4 7]
def F53o20 := [
 o3 8 (.bin .eql) [.t 3, .i 51],
 om 4 8]
def F53o24 := [
 o3 9 (.bin .eql) [.t 3, .i 52],
 om 4 9]
def F53o27 := [
 o3 10 (.bin .eql) [.t 3, .i 53],
 om 4 10]
def F53c25 : Ac := (cd 4 .skip (.ops F53o27))
def F53c21 : Ac := (cd 4 .skip (so F53o24 F53c25))
def F53c17 : Ac := (cd 4 .skip (so F53o20 F53c21))
def F53c13 : Ac := (cd 4 .skip (so F53o16 F53c17))
def F53c9 : Ac := (cd 4 .skip (so F53o12 F53c13))
def F53o30 := [
 o3 2 .mv [.i 1]]
def F53c31 : Ac := .ret
def F53o34 := [
 o3 12 (.bin .eql) [.t 3, .i 48],
 om 11 12]
def F53o38 := [
 o3 13 (.bin .eql) [.t 3, .i 49],
 om 11 13]
def F53o42 := [
 o3 14 (.bin .eql) [.t 3, .i 54],
 om 11 14]
def F53o45 := [
 o3 15 (.bin .eql) [.t 3, .i 55],
 om 11 15]
def F53c43 : Ac := (cd 11 .skip (.ops F53o45))
def F53c39 : Ac := (cd 11 .skip (so F53o42 F53c43))
def F53c35 : Ac := (cd 11 .skip (so F53o38 F53c39))
def F53o48 := [
 o3 2 .mv [.i 2]]
def F53c49 : Ac := .ret
def F53c46 : Ac := (cd 11 (so F53o48 F53c49) .skip)
def F53b28 : Ac := (cd 4 (so F53o30 F53c31) (.seq (so F53o34 F53c35) F53c46))
def F53c28 : Ac := (.seq (.gh []) (.seq (.keep [3, 4] []) F53b28))
def F53c5 : Ac := (.block 0 (.seq (so F53o8 F53c9) F53c28))
def F53o52 := [
 o3 2 .mv [.i 0]]
def F53c53 : Ac := .ret
def F53c51 : Ac := (so F53o52 F53c53)
def F53c2 : Ac := (.seq (so F53o4 F53c5) F53c51)
def F53c0 : Ac := (so F53o1 F53c2)
/-- hansom/isa.Repeats -/
def F53 : Fn := { np := 1, pb := [], rs := [.t 2], body := F53c0 }
def F54o1 := [
 o3 2 (.alloc [.d (.int .i64 0), .d (.int .i64 0), .d (.int .i64 0), .d (.bool false)]) [],
 o3 3 .mv [.b false]]
def F54o3 := [
 om 5 0,
 o3 6 (.bin .shr) [.t 5, .c (.d (.int .u64 3))],
 o3 7 (.toInt .i64) [.t 6],
 o3 8 (.bin .add) [.i 1, .t 7],
 om 4 8]
def F54o6 := [
 om 9 0,
 o3 10 (.bin .and) [.t 9, .y 7]]
def F54o9 := [
 o3 12 (.bin .eql) [.t 10, .y 0],
 om 11 12]
def F54o12 := [
 om 13 4,
 o3 14 (.callf 65) [.t 13, .i 1, .i 3],
 oe 15 0 14,
 oe 16 1 14,
 o0 (.store 4) [.t 2, .t 15],
 om 3 16]
def F54c13 : Ac := .ret
def F54o15 := [
 o3 18 (.bin .eql) [.t 10, .y 1],
 om 17 18]
def F54o18 := [
 om 19 4,
 o3 20 (.callf 65) [.t 19, .i 2, .i 4],
 oe 21 0 20,
 oe 22 1 20,
 o0 (.store 4) [.t 2, .t 21],
 om 3 22]
def F54c19 : Ac := .ret
def F54o21 := [
 o3 24 (.bin .eql) [.t 10, .y 2],
 om 23 24]
def F54o24 := [
 om 25 4,
 o3 26 (.callf 65) [.t 25, .i 3, .i 1],
 oe 27 0 26,
 oe 28 1 26,
 o0 (.store 4) [.t 2, .t 27],
 om 3 28]
def F54c25 : Ac := .ret
def F54o27 := [
 o3 30 (.bin .eql) [.t 10, .y 3],
 om 29 30]
def F54o30 := [
 om 31 4,
 o3 32 (.callf 65) [.t 31, .i 4, .i 2],
 oe 33 0 32,
 oe 34 1 32,
 o0 (.store 4) [.t 2, .t 33],
 om 3 34]
def F54c31 : Ac := .ret
def F54o33 := [
 o3 36 (.bin .eql) [.t 10, .y 4],
 om 35 36]
def F54o36 := [
 om 37 4,
 o3 38 (.callf 55) [.t 37, .i 14, .i 6],
 oe 39 0 38,
 oe 40 1 38,
 o0 (.store 4) [.t 2, .t 39],
 om 3 40]
def F54c37 : Ac := .ret
def F54o39 := [
 o3 42 (.bin .eql) [.t 10, .y 5],
 om 41 42]
def F54o42 := [
 om 43 4,
 o3 44 (.callf 55) [.t 43, .i 16, .i 7],
 oe 45 0 44,
 oe 46 1 44,
 o0 (.store 4) [.t 2, .t 45],
 om 3 46]
def F54c43 : Ac := .ret
def F54c40 : Ac := (cd 41 (so F54o42 F54c43) .skip)
def F54c34 : Ac := (cd 35 (so F54o36 F54c37) (so F54o39 F54c40))
def F54c28 : Ac := (cd 29 (so F54o30 F54c31) (so F54o33 F54c34))
def F54c22 : Ac := (cd 23 (so F54o24 F54c25) (so F54o27 F54c28))
def F54c16 : Ac := (cd 17 (so F54o18 F54c19) (so F54o21 F54c22))
def F54c10 : Ac := (cd 11 (so F54o12 F54c13) (so F54o15 F54c16))
def F54c7 : Ac := (.block 0 (so F54o9 F54c10))
def F54o47 := [
 om 47 0]
def F54o51 := [
 o3 49 (.bin .eql) [.t 47, .y 6],
 om 48 49]
def F54o55 := [
 o3 50 (.bin .eql) [.t 47, .y 14],
 om 48 50]
def F54o59 := [
 o3 51 (.bin .eql) [.t 47, .y 22],
 om 48 51]
def F54o62 := [
 o3 52 (.bin .eql) [.t 47, .y 30],
 om 48 52]
def F54c60 : Ac := (cd 48 .skip (.ops F54o62))
def F54c56 : Ac := (cd 48 .skip (so F54o59 F54c60))
def F54c52 : Ac := (cd 48 .skip (so F54o55 F54c56))
def F54o65 := [
 o3 53 (.callf 55) [.i 9, .i 23, .i 0],
 oe 54 0 53,
 oe 55 1 53,
 o0 (.store 4) [.t 2, .t 54],
 om 3 55]
def F54c66 : Ac := .ret
def F54o69 := [
 o3 57 (.bin .eql) [.t 47, .y 7],
 om 56 57]
def F54o73 := [
 o3 58 (.bin .eql) [.t 47, .y 23],
 om 56 58]
def F54o76 := [
 o3 59 (.bin .eql) [.t 47, .y 31],
 om 56 59]
def F54c74 : Ac := (cd 56 .skip (.ops F54o76))
def F54c70 : Ac := (cd 56 .skip (so F54o73 F54c74))
def F54o79 := [
 o3 60 (.callf 55) [.i 10, .i 23, .i 0],
 oe 61 0 60,
 oe 62 1 60,
 o0 (.store 4) [.t 2, .t 61],
 om 3 62]
def F54c80 : Ac := .ret
def F54o82 := [
 o3 64 (.bin .eql) [.t 47, .y 39],
 om 63 64]
def F54o85 := [
 o3 65 (.callf 55) [.i 11, .i 0, .i 0],
 oe 66 0 65,
 oe 67 1 65,
 o0 (.store 4) [.t 2, .t 66],
 om 3 67]
def F54c86 : Ac := .ret
def F54o88 := [
 o3 69 (.bin .eql) [.t 47, .y 47],
 om 68 69]
def F54o91 := [
 o3 70 (.callf 55) [.i 12, .i 0, .i 0],
 oe 71 0 70,
 oe 72 1 70,
 o0 (.store 4) [.t 2, .t 71],
 om 3 72]
def F54c92 : Ac := .ret
def F54o94 := [
 o3 74 (.bin .eql) [.t 47, .y 55],
 om 73 74]
def F54o97 := [
 o3 75 (.callf 55) [.i 13, .i 0, .i 0],
 oe 76 0 75,
 oe 77 1 75,
 o0 (.store 4) [.t 2, .t 76],
 om 3 77]
def F54c98 : Ac := .ret
def F54o100 := [
 o3 79 (.bin .eql) [.t 47, .y 63],
 om 78 79]
def F54o103 := [
 o3 80 (.callf 55) [.i 14, .i 0, .i 0],
 oe 81 0 80,
 oe 82 1 80,
 o0 (.store 4) [.t 2, .t 81],
 om 3 82]
def F54c104 : Ac := .ret
def F54c101 : Ac := (cd 78 (so F54o103 F54c104) .skip)
def F54c95 : Ac := (cd 73 (so F54o97 F54c98) (so F54o100 F54c101))
def F54c89 : Ac := (cd 68 (so F54o91 F54c92) (so F54o94 F54c95))
def F54c83 : Ac := (cd 63 (so F54o85 F54c86) (so F54o88 F54c89))
def F54b77 : Ac := (cd 56 (so F54o79 F54c80) (so F54o82 F54c83))
def F54c77 : Ac := (.seq (.gh []) (.seq (.keep [2, 47, 56] [[2]]) F54b77))
def F54b63 : Ac := (cd 48 (so F54o65 F54c66) (.seq (so F54o69 F54c70) F54c77))
def F54c63 : Ac := (.seq (.gh []) (.seq (.keep [2, 47, 48] [[2]]) F54b63))
def F54c48 : Ac := (.block 1 (.seq (so F54o51 F54c52) F54c63))
def F54o107 := [
 o3 83 (.callf 56) [],
 oe 84 0 83,
 oe 85 1 83,
 o0 (.store 4) [.t 2, .t 84],
 om 3 85]
def F54c108 : Ac := .ret
def F54c106 : Ac := (so F54o107 F54c108)
def F54c45 : Ac := (.seq (so F54o47 F54c48) F54c106)
def F54c4 : Ac := (.seq (so F54o6 F54c7) F54c45)
def F54c2 : Ac := (so F54o3 F54c4)
def F54c0 : Ac := (so F54o1 F54c2)
/-- hansom/isa.sums -/
def F54 : Fn := { np := 1, pb := [], rs := [.c 2 (some 4), .t 3], body := F54c0 }
def F55o1 := [
 o3 6 (.alloc [.d (.int .i64 0), .d (.int .i64 0), .d (.int .i64 0), .d (.bool false)]) [],
 o3 7 .mv [.b false]]
def F55o3 := [
 om 8 0,
 om 9 1,
 om 10 2,
 o3 11 (.build [.d (.int .i64 0), .d (.int .i64 0), .d (.int .i64 0), .d (.bool false)] [(0, 1), (1, 1), (2, 1)]) [.t 8, .t 9, .t 10],
 o0 (.store 4) [.t 6, .t 11],
 o3 7 .mv [.b true]]
def F55c4 : Ac := .ret
def F55c2 : Ac := (so F55o3 F55c4)
def F55c0 : Ac := (so F55o1 F55c2)
/-- hansom/isa.row -/
def F55 : Fn := { np := 3, pb := [], rs := [.c 6 (some 4), .t 7], body := F55c0 }
def F56o1 := [
 o3 0 (.alloc [.d (.int .i64 0), .d (.int .i64 0), .d (.int .i64 0), .d (.bool false)]) [],
 o3 1 .mv [.b false]]
def F56o3 := [
 o3 2 (.build [.d (.int .i64 0), .d (.int .i64 0), .d (.int .i64 0), .d (.bool false)] []) [],
 o0 (.store 4) [.t 0, .t 2],
 o3 1 .mv [.b false]]
def F56c4 : Ac := .ret
def F56c2 : Ac := (so F56o3 F56c4)
def F56c0 : Ac := (so F56o1 F56c2)
/-- hansom/isa.bad -/
def F56 : Fn := { np := 0, pb := [], rs := [.c 0 (some 4), .t 1], body := F56c0 }
def F57o1 := [
 o3 4 (.alloc [.d (.int .i64 0), .d (.int .i64 0), .d (.int .i64 0), .d (.bool false)]) [],
 o3 5 .mv [.b false]]
def F57o4 := [
 om 6 0]
def F57o7 := [
 o3 8 (.bin .eql) [.t 6, .y 128],
 om 7 8]
def F57o10 := [
 om 9 1,
 o3 10 (.bin .add) [.i 1, .t 9],
 o3 11 (.callf 65) [.t 10, .i 1, .i 6],
 oe 12 0 11,
 oe 13 1 11,
 o0 (.store 4) [.t 4, .t 12],
 om 5 13]
def F57c11 : Ac := .ret
def F57o13 := [
 o3 15 (.bin .eql) [.t 6, .y 129],
 om 14 15]
def F57o16 := [
 om 16 1,
 o3 17 (.bin .add) [.i 1, .t 16],
 o3 18 (.callf 65) [.t 17, .i 2, .i 7],
 oe 19 0 18,
 oe 20 1 18,
 o0 (.store 4) [.t 4, .t 19],
 om 5 20]
def F57c17 : Ac := .ret
def F57o19 := [
 o3 22 (.bin .eql) [.t 6, .y 131],
 om 21 22]
def F57o23 := [
 om 23 1,
 o3 24 (.bin .eql) [.t 23, .i 1],
 om 25 24,
 og 26 .mv [.t 1] 25 false,
 og 27 (.bin .eql) [.t 26, .i 4] 25 false,
 o3 28 .pick [.t 25, .b true, .t 27],
 om 29 28,
 og 30 .mv [.t 1] 29 false,
 og 31 (.bin .eql) [.t 30, .i 6] 29 false,
 o3 32 .pick [.t 29, .b true, .t 31]]
def F57o26 := [
 o3 33 (.callf 56) [],
 oe 34 0 33,
 oe 35 1 33,
 o0 (.store 4) [.t 4, .t 34],
 om 5 35]
def F57c27 : Ac := .ret
def F57c24 : Ac := (cd 32 (so F57o26 F57c27) .skip)
def F57o30 := [
 om 36 1,
 o3 37 (.bin .add) [.i 1, .t 36],
 o3 38 (.callf 65) [.t 37, .i 2, .i 8],
 oe 39 0 38,
 oe 40 1 38,
 o0 (.store 4) [.t 4, .t 39],
 om 5 40]
def F57c31 : Ac := .ret
def F57c29 : Ac := (so F57o30 F57c31)
def F57o33 := [
 o3 42 (.bin .eql) [.t 6, .y 132],
 om 41 42]
def F57o36 := [
 o3 43 (.callf 65) [.i 33, .i 1, .i 3],
 oe 44 0 43,
 oe 45 1 43,
 o0 (.store 4) [.t 4, .t 44],
 om 5 45]
def F57c37 : Ac := .ret
def F57o39 := [
 o3 47 (.bin .eql) [.t 6, .y 133],
 om 46 47]
def F57o42 := [
 o3 48 (.callf 65) [.i 33, .i 2, .i 4],
 oe 49 0 48,
 oe 50 1 48,
 o0 (.store 4) [.t 4, .t 49],
 om 5 50]
def F57c43 : Ac := .ret
def F57o45 := [
 o3 52 (.bin .eql) [.t 6, .y 134],
 om 51 52]
def F57o48 := [
 o3 53 (.callf 65) [.i 34, .i 1, .i 3],
 oe 54 0 53,
 oe 55 1 53,
 o0 (.store 4) [.t 4, .t 54],
 om 5 55]
def F57c49 : Ac := .ret
def F57o51 := [
 o3 57 (.bin .eql) [.t 6, .y 135],
 om 56 57]
def F57o54 := [
 o3 58 (.callf 65) [.i 34, .i 2, .i 4],
 oe 59 0 58,
 oe 60 1 58,
 o0 (.store 4) [.t 4, .t 59],
 om 5 60]
def F57c55 : Ac := .ret
def F57o57 := [
 o3 62 (.bin .eql) [.t 6, .y 136],
 om 61 62]
def F57o60 := [
 o3 63 (.callf 65) [.i 35, .i 1, .i 3],
 oe 64 0 63,
 oe 65 1 63,
 o0 (.store 4) [.t 4, .t 64],
 om 5 65]
def F57c61 : Ac := .ret
def F57o63 := [
 o3 67 (.bin .eql) [.t 6, .y 137],
 om 66 67]
def F57o66 := [
 o3 68 (.callf 65) [.i 35, .i 2, .i 4],
 oe 69 0 68,
 oe 70 1 68,
 o0 (.store 4) [.t 4, .t 69],
 om 5 70]
def F57c67 : Ac := .ret
def F57o69 := [
 o3 72 (.bin .eql) [.t 6, .y 138],
 om 71 72]
def F57o72 := [
 o3 73 (.callf 65) [.i 35, .i 3, .i 1],
 oe 74 0 73,
 oe 75 1 73,
 o0 (.store 4) [.t 4, .t 74],
 om 5 75]
def F57c73 : Ac := .ret
def F57o75 := [
 o3 77 (.bin .eql) [.t 6, .y 139],
 om 76 77]
def F57o78 := [
 o3 78 (.callf 65) [.i 35, .i 4, .i 2],
 oe 79 0 78,
 oe 80 1 78,
 o0 (.store 4) [.t 4, .t 79],
 om 5 80]
def F57c79 : Ac := .ret
def F57o81 := [
 o3 82 (.bin .eql) [.t 6, .y 140],
 om 81 82]
def F57o84 := [
 om 83 1,
 o3 84 (.bin .lss) [.t 83, .i 4]]
def F57o87 := [
 o3 85 (.callf 65) [.i 35, .i 2, .i 5],
 oe 86 0 85,
 oe 87 1 85,
 o0 (.store 4) [.t 4, .t 86],
 om 5 87]
def F57c88 : Ac := .ret
def F57c85 : Ac := (cd 84 (so F57o87 F57c88) .skip)
def F57o91 := [
 o3 89 (.bin .eql) [.t 6, .y 141],
 om 88 89]
def F57o94 := [
 o3 90 (.callf 65) [.i 36, .i 4, .i 20],
 oe 91 0 90,
 oe 92 1 90,
 o0 (.store 4) [.t 4, .t 91],
 om 5 92]
def F57c95 : Ac := .ret
def F57o97 := [
 o3 94 (.bin .eql) [.t 6, .y 142],
 om 93 94]
def F57o100 := [
 om 95 1,
 o3 96 (.bin .lss) [.t 95, .i 4],
 om 97 96,
 og 98 .mv [.t 1] 97 true,
 og 99 (.bin .neq) [.t 98, .i 1] 97 true,
 o3 100 .pick [.t 97, .t 99, .b false]]
def F57o103 := [
 o3 101 (.callf 65) [.i 35, .i 5, .i 2],
 oe 102 0 101,
 oe 103 1 101,
 o0 (.store 4) [.t 4, .t 102],
 om 5 103]
def F57c104 : Ac := .ret
def F57c101 : Ac := (cd 100 (so F57o103 F57c104) .skip)
def F57o107 := [
 o3 105 (.bin .eql) [.t 6, .y 143],
 om 104 105]
def F57o110 := [
 om 106 1,
 o3 107 (.bin .eql) [.t 106, .i 0]]
def F57o113 := [
 o3 108 (.callf 65) [.i 10, .i 2, .i 0],
 oe 109 0 108,
 oe 110 1 108,
 o0 (.store 4) [.t 4, .t 109],
 om 5 110]
def F57c114 : Ac := .ret
def F57c111 : Ac := (cd 107 (so F57o113 F57c114) .skip)
def F57c108 : Ac := (cd 104 (so F57o110 F57c111) .skip)
def F57c98 : Ac := (cd 93 (so F57o100 F57c101) (so F57o107 F57c108))
def F57c92 : Ac := (cd 88 (so F57o94 F57c95) (so F57o97 F57c98))
def F57c82 : Ac := (cd 81 (so F57o84 F57c85) (so F57o91 F57c92))
def F57c76 : Ac := (cd 76 (so F57o78 F57c79) (so F57o81 F57c82))
def F57c70 : Ac := (cd 71 (so F57o72 F57c73) (so F57o75 F57c76))
def F57c64 : Ac := (cd 66 (so F57o66 F57c67) (so F57o69 F57c70))
def F57c58 : Ac := (cd 61 (so F57o60 F57c61) (so F57o63 F57c64))
def F57c52 : Ac := (cd 56 (so F57o54 F57c55) (so F57o57 F57c58))
def F57c46 : Ac := (cd 51 (so F57o48 F57c49) (so F57o51 F57c52))
def F57c40 : Ac := (cd 46 (so F57o42 F57c43) (so F57o45 F57c46))
def F57c34 : Ac := (cd 41 (so F57o36 F57c37) (so F57o39 F57c40))
def F57c20 : Ac := (cd 21 (.seq (so F57o23 F57c24) F57c29) (so F57o33 F57c34))
def F57c14 : Ac := (cd 14 (so F57o16 F57c17) (so F57o19 F57c20))
def F57c8 : Ac := (cd 7 (so F57o10 F57c11) (so F57o13 F57c14))
def F57c5 : Ac := (.block 0 (so F57o7 F57c8))
def F57o118 := [
 o3 111 (.callf 56) [],
 oe 112 0 111,
 oe 113 1 111,
 o0 (.store 4) [.t 4, .t 112],
 om 5 113]
def F57c119 : Ac := .ret
def F57c117 : Ac := (so F57o118 F57c119)
def F57c2 : Ac := (.seq (so F57o4 F57c5) F57c117)
def F57c0 : Ac := (so F57o1 F57c2)
/-- hansom/isa.moves -/
def F57 : Fn := { np := 2, pb := [], rs := [.c 4 (some 4), .t 5], body := F57c0 }
def F58o1 := [
 o3 2 (.alloc [.d (.int .i64 0), .d (.int .i64 0), .d (.int .i64 0), .d (.bool false)]) [],
 o3 3 .mv [.b false]]
def F58o4 := [
 om 5 0,
 o3 6 (.bin .lss) [.t 5, .y 152]]
def F58o7 := [
 o3 7 (.callf 55) [.i 34, .i 16, .i 22],
 oe 8 0 7,
 oe 9 1 7,
 o0 (.store 4) [.t 2, .t 8],
 om 3 9]
def F58c8 : Ac := .ret
def F58c5 : Ac := (cd 6 (so F58o7 F58c8) .skip)
def F58o12 := [
 om 10 0,
 o3 11 (.bin .eql) [.t 10, .y 154]]
def F58o15 := [
 o3 12 (.callf 55) [.i 40, .i 11, .i 0],
 oe 13 0 12,
 oe 14 1 12,
 o0 (.store 4) [.t 2, .t 13],
 om 3 14]
def F58c16 : Ac := .ret
def F58c13 : Ac := (cd 11 (so F58o15 F58c16) .skip)
def F58o19 := [
 o3 15 (.bslice (.int .i64 0) 8 [0, 1, 2, 3, 4, 5, 6, 7]) [.i 37, .i 38, .i 0, .i 41, .i 42, .i 43, .i 44, .i 45],
 om 16 0,
 o3 17 (.bin .sub) [.t 16, .y 152],
 o3 18 (.iaddrS 1) [.t 15, .t 17],
 o3 19 (.load none) [.t 18],
 om 4 19]
def F58o21 := [
 om 20 4,
 o3 21 (.callf 55) [.t 20, .i 0, .i 0],
 oe 22 0 21,
 oe 23 1 21,
 o0 (.store 4) [.t 2, .t 22],
 om 3 23]
def F58c22 : Ac := .ret
def F58c20 : Ac := (so F58o21 F58c22)
def F58c18 : Ac := (so F58o19 F58c20)
def F58c10 : Ac := (.seq (so F58o12 F58c13) F58c18)
def F58c2 : Ac := (.seq (so F58o4 F58c5) F58c10)
def F58c0 : Ac := (so F58o1 F58c2)
/-- hansom/isa.words -/
def F58 : Fn := { np := 1, pb := [], rs := [.c 2 (some 4), .t 3], body := F58c0 }
def F59o1 := [
 o3 2 (.alloc [.d (.int .i64 0), .d (.int .i64 0), .d (.int .i64 0), .d (.bool false)]) [],
 o3 3 .mv [.b false]]
def F59o4 := [
 om 4 0]
def F59o7 := [
 o3 6 (.bin .eql) [.t 4, .y 160],
 om 5 6]
def F59o10 := [
 o3 7 (.callf 55) [.i 35, .i 14, .i 12],
 oe 8 0 7,
 oe 9 1 7,
 o0 (.store 4) [.t 2, .t 8],
 om 3 9]
def F59c11 : Ac := .ret
def F59o13 := [
 o3 11 (.bin .eql) [.t 4, .y 161],
 om 10 11]
def F59o16 := [
 o3 12 (.callf 55) [.i 35, .i 16, .i 13],
 oe 13 0 12,
 oe 14 1 12,
 o0 (.store 4) [.t 2, .t 13],
 om 3 14]
def F59c17 : Ac := .ret
def F59o19 := [
 o3 16 (.bin .eql) [.t 4, .y 162],
 om 15 16]
def F59o22 := [
 o3 17 (.callf 55) [.i 35, .i 12, .i 14],
 oe 18 0 17,
 oe 19 1 17,
 o0 (.store 4) [.t 2, .t 18],
 om 3 19]
def F59c23 : Ac := .ret
def F59o25 := [
 o3 21 (.bin .eql) [.t 4, .y 163],
 om 20 21]
def F59o28 := [
 o3 22 (.callf 55) [.i 35, .i 13, .i 16],
 oe 23 0 22,
 oe 24 1 22,
 o0 (.store 4) [.t 2, .t 23],
 om 3 24]
def F59c29 : Ac := .ret
def F59o31 := [
 o3 26 (.bin .eql) [.t 4, .y 168],
 om 25 26]
def F59o34 := [
 o3 27 (.callf 55) [.i 33, .i 14, .i 6],
 oe 28 0 27,
 oe 29 1 27,
 o0 (.store 4) [.t 2, .t 28],
 om 3 29]
def F59c35 : Ac := .ret
def F59o37 := [
 o3 31 (.bin .eql) [.t 4, .y 169],
 om 30 31]
def F59o40 := [
 o3 32 (.callf 55) [.i 33, .i 16, .i 7],
 oe 33 0 32,
 oe 34 1 32,
 o0 (.store 4) [.t 2, .t 33],
 om 3 34]
def F59c41 : Ac := .ret
def F59c38 : Ac := (cd 30 (so F59o40 F59c41) .skip)
def F59c32 : Ac := (cd 25 (so F59o34 F59c35) (so F59o37 F59c38))
def F59c26 : Ac := (cd 20 (so F59o28 F59c29) (so F59o31 F59c32))
def F59c20 : Ac := (cd 15 (so F59o22 F59c23) (so F59o25 F59c26))
def F59c14 : Ac := (cd 10 (so F59o16 F59c17) (so F59o19 F59c20))
def F59c8 : Ac := (cd 5 (so F59o10 F59c11) (so F59o13 F59c14))
def F59c5 : Ac := (.block 0 (so F59o7 F59c8))
def F59o45 := [
 om 35 0,
 o3 36 (.bin .lss) [.t 35, .y 168]]
def F59o48 := [
 om 37 0,
 o3 38 (.bin .sub) [.t 37, .y 164],
 o3 39 (.toInt .i64) [.t 38],
 o3 40 (.bin .add) [.i 46, .t 39],
 o3 41 (.callf 55) [.t 40, .i 0, .i 0],
 oe 42 0 41,
 oe 43 1 41,
 o0 (.store 4) [.t 2, .t 42],
 om 3 43]
def F59c49 : Ac := .ret
def F59c46 : Ac := (cd 36 (so F59o48 F59c49) .skip)
def F59o52 := [
 om 44 0,
 o3 45 (.bin .sub) [.t 44, .y 170],
 o3 46 (.toInt .i64) [.t 45],
 o3 47 (.bin .add) [.i 50, .t 46],
 o3 48 (.callf 55) [.t 47, .i 0, .i 0],
 oe 49 0 48,
 oe 50 1 48,
 o0 (.store 4) [.t 2, .t 49],
 om 3 50]
def F59c53 : Ac := .ret
def F59c51 : Ac := (so F59o52 F59c53)
def F59c43 : Ac := (.seq (so F59o45 F59c46) F59c51)
def F59c2 : Ac := (.seq (so F59o4 F59c5) F59c43)
def F59c0 : Ac := (so F59o1 F59c2)
/-- hansom/isa.texts -/
def F59 : Fn := { np := 1, pb := [], rs := [.c 2 (some 4), .t 3], body := F59c0 }
def F60o1 := [
 o3 4 (.alloc [.d (.int .i64 0), .d (.int .i64 0), .d (.int .i64 0), .d (.bool false)]) [],
 o3 5 .mv [.b false]]
def F60o4 := [
 om 6 0]
def F60o7 := [
 o3 8 (.bin .eql) [.t 6, .y 194],
 om 7 8]
def F60o10 := [
 o3 9 (.callf 55) [.i 56, .i 7, .i 0],
 oe 10 0 9,
 oe 11 1 9,
 o0 (.store 4) [.t 4, .t 10],
 om 5 11]
def F60c11 : Ac := .ret
def F60o13 := [
 o3 13 (.bin .eql) [.t 6, .y 195],
 om 12 13]
def F60o16 := [
 o3 14 (.callf 55) [.i 56, .i 0, .i 0],
 oe 15 0 14,
 oe 16 1 14,
 o0 (.store 4) [.t 4, .t 15],
 om 5 16]
def F60c17 : Ac := .ret
def F60o19 := [
 o3 18 (.bin .eql) [.t 6, .y 196],
 om 17 18]
def F60o22 := [
 o3 19 (.callf 65) [.i 58, .i 4, .i 19],
 oe 20 0 19,
 oe 21 1 19,
 o0 (.store 4) [.t 4, .t 20],
 om 5 21]
def F60c23 : Ac := .ret
def F60o25 := [
 o3 23 (.bin .eql) [.t 6, .y 197],
 om 22 23]
def F60o28 := [
 o3 24 (.callf 65) [.i 59, .i 4, .i 19],
 oe 25 0 24,
 oe 26 1 24,
 o0 (.store 4) [.t 4, .t 25],
 om 5 26]
def F60c29 : Ac := .ret
def F60o31 := [
 o3 28 (.bin .eql) [.t 6, .y 198],
 om 27 28]
def F60o34 := [
 om 29 1,
 o3 30 (.bin .eql) [.t 29, .i 0]]
def F60o37 := [
 o3 31 (.callf 65) [.i 35, .i 1, .i 6],
 oe 32 0 31,
 oe 33 1 31,
 o0 (.store 4) [.t 4, .t 32],
 om 5 33]
def F60c38 : Ac := .ret
def F60c35 : Ac := (cd 30 (so F60o37 F60c38) .skip)
def F60o41 := [
 o3 35 (.bin .eql) [.t 6, .y 199],
 om 34 35]
def F60o44 := [
 om 36 1,
 o3 37 (.bin .eql) [.t 36, .i 0]]
def F60o47 := [
 o3 38 (.callf 65) [.i 35, .i 2, .i 7],
 oe 39 0 38,
 oe 40 1 38,
 o0 (.store 4) [.t 4, .t 39],
 om 5 40]
def F60c48 : Ac := .ret
def F60c45 : Ac := (cd 37 (so F60o47 F60c48) .skip)
def F60o51 := [
 o3 42 (.bin .eql) [.t 6, .y 202],
 om 41 42]
def F60o54 := [
 o3 43 (.callf 55) [.i 57, .i 7, .i 0],
 oe 44 0 43,
 oe 45 1 43,
 o0 (.store 4) [.t 4, .t 44],
 om 5 45]
def F60c55 : Ac := .ret
def F60o57 := [
 o3 47 (.bin .eql) [.t 6, .y 203],
 om 46 47]
def F60o60 := [
 o3 48 (.callf 55) [.i 57, .i 0, .i 0],
 oe 49 0 48,
 oe 50 1 48,
 o0 (.store 4) [.t 4, .t 49],
 om 5 50]
def F60c61 : Ac := .ret
def F60o63 := [
 o3 52 (.bin .eql) [.t 6, .y 204],
 om 51 52]
def F60o66 := [
 o3 53 (.callf 55) [.i 60, .i 24, .i 0],
 oe 54 0 53,
 oe 55 1 53,
 o0 (.store 4) [.t 4, .t 54],
 om 5 55]
def F60c67 : Ac := .ret
def F60o69 := [
 o3 57 (.bin .eql) [.t 6, .y 205],
 om 56 57]
def F60o72 := [
 o3 58 (.callf 55) [.i 60, .i 6, .i 0],
 oe 59 0 58,
 oe 60 1 58,
 o0 (.store 4) [.t 4, .t 59],
 om 5 60]
def F60c73 : Ac := .ret
def F60o75 := [
 o3 62 (.bin .eql) [.t 6, .y 206],
 om 61 62]
def F60o78 := [
 o3 63 (.callf 55) [.i 61, .i 0, .i 0],
 oe 64 0 63,
 oe 65 1 63,
 o0 (.store 4) [.t 4, .t 64],
 om 5 65]
def F60c79 : Ac := .ret
def F60o81 := [
 o3 67 (.bin .eql) [.t 6, .y 207],
 om 66 67]
def F60o84 := [
 o3 68 (.callf 55) [.i 62, .i 0, .i 0],
 oe 69 0 68,
 oe 70 1 68,
 o0 (.store 4) [.t 4, .t 69],
 om 5 70]
def F60c85 : Ac := .ret
def F60c82 : Ac := (cd 66 (so F60o84 F60c85) .skip)
def F60c76 : Ac := (cd 61 (so F60o78 F60c79) (so F60o81 F60c82))
def F60c70 : Ac := (cd 56 (so F60o72 F60c73) (so F60o75 F60c76))
def F60c64 : Ac := (cd 51 (so F60o66 F60c67) (so F60o69 F60c70))
def F60c58 : Ac := (cd 46 (so F60o60 F60c61) (so F60o63 F60c64))
def F60c52 : Ac := (cd 41 (so F60o54 F60c55) (so F60o57 F60c58))
def F60c42 : Ac := (cd 34 (so F60o44 F60c45) (so F60o51 F60c52))
def F60c32 : Ac := (cd 27 (so F60o34 F60c35) (so F60o41 F60c42))
def F60c26 : Ac := (cd 22 (so F60o28 F60c29) (so F60o31 F60c32))
def F60c20 : Ac := (cd 17 (so F60o22 F60c23) (so F60o25 F60c26))
def F60c14 : Ac := (cd 12 (so F60o16 F60c17) (so F60o19 F60c20))
def F60c8 : Ac := (cd 7 (so F60o10 F60c11) (so F60o13 F60c14))
def F60c5 : Ac := (.block 0 (so F60o7 F60c8))
def F60o88 := [
 o3 71 (.callf 56) [],
 oe 72 0 71,
 oe 73 1 71,
 o0 (.store 4) [.t 4, .t 72],
 om 5 73]
def F60c89 : Ac := .ret
def F60c87 : Ac := (so F60o88 F60c89)
def F60c2 : Ac := (.seq (so F60o4 F60c5) F60c87)
def F60c0 : Ac := (so F60o1 F60c2)
/-- hansom/isa.backs -/
def F60 : Fn := { np := 2, pb := [], rs := [.c 4 (some 4), .t 5], body := F60c0 }
def F61o1 := [
 o3 4 (.alloc [.d (.int .i64 0), .d (.int .i64 0), .d (.int .i64 0), .d (.bool false)]) [],
 o3 5 .mv [.b false]]
def F61o4 := [
 om 9 0,
 o3 10 (.bin .lss) [.t 9, .y 212]]
def F61o8 := [
 om 11 1,
 o3 12 (.bin .eql) [.t 11, .i 6]]
def F61o11 := [
 o3 13 (.callf 56) [],
 oe 14 0 13,
 oe 15 1 13,
 o0 (.store 4) [.t 4, .t 14],
 om 5 15]
def F61c12 : Ac := .ret
def F61c9 : Ac := (cd 12 (so F61o11 F61c12) .skip)
def F61o15 := [
 o3 16 (.bslice (.int .i64 0) 8 [0, 1, 2, 3, 4, 5, 6, 7]) [.i 63, .i 64, .i 65, .i 66, .i 67, .i 68, .i 0, .i 69],
 om 17 1,
 o3 18 (.iaddrS 1) [.t 16, .t 17],
 o3 19 (.load none) [.t 18],
 om 6 19]
def F61o17 := [
 o3 7 .mv [.i 1],
 o3 8 .mv [.i 18]]
def F61o20 := [
 om 20 0,
 o3 21 (.bin .and) [.t 20, .y 1],
 o3 22 (.bin .eql) [.t 21, .y 1]]
def F61o22 := [
 o3 7 .mv [.i 2]]
def F61c21 : Ac := (cd 22 (.ops F61o22) .skip)
def F61o26 := [
 om 23 0,
 o3 24 (.bin .and) [.t 23, .y 2],
 o3 25 (.bin .neq) [.t 24, .y 0]]
def F61o28 := [
 o3 8 .mv [.i 15]]
def F61c27 : Ac := (cd 25 (.ops F61o28) .skip)
def F61o31 := [
 om 26 6,
 om 27 7,
 om 28 8,
 o3 29 (.callf 65) [.t 26, .t 27, .t 28],
 oe 30 0 29,
 oe 31 1 29,
 o0 (.store 4) [.t 4, .t 30],
 om 5 31]
def F61c32 : Ac := .ret
def F61c30 : Ac := (so F61o31 F61c32)
def F61c24 : Ac := (.seq (so F61o26 F61c27) F61c30)
def F61c18 : Ac := (.seq (so F61o20 F61c21) F61c24)
def F61c16 : Ac := (so F61o17 F61c18)
def F61c14 : Ac := (so F61o15 F61c16)
def F61c5 : Ac := (cd 10 (.seq (so F61o8 F61c9) F61c14) .skip)
def F61o37 := [
 om 33 0,
 o3 34 (.bin .eql) [.t 33, .y 212],
 om 32 34]
def F61o40 := [
 o3 35 (.callf 55) [.i 70, .i 6, .i 0],
 oe 36 0 35,
 oe 37 1 35,
 o0 (.store 4) [.t 4, .t 36],
 om 5 37]
def F61c41 : Ac := .ret
def F61o43 := [
 om 39 0,
 o3 40 (.bin .eql) [.t 39, .y 213],
 om 38 40]
def F61o46 := [
 o3 41 (.callf 55) [.i 71, .i 6, .i 0],
 oe 42 0 41,
 oe 43 1 41,
 o0 (.store 4) [.t 4, .t 42],
 om 5 43]
def F61c47 : Ac := .ret
def F61o49 := [
 om 45 0,
 o3 46 (.bin .eql) [.t 45, .y 215],
 om 44 46]
def F61o52 := [
 o3 47 (.callf 55) [.i 72, .i 0, .i 0],
 oe 48 0 47,
 oe 49 1 47,
 o0 (.store 4) [.t 4, .t 48],
 om 5 49]
def F61c53 : Ac := .ret
def F61o55 := [
 om 51 0,
 o3 52 (.bin .geq) [.t 51, .y 216],
 om 50 52]
def F61o58 := [
 o3 53 (.callf 65) [.i 73, .i 2, .i 0],
 oe 54 0 53,
 oe 55 1 53,
 o0 (.store 4) [.t 4, .t 54],
 om 5 55]
def F61c59 : Ac := .ret
def F61c56 : Ac := (cd 50 (so F61o58 F61c59) .skip)
def F61c50 : Ac := (cd 44 (so F61o52 F61c53) (so F61o55 F61c56))
def F61c44 : Ac := (cd 38 (so F61o46 F61c47) (so F61o49 F61c50))
def F61c38 : Ac := (cd 32 (so F61o40 F61c41) (so F61o43 F61c44))
def F61o62 := [
 o3 56 (.callf 56) [],
 oe 57 0 56,
 oe 58 1 56,
 o0 (.store 4) [.t 4, .t 57],
 om 5 58]
def F61c63 : Ac := .ret
def F61c61 : Ac := (so F61o62 F61c63)
def F61c34 : Ac := (.seq (.block 0 (so F61o37 F61c38)) F61c61)
def F61c2 : Ac := (.seq (so F61o4 F61c5) F61c34)
def F61c0 : Ac := (so F61o1 F61c2)
/-- hansom/isa.turns -/
def F61 : Fn := { np := 2, pb := [], rs := [.c 4 (some 4), .t 5], body := F61c0 }
def F62o1 := [
 o3 2 (.alloc [.d (.int .i64 0), .d (.int .i64 0), .d (.int .i64 0), .d (.bool false)]) [],
 o3 3 .mv [.b false]]
def F62o4 := [
 om 4 0]
def F62o8 := [
 o3 6 (.bin .eql) [.t 4, .y 224],
 om 5 6]
def F62o12 := [
 o3 7 (.bin .eql) [.t 4, .y 225],
 om 5 7]
def F62o16 := [
 o3 8 (.bin .eql) [.t 4, .y 226],
 om 5 8]
def F62o19 := [
 o3 9 (.bin .eql) [.t 4, .y 227],
 om 5 9]
def F62c17 : Ac := (cd 5 .skip (.ops F62o19))
def F62c13 : Ac := (cd 5 .skip (so F62o16 F62c17))
def F62c9 : Ac := (cd 5 .skip (so F62o12 F62c13))
def F62o22 := [
 om 10 0,
 o3 11 (.bin .sub) [.t 10, .y 224],
 o3 12 (.toInt .i64) [.t 11],
 o3 13 (.bin .add) [.i 74, .t 12],
 o3 14 (.callf 55) [.t 13, .i 9, .i 0],
 oe 15 0 14,
 oe 16 1 14,
 o0 (.store 4) [.t 2, .t 15],
 om 3 16]
def F62c23 : Ac := .ret
def F62o25 := [
 o3 18 (.bin .eql) [.t 4, .y 228],
 om 17 18]
def F62o28 := [
 o3 19 (.callf 55) [.i 78, .i 14, .i 6],
 oe 20 0 19,
 oe 21 1 19,
 o0 (.store 4) [.t 2, .t 20],
 om 3 21]
def F62c29 : Ac := .ret
def F62o31 := [
 o3 23 (.bin .eql) [.t 4, .y 229],
 om 22 23]
def F62o34 := [
 o3 24 (.callf 55) [.i 78, .i 16, .i 6],
 oe 25 0 24,
 oe 26 1 24,
 o0 (.store 4) [.t 2, .t 25],
 om 3 26]
def F62c35 : Ac := .ret
def F62o37 := [
 o3 28 (.bin .eql) [.t 4, .y 230],
 om 27 28]
def F62o40 := [
 o3 29 (.callf 55) [.i 79, .i 6, .i 14],
 oe 30 0 29,
 oe 31 1 29,
 o0 (.store 4) [.t 2, .t 30],
 om 3 31]
def F62c41 : Ac := .ret
def F62o43 := [
 o3 33 (.bin .eql) [.t 4, .y 231],
 om 32 33]
def F62o46 := [
 o3 34 (.callf 55) [.i 79, .i 6, .i 16],
 oe 35 0 34,
 oe 36 1 34,
 o0 (.store 4) [.t 2, .t 35],
 om 3 36]
def F62c47 : Ac := .ret
def F62o49 := [
 o3 38 (.bin .eql) [.t 4, .y 232],
 om 37 38]
def F62o52 := [
 o3 39 (.callf 55) [.i 39, .i 10, .i 0],
 oe 40 0 39,
 oe 41 1 39,
 o0 (.store 4) [.t 2, .t 40],
 om 3 41]
def F62c53 : Ac := .ret
def F62o55 := [
 o3 43 (.bin .eql) [.t 4, .y 233],
 om 42 43]
def F62o58 := [
 o3 44 (.callf 55) [.i 80, .i 10, .i 0],
 oe 45 0 44,
 oe 46 1 44,
 o0 (.store 4) [.t 2, .t 45],
 om 3 46]
def F62c59 : Ac := .ret
def F62o61 := [
 o3 48 (.bin .eql) [.t 4, .y 234],
 om 47 48]
def F62o64 := [
 o3 49 (.callf 55) [.i 81, .i 11, .i 0],
 oe 50 0 49,
 oe 51 1 49,
 o0 (.store 4) [.t 2, .t 50],
 om 3 51]
def F62c65 : Ac := .ret
def F62o67 := [
 o3 53 (.bin .eql) [.t 4, .y 235],
 om 52 53]
def F62o70 := [
 o3 54 (.callf 55) [.i 80, .i 9, .i 0],
 oe 55 0 54,
 oe 56 1 54,
 o0 (.store 4) [.t 2, .t 55],
 om 3 56]
def F62c71 : Ac := .ret
def F62o73 := [
 o3 58 (.bin .eql) [.t 4, .y 236],
 om 57 58]
def F62o76 := [
 o3 59 (.callf 55) [.i 78, .i 14, .i 17],
 oe 60 0 59,
 oe 61 1 59,
 o0 (.store 4) [.t 2, .t 60],
 om 3 61]
def F62c77 : Ac := .ret
def F62o79 := [
 o3 63 (.bin .eql) [.t 4, .y 237],
 om 62 63]
def F62o82 := [
 o3 64 (.callf 55) [.i 78, .i 16, .i 17],
 oe 65 0 64,
 oe 66 1 64,
 o0 (.store 4) [.t 2, .t 65],
 om 3 66]
def F62c83 : Ac := .ret
def F62o85 := [
 o3 68 (.bin .eql) [.t 4, .y 238],
 om 67 68]
def F62o88 := [
 o3 69 (.callf 55) [.i 79, .i 17, .i 14],
 oe 70 0 69,
 oe 71 1 69,
 o0 (.store 4) [.t 2, .t 70],
 om 3 71]
def F62c89 : Ac := .ret
def F62c86 : Ac := (cd 67 (so F62o88 F62c89) .skip)
def F62c80 : Ac := (cd 62 (so F62o82 F62c83) (so F62o85 F62c86))
def F62c74 : Ac := (cd 57 (so F62o76 F62c77) (so F62o79 F62c80))
def F62c68 : Ac := (cd 52 (so F62o70 F62c71) (so F62o73 F62c74))
def F62c62 : Ac := (cd 47 (so F62o64 F62c65) (so F62o67 F62c68))
def F62c56 : Ac := (cd 42 (so F62o58 F62c59) (so F62o61 F62c62))
def F62c50 : Ac := (cd 37 (so F62o52 F62c53) (so F62o55 F62c56))
def F62c44 : Ac := (cd 32 (so F62o46 F62c47) (so F62o49 F62c50))
def F62c38 : Ac := (cd 27 (so F62o40 F62c41) (so F62o43 F62c44))
def F62c32 : Ac := (cd 22 (so F62o34 F62c35) (so F62o37 F62c38))
def F62c26 : Ac := (cd 17 (so F62o28 F62c29) (so F62o31 F62c32))
def F62b20 : Ac := (cd 5 (so F62o22 F62c23) (so F62o25 F62c26))
def F62c20 : Ac := (.seq (.gh []) (.seq (.keep [0, 2, 4, 5] [[2]]) F62b20))
def F62c5 : Ac := (.block 0 (.seq (so F62o8 F62c9) F62c20))
def F62o92 := [
 o3 72 (.callf 55) [.i 79, .i 17, .i 16],
 oe 73 0 72,
 oe 74 1 72,
 o0 (.store 4) [.t 2, .t 73],
 om 3 74]
def F62c93 : Ac := .ret
def F62c91 : Ac := (so F62o92 F62c93)
def F62c2 : Ac := (.seq (so F62o4 F62c5) F62c91)
def F62c0 : Ac := (so F62o1 F62c2)
/-- hansom/isa.goes -/
def F62 : Fn := { np := 1, pb := [], rs := [.c 2 (some 4), .t 3], body := F62c0 }
def F63o1 := [
 o3 4 (.alloc [.d (.int .i64 0), .d (.int .i64 0), .d (.int .i64 0), .d (.bool false)]) [],
 o3 5 .mv [.b false]]
def F63o5 := [
 om 10 0,
 o3 11 (.bin .eql) [.t 10, .y 244],
 om 9 11]
def F63o8 := [
 o3 12 (.callf 55) [.i 82, .i 0, .i 0],
 oe 13 0 12,
 oe 14 1 12,
 o0 (.store 4) [.t 4, .t 13],
 om 5 14]
def F63c9 : Ac := .ret
def F63o11 := [
 om 16 0,
 o3 17 (.bin .eql) [.t 16, .y 245],
 om 15 17]
def F63o14 := [
 o3 18 (.callf 55) [.i 83, .i 0, .i 0],
 oe 19 0 18,
 oe 20 1 18,
 o0 (.store 4) [.t 4, .t 19],
 om 5 20]
def F63c15 : Ac := .ret
def F63o17 := [
 om 22 0,
 o3 23 (.bin .geq) [.t 22, .y 248],
 om 24 23,
 og 25 .mv [.t 0] 24 true,
 og 26 (.bin .lss) [.t 25, .y 254] 24 true,
 o3 27 .pick [.t 24, .t 26, .b false],
 om 21 27]
def F63o20 := [
 om 28 0,
 o3 29 (.bin .sub) [.t 28, .y 248],
 o3 30 (.toInt .i64) [.t 29],
 o3 31 (.bin .add) [.i 90, .t 30],
 o3 32 (.callf 55) [.t 31, .i 0, .i 0],
 oe 33 0 32,
 oe 34 1 32,
 o0 (.store 4) [.t 4, .t 33],
 om 5 34]
def F63c21 : Ac := .ret
def F63o23 := [
 om 36 0,
 o3 37 (.bin .lss) [.t 36, .y 246],
 om 35 37]
def F63o26 := [
 o3 38 (.callf 56) [],
 oe 39 0 38,
 oe 40 1 38,
 o0 (.store 4) [.t 4, .t 39],
 om 5 40]
def F63c27 : Ac := .ret
def F63c24 : Ac := (cd 35 (so F63o26 F63c27) .skip)
def F63b18 : Ac := (cd 21 (so F63o20 F63c21) (so F63o23 F63c24))
def F63c18 : Ac := (.seq (.gh []) (.seq (.keep [0, 1, 4, 21] [[4]]) F63b18))
def F63c12 : Ac := (cd 15 (so F63o14 F63c15) (so F63o17 F63c18))
def F63c6 : Ac := (cd 9 (so F63o8 F63c9) (so F63o11 F63c12))
def F63o30 := [
 o3 6 .mv [.i 1],
 o3 7 .mv [.i 6]]
def F63o33 := [
 om 41 0,
 o3 42 (.bin .and) [.t 41, .y 1],
 o3 43 (.bin .eql) [.t 42, .y 1]]
def F63o35 := [
 o3 6 .mv [.i 2],
 o3 7 .mv [.i 7]]
def F63c34 : Ac := (cd 43 (.ops F63o35) .skip)
def F63o39 := [
 om 44 0,
 o3 45 (.bin .lss) [.t 44, .y 248]]
def F63o43 := [
 om 46 1]
def F63o46 := [
 o3 48 (.bin .eql) [.t 46, .i 0],
 om 47 48]
def F63o49 := [
 om 49 6,
 om 50 7,
 o3 51 (.callf 65) [.i 33, .t 49, .t 50],
 oe 52 0 51,
 oe 53 1 51,
 o0 (.store 4) [.t 4, .t 52],
 om 5 53]
def F63c50 : Ac := .ret
def F63o52 := [
 o3 55 (.bin .eql) [.t 46, .i 1],
 om 54 55]
def F63o55 := [
 o3 56 (.callf 56) [],
 oe 57 0 56,
 oe 58 1 56,
 o0 (.store 4) [.t 4, .t 57],
 om 5 58]
def F63c56 : Ac := .ret
def F63c53 : Ac := (cd 54 (so F63o55 F63c56) .skip)
def F63c47 : Ac := (cd 47 (so F63o49 F63c50) (so F63o52 F63c53))
def F63c44 : Ac := (.block 1 (so F63o46 F63c47))
def F63o59 := [
 om 59 1,
 o3 60 (.bin .add) [.i 84, .t 59],
 o3 61 (.bin .sub) [.t 60, .i 2],
 om 62 6,
 o3 63 (.callf 65) [.t 61, .t 62, .i 0],
 oe 64 0 63,
 oe 65 1 63,
 o0 (.store 4) [.t 4, .t 64],
 om 5 65]
def F63c60 : Ac := .ret
def F63c58 : Ac := (so F63o59 F63c60)
def F63c40 : Ac := (cd 45 (.seq (so F63o43 F63c44) F63c58) .skip)
def F63o65 := [
 om 67 1,
 o3 68 (.bin .lss) [.t 67, .i 2],
 om 66 68]
def F63o68 := [
 om 69 1,
 o3 70 (.bin .add) [.i 15, .t 69],
 om 71 6,
 o3 72 (.callf 65) [.t 70, .t 71, .i 0],
 oe 73 0 72,
 oe 74 1 72,
 o0 (.store 4) [.t 4, .t 73],
 om 5 74]
def F63c69 : Ac := .ret
def F63o71 := [
 om 76 0,
 o3 77 (.bin .eql) [.t 76, .y 254],
 om 78 77,
 og 79 .mv [.t 1] 78 false,
 og 80 (.bin .eql) [.t 79, .i 7] 78 false,
 o3 81 .pick [.t 78, .b true, .t 80],
 om 75 81]
def F63o74 := [
 o3 82 (.callf 56) [],
 oe 83 0 82,
 oe 84 1 82,
 o0 (.store 4) [.t 4, .t 83],
 om 5 84]
def F63c75 : Ac := .ret
def F63c72 : Ac := (cd 75 (so F63o74 F63c75) .skip)
def F63c66 : Ac := (cd 66 (so F63o68 F63c69) (so F63o71 F63c72))
def F63o78 := [
 o3 85 (.bslice (.int .i64 0) 5 [0, 1, 2, 3, 4]) [.i 39, .i 40, .i 80, .i 81, .i 9],
 om 86 1,
 o3 87 (.bin .sub) [.t 86, .i 2],
 o3 88 (.iaddrS 1) [.t 85, .t 87],
 o3 89 (.load none) [.t 88],
 om 8 89]
def F63o81 := [
 om 90 1,
 o3 91 (.bin .eql) [.t 90, .i 3],
 om 92 91,
 og 93 .mv [.t 1] 92 false,
 og 94 (.bin .eql) [.t 93, .i 5] 92 false,
 o3 95 .pick [.t 92, .b true, .t 94]]
def F63o83 := [
 o3 6 .mv [.i 19]]
def F63c82 : Ac := (cd 95 (.ops F63o83) .skip)
def F63o86 := [
 om 96 8,
 om 97 6,
 o3 98 (.callf 65) [.t 96, .t 97, .i 0],
 oe 99 0 98,
 oe 100 1 98,
 o0 (.store 4) [.t 4, .t 99],
 om 5 100]
def F63c87 : Ac := .ret
def F63c85 : Ac := (so F63o86 F63c87)
def F63c79 : Ac := (.seq (so F63o81 F63c82) F63c85)
def F63c77 : Ac := (so F63o78 F63c79)
def F63c62 : Ac := (.seq (.block 2 (so F63o65 F63c66)) F63c77)
def F63b37 : Ac := (.seq (so F63o39 F63c40) F63c62)
def F63c37 : Ac := (.seq (.gh []) (.seq (.keep [0, 1, 4, 6, 7] [[4]]) F63b37))
def F63c31 : Ac := (.seq (so F63o33 F63c34) F63c37)
def F63c29 : Ac := (so F63o30 F63c31)
def F63c2 : Ac := (.seq (.block 0 (so F63o5 F63c6)) F63c29)
def F63c0 : Ac := (so F63o1 F63c2)
/-- hansom/isa.rest -/
def F63 : Fn := { np := 2, pb := [], rs := [.c 4 (some 4), .t 5], body := F63c0 }
def F64o1 := [
 o3 2 .mv [.w 0]]
def F64o3 := [
 om 3 0,
 o3 4 (.toInt .i8) [.t 3],
 o3 5 (.toInt .i16) [.t 4],
 o3 6 (.toInt .u16) [.t 5],
 om 2 6]
def F64c4 : Ac := .ret
def F64c2 : Ac := (so F64o3 F64c4)
def F64c0 : Ac := (so F64o1 F64c2)
/-- hansom/bits.Sign -/
def F64 : Fn := { np := 1, pb := [], rs := [.t 2], body := F64c0 }
def F65o1 := [
 o3 6 (.alloc [.d (.int .i64 0), .d (.int .i64 0), .d (.int .i64 0), .d (.bool false)]) [],
 o3 7 .mv [.b false]]
def F65o3 := [
 om 8 0,
 om 9 1,
 om 10 2,
 o3 11 (.build [.d (.int .i64 0), .d (.int .i64 0), .d (.int .i64 0), .d (.bool false)] [(0, 1), (1, 1), (2, 1), (3, 1)]) [.t 8, .t 9, .t 10, .b true],
 o0 (.store 4) [.t 6, .t 11],
 o3 7 .mv [.b true]]
def F65c4 : Ac := .ret
def F65c2 : Ac := (so F65o3 F65c4)
def F65c0 : Ac := (so F65o1 F65c2)
/-- hansom/isa.mod -/
def F65 : Fn := { np := 3, pb := [], rs := [.c 6 (some 4), .t 7], body := F65c0 }
def tab1 : Nat → Option Fn
  | 6 => some F6
  | 7 => some F7
  | 8 => some F8
  | 9 => some F9
  | 11 => some F11
  | 13 => some F13
  | 14 => some F14
  | 15 => some F15
  | 16 => some F16
  | 17 => some F17
  | 18 => some F18
  | 19 => some F19
  | 20 => some F20
  | 21 => some F21
  | 22 => some F22
  | 23 => some F23
  | 24 => some F24
  | 25 => some F25
  | 26 => some F26
  | 27 => some F27
  | 28 => some F28
  | 29 => some F29
  | 30 => some F30
  | 31 => some F31
  | 32 => some F32
  | 33 => some F33
  | 34 => some F34
  | 35 => some F35
  | 36 => some F36
  | 37 => some F37
  | 38 => some F38
  | 39 => some F39
  | 40 => some F40
  | 41 => some F41
  | 42 => some F42
  | 43 => some F43
  | 44 => some F44
  | 45 => some F45
  | 46 => some F46
  | 47 => some F47
  | 48 => some F48
  | 49 => some F49
  | 50 => some F50
  | 51 => some F51
  | 52 => some F52
  | 53 => some F53
  | 54 => some F54
  | 55 => some F55
  | 56 => some F56
  | 57 => some F57
  | 58 => some F58
  | 59 => some F59
  | 60 => some F60
  | 61 => some F61
  | 62 => some F62
  | 63 => some F63
  | 64 => some F64
  | 65 => some F65
  | _ => none
noncomputable def L : Cs := lim tab1 (fun _ _ => none)

/-- What stands in the package-level variables, as tables of numbers. -/
def mg1 : Mm := fun b o => match b with
  | 0 => (([0, 38, 46, 54, 62] : List Int)[o]?).map (Value.int .u8)
  | _ => none
def G1 : Nat → Option A
  | 0 => some (.elt (.agg [.int .u8 0, .int .u8 38, .int .u8 46, .int .u8 54, .int .u8 62]) 0)
  | _ => none
theorem globals_ok : GOk mg1 G1 := by
  intro n a h g bx hle
  unfold G1 at h
  split at h
  · cases h
    exact tab_elt (l := [0, 38, 46, 54, 62]) (k := .u8) (fun j hj => hle 0 j _ (by simp only [mg1]; rw [List.getElem?_eq_getElem hj]; rfl))
  · cases h
theorem ok6 : FnOk mg1 Tryd.prog 6 F6 := compF_spec globals_ok Tryd.func6 (by kernel_rfl)
theorem ok7 : FnOk mg1 Tryd.prog 7 F7 := compF_spec globals_ok Tryd.func7 (by kernel_rfl)
theorem ok8 : FnOk mg1 Tryd.prog 8 F8 := compF_spec globals_ok Tryd.func8 (by kernel_rfl)
theorem ok9 : FnOk mg1 Tryd.prog 9 F9 := compF_spec globals_ok Tryd.func9 (by kernel_rfl)
theorem ok11 : FnOk mg1 Tryd.prog 11 F11 := compF_spec globals_ok Tryd.func11 (by kernel_rfl)
theorem ok13 : FnOk mg1 Tryd.prog 13 F13 := compF_spec globals_ok Tryd.func13 (by kernel_rfl)
theorem ok14 : FnOk mg1 Tryd.prog 14 F14 := compF_spec globals_ok Tryd.func14 (by kernel_rfl)
theorem ok15 : FnOk mg1 Tryd.prog 15 F15 := compF_spec globals_ok Tryd.func15 (by kernel_rfl)
theorem ok16 : FnOk mg1 Tryd.prog 16 F16 := compF_spec globals_ok Tryd.func16 (by kernel_rfl)
theorem ok17 : FnOk mg1 Tryd.prog 17 F17 := compF_spec globals_ok Tryd.func17 (by kernel_rfl)
theorem ok18 : FnOk mg1 Tryd.prog 18 F18 := compF_spec globals_ok Tryd.func18 (by kernel_rfl)
theorem ok19 : FnOk mg1 Tryd.prog 19 F19 := compF_spec globals_ok Tryd.func19 (by kernel_rfl)
theorem ok20 : FnOk mg1 Tryd.prog 20 F20 := compF_spec globals_ok Tryd.func20 (by kernel_rfl)
theorem ok21 : FnOk mg1 Tryd.prog 21 F21 := compF_spec globals_ok Tryd.func21 (by kernel_rfl)
theorem ok22 : FnOk mg1 Tryd.prog 22 F22 := compF_spec globals_ok Tryd.func22 (by kernel_rfl)
theorem ok23 : FnOk mg1 Tryd.prog 23 F23 := compF_spec globals_ok Tryd.func23 (by kernel_rfl)
theorem ok24 : FnOk mg1 Tryd.prog 24 F24 := compF_spec globals_ok Tryd.func24 (by kernel_rfl)
theorem ok25 : FnOk mg1 Tryd.prog 25 F25 := compF_spec globals_ok Tryd.func25 (by kernel_rfl)
theorem ok26 : FnOk mg1 Tryd.prog 26 F26 := compF_spec globals_ok Tryd.func26 (by kernel_rfl)
theorem ok27 : FnOk mg1 Tryd.prog 27 F27 := compF_spec globals_ok Tryd.func27 (by kernel_rfl)
theorem ok28 : FnOk mg1 Tryd.prog 28 F28 := compF_spec globals_ok Tryd.func28 (by kernel_rfl)
theorem ok29 : FnOk mg1 Tryd.prog 29 F29 := compF_spec globals_ok Tryd.func29 (by kernel_rfl)
theorem ok30 : FnOk mg1 Tryd.prog 30 F30 := compF_spec globals_ok Tryd.func30 (by kernel_rfl)
theorem ok31 : FnOk mg1 Tryd.prog 31 F31 := compF_spec globals_ok Tryd.func31 (by kernel_rfl)
theorem ok32 : FnOk mg1 Tryd.prog 32 F32 := compF_spec globals_ok Tryd.func32 (by kernel_rfl)
theorem ok33 : FnOk mg1 Tryd.prog 33 F33 := compF_spec globals_ok Tryd.func33 (by kernel_rfl)
theorem ok34 : FnOk mg1 Tryd.prog 34 F34 := compF_spec globals_ok Tryd.func34 (by kernel_rfl)
theorem ok35 : FnOk mg1 Tryd.prog 35 F35 := compF_spec globals_ok Tryd.func35 (by kernel_rfl)
theorem ok36 : FnOk mg1 Tryd.prog 36 F36 := compF_spec globals_ok Tryd.func36 (by kernel_rfl)
theorem ok37 : FnOk mg1 Tryd.prog 37 F37 := compF_spec globals_ok Tryd.func37 (by kernel_rfl)
theorem ok38 : FnOk mg1 Tryd.prog 38 F38 := compF_spec globals_ok Tryd.func38 (by kernel_rfl)
theorem ok39 : FnOk mg1 Tryd.prog 39 F39 := compF_spec globals_ok Tryd.func39 (by kernel_rfl)
theorem ok40 : FnOk mg1 Tryd.prog 40 F40 := compF_spec globals_ok Tryd.func40 (by kernel_rfl)
theorem ok41 : FnOk mg1 Tryd.prog 41 F41 := compF_spec globals_ok Tryd.func41 (by kernel_rfl)
theorem ok42 : FnOk mg1 Tryd.prog 42 F42 := compF_spec globals_ok Tryd.func42 (by kernel_rfl)
theorem ok43 : FnOk mg1 Tryd.prog 43 F43 := compF_spec globals_ok Tryd.func43 (by kernel_rfl)
theorem ok44 : FnOk mg1 Tryd.prog 44 F44 := compF_spec globals_ok Tryd.func44 (by kernel_rfl)
theorem ok45 : FnOk mg1 Tryd.prog 45 F45 := compF_spec globals_ok Tryd.func45 (by kernel_rfl)
theorem ok46 : FnOk mg1 Tryd.prog 46 F46 := compF_spec globals_ok Tryd.func46 (by kernel_rfl)
theorem ok47 : FnOk mg1 Tryd.prog 47 F47 := compF_spec globals_ok Tryd.func47 (by kernel_rfl)
theorem ok48 : FnOk mg1 Tryd.prog 48 F48 := compF_spec globals_ok Tryd.func48 (by kernel_rfl)
theorem ok49 : FnOk mg1 Tryd.prog 49 F49 := compF_spec globals_ok Tryd.func49 (by kernel_rfl)
theorem ok50 : FnOk mg1 Tryd.prog 50 F50 := compF_spec globals_ok Tryd.func50 (by kernel_rfl)
theorem ok51 : FnOk mg1 Tryd.prog 51 F51 := compF_spec globals_ok Tryd.func51 (by kernel_rfl)
theorem ok52 : FnOk mg1 Tryd.prog 52 F52 := compF_spec globals_ok Tryd.func52 (by kernel_rfl)
theorem ok53 : FnOk mg1 Tryd.prog 53 F53 := compF_spec globals_ok Tryd.func53 (by kernel_rfl)
theorem ok54 : FnOk mg1 Tryd.prog 54 F54 := compF_spec globals_ok Tryd.func54 (by kernel_rfl)
theorem ok55 : FnOk mg1 Tryd.prog 55 F55 := compF_spec globals_ok Tryd.func55 (by kernel_rfl)
theorem ok56 : FnOk mg1 Tryd.prog 56 F56 := compF_spec globals_ok Tryd.func56 (by kernel_rfl)
theorem ok57 : FnOk mg1 Tryd.prog 57 F57 := compF_spec globals_ok Tryd.func57 (by kernel_rfl)
theorem ok58 : FnOk mg1 Tryd.prog 58 F58 := compF_spec globals_ok Tryd.func58 (by kernel_rfl)
theorem ok59 : FnOk mg1 Tryd.prog 59 F59 := compF_spec globals_ok Tryd.func59 (by kernel_rfl)
theorem ok60 : FnOk mg1 Tryd.prog 60 F60 := compF_spec globals_ok Tryd.func60 (by kernel_rfl)
theorem ok61 : FnOk mg1 Tryd.prog 61 F61 := compF_spec globals_ok Tryd.func61 (by kernel_rfl)
theorem ok62 : FnOk mg1 Tryd.prog 62 F62 := compF_spec globals_ok Tryd.func62 (by kernel_rfl)
theorem ok63 : FnOk mg1 Tryd.prog 63 F63 := compF_spec globals_ok Tryd.func63 (by kernel_rfl)
theorem ok64 : FnOk mg1 Tryd.prog 64 F64 := compF_spec globals_ok Tryd.func64 (by kernel_rfl)
theorem ok65 : FnOk mg1 Tryd.prog 65 F65 := compF_spec globals_ok Tryd.func65 (by kernel_rfl)
theorem tab1_ok : ∀ f fn, tab1 f = some fn → FnOk mg1 Tryd.prog f fn := by
  intro f fn h
  unfold tab1 at h
  split at h <;> cases h
  · exact ok6
  · exact ok7
  · exact ok8
  · exact ok9
  · exact ok11
  · exact ok13
  · exact ok14
  · exact ok15
  · exact ok16
  · exact ok17
  · exact ok18
  · exact ok19
  · exact ok20
  · exact ok21
  · exact ok22
  · exact ok23
  · exact ok24
  · exact ok25
  · exact ok26
  · exact ok27
  · exact ok28
  · exact ok29
  · exact ok30
  · exact ok31
  · exact ok32
  · exact ok33
  · exact ok34
  · exact ok35
  · exact ok36
  · exact ok37
  · exact ok38
  · exact ok39
  · exact ok40
  · exact ok41
  · exact ok42
  · exact ok43
  · exact ok44
  · exact ok45
  · exact ok46
  · exact ok47
  · exact ok48
  · exact ok49
  · exact ok50
  · exact ok51
  · exact ok52
  · exact ok53
  · exact ok54
  · exact ok55
  · exact ok56
  · exact ok57
  · exact ok58
  · exact ok59
  · exact ok60
  · exact ok61
  · exact ok62
  · exact ok63
  · exact ok64
  · exact ok65
theorem meets1 (f : Nat) : Meets mg1 Tryd.prog f (L f) := lim_meets tab1_ok (fun f _ m w args vs bs _ _ _ _ _ r a h => by cases h) f

end Go.Es.Emi
