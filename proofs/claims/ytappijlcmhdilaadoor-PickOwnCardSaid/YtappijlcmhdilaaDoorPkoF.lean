/- The code of the functions that the statement PickOwn reaches, as the interpreter reads it. No condition. -/
import Derived.Test.YtappijlcmhdilaaDoorEsD
import Derived.Test.YtappijlcmhdilaaDoorChecked
import Derived.KernelRfl
set_option linter.unusedVariables false
set_option linter.unusedSimpArgs false
set_option maxRecDepth 100000
set_option maxHeartbeats 4000000
namespace Go.Es.Pko
open Go.Proofs
def ag5:=[
 o3 1 (.box 10) [.t 0],
 o3 2 .mv [.b false]]
def ag6:=[
 o3 14 (.load (some 10)) [.t 1],
 o3 15 (.callf 4) [.t 14],
 o3 3 (.alloc [.d (.bool false),.d (.int .i64 0),.d (.int .i64 0),.d (.int .u8 0),.d (.int .i64 0),.d (.int .i64 0),.d (.int .i64 0),.d (.int .u16 0),.d (.int .u16 0),.d (.int .u16 0)]) [],
 o0 (.store 10) [.t 3,.t 15]]
def ag7:=[
 o3 16 (.faddr 0) [.t 3],
 o0 (.store 1) [.t 16,.b false],
 o3 17 (.faddr 1) [.t 3],
 o0 (.store 1) [.t 17,.i 0],
 o3 18 (.faddr 2) [.t 3],
 o0 (.store 1) [.t 18,.i 0]]
def ag8:=[
 o3 20 (.load (some 10)) [.t 3],
 o3 21 (.callf 5) [.t 20],
 om 19 21,
 oe 22 0 19,
 oe 23 1 19,
 o3 4 (.alloc [.d (.int .i64 0),.d (.int .i64 0),.d (.int .i64 0),.d (.bool false)]) [],
 o0 (.store 4) [.t 4,.t 22],
 om 5 23]
def ag9:=[
 o3 25 (.load (some 10)) [.t 3],
 o3 26 (.callf 6) [.t 25],
 om 24 26,
 oe 27 0 24,
 oe 28 1 24,
 o3 6 (.alloc [.d (.int .i64 0),.d (.int .i64 0),.d (.int .i64 0),.d (.int .i64 0),.d (.int .i64 0),.d (.int .i64 0),.d (.int .i64 0),.d (.int .i64 0),.d (.bool false),.d (.int .i64 0),.d (.int .i64 0),.d (.bool false),.d (.int .i64 0),.d (.int .i64 0),.d (.int .i64 0),.d (.int .i64 0),.d (.int .i64 0),.d (.int .i64 0),.d (.int .i64 0),.d (.int .i64 0),.d (.bool false),.d (.int .i64 0),.d (.int .i64 0),.d (.bool false)]) [],
 o0 (.store 24) [.t 6,.t 27],
 om 7 28]
def WL:=[
 om 29 7,
 o3 30 (.un .not) [.t 29]]
def WM:=[
 o3 31 (.callf 7) [],
 om 2 31]
def WN:Ac:=.ret
def WO:Ac:=(cd 30 (so WM WN) .skip)
def WP:=[
 o3 32 (.faddr 0) [.t 4],
 o3 33 (.load none) [.t 32],
 o3 34 (.load (some 24)) [.t 6],
 o3 35 (.callf 8) [.t 33,.t 34],
 om 8 35]
def WQ:=[
 om 36 8,
 o3 37 .lenL [.t 36],
 o3 38 (.bin .eql) [.t 37,.i 0]]
def WR:=[
 o3 2 .mv [.b false]]
def WS:Ac:=.ret
def WT:Ac:=(cd 38 (so WR WS) .skip)
def WU:=[
 o3 9 .mv [.b false]]
def WV:=[
 o3 10 .mv [.i 0]]
def WX:=[
 om 39 10,
 om 40 8,
 o3 41 .lenL [.t 40],
 o3 42 (.bin .lss) [.t 39,.t 41]]
def WY:Ac:=(cd 42 .skip (.exit 0))
def WZ:=[
 om 45 8,
 om 46 10,
 o3 47 (.iaddrS 25) [.t 45,.t 46],
 o3 48 (.faddr 0) [.t 47],
 o3 49 (.load (some 10)) [.t 48],
 o3 11 (.alloc [.d (.bool false),.d (.int .i64 0),.d (.int .i64 0),.d (.int .u8 0),.d (.int .i64 0),.d (.int .i64 0),.d (.int .i64 0),.d (.int .u16 0),.d (.int .u16 0),.d (.int .u16 0)]) [],
 o0 (.store 10) [.t 11,.t 49]]
def W0:=[
 o3 50 (.load (some 10)) [.t 11],
 o3 51 (.callf 9) [.t 50],
 o3 52 (.un .not) [.t 51],
 om 53 52,
 og 54 .mv [.t 10] 53 false,
 og 55 (.bin .gtr) [.t 54,.i 0] 53 false,
 og 56 .mv [.t 55] 53 false,
 og 57 (.load (some 10)) [.t 11] 56 true,
  { dst:=some 58,k:=(.callf 10),xs:=[.t 57],g:=some (56,true),al:=some [] },
 og 59 .mv [.t 8] 56 true,
 og 60 .mv [.t 10] 56 true,
 og 61 (.bin .sub) [.t 60,.i 1] 56 true,
 og 62 (.iaddrS 25) [.t 59,.t 61] 56 true,
 og 63 (.faddr 0) [.t 62] 56 true,
  { dst:=some 64,k:=(.load (some 10)),xs:=[.t 63],g:=some (56,true),av:=[[58]] },
 og 65 (.callf 10) [.t 64] 56 true,
 og 66 (.bin .lss) [.t 58,.t 65] 56 true,
 og 67 .pick [.t 56,.t 66,.b false] 53 false,
 o3 68 .pick [.t 53,.b true,.t 67]]
def W1:=[
 o3 2 .mv [.b false]]
def W2:Ac:=.ret
def W3:Ac:=(cd 68 (so W1 W2) .skip)
def W4:=[
 o3 70 (.load (some 10)) [.t 11],
 o3 71 (.callf 5) [.t 70],
 om 69 71,
 oe 72 0 69,
 oe 73 1 69,
 o3 12 (.alloc [.d (.int .i64 0),.d (.int .i64 0),.d (.int .i64 0),.d (.bool false)]) [],
 o0 (.store 4) [.t 12,.t 72],
 om 13 73]
def W5:=[
 o3 74 (.faddr 0) [.t 12],
 o3 75 (.load none) [.t 74],
 o3 76 (.faddr 0) [.t 4],
 o3 77 (.load none) [.t 76],
 o3 78 (.bin .neq) [.t 75,.t 77]]
def W6:=[
 o3 2 .mv [.b false]]
def W7:Ac:=.ret
def W8:Ac:=(cd 78 (so W6 W7) .skip)
def W9:=[
 om 79 9,
 om 80 79,
 og 81 (.load (some 10)) [.t 11] 80 false,
 og 82 (.load (some 10)) [.t 3] 80 false,
 og 83 (.eqa false [.b,.i,.i,.i,.i,.i,.i,.i,.i,.i]) [.t 81,.t 82] 80 false,
 o3 84 .pick [.t 80,.b true,.t 83],
 om 85 84,
 og 86 (.faddr 3) [.t 11] 85 false,
 og 87 (.load none) [.t 86] 85 false,
 og 88 (.faddr 3) [.t 3] 85 false,
 og 89 (.load none) [.t 88] 85 false,
 og 90 (.bin .eql) [.t 87,.t 89] 85 false,
 og 91 .mv [.t 90] 85 false,
 og 92 (.faddr 4) [.t 11] 91 true,
 og 93 (.load none) [.t 92] 91 true,
 og 94 (.faddr 4) [.t 3] 91 true,
 og 95 (.load none) [.t 94] 91 true,
 og 96 (.bin .lss) [.t 93,.t 95] 91 true,
 og 97 .pick [.t 91,.t 96,.b false] 85 false,
 o3 98 .pick [.t 85,.b true,.t 97],
 om 9 98]
def Xa:Ac:=(.ops W9)
def Xb:Ac:=(.seq (so W5 W8) Xa)
def Cn:Ac:=(so W4 Xb)
def Xc:Ac:=(.seq (.gh []) (.seq (.keep [3,4,8,9,10,11] [[3],[4],[11]]) Cn))
def Xd:Ac:=(.seq (so W0 W3) Xc)
def Xe:=[
 om 43 10,
 o3 44 (.bin .add) [.t 43,.i 1],
 om 10 44]
def Co:Ac:=(.ops Xe)
def Xf:Ac:=(.seq (.block 1 (so WZ Xd)) Co)
def Cp:Ac:=(.seq (so WX WY) Xf)
def Xg:Ac:=(.block 0 (.loop (.seq (.gh [.frz 8]) (.seq (.keep [3,4,8,9,10] [[3],[4]]) Cp))))
def Xh:=[
 o3 99 (.callf 7) [],
 om 100 99,
 og 101 .mv [.t 9] 100 true,
 og 102 .mv [.t 101] 100 true,
 og 103 (.faddr 3) [.t 3] 102 false,
 og 104 (.load none) [.t 103] 102 false,
 og 105 (.bin .geq) [.t 104,.y 216] 102 false,
 og 106 .mv [.t 105] 102 false,
 og 107 (.faddr 3) [.t 3] 106 true,
 og 108 (.load none) [.t 107] 106 true,
 og 109 (.bin .leq) [.t 108,.y 223] 106 true,
 og 110 .pick [.t 106,.t 109,.b false] 102 false,
 og 111 .pick [.t 102,.b true,.t 110] 100 true,
 og 112 .mv [.t 111] 100 true,
 og 113 (.faddr 2) [.t 4] 112 false,
 og 114 (.load none) [.t 113] 112 false,
 og 115 (.bin .eql) [.t 114,.i 8] 112 false,
 og 116 .pick [.t 112,.b true,.t 115] 100 true,
 og 117 .mv [.t 116] 100 true,
 og 118 (.faddr 4) [.t 3] 117 false,
 og 119 (.load none) [.t 118] 117 false,
 og 120 (.bin .gtr) [.t 119,.i 0] 117 false,
 og 121 .mv [.t 120] 117 false,
 og 122 (.faddr 6) [.t 3] 121 true,
 og 123 (.load none) [.t 122] 121 true,
 og 124 (.bin .eql) [.t 123,.i 6] 121 true,
 og 125 .pick [.t 121,.t 124,.b false] 117 false,
 og 126 .mv [.t 125] 117 false,
 og 127 (.faddr 4) [.t 3] 126 true,
 og 128 (.load none) [.t 127] 126 true,
 og 129 (.bin .lss) [.t 128,.i 3] 126 true,
 og 130 .pick [.t 126,.t 129,.b false] 117 false,
 og 131 .pick [.t 117,.b true,.t 130] 100 true,
 o3 132 .pick [.t 100,.t 131,.b false],
 om 2 132]
def Xi:Ac:=.ret
def Xj:Ac:=(so Xh Xi)
def Xk:Ac:=(.seq (.gh []) (.seq (.keep [3,4,9] [[3],[4]]) Xj))
def Xl:Ac:=(.seq (so WV Xg) Xk)
def Xm:Ac:=(so WU Xl)
def Xn:Ac:=(.seq (so WQ WT) Xm)
def Xo:Ac:=(so WP Xn)
def Xp:Ac:=(.seq (so WL WO) Xo)
def aha:Ac:=(so ag9 Xp)
def ahb:Ac:=(so ag8 aha)
def ahc:Ac:=(so ag7 ahb)
def ahd:Ac:=(so ag6 ahc)
def ahe:Ac:=(so ag5 ahd)
def F3:Fn:={ np:=1,pb:=[],rs:=[.t 2],body:=ahe }
def ahf:=[
 o3 1 (.box 10) [.t 0],
 o3 2 (.alloc [.d (.bool false),.d (.int .i64 0),.d (.int .i64 0),.d (.int .u8 0),.d (.int .i64 0),.d (.int .i64 0),.d (.int .i64 0),.d (.int .u16 0),.d (.int .u16 0),.d (.int .u16 0)]) []]
def ahg:=[
 o3 7 (.faddr 3) [.t 1],
 o3 8 (.load none) [.t 7],
 o3 9 (.faddr 0) [.t 1],
 o3 10 (.load none) [.t 9],
 o3 11 (.build [.d (.bool false),.d (.int .i64 0),.d (.int .i64 0),.d (.int .u8 0),.d (.int .i64 0),.d (.int .i64 0),.d (.int .i64 0),.d (.int .u16 0),.d (.int .u16 0),.d (.int .u16 0)] [(3,1),(0,1)]) [.t 8,.t 10],
 o0 (.store 10) [.t 2,.t 11]]
def ahh:=[
 o3 12 (.faddr 5) [.t 1],
 o3 13 (.load none) [.t 12],
 o3 14 (.bin .and) [.t 13,.i 7],
 o3 15 (.faddr 5) [.t 2],
 o0 (.store 1) [.t 15,.t 14]]
def ahi:=[
 o3 17 (.load (some 10)) [.t 2],
 o3 18 (.callf 5) [.t 17],
 om 16 18,
 oe 19 0 16,
 oe 20 1 16,
 o3 3 (.alloc [.d (.int .i64 0),.d (.int .i64 0),.d (.int .i64 0),.d (.bool false)]) [],
 o0 (.store 4) [.t 3,.t 19],
 om 4 20]
def Xq:=[
 om 21 4,
 o3 22 (.un .not) [.t 21]]
def Xr:=[
 o3 23 (.build [.d (.bool false),.d (.int .i64 0),.d (.int .i64 0),.d (.int .u8 0),.d (.int .i64 0),.d (.int .i64 0),.d (.int .i64 0),.d (.int .u16 0),.d (.int .u16 0),.d (.int .u16 0)] [(3,1)]) [.y 144],
 o0 (.store 10) [.t 2,.t 23]]
def Xs:Ac:=.ret
def Xt:Ac:=(cd 22 (so Xr Xs) .skip)
def Xu:=[
 o3 24 (.faddr 3) [.t 3],
 o3 25 (.load none) [.t 24],
 o3 26 (.un .not) [.t 25]]
def Xv:=[
 o3 27 (.faddr 5) [.t 2],
 o0 (.store 1) [.t 27,.i 0]]
def Xw:=[
 o3 28 (.faddr 4) [.t 1],
 o3 29 (.load none) [.t 28],
 o3 30 (.bin .and) [.t 29,.i 3],
 o3 31 (.faddr 6) [.t 1],
  { dst:=some 32,k:=(.load none),xs:=[.t 31],av:=[[2]] },
 o3 33 (.bin .and) [.t 32,.i 7],
 o3 34 (.faddr 4) [.t 2],
  { dst:=none,k:=(.store 1),xs:=[.t 34,.t 30],al:=some [[2]] },
 o3 35 (.faddr 6) [.t 2],
 o0 (.store 1) [.t 35,.t 33]]
def Xz:=[
 o3 36 (.faddr 4) [.t 2],
 o3 37 (.load none) [.t 36],
 o3 38 (.faddr 6) [.t 2],
 o3 39 (.load none) [.t 38],
 o3 40 (.callf 11) [.t 37,.t 39]]
def XA:=[
 o3 42 (.bin .eql) [.t 40,.i 1],
 om 41 42]
def XB:=[
 o3 43 (.faddr 7) [.t 1],
 o3 44 (.load none) [.t 43],
 o3 45 (.bin .rem) [.t 44,.w 256],
 o3 46 (.toInt .u8) [.t 45],
 o3 47 (.callf 12) [.t 46],
 o3 48 (.faddr 7) [.t 2],
 o0 (.store 1) [.t 48,.t 47]]
def XC:=[
 o3 50 (.bin .eql) [.t 40,.i 2],
 om 49 50]
def XD:=[
 o3 51 (.faddr 7) [.t 1],
 o3 52 (.load none) [.t 51],
 o3 53 (.faddr 7) [.t 2],
 o0 (.store 1) [.t 53,.t 52]]
def XE:Ac:=(cd 49 (.ops XD) .skip)
def XF:Ac:=(cd 41 (.ops XB) (so XC XE))
def XG:Ac:=(.block 0 (so XA XF))
def XH:Ac:=(so Xz XG)
def XI:Ac:=(cd 26 (.ops Xv) (so Xw XH))
def XJ:=[
 o3 54 (.faddr 1) [.t 3],
 o3 55 (.load none) [.t 54],
 om 5 55]
def XK:=[
 om 56 5,
 o3 57 (.callf 13) [.t 56],
 o3 58 (.bin .eql) [.t 57,.i 0]]
def XL:=[
 o3 59 (.faddr 2) [.t 3],
 o3 60 (.load none) [.t 59],
 om 5 60]
def XM:Ac:=(cd 58 (.ops XL) .skip)
def XN:=[
 om 61 5]
def XO:=[
 o3 63 (.bin .eql) [.t 61,.i 6],
 om 62 63]
def XP:=[
 o3 64 (.faddr 8) [.t 1],
 o3 65 (.load none) [.t 64],
 o3 66 (.bin .rem) [.t 65,.w 256],
 o3 67 (.faddr 8) [.t 2],
 o0 (.store 1) [.t 67,.t 66]]
def XQ:=[
 o3 68 (.faddr 0) [.t 3],
 o3 69 (.load none) [.t 68],
 o3 70 (.bin .eql) [.t 69,.i 70],
 om 71 70,
 og 72 (.faddr 0) [.t 3] 71 false,
 og 73 (.load none) [.t 72] 71 false,
 og 74 (.bin .eql) [.t 73,.i 71] 71 false,
 o3 75 .pick [.t 71,.b true,.t 74]]
def XR:=[
 o3 76 (.faddr 8) [.t 2],
 o0 (.store 1) [.t 76,.w 10]]
def XS:Ac:=(cd 75 (.ops XR) .skip)
def XT:Ac:=(so XQ XS)
def XU:=[
 o3 78 (.bin .eql) [.t 61,.i 8],
 om 77 78]
def XV:=[
 o3 79 (.bin .eql) [.t 61,.i 9],
 om 77 79]
def XW:Ac:=(cd 77 .skip (.ops XV))
def XX:=[
 o3 80 (.faddr 8) [.t 1],
 o3 81 (.load none) [.t 80],
 o3 82 (.bin .rem) [.t 81,.w 256],
 o3 83 (.toInt .u8) [.t 82],
 o3 84 (.callf 12) [.t 83],
 o3 85 (.faddr 8) [.t 2],
 o0 (.store 1) [.t 85,.t 84]]
def XY:=[
 o3 87 (.bin .eql) [.t 61,.i 7],
 om 86 87]
def XZ:=[
 o3 88 (.bin .eql) [.t 61,.i 10],
 om 86 88]
def X0:=[
 o3 89 (.bin .eql) [.t 61,.i 12],
 om 86 89]
def X1:=[
 o3 90 (.bin .eql) [.t 61,.i 13],
 om 86 90]
def X2:Ac:=(cd 86 .skip (.ops X1))
def X3:Ac:=(cd 86 .skip (so X0 X2))
def X4:Ac:=(cd 86 .skip (so XZ X3))
def X5:=[
 o3 91 (.faddr 8) [.t 1],
 o3 92 (.load none) [.t 91],
 o3 93 (.faddr 8) [.t 2],
 o0 (.store 1) [.t 93,.t 92]]
def X6:=[
 o3 95 (.bin .eql) [.t 61,.i 11],
 om 94 95]
def X7:=[
 o3 96 (.faddr 8) [.t 1],
 o3 97 (.load none) [.t 96],
 o3 98 (.faddr 9) [.t 1],
  { dst:=some 99,k:=(.load none),xs:=[.t 98],av:=[[2]] },
 o3 100 (.faddr 8) [.t 2],
  { dst:=none,k:=(.store 1),xs:=[.t 100,.t 97],al:=some [[2]] },
 o3 101 (.faddr 9) [.t 2],
 o0 (.store 1) [.t 101,.t 99]]
def X8:Ac:=(cd 94 (.ops X7) .skip)
def Cq:Ac:=(cd 86 (.ops X5) (so X6 X8))
def X9:Ac:=(.seq (.gh []) (.seq (.keep [1,2,3,61,86] [[1],[2],[3]]) Cq))
def Cr:Ac:=(cd 77 (.ops XX) (.seq (so XY X4) X9))
def Ya:Ac:=(.seq (.gh []) (.seq (.keep [1,2,3,61,77] [[1],[2],[3]]) Cr))
def Yb:Ac:=(cd 62 (so XP XT) (.seq (so XU XW) Ya))
def Yc:Ac:=(.block 1 (so XO Yb))
def Yd:=[
 o3 102 (.faddr 0) [.t 3],
 o3 103 (.load none) [.t 102],
 o3 104 (.callf 14) [.t 103],
 om 6 104]
def Ye:=[
 om 105 6,
 o3 106 (.bin .gtr) [.t 105,.i 0],
 om 107 106,
 og 108 (.faddr 1) [.t 1] 107 true,
 og 109 (.load none) [.t 108] 107 true,
 og 110 (.bin .and) [.t 109,.i 3] 107 true,
 og 111 (.bin .gtr) [.t 110,.i 0] 107 true,
 o3 112 .pick [.t 107,.t 111,.b false]]
def Yf:=[
 o3 113 (.faddr 1) [.t 2],
 o0 (.store 1) [.t 113,.i 2]]
def Yg:=[
 om 114 6,
 o3 115 (.bin .eql) [.t 114,.i 2],
 om 116 115,
 og 117 (.faddr 1) [.t 1] 116 true,
 og 118 (.load none) [.t 117] 116 true,
 og 119 (.bin .and) [.t 118,.i 1] 116 true,
 og 120 (.bin .eql) [.t 119,.i 1] 116 true,
 o3 121 .pick [.t 116,.t 120,.b false]]
def Yh:=[
 o3 122 (.faddr 1) [.t 2],
 o0 (.store 1) [.t 122,.i 1]]
def Yi:Ac:=(cd 121 (.ops Yh) .skip)
def Yj:Ac:=(so Yg Yi)
def Yk:Ac:=(cd 112 (so Yf Yj) .skip)
def Yl:Ac:=(so Ye Yk)
def C8:=[
 o3 123 (.faddr 2) [.t 1],
 o3 124 (.load none) [.t 123],
 o3 125 (.bin .and) [.t 124,.i 7],
 o3 126 (.bin .leq) [.t 125,.i 4]]
def C9:=[
 o3 127 (.faddr 2) [.t 1],
 o3 128 (.load none) [.t 127],
 o3 129 (.bin .and) [.t 128,.i 7],
 o3 130 (.faddr 2) [.t 2],
 o0 (.store 1) [.t 130,.t 129]]
def Da:Ac:=(cd 126 (.ops C9) .skip)
def Db:=[
 o3 131 (.load (some 10)) [.t 2],
 o3 132 (.callf 9) [.t 131],
 o3 133 (.un .not) [.t 132]]
def Dc:=[
 o3 134 (.build [.d (.bool false),.d (.int .i64 0),.d (.int .i64 0),.d (.int .u8 0),.d (.int .i64 0),.d (.int .i64 0),.d (.int .i64 0),.d (.int .u16 0),.d (.int .u16 0),.d (.int .u16 0)] [(3,1)]) [.y 144],
 o0 (.store 10) [.t 2,.t 134]]
def Dd:Ac:=.ret
def De:Ac:=(cd 133 (so Dc Dd) .skip)
def Df:=[
 o3 135 (.load (some 10)) [.t 2],
 o0 (.store 10) [.t 2,.t 135]]
def Dg:Ac:=.ret
def Dh:Ac:=(so Df Dg)
def Di:Ac:=(.seq (so Db De) Dh)
def zh:Ac:=(.seq (so C8 Da) Di)
def Dj:Ac:=(.seq (.gh []) (.seq (.keep [1,2] [[1],[2]]) zh))
def Cu:Ac:=(.seq (so Yd Yl) Dj)
def zi:Ac:=(.seq (.gh []) (.seq (.keep [1,2,3] [[1],[2],[3]]) Cu))
def Cv:Ac:=(.seq (so XN Yc) zi)
def Ym:Ac:=(.seq (.gh []) (.seq (.keep [1,2,3,5] [[1],[2],[3]]) Cv))
def Yn:Ac:=(.seq (so XK XM) Ym)
def Cw:Ac:=(so XJ Yn)
def Yo:Ac:=(.seq (.gh []) (.seq (.keep [1,2,3] [[1],[2],[3]]) Cw))
def Yp:Ac:=(.seq (so Xu XI) Yo)
def ahj:Ac:=(.seq (so Xq Xt) Yp)
def ahk:Ac:=(so ahi ahj)
def ahl:Ac:=(so ahh ahk)
def ahm:Ac:=(so ahg ahl)
def ahn:Ac:=(so ahf ahm)
def F4:Fn:={ np:=1,pb:=[],rs:=[.c 2 (some 10)],body:=ahn }
def aho:=[
 o3 1 (.box 10) [.t 0],
 o3 2 (.alloc [.d (.int .i64 0),.d (.int .i64 0),.d (.int .i64 0),.d (.bool false)]) [],
 o3 3 .mv [.b false]]
def ahp:=[
 o3 4 (.faddr 3) [.t 1],
 o3 5 (.load none) [.t 4],
 o3 6 (.callf 15) [.t 5]]
def ahq:=[
 o3 7 (.build [.d (.int .i64 0),.d (.int .i64 0),.d (.int .i64 0),.d (.bool false)] []) [],
 o0 (.store 4) [.t 2,.t 7],
 o3 3 .mv [.b false]]
def ahr:Ac:=.ret
def ahs:Ac:=(cd 6 (so ahq ahr) .skip)
def Yq:=[
 o3 8 (.faddr 3) [.t 1],
 o3 9 (.load none) [.t 8],
 o3 10 (.faddr 5) [.t 1],
 o3 11 (.load none) [.t 10],
 o3 12 (.callf 16) [.t 9,.t 11],
 oe 13 0 12,
 oe 14 1 12,
 o0 (.store 4) [.t 2,.t 13],
 om 3 14]
def Yr:Ac:=.ret
def Ys:Ac:=(so Yq Yr)
def aht:Ac:=(.seq (so ahp ahs) Ys)
def ahu:Ac:=(so aho aht)
def F5:Fn:={ np:=1,pb:=[],rs:=[.c 2 (some 4),.t 3],body:=ahu }
def ahv:=[
 o3 1 (.box 10) [.t 0],
 o3 2 (.alloc [.d (.int .i64 0),.d (.int .i64 0),.d (.int .i64 0),.d (.int .i64 0),.d (.int .i64 0),.d (.int .i64 0),.d (.int .i64 0),.d (.int .i64 0),.d (.bool false),.d (.int .i64 0),.d (.int .i64 0),.d (.bool false),.d (.int .i64 0),.d (.int .i64 0),.d (.int .i64 0),.d (.int .i64 0),.d (.int .i64 0),.d (.int .i64 0),.d (.int .i64 0),.d (.int .i64 0),.d (.bool false),.d (.int .i64 0),.d (.int .i64 0),.d (.bool false)]) [],
 o3 3 .mv [.b false]]
def ahw:=[
 o3 7 (.load (some 10)) [.t 1],
 o3 8 (.callf 5) [.t 7],
 om 6 8,
 oe 9 0 6,
 oe 10 1 6,
 o3 4 (.alloc [.d (.int .i64 0),.d (.int .i64 0),.d (.int .i64 0),.d (.bool false)]) [],
 o0 (.store 4) [.t 4,.t 9],
 om 5 10]
def ahx:=[
 o3 11 (.load (some 10)) [.t 1],
 o3 12 (.faddr 1) [.t 4],
 o3 13 (.load none) [.t 12],
  { dst:=some 14,k:=(.callf 17),xs:=[.t 11,.t 13],al:=some [] },
  { dst:=some 15,k:=(.load (some 10)),xs:=[.t 1],av:=[[14]] },
 o3 16 (.faddr 2) [.t 4],
  { dst:=some 17,k:=(.load none),xs:=[.t 16],av:=[[14]] },
  { dst:=some 18,k:=(.callf 17),xs:=[.t 15,.t 17],al:=some [] },
 o3 19 (.build [.d (.int .i64 0),.d (.int .i64 0),.d (.int .i64 0),.d (.int .i64 0),.d (.int .i64 0),.d (.int .i64 0),.d (.int .i64 0),.d (.int .i64 0),.d (.bool false),.d (.int .i64 0),.d (.int .i64 0),.d (.bool false),.d (.int .i64 0),.d (.int .i64 0),.d (.int .i64 0),.d (.int .i64 0),.d (.int .i64 0),.d (.int .i64 0),.d (.int .i64 0),.d (.int .i64 0),.d (.bool false),.d (.int .i64 0),.d (.int .i64 0),.d (.bool false)] [(0,12),(12,12)]) [.t 14,.t 18],
 o3 20 (.faddr 1) [.t 4],
  { dst:=some 21,k:=(.load none),xs:=[.t 20],av:=[[14],[18]] },
 o3 22 (.bin .neq) [.t 21,.i 9],
 om 23 22,
 og 24 (.faddr 1) [.t 4] 23 true,
 og 25 (.load none) [.t 24] 23 true,
 og 26 (.bin .neq) [.t 25,.i 10] 23 true,
 o3 27 .pick [.t 23,.t 26,.b false],
 om 28 27,
 og 29 (.faddr 1) [.t 4] 28 true,
  { dst:=some 30,k:=(.load none),xs:=[.t 29],g:=some (28,true),av:=[[2]] },
 og 31 (.bin .neq) [.t 30,.i 11] 28 true,
 o3 32 .pick [.t 28,.t 31,.b false],
  { dst:=none,k:=(.store 24),xs:=[.t 2,.t 19],al:=some [[2]] },
 om 3 32]
def ahy:Ac:=.ret
def ahz:Ac:=(so ahx ahy)
def ahA:Ac:=(so ahw ahz)
def ahB:Ac:=(so ahv ahA)
def F6:Fn:={ np:=1,pb:=[],rs:=[.c 2 (some 24),.t 3],body:=ahB }
def ahC:=[
 o3 0 .mv [.b false]]
def ahD:=[
 o3 6 (.build [.d (.int .i64 0),.d (.int .i64 0),.d (.int .i64 0),.d (.int .i64 0),.d (.int .i64 0),.d (.int .i64 0),.d (.int .i64 0),.d (.int .i64 0),.d (.bool false),.d (.int .i64 0),.d (.int .i64 0),.d (.bool false)] [(0,1)]) [.i 2],
 o3 7 (.build [.d (.int .i64 0),.d (.int .i64 0),.d (.int .i64 0),.d (.int .i64 0),.d (.int .i64 0),.d (.int .i64 0),.d (.int .i64 0),.d (.int .i64 0),.d (.bool false),.d (.int .i64 0),.d (.int .i64 0),.d (.bool false),.d (.int .i64 0),.d (.int .i64 0),.d (.int .i64 0),.d (.int .i64 0),.d (.int .i64 0),.d (.int .i64 0),.d (.int .i64 0),.d (.int .i64 0),.d (.bool false),.d (.int .i64 0),.d (.int .i64 0),.d (.bool false)] [(0,12)]) [.t 6],
 o3 8 (.callf 18) [.c (.d (.str [73,78,67])),.t 7,.b false],
 om 5 8,
 oe 9 0 5,
 oe 10 1 5,
 o3 1 (.alloc [.d (.bool false),.d (.int .i64 0),.d (.int .i64 0),.d (.int .u8 0),.d (.int .i64 0),.d (.int .i64 0),.d (.int .i64 0),.d (.int .u16 0),.d (.int .u16 0),.d (.int .u16 0),.d (.int .i64 0),.d (.int .i64 0),.d (.int .i64 0),.d (.int .i64 0),.d (.int .i64 0),.d (.bool false),.d (.int .i64 0),.d (.int .i64 0),.d (.int .i64 0),.d (.int .i64 0),.d (.int .i64 0),.d (.bool false),.d (.bool false),.d (.bool false),.d (.bool false)]) [],
 o0 (.store 25) [.t 1,.t 9],
 om 2 10]
def ahE:=[
 o3 12 (.build [.d (.int .i64 0),.d (.int .i64 0),.d (.int .i64 0),.d (.int .i64 0),.d (.int .i64 0),.d (.int .i64 0),.d (.int .i64 0),.d (.int .i64 0),.d (.bool false),.d (.int .i64 0),.d (.int .i64 0),.d (.bool false)] [(0,1),(1,1)]) [.i 3,.i 1],
 o3 13 (.build [.d (.int .i64 0),.d (.int .i64 0),.d (.int .i64 0),.d (.int .i64 0),.d (.int .i64 0),.d (.int .i64 0),.d (.int .i64 0),.d (.int .i64 0),.d (.bool false),.d (.int .i64 0),.d (.int .i64 0),.d (.bool false)] [(0,1)]) [.i 2],
 o3 14 (.build [.d (.int .i64 0),.d (.int .i64 0),.d (.int .i64 0),.d (.int .i64 0),.d (.int .i64 0),.d (.int .i64 0),.d (.int .i64 0),.d (.int .i64 0),.d (.bool false),.d (.int .i64 0),.d (.int .i64 0),.d (.bool false),.d (.int .i64 0),.d (.int .i64 0),.d (.int .i64 0),.d (.int .i64 0),.d (.int .i64 0),.d (.int .i64 0),.d (.int .i64 0),.d (.int .i64 0),.d (.bool false),.d (.int .i64 0),.d (.int .i64 0),.d (.bool false)] [(0,12),(12,12)]) [.t 12,.t 13],
 o3 15 (.callf 18) [.c (.d (.str [77,79,86])),.t 14,.b false],
 om 11 15,
 oe 16 0 11,
 oe 17 1 11,
 o3 3 (.alloc [.d (.bool false),.d (.int .i64 0),.d (.int .i64 0),.d (.int .u8 0),.d (.int .i64 0),.d (.int .i64 0),.d (.int .i64 0),.d (.int .u16 0),.d (.int .u16 0),.d (.int .u16 0),.d (.int .i64 0),.d (.int .i64 0),.d (.int .i64 0),.d (.int .i64 0),.d (.int .i64 0),.d (.bool false),.d (.int .i64 0),.d (.int .i64 0),.d (.int .i64 0),.d (.int .i64 0),.d (.int .i64 0),.d (.bool false),.d (.bool false),.d (.bool false),.d (.bool false)]) [],
 o0 (.store 25) [.t 3,.t 16],
 om 4 17]
def ahF:=[
 om 18 2,
 o3 19 (.bin .eql) [.t 18,.i 0],
 om 20 19,
 og 21 (.faddr 0) [.t 1] 20 true,
 og 22 (.faddr 3) [.t 21] 20 true,
 og 23 (.load none) [.t 22] 20 true,
 og 24 (.bin .eql) [.t 23,.y 64] 20 true,
 o3 25 .pick [.t 20,.t 24,.b false],
 om 26 25,
 og 27 .mv [.t 4] 26 true,
 og 28 (.bin .eql) [.t 27,.i 6] 26 true,
 o3 29 .pick [.t 26,.t 28,.b false],
 om 0 29]
def ahG:Ac:=.ret
def ahH:Ac:=(so ahF ahG)
def ahI:Ac:=(so ahE ahH)
def ahJ:Ac:=(so ahD ahI)
def ahK:Ac:=(so ahC ahJ)
def F7:Fn:={ np:=0,pb:=[],rs:=[.t 0],body:=ahK }
def ahL:=[
 o3 3 (.box 24) [.t 1],
 o3 4 .mv [.c (.nils)]]
def ahM:=[
 o3 5 .mv [.c (.nils)]]
def ahN:=[
 o3 12 .mv [.i 0]]
def Yt:=[
 o3 13 (.bin .lss) [.t 12,.i 2048]]
def Yu:=[
 om 14 12,
 om 6 14]
def Yv:=[
 om 15 6,
 o3 16 (.bin .shr) [.t 15,.c (.d (.int .u64 3))],
 o3 17 (.toInt .u8) [.t 16],
 om 18 6,
 o3 19 (.bin .and) [.t 18,.i 7],
 om 7 17,
 om 8 19]
def Yw:=[
 om 20 8,
 o3 21 (.bin .gtr) [.t 20,.i 0],
 om 22 21,
 og 23 .mv [.t 7] 22 true,
 og 24 (.callf 19) [.t 23] 22 true,
 og 25 (.un .not) [.t 24] 22 true,
 o3 26 .pick [.t 22,.t 25,.b false],
 om 27 26,
 og 28 .mv [.t 7] 27 false,
 og 29 (.callf 20) [.t 28] 27 false,
 o3 30 .pick [.t 27,.b true,.t 29]]
def Yz:Ac:=(cd 30 (.exit 1) .skip)
def YA:=[
 om 32 7,
 om 33 8,
 o3 34 (.callf 21) [.t 32,.t 33],
 om 31 34,
 oe 35 0 31,
 oe 36 1 31,
 o3 9 (.alloc [.d (.int .i64 0),.d (.int .i64 0),.d (.int .i64 0),.d (.bool false)]) [],
 o0 (.store 4) [.t 9,.t 35],
 om 10 36]
def YB:=[
 om 37 10,
 o3 38 (.un .not) [.t 37],
 om 39 38,
 og 40 (.faddr 0) [.t 9] 39 false,
 og 41 (.load none) [.t 40] 39 false,
 og 42 .mv [.t 0] 39 false,
 og 43 (.bin .neq) [.t 41,.t 42] 39 false,
 o3 44 .pick [.t 39,.b true,.t 43]]
def YC:Ac:=(cd 44 (.exit 1) .skip)
def YD:=[
 o3 45 (.faddr 1) [.t 9],
 o3 46 (.load none) [.t 45],
 o3 47 (.iaddrA 2 12) [.t 3,.i 0],
 o3 48 (.load (some 12)) [.t 47],
 om 49 7,
 o3 50 (.callf 22) [.t 46,.t 48,.t 49],
 o3 51 (.un .not) [.t 50],
 om 52 51,
 og 53 (.faddr 2) [.t 9] 52 false,
 og 54 (.load none) [.t 53] 52 false,
 og 55 (.iaddrA 2 12) [.t 3,.i 1] 52 false,
 og 56 (.load (some 12)) [.t 55] 52 false,
 og 57 .mv [.t 7] 52 false,
 og 58 (.callf 22) [.t 54,.t 56,.t 57] 52 false,
 og 59 (.un .not) [.t 58] 52 false,
 o3 60 .pick [.t 52,.b true,.t 59],
 om 61 60,
 og 62 (.load (some 4)) [.t 9] 61 false,
 og 63 (.load (some 24)) [.t 3] 61 false,
 og 64 (.callf 23) [.t 62,.t 63] 61 false,
 og 65 (.un .not) [.t 64] 61 false,
 o3 66 .pick [.t 61,.b true,.t 65]]
def YE:Ac:=(cd 66 (.exit 1) .skip)
def YF:=[
 om 67 7,
 om 68 8,
 o3 69 (.load (some 4)) [.t 9],
 o3 70 (.load (some 24)) [.t 3],
 o3 71 (.callf 24) [.t 67,.t 68,.t 69,.t 70],
 o3 11 (.alloc [.d (.bool false),.d (.int .i64 0),.d (.int .i64 0),.d (.int .u8 0),.d (.int .i64 0),.d (.int .i64 0),.d (.int .i64 0),.d (.int .u16 0),.d (.int .u16 0),.d (.int .u16 0),.d (.int .i64 0),.d (.int .i64 0),.d (.int .i64 0),.d (.int .i64 0),.d (.int .i64 0),.d (.bool false),.d (.int .i64 0),.d (.int .i64 0),.d (.int .i64 0),.d (.int .i64 0),.d (.int .i64 0),.d (.bool false),.d (.bool false),.d (.bool false),.d (.bool false)]) [],
 o0 (.store 25) [.t 11,.t 71]]
def YG:=[
 o3 72 (.faddr 0) [.t 11],
 o3 73 (.load (some 10)) [.t 72],
 o3 74 (.callf 25) [.t 73]]
def YH:=[
 om 75 5,
 o3 76 (.load (some 25)) [.t 11],
 o3 77 (.bslice (.agg [.bool false,.int .i64 0,.int .i64 0,.int .u8 0,.int .i64 0,.int .i64 0,.int .i64 0,.int .u16 0,.int .u16 0,.int .u16 0,.int .i64 0,.int .i64 0,.int .i64 0,.int .i64 0,.int .i64 0,.bool false,.int .i64 0,.int .i64 0,.int .i64 0,.int .i64 0,.int .i64 0,.bool false,.bool false,.bool false,.bool false]) 1 [0]) [.t 76],
 o3 78 (.append 25 168 false) [.t 75,.t 77],
 om 5 78]
def YI:Ac:=(cd 74 (.ops YH) .skip)
def YJ:Ac:=(so YG YI)
def YK:Ac:=(so YF YJ)
def YL:Ac:=(.seq (so YD YE) YK)
def YM:Ac:=(.seq (so YB YC) YL)
def Cx:Ac:=(so YA YM)
def YN:Ac:=(.seq (.gh []) (.seq (.keep [0,3,5,7,8,12] [[3],[5]]) Cx))
def YO:Ac:=(.seq (so Yw Yz) YN)
def YP:Ac:=(so Yv YO)
def YQ:=[
 o3 79 (.bin .add) [.t 12,.i 1],
 om 12 79]
def Cy:Ac:=(.ops YQ)
def YR:Ac:=(.seq (.block 1 (so Yu YP)) Cy)
def YS:Ac:=(.seq (cd 13 .skip (.exit 0)) YR)
def YT:Ac:=(so Yt YS)
def ahO:Ac:=(.block 0 (.loop (.seq (.gh []) (.seq (.keep [0,3,5,12] [[3],[5]]) YT))))
def YU:=[
 om 80 5,
 o3 81 (.callf 26) [.t 80],
 om 4 81]
def YV:Ac:=.ret
def YW:Ac:=(so YU YV)
def YX:Ac:=(.seq (.gh []) (.seq (.keep [5] [[5]]) YW))
def ahP:Ac:=(.seq (so ahN ahO) YX)
def ahQ:Ac:=(.seq (.gh [.own 5 [5] 25]) (.seq (.keep [0,3,5] [[3],[5]]) ahP))
def ahR:Ac:=(so ahM ahQ)
def ahS:Ac:=(so ahL ahR)
def F8:Fn:={ np:=2,pb:=[],rs:=[.t 4],body:=ahS }
def ahT:=[
 o3 1 (.box 10) [.t 0],
 o3 2 .mv [.b false]]
def ahU:=[
 o3 9 (.load (some 10)) [.t 1],
 o3 10 (.callf 5) [.t 9],
 om 8 10,
 oe 11 0 8,
 oe 12 1 8,
 o3 3 (.alloc [.d (.int .i64 0),.d (.int .i64 0),.d (.int .i64 0),.d (.bool false)]) [],
 o0 (.store 4) [.t 3,.t 11],
 om 4 12]
def ahV:=[
 om 13 4,
 o3 14 (.un .not) [.t 13],
 om 15 14,
 og 16 (.faddr 2) [.t 1] 15 false,
 og 17 (.load none) [.t 16] 15 false,
 og 18 (.bin .lss) [.t 17,.i 0] 15 false,
 o3 19 .pick [.t 15,.b true,.t 18],
 om 20 19,
 og 21 (.faddr 2) [.t 1] 20 false,
 og 22 (.load none) [.t 21] 20 false,
 og 23 (.bin .gtr) [.t 22,.i 4] 20 false,
 o3 24 .pick [.t 20,.b true,.t 23]]
def ahW:=[
 o3 2 .mv [.b false]]
def YY:Ac:=.ret
def ahX:Ac:=(cd 24 (so ahW YY) .skip)
def YZ:=[
 o3 25 (.faddr 0) [.t 3],
 o3 26 (.load none) [.t 25],
 o3 27 (.callf 14) [.t 26],
 om 5 27]
def Y0:=[
 o3 28 (.faddr 1) [.t 1],
 o3 29 (.load none) [.t 28],
 o3 30 (.bin .lss) [.t 29,.i 0],
 om 31 30,
 og 32 (.faddr 1) [.t 1] 31 false,
 og 33 (.load none) [.t 32] 31 false,
 og 34 (.bin .gtr) [.t 33,.i 2] 31 false,
 o3 35 .pick [.t 31,.b true,.t 34],
 om 36 35,
 og 37 (.faddr 1) [.t 1] 36 false,
 og 38 (.load none) [.t 37] 36 false,
 og 39 (.bin .eql) [.t 38,.i 1] 36 false,
 og 40 .mv [.t 39] 36 false,
 og 41 .mv [.t 5] 40 true,
 og 42 (.bin .lss) [.t 41,.i 2] 40 true,
 og 43 .pick [.t 40,.t 42,.b false] 36 false,
 o3 44 .pick [.t 36,.b true,.t 43],
 om 45 44,
 og 46 (.faddr 1) [.t 1] 45 false,
 og 47 (.load none) [.t 46] 45 false,
 og 48 (.bin .eql) [.t 47,.i 2] 45 false,
 og 49 .mv [.t 48] 45 false,
 og 50 .mv [.t 5] 49 true,
 og 51 (.bin .lss) [.t 50,.i 1] 49 true,
 og 52 .pick [.t 49,.t 51,.b false] 45 false,
 o3 53 .pick [.t 45,.b true,.t 52]]
def Y1:=[
 o3 2 .mv [.b false]]
def Y2:Ac:=.ret
def Y3:Ac:=(cd 53 (so Y1 Y2) .skip)
def Y4:=[
 o3 54 (.faddr 3) [.t 3],
 o3 55 (.load none) [.t 54],
 o3 56 (.un .not) [.t 55]]
def Y5:=[
 o3 57 (.faddr 4) [.t 1],
 o3 58 (.load none) [.t 57],
 o3 59 (.bin .neq) [.t 58,.i 0],
 om 60 59,
 og 61 (.faddr 5) [.t 1] 60 false,
 og 62 (.load none) [.t 61] 60 false,
 og 63 (.bin .neq) [.t 62,.i 0] 60 false,
 o3 64 .pick [.t 60,.b true,.t 63],
 om 65 64,
 og 66 (.faddr 6) [.t 1] 65 false,
 og 67 (.load none) [.t 66] 65 false,
 og 68 (.bin .neq) [.t 67,.i 0] 65 false,
 o3 69 .pick [.t 65,.b true,.t 68],
 om 70 69,
 og 71 (.faddr 7) [.t 1] 70 false,
 og 72 (.load none) [.t 71] 70 false,
 og 73 (.bin .neq) [.t 72,.w 0] 70 false,
 o3 74 .pick [.t 70,.b true,.t 73]]
def Y6:=[
 o3 2 .mv [.b false]]
def Y7:Ac:=.ret
def Y8:Ac:=(cd 74 (so Y6 Y7) .skip)
def Y9:=[
 o3 75 (.faddr 4) [.t 1],
 o3 76 (.load none) [.t 75],
 o3 77 (.bin .lss) [.t 76,.i 0],
 om 78 77,
 og 79 (.faddr 4) [.t 1] 78 false,
 og 80 (.load none) [.t 79] 78 false,
 og 81 (.bin .gtr) [.t 80,.i 3] 78 false,
 o3 82 .pick [.t 78,.b true,.t 81],
 om 83 82,
 og 84 (.faddr 5) [.t 1] 83 false,
 og 85 (.load none) [.t 84] 83 false,
 og 86 (.bin .lss) [.t 85,.i 0] 83 false,
 o3 87 .pick [.t 83,.b true,.t 86],
 om 88 87,
 og 89 (.faddr 5) [.t 1] 88 false,
 og 90 (.load none) [.t 89] 88 false,
 og 91 (.bin .gtr) [.t 90,.i 7] 88 false,
 o3 92 .pick [.t 88,.b true,.t 91],
 om 93 92,
 og 94 (.faddr 6) [.t 1] 93 false,
 og 95 (.load none) [.t 94] 93 false,
 og 96 (.bin .lss) [.t 95,.i 0] 93 false,
 o3 97 .pick [.t 93,.b true,.t 96],
 om 98 97,
 og 99 (.faddr 6) [.t 1] 98 false,
 og 100 (.load none) [.t 99] 98 false,
 og 101 (.bin .gtr) [.t 100,.i 7] 98 false,
 o3 102 .pick [.t 98,.b true,.t 101]]
def Za:=[
 o3 2 .mv [.b false]]
def Zb:Ac:=.ret
def Zc:Ac:=(cd 102 (so Za Zb) .skip)
def Zd:=[
 o3 103 (.faddr 4) [.t 1],
 o3 104 (.load none) [.t 103],
 o3 105 (.bin .eql) [.t 104,.i 3],
 om 106 105,
 og 107 (.faddr 1) [.t 3] 106 true,
 og 108 (.load none) [.t 107] 106 true,
 og 109 (.bin .eql) [.t 108,.i 19] 106 true,
 og 110 .mv [.t 109] 106 true,
 og 111 (.faddr 1) [.t 3] 110 false,
 og 112 (.load none) [.t 111] 110 false,
 og 113 (.bin .eql) [.t 112,.i 20] 110 false,
 og 114 .pick [.t 110,.b true,.t 113] 106 true,
 og 115 .mv [.t 114] 106 true,
 og 116 (.faddr 2) [.t 3] 115 false,
 og 117 (.load none) [.t 116] 115 false,
 og 118 (.bin .eql) [.t 117,.i 19] 115 false,
 og 119 .pick [.t 115,.b true,.t 118] 106 true,
 og 120 .mv [.t 119] 106 true,
 og 121 (.faddr 2) [.t 3] 120 false,
 og 122 (.load none) [.t 121] 120 false,
 og 123 (.bin .eql) [.t 122,.i 20] 120 false,
 og 124 .pick [.t 120,.b true,.t 123] 106 true,
 o3 125 .pick [.t 106,.t 124,.b false]]
def Ze:=[
 o3 2 .mv [.b false]]
def Zf:Ac:=.ret
def Zg:Ac:=(cd 125 (so Ze Zf) .skip)
def Zh:=[
 o3 126 (.faddr 4) [.t 1],
 o3 127 (.load none) [.t 126],
 o3 128 (.faddr 6) [.t 1],
 o3 129 (.load none) [.t 128],
 o3 130 (.callf 11) [.t 127,.t 129],
 om 6 130]
def Zi:=[
 om 131 6,
 o3 132 (.bin .eql) [.t 131,.i 0],
 om 133 132,
 og 134 (.faddr 7) [.t 1] 133 true,
 og 135 (.load none) [.t 134] 133 true,
 og 136 (.bin .neq) [.t 135,.w 0] 133 true,
 o3 137 .pick [.t 133,.t 136,.b false],
 om 138 137,
 og 139 .mv [.t 6] 138 false,
 og 140 (.bin .eql) [.t 139,.i 1] 138 false,
 og 141 .mv [.t 140] 138 false,
 og 142 (.faddr 7) [.t 1] 141 true,
 og 143 (.load none) [.t 142] 141 true,
 og 144 (.callf 27) [.t 143] 141 true,
 og 145 (.un .not) [.t 144] 141 true,
 og 146 .pick [.t 141,.t 145,.b false] 138 false,
 o3 147 .pick [.t 138,.b true,.t 146]]
def Zj:=[
 o3 2 .mv [.b false]]
def Zk:Ac:=.ret
def Zl:Ac:=(cd 147 (so Zj Zk) .skip)
def Zm:Ac:=(so Zi Zl)
def CA:Ac:=(so Zh Zm)
def Zn:Ac:=(.seq (.gh []) (.seq (.keep [1,3] [[1],[3]]) CA))
def Zo:Ac:=(.seq (so Zd Zg) Zn)
def Zp:Ac:=(cd 56 (so Y5 Y8) (.seq (so Y9 Zc) Zo))
def Zq:=[
 o3 148 (.faddr 1) [.t 3],
 o3 149 (.load none) [.t 148],
 om 7 149]
def Zr:=[
 om 150 7,
 o3 151 (.callf 13) [.t 150],
 o3 152 (.bin .eql) [.t 151,.i 0]]
def Zs:=[
 o3 153 (.faddr 2) [.t 3],
 o3 154 (.load none) [.t 153],
 om 7 154]
def Zt:Ac:=(cd 152 (.ops Zs) .skip)
def Zu:=[
 om 155 7]
def Zv:=[
 o3 157 (.bin .eql) [.t 155,.i 6],
 om 156 157]
def Zw:=[
 o3 158 (.faddr 8) [.t 1],
 o3 159 (.load none) [.t 158],
 o3 160 (.bin .lss) [.t 159,.w 256],
 om 161 160,
 og 162 (.faddr 9) [.t 1] 161 true,
 og 163 (.load none) [.t 162] 161 true,
 og 164 (.bin .eql) [.t 163,.w 0] 161 true,
 o3 165 .pick [.t 161,.t 164,.b false],
 om 166 165,
 og 167 (.faddr 0) [.t 3] 166 true,
 og 168 (.load none) [.t 167] 166 true,
 og 169 (.bin .neq) [.t 168,.i 70] 166 true,
 og 170 .mv [.t 169] 166 true,
 og 171 (.faddr 0) [.t 3] 170 true,
 og 172 (.load none) [.t 171] 170 true,
 og 173 (.bin .neq) [.t 172,.i 71] 170 true,
 og 174 .pick [.t 170,.t 173,.b false] 166 true,
 og 175 .mv [.t 174] 166 true,
 og 176 (.faddr 8) [.t 1] 175 false,
 og 177 (.load none) [.t 176] 175 false,
 og 178 (.bin .eql) [.t 177,.w 10] 175 false,
 og 179 .pick [.t 175,.b true,.t 178] 166 true,
 o3 180 .pick [.t 166,.t 179,.b false],
 om 2 180]
def Zx:Ac:=.ret
def Zy:=[
 o3 182 (.bin .eql) [.t 155,.i 8],
 om 181 182]
def Zz:=[
 o3 183 (.bin .eql) [.t 155,.i 9],
 om 181 183]
def ZA:Ac:=(cd 181 .skip (.ops Zz))
def ZB:=[
 o3 184 (.faddr 8) [.t 1],
 o3 185 (.load none) [.t 184],
 o3 186 (.callf 27) [.t 185],
 om 187 186,
 og 188 (.faddr 9) [.t 1] 187 true,
 og 189 (.load none) [.t 188] 187 true,
 og 190 (.bin .eql) [.t 189,.w 0] 187 true,
 o3 191 .pick [.t 187,.t 190,.b false],
 om 2 191]
def ZC:Ac:=.ret
def ZD:=[
 o3 193 (.bin .eql) [.t 155,.i 7],
 om 192 193]
def ZE:=[
 o3 194 (.bin .eql) [.t 155,.i 10],
 om 192 194]
def ZF:=[
 o3 195 (.bin .eql) [.t 155,.i 12],
 om 192 195]
def ZG:=[
 o3 196 (.bin .eql) [.t 155,.i 13],
 om 192 196]
def ZH:Ac:=(cd 192 .skip (.ops ZG))
def ZI:Ac:=(cd 192 .skip (so ZF ZH))
def ZJ:Ac:=(cd 192 .skip (so ZE ZI))
def Dk:=[
 o3 197 (.faddr 9) [.t 1],
 o3 198 (.load none) [.t 197],
 o3 199 (.bin .eql) [.t 198,.w 0],
 om 2 199]
def Dl:Ac:=.ret
def Dm:=[
 o3 201 (.bin .eql) [.t 155,.i 11],
 om 200 201]
def Dn:=[
 o3 2 .mv [.b true]]
def Do:Ac:=.ret
def Dp:Ac:=(cd 200 (so Dn Do) .skip)
def Dq:Ac:=(cd 192 (so Dk Dl) (so Dm Dp))
def CB:Ac:=(cd 181 (so ZB ZC) (.seq (so ZD ZJ) Dq))
def ZK:Ac:=(.seq (.gh []) (.seq (.keep [1,155,181] [[1]]) CB))
def ZL:Ac:=(cd 156 (so Zw Zx) (.seq (so Zy ZA) ZK))
def ZM:Ac:=(.block 0 (so Zv ZL))
def Dr:=[
 o3 202 (.faddr 8) [.t 1],
 o3 203 (.load none) [.t 202],
 o3 204 (.bin .eql) [.t 203,.w 0],
 om 205 204,
 og 206 (.faddr 9) [.t 1] 205 true,
 og 207 (.load none) [.t 206] 205 true,
 og 208 (.bin .eql) [.t 207,.w 0] 205 true,
 o3 209 .pick [.t 205,.t 208,.b false],
 om 2 209]
def Ds:Ac:=.ret
def zj:Ac:=(so Dr Ds)
def CC:Ac:=(.seq (so Zu ZM) zj)
def ZN:Ac:=(.seq (.gh []) (.seq (.keep [1,3,7] [[1],[3]]) CC))
def ZO:Ac:=(.seq (so Zr Zt) ZN)
def CD:Ac:=(so Zq ZO)
def CE:Ac:=(.seq (.gh []) (.seq (.keep [1,3] [[1],[3]]) CD))
def CF:Ac:=(.seq (so Y4 Zp) CE)
def ZP:Ac:=(.seq (.gh []) (.seq (.keep [1,3] [[1],[3]]) CF))
def ZQ:Ac:=(.seq (so Y0 Y3) ZP)
def ZR:Ac:=(so YZ ZQ)
def ahY:Ac:=(.seq (so ahV ahX) ZR)
def ahZ:Ac:=(so ahU ahY)
def ah0:Ac:=(so ahT ahZ)
def F9:Fn:={ np:=1,pb:=[],rs:=[.t 2],body:=ah0 }
def ZS:=[
 o3 1 (.box 10) [.t 0],
 o3 2 .mv [.i 0]]
def ZT:=[
 o3 6 (.load (some 10)) [.t 1],
 o3 7 (.callf 25) [.t 6],
 o3 8 (.un .not) [.t 7]]
def ZU:=[
 o3 2 .mv [.i 0]]
def ZV:Ac:=.ret
def ZW:Ac:=(cd 8 (so ZU ZV) .skip)
def Dt:=[
 o3 10 (.load (some 10)) [.t 1],
 o3 11 (.callf 28) [.t 10],
 om 9 11,
 oe 12 0 9,
 oe 13 1 9,
 o3 3 (.alloc [.d (.int .i64 0),.d (.int .i64 0),.d (.int .i64 0),.d (.bool false)]) [],
 o0 (.store 4) [.t 3,.t 12],
 om 4 13]
def Du:=[
 o3 14 (.load (some 4)) [.t 3],
 o3 15 (.callf 29) [.t 14],
 o3 16 (.bin .add) [.i 1,.t 15],
 om 5 16]
def Dv:=[
 o3 17 (.faddr 0) [.t 1],
 o3 18 (.load none) [.t 17]]
def Dw:=[
 om 19 5,
 o3 20 (.bin .add) [.t 19,.i 1],
 om 5 20]
def Dx:Ac:=(cd 18 (.ops Dw) .skip)
def Dy:=[
 o3 21 (.faddr 1) [.t 1],
 o3 22 (.load none) [.t 21],
 o3 23 (.bin .gtr) [.t 22,.i 0]]
def Dz:=[
 om 24 5,
 o3 25 (.bin .add) [.t 24,.i 1],
 om 5 25]
def DA:Ac:=(cd 23 (.ops Dz) .skip)
def DB:=[
 o3 26 (.faddr 2) [.t 1],
 o3 27 (.load none) [.t 26],
 o3 28 (.bin .gtr) [.t 27,.i 0]]
def DC:=[
 om 29 5,
 o3 30 (.bin .add) [.t 29,.i 1],
 om 5 30]
def DD:Ac:=(cd 28 (.ops DC) .skip)
def DE:=[
 o3 31 (.faddr 3) [.t 3],
 o3 32 (.load none) [.t 31]]
def DF:=[
 om 33 5,
 o3 34 (.faddr 4) [.t 1],
 o3 35 (.load none) [.t 34],
 o3 36 (.faddr 6) [.t 1],
 o3 37 (.load none) [.t 36],
 o3 38 (.callf 30) [.t 35,.t 37],
 o3 39 (.bin .add) [.i 1,.t 38],
 o3 40 (.bin .add) [.t 33,.t 39],
 om 5 40]
def DG:Ac:=(cd 32 (.ops DF) .skip)
def DH:=[
 om 41 5,
 om 2 41]
def DI:Ac:=.ret
def DJ:Ac:=(so DH DI)
def DK:Ac:=(.seq (so DE DG) DJ)
def zk:Ac:=(.seq (so DB DD) DK)
def DL:Ac:=(.seq (.gh []) (.seq (.keep [1,3,5] [[1],[3]]) zk))
def zl:Ac:=(.seq (so Dy DA) DL)
def DM:Ac:=(.seq (.gh []) (.seq (.keep [1,3,5] [[1],[3]]) zl))
def DN:Ac:=(.seq (so Dv Dx) DM)
def DO:Ac:=(so Du DN)
def DP:Ac:=(so Dt DO)
def ZX:Ac:=(.seq (so ZT ZW) DP)
def ZY:Ac:=(so ZS ZX)
def F10:Fn:={ np:=1,pb:=[],rs:=[.t 2],body:=ZY }
def ZZ:=[
 o3 4 .mv [.i 0]]
def Z0:=[
 om 5 0,
 o3 6 (.bin .eql) [.t 5,.i 1]]
def Z1:=[
 o3 4 .mv [.i 1]]
def Z2:Ac:=.ret
def Z3:Ac:=(cd 6 (so Z1 Z2) .skip)
def DQ:=[
 om 7 0,
 o3 8 (.bin .eql) [.t 7,.i 2],
 om 9 8,
 og 10 .mv [.t 0] 9 false,
 og 11 (.bin .eql) [.t 10,.i 0] 9 false,
 og 12 .mv [.t 11] 9 false,
 og 13 .mv [.t 1] 12 true,
 og 14 (.bin .eql) [.t 13,.i 6] 12 true,
 og 15 .pick [.t 12,.t 14,.b false] 9 false,
 o3 16 .pick [.t 9,.b true,.t 15]]
def DR:=[
 o3 4 .mv [.i 2]]
def DS:Ac:=.ret
def DT:Ac:=(cd 16 (so DR DS) .skip)
def DU:=[
 o3 4 .mv [.i 0]]
def DV:Ac:=.ret
def DW:Ac:=(so DU DV)
def DX:Ac:=(.seq (so DQ DT) DW)
def Z4:Ac:=(.seq (so Z0 Z3) DX)
def Z5:Ac:=(so ZZ Z4)
def F11:Fn:={ np:=2,pb:=[],rs:=[.t 4],body:=Z5 }
def Z6:=[
 o3 2 .mv [.w 0]]
def Z7:=[
 om 3 0,
 o3 4 (.bin .lss) [.t 3,.y 128]]
def Z8:=[
 om 5 0,
 o3 6 (.toInt .u16) [.t 5],
 om 2 6]
def Z9:Ac:=.ret
def aaa:Ac:=(cd 4 (so Z8 Z9) .skip)
def DY:=[
 om 7 0,
 o3 8 (.toInt .u16) [.t 7],
 o3 9 (.bin .add) [.w 65280,.t 8],
 om 2 9]
def DZ:Ac:=.ret
def D0:Ac:=(so DY DZ)
def aab:Ac:=(.seq (so Z7 aaa) D0)
def aac:Ac:=(so Z6 aab)
def F12:Fn:={ np:=1,pb:=[],rs:=[.t 2],body:=aac }
def aad:=[
 o3 2 .mv [.i 0]]
def aae:=[
 om 3 0]
def aaf:=[
 o3 5 (.bin .eql) [.t 3,.i 6],
 om 4 5]
def D1:=[
 o3 6 (.bin .eql) [.t 3,.i 8],
 om 4 6]
def D2:=[
 o3 7 (.bin .eql) [.t 3,.i 9],
 om 4 7]
def D3:Ac:=(cd 4 .skip (.ops D2))
def aag:Ac:=(cd 4 .skip (so D1 D3))
def D4:=[
 o3 2 .mv [.i 1]]
def D5:Ac:=.ret
def D6:=[
 o3 9 (.bin .eql) [.t 3,.i 7],
 om 8 9]
def D7:=[
 o3 10 (.bin .eql) [.t 3,.i 10],
 om 8 10]
def D8:=[
 o3 11 (.bin .eql) [.t 3,.i 12],
 om 8 11]
def D9:=[
 o3 12 (.bin .eql) [.t 3,.i 13],
 om 8 12]
def Ea:Ac:=(cd 8 .skip (.ops D9))
def Eb:Ac:=(cd 8 .skip (so D8 Ea))
def Ec:Ac:=(cd 8 .skip (so D7 Eb))
def Ed:=[
 o3 2 .mv [.i 2]]
def Ee:Ac:=.ret
def Ef:=[
 o3 14 (.bin .eql) [.t 3,.i 11],
 om 13 14]
def Eg:=[
 o3 2 .mv [.i 4]]
def Eh:Ac:=.ret
def Ei:Ac:=(cd 13 (so Eg Eh) .skip)
def Ej:Ac:=(cd 8 (so Ed Ee) (so Ef Ei))
def zm:Ac:=(cd 4 (so D4 D5) (.seq (so D6 Ec) Ej))
def Ek:Ac:=(.seq (.gh []) (.seq (.keep [3,4] []) zm))
def aah:Ac:=(.block 0 (.seq (so aaf aag) Ek))
def El:=[
 o3 2 .mv [.i 0]]
def Em:Ac:=.ret
def zn:Ac:=(so El Em)
def aai:Ac:=(.seq (so aae aah) zn)
def aaj:Ac:=(so aad aai)
def F13:Fn:={ np:=1,pb:=[],rs:=[.t 2],body:=aaj }
def aak:=[
 o3 2 .mv [.i 0]]
def aal:=[
 om 3 0,
 o3 4 (.callf 31) [.t 3]]
def aam:=[
 o3 6 (.bin .eql) [.t 4,.c (.d (.str [77,79,86,83,66]))],
 om 5 6]
def En:=[
 o3 7 (.bin .eql) [.t 4,.c (.d (.str [77,79,86,83,87]))],
 om 5 7]
def Eo:=[
 o3 8 (.bin .eql) [.t 4,.c (.d (.str [83,84,79,83,66]))],
 om 5 8]
def Ep:=[
 o3 9 (.bin .eql) [.t 4,.c (.d (.str [83,84,79,83,87]))],
 om 5 9]
def Er:=[
 o3 10 (.bin .eql) [.t 4,.c (.d (.str [76,79,68,83,66]))],
 om 5 10]
def Et:=[
 o3 11 (.bin .eql) [.t 4,.c (.d (.str [76,79,68,83,87]))],
 om 5 11]
def Eu:Ac:=(cd 5 .skip (.ops Et))
def Ew:Ac:=(cd 5 .skip (so Er Eu))
def Ex:Ac:=(cd 5 .skip (so Ep Ew))
def Ey:Ac:=(cd 5 .skip (so Eo Ex))
def aan:Ac:=(cd 5 .skip (so En Ey))
def Ez:=[
 o3 2 .mv [.i 1]]
def EA:Ac:=.ret
def EB:=[
 o3 13 (.bin .eql) [.t 4,.c (.d (.str [67,77,80,83,66]))],
 om 12 13]
def EC:=[
 o3 14 (.bin .eql) [.t 4,.c (.d (.str [67,77,80,83,87]))],
 om 12 14]
def ED:=[
 o3 15 (.bin .eql) [.t 4,.c (.d (.str [83,67,65,83,66]))],
 om 12 15]
def EE:=[
 o3 16 (.bin .eql) [.t 4,.c (.d (.str [83,67,65,83,87]))],
 om 12 16]
def EF:Ac:=(cd 12 .skip (.ops EE))
def EG:Ac:=(cd 12 .skip (so ED EF))
def EH:Ac:=(cd 12 .skip (so EC EG))
def EI:=[
 o3 2 .mv [.i 2]]
def EJ:Ac:=.ret
def EL:Ac:=(cd 12 (so EI EJ) .skip)
def zo:Ac:=(cd 5 (so Ez EA) (.seq (so EB EH) EL))
def EM:Ac:=(.seq (.gh []) (.seq (.keep [4,5] []) zo))
def aao:Ac:=(.block 0 (.seq (so aam aan) EM))
def EN:=[
 o3 2 .mv [.i 0]]
def EO:Ac:=.ret
def zp:Ac:=(so EN EO)
def aap:Ac:=(.seq (so aal aao) zp)
def aaq:Ac:=(so aak aap)
def F14:Fn:={ np:=1,pb:=[],rs:=[.t 2],body:=aaq }
def aar:=[
 o3 2 .mv [.b false]]
def aas:=[
 om 3 0,
 o3 4 (.bin .eql) [.t 3,.y 38],
 om 5 4,
 og 6 .mv [.t 0] 5 false,
 og 7 (.bin .eql) [.t 6,.y 46] 5 false,
 o3 8 .pick [.t 5,.b true,.t 7],
 om 9 8,
 og 10 .mv [.t 0] 9 false,
 og 11 (.bin .eql) [.t 10,.y 54] 9 false,
 o3 12 .pick [.t 9,.b true,.t 11],
 om 13 12,
 og 14 .mv [.t 0] 13 false,
 og 15 (.bin .eql) [.t 14,.y 62] 13 false,
 o3 16 .pick [.t 13,.b true,.t 15],
 om 17 16,
 og 18 .mv [.t 0] 17 false,
 og 19 (.bin .eql) [.t 18,.y 240] 17 false,
 o3 20 .pick [.t 17,.b true,.t 19],
 om 21 20,
 og 22 .mv [.t 0] 21 false,
 og 23 (.bin .eql) [.t 22,.y 242] 21 false,
 o3 24 .pick [.t 21,.b true,.t 23],
 om 25 24,
 og 26 .mv [.t 0] 25 false,
 og 27 (.bin .eql) [.t 26,.y 243] 25 false,
 o3 28 .pick [.t 25,.b true,.t 27],
 om 2 28]
def aat:Ac:=.ret
def aau:Ac:=(so aas aat)
def aav:Ac:=(so aar aau)
def F15:Fn:={ np:=1,pb:=[],rs:=[.t 2],body:=aav }
def aaw:=[
 o3 4 (.alloc [.d (.int .i64 0),.d (.int .i64 0),.d (.int .i64 0),.d (.bool false)]) [],
 o3 5 .mv [.b false]]
def aax:=[
 om 8 0,
 om 9 1,
 o3 10 (.callf 32) [.t 8,.t 9],
 om 6 10]
def aay:=[
 om 11 6,
 o3 12 (.bin .eql) [.t 11,.c (.d (.str [45]))],
 om 13 12,
 og 14 .mv [.t 6] 13 false,
 og 15 (.bin .eql) [.t 14,.c (.d (.str []))] 13 false,
 o3 16 .pick [.t 13,.b true,.t 15]]
def aaz:=[
 o3 17 (.build [.d (.int .i64 0),.d (.int .i64 0),.d (.int .i64 0),.d (.bool false)] []) [],
 o0 (.store 4) [.t 4,.t 17],
 o3 5 .mv [.b false]]
def EP:Ac:=.ret
def aaA:Ac:=(cd 16 (so aaz EP) .skip)
def EQ:=[
 om 18 6,
 o3 19 (.callf 34) [.t 18,.y 58,.i 0],
 o3 20 (.callf 33) [.t 19],
 om 21 6,
 o3 22 (.callf 34) [.t 21,.y 58,.i 1],
 o3 23 (.callf 35) [.c (.d (.str nq)),.t 22],
 om 24 6,
 o3 25 (.callf 34) [.t 24,.y 58,.i 2],
 o3 26 (.callf 35) [.c (.d (.str nq)),.t 25],
 o3 27 (.build [.d (.int .i64 0),.d (.int .i64 0),.d (.int .i64 0),.d (.bool false)] [(0,1),(1,1),(2,1)]) [.t 20,.t 23,.t 26],
 o3 7 (.alloc [.d (.int .i64 0),.d (.int .i64 0),.d (.int .i64 0),.d (.bool false)]) [],
 o0 (.store 4) [.t 7,.t 27]]
def ER:=[
 o3 28 (.faddr 1) [.t 7],
 o3 29 (.load none) [.t 28],
 o3 30 (.callf 36) [.t 29],
 om 31 30,
 og 32 (.faddr 2) [.t 7] 31 false,
 og 33 (.load none) [.t 32] 31 false,
 og 34 (.callf 36) [.t 33] 31 false,
 o3 35 .pick [.t 31,.b true,.t 34],
 o3 36 (.faddr 3) [.t 7],
 o0 (.store 1) [.t 36,.t 35]]
def ES:=[
 o3 37 (.load (some 4)) [.t 7],
 o0 (.store 4) [.t 4,.t 37],
 o3 5 .mv [.b true]]
def ET:Ac:=.ret
def EU:Ac:=(so ES ET)
def EV:Ac:=(so ER EU)
def EW:Ac:=(so EQ EV)
def aaB:Ac:=(.seq (so aay aaA) EW)
def aaC:Ac:=(so aax aaB)
def aaD:Ac:=(so aaw aaC)
def F16:Fn:={ np:=2,pb:=[],rs:=[.c 4 (some 4),.t 5],body:=aaD }
def aaE:=[
 o3 2 (.box 10) [.t 0],
 o3 4 (.alloc [.d (.int .i64 0),.d (.int .i64 0),.d (.int .i64 0),.d (.int .i64 0),.d (.int .i64 0),.d (.int .i64 0),.d (.int .i64 0),.d (.int .i64 0),.d (.bool false),.d (.int .i64 0),.d (.int .i64 0),.d (.bool false)]) []]
def aaF:=[
 om 6 1]
def aaG:=[
 o3 8 (.bin .eql) [.t 6,.i 1],
 om 7 8]
def EX:=[
 o3 9 (.faddr 4) [.t 2],
 o3 10 (.load none) [.t 9],
 o3 11 (.bin .eql) [.t 10,.i 3]]
def EY:=[
 o3 12 (.faddr 6) [.t 2],
 o3 13 (.load none) [.t 12],
 o3 14 (.build [.d (.int .i64 0),.d (.int .i64 0),.d (.int .i64 0),.d (.int .i64 0),.d (.int .i64 0),.d (.int .i64 0),.d (.int .i64 0),.d (.int .i64 0),.d (.bool false),.d (.int .i64 0),.d (.int .i64 0),.d (.bool false)] [(0,1),(1,1)]) [.i 1,.t 13],
 o0 (.store 12) [.t 4,.t 14]]
def EZ:Ac:=.ret
def E0:Ac:=(cd 11 (so EY EZ) .skip)
def E2:=[
 o3 15 (.load (some 10)) [.t 2],
 o3 16 (.callf 37) [.t 15,.i 1],
 o0 (.store 12) [.t 4,.t 16]]
def E3:Ac:=.ret
def E4:Ac:=(so E2 E3)
def E5:=[
 o3 18 (.bin .eql) [.t 6,.i 2],
 om 17 18]
def E6:=[
 o3 19 (.faddr 4) [.t 2],
 o3 20 (.load none) [.t 19],
 o3 21 (.bin .eql) [.t 20,.i 3]]
def E7:=[
 o3 22 (.faddr 6) [.t 2],
 o3 23 (.load none) [.t 22],
 o3 24 (.build [.d (.int .i64 0),.d (.int .i64 0),.d (.int .i64 0),.d (.int .i64 0),.d (.int .i64 0),.d (.int .i64 0),.d (.int .i64 0),.d (.int .i64 0),.d (.bool false),.d (.int .i64 0),.d (.int .i64 0),.d (.bool false)] [(0,1),(1,1)]) [.i 2,.t 23],
 o0 (.store 12) [.t 4,.t 24]]
def E8:Ac:=.ret
def E9:Ac:=(cd 21 (so E7 E8) .skip)
def Fa:=[
 o3 25 (.load (some 10)) [.t 2],
 o3 26 (.callf 37) [.t 25,.i 2],
 o0 (.store 12) [.t 4,.t 26]]
def Fb:Ac:=.ret
def Fc:Ac:=(so Fa Fb)
def Fd:=[
 o3 28 (.bin .eql) [.t 6,.i 3],
 om 27 28]
def Fe:=[
 o3 29 (.faddr 5) [.t 2],
 o3 30 (.load none) [.t 29],
 o3 31 (.build [.d (.int .i64 0),.d (.int .i64 0),.d (.int .i64 0),.d (.int .i64 0),.d (.int .i64 0),.d (.int .i64 0),.d (.int .i64 0),.d (.int .i64 0),.d (.bool false),.d (.int .i64 0),.d (.int .i64 0),.d (.bool false)] [(0,1),(1,1)]) [.i 1,.t 30],
 o0 (.store 12) [.t 4,.t 31]]
def Ff:Ac:=.ret
def Fg:=[
 o3 33 (.bin .eql) [.t 6,.i 4],
 om 32 33]
def Fh:=[
 o3 34 (.faddr 5) [.t 2],
 o3 35 (.load none) [.t 34],
 o3 36 (.build [.d (.int .i64 0),.d (.int .i64 0),.d (.int .i64 0),.d (.int .i64 0),.d (.int .i64 0),.d (.int .i64 0),.d (.int .i64 0),.d (.int .i64 0),.d (.bool false),.d (.int .i64 0),.d (.int .i64 0),.d (.bool false)] [(0,1),(1,1)]) [.i 2,.t 35],
 o0 (.store 12) [.t 4,.t 36]]
def Fi:Ac:=.ret
def Fj:=[
 o3 38 (.bin .eql) [.t 6,.i 5],
 om 37 38]
def Fk:=[
 o3 39 (.faddr 5) [.t 2],
 o3 40 (.load none) [.t 39],
 o3 41 (.build [.d (.int .i64 0),.d (.int .i64 0),.d (.int .i64 0),.d (.int .i64 0),.d (.int .i64 0),.d (.int .i64 0),.d (.int .i64 0),.d (.int .i64 0),.d (.bool false),.d (.int .i64 0),.d (.int .i64 0),.d (.bool false)] [(0,1),(1,1)]) [.i 3,.t 40],
 o0 (.store 12) [.t 4,.t 41]]
def Fl:Ac:=.ret
def Fm:=[
 o3 43 (.bin .eql) [.t 6,.i 6],
 om 42 43]
def Fo:=[
 o3 44 (.bin .eql) [.t 6,.i 7],
 om 42 44]
def Fp:Ac:=(cd 42 .skip (.ops Fo))
def Fr:=[
 o3 45 (.faddr 8) [.t 2],
 o3 46 (.load none) [.t 45],
 o3 47 (.callf 38) [.t 46],
 o0 (.store 12) [.t 4,.t 47]]
def Fs:Ac:=.ret
def Ft:=[
 o3 49 (.bin .eql) [.t 6,.i 8],
 om 48 49]
def Fu:=[
 o3 50 (.faddr 8) [.t 2],
 o3 51 (.load none) [.t 50],
 o3 52 (.callf 38) [.t 51],
 o3 5 (.alloc [.d (.int .i64 0),.d (.int .i64 0),.d (.int .i64 0),.d (.int .i64 0),.d (.int .i64 0),.d (.int .i64 0),.d (.int .i64 0),.d (.int .i64 0),.d (.bool false),.d (.int .i64 0),.d (.int .i64 0),.d (.bool false)]) [],
 o0 (.store 12) [.t 5,.t 52]]
def Fv:=[
 o3 53 (.faddr 8) [.t 2],
 o3 54 (.load none) [.t 53],
 o3 55 (.toInt .i16) [.t 54],
 o3 56 (.toInt .i64) [.t 55],
 o3 57 (.faddr 3) [.t 5],
 o3 58 (.faddr 0) [.t 57],
 o0 (.store 1) [.t 58,.t 56]]
def Fw:=[
 o3 59 (.load (some 12)) [.t 5],
 o0 (.store 12) [.t 4,.t 59]]
def Fx:Ac:=.ret
def Fy:Ac:=(so Fw Fx)
def FA:Ac:=(so Fv Fy)
def FB:=[
 o3 61 (.bin .eql) [.t 6,.i 12],
 om 60 61]
def FC:=[
 o3 62 (.bin .eql) [.t 6,.i 13],
 om 60 62]
def FD:Ac:=(cd 60 .skip (.ops FC))
def FE:=[
 om 63 1,
 o3 64 (.bin .sub) [.t 63,.i 11],
 o3 65 (.faddr 8) [.t 2],
 o3 66 (.load none) [.t 65],
 o3 67 (.toInt .i64) [.t 66],
 o3 68 (.build [.d (.int .i64 0),.d (.int .i64 0),.d (.int .i64 0),.d (.int .i64 0),.d (.int .i64 0),.d (.bool false)] [(0,1),(5,1)]) [.t 67,.b true],
 o3 69 (.build [.d (.int .i64 0),.d (.int .i64 0),.d (.int .i64 0),.d (.int .i64 0),.d (.int .i64 0),.d (.int .i64 0),.d (.int .i64 0),.d (.int .i64 0),.d (.bool false),.d (.int .i64 0),.d (.int .i64 0),.d (.bool false)] [(0,1),(2,1),(9,1),(3,6)]) [.i 5,.i 8,.t 64,.t 68],
 o0 (.store 12) [.t 4,.t 69]]
def FF:Ac:=.ret
def FG:=[
 o3 71 (.bin .eql) [.t 6,.i 14],
 om 70 71]
def FH:=[
 o3 72 (.bin .eql) [.t 6,.i 15],
 om 70 72]
def FI:Ac:=(cd 70 .skip (.ops FH))
def FJ:=[
 om 73 1,
 o3 74 (.bin .sub) [.t 73,.i 14],
 o3 75 (.build [.d (.int .i64 0),.d (.int .i64 0),.d (.int .i64 0),.d (.int .i64 0),.d (.int .i64 0),.d (.int .i64 0),.d (.int .i64 0),.d (.int .i64 0),.d (.bool false),.d (.int .i64 0),.d (.int .i64 0),.d (.bool false)] [(0,1),(1,1)]) [.i 1,.t 74],
 o0 (.store 12) [.t 4,.t 75]]
def FK:Ac:=.ret
def FL:=[
 o3 77 (.bin .eql) [.t 6,.i 16],
 om 76 77]
def FM:=[
 o3 78 (.build [.d (.int .i64 0),.d (.int .i64 0),.d (.int .i64 0),.d (.int .i64 0),.d (.int .i64 0),.d (.int .i64 0),.d (.int .i64 0),.d (.int .i64 0),.d (.bool false),.d (.int .i64 0),.d (.int .i64 0),.d (.bool false)] [(0,1)]) [.i 2],
 o0 (.store 12) [.t 4,.t 78]]
def FN:Ac:=.ret
def FP:=[
 o3 80 (.bin .eql) [.t 6,.i 17],
 om 79 80]
def AO:=[
 o3 81 (.build [.d (.int .i64 0),.d (.int .i64 0),.d (.int .i64 0),.d (.int .i64 0),.d (.int .i64 0),.d (.int .i64 0),.d (.int .i64 0),.d (.int .i64 0),.d (.bool false),.d (.int .i64 0),.d (.int .i64 0),.d (.bool false)] [(0,1),(1,1)]) [.i 2,.i 2],
 o0 (.store 12) [.t 4,.t 81]]
def AP:Ac:=.ret
def AQ:=[
 o3 83 (.bin .eql) [.t 6,.i 18],
 om 82 83]
def AR:=[
 o3 84 (.callf 38) [.w 1],
 o0 (.store 12) [.t 4,.t 84]]
def AS:Ac:=.ret
def AT:=[
 o3 86 (.bin .eql) [.t 6,.i 19],
 om 85 86]
def AU:=[
 o3 87 (.load (some 10)) [.t 2],
 o3 88 (.callf 37) [.t 87,.i 4],
 o0 (.store 12) [.t 4,.t 88]]
def AV:Ac:=.ret
def AW:=[
 o3 90 (.bin .eql) [.t 6,.i 20],
 om 89 90]
def AX:=[
 o3 91 (.load (some 10)) [.t 2],
 o3 92 (.callf 37) [.t 91,.i 0],
 o0 (.store 12) [.t 4,.t 92]]
def AY:Ac:=.ret
def AZ:=[
 o3 94 (.bin .eql) [.t 6,.i 21],
 om 93 94]
def A0:=[
 o3 95 (.faddr 3) [.t 2],
 o3 96 (.load none) [.t 95],
 o3 97 (.bin .rem) [.t 96,.y 8],
 o3 98 (.toInt .i64) [.t 97],
 o3 99 (.build [.d (.int .i64 0),.d (.int .i64 0),.d (.int .i64 0),.d (.int .i64 0),.d (.int .i64 0),.d (.int .i64 0),.d (.int .i64 0),.d (.int .i64 0),.d (.bool false),.d (.int .i64 0),.d (.int .i64 0),.d (.bool false)] [(0,1),(1,1)]) [.i 1,.t 98],
 o0 (.store 12) [.t 4,.t 99]]
def A1:Ac:=.ret
def A6:=[
 o3 101 (.bin .eql) [.t 6,.i 22],
 om 100 101]
def A7:=[
 o3 102 (.faddr 3) [.t 2],
 o3 103 (.load none) [.t 102],
 o3 104 (.bin .rem) [.t 103,.y 8],
 o3 105 (.toInt .i64) [.t 104],
 o3 106 (.build [.d (.int .i64 0),.d (.int .i64 0),.d (.int .i64 0),.d (.int .i64 0),.d (.int .i64 0),.d (.int .i64 0),.d (.int .i64 0),.d (.int .i64 0),.d (.bool false),.d (.int .i64 0),.d (.int .i64 0),.d (.bool false)] [(0,1),(1,1)]) [.i 2,.t 105],
 o0 (.store 12) [.t 4,.t 106]]
def A9:Ac:=.ret
def Ba:=[
 o3 108 (.bin .eql) [.t 6,.i 23],
 om 107 108]
def Bb:=[
 o3 109 (.faddr 3) [.t 2],
 o3 110 (.load none) [.t 109],
 o3 111 (.bin .quo) [.t 110,.y 8],
 o3 112 (.bin .rem) [.t 111,.y 4],
 o3 113 (.toInt .i64) [.t 112],
 o3 114 (.build [.d (.int .i64 0),.d (.int .i64 0),.d (.int .i64 0),.d (.int .i64 0),.d (.int .i64 0),.d (.int .i64 0),.d (.int .i64 0),.d (.int .i64 0),.d (.bool false),.d (.int .i64 0),.d (.int .i64 0),.d (.bool false)] [(0,1),(1,1)]) [.i 3,.t 113],
 o0 (.store 12) [.t 4,.t 114]]
def Bc:Ac:=.ret
def Bd:=[
 o3 116 (.bin .eql) [.t 6,.i 24],
 om 115 116]
def Be:=[
 o3 117 (.callf 38) [.w 3],
 o0 (.store 12) [.t 4,.t 117]]
def Bf:Ac:=.ret
def Bg:Ac:=(cd 115 (so Be Bf) .skip)
def Bh:Ac:=(cd 107 (so Bb Bc) (so Bd Bg))
def Bi:Ac:=(cd 100 (so A7 A9) (so Ba Bh))
def Bj:Ac:=(cd 93 (so A0 A1) (so A6 Bi))
def Bk:Ac:=(cd 89 (so AX AY) (so AZ Bj))
def Bl:Ac:=(cd 85 (so AU AV) (so AW Bk))
def Bm:Ac:=(cd 82 (so AR AS) (so AT Bl))
def Bn:Ac:=(cd 79 (so AO AP) (so AQ Bm))
def FR:Ac:=(cd 76 (so FM FN) (so FP Bn))
def zq:Ac:=(cd 70 (so FJ FK) (so FL FR))
def FS:Ac:=(.seq (.gh []) (.seq (.keep [1,2,4,6,70] [[2],[4]]) zq))
def zr:Ac:=(cd 60 (so FE FF) (.seq (so FG FI) FS))
def FT:Ac:=(.seq (.gh []) (.seq (.keep [1,2,4,6,60] [[2],[4]]) zr))
def FU:Ac:=(cd 48 (so Fu FA) (.seq (so FB FD) FT))
def zs:Ac:=(cd 42 (so Fr Fs) (so Ft FU))
def FV:Ac:=(.seq (.gh []) (.seq (.keep [1,2,4,6,42] [[2],[4]]) zs))
def FW:Ac:=(cd 37 (so Fk Fl) (.seq (so Fm Fp) FV))
def FX:Ac:=(cd 32 (so Fh Fi) (so Fj FW))
def FY:Ac:=(cd 27 (so Fe Ff) (so Fg FX))
def F0:Ac:=(cd 17 (.seq (so E6 E9) Fc) (so Fd FY))
def aaH:Ac:=(cd 7 (.seq (so EX E0) E4) (so E5 F0))
def aaI:Ac:=(.block 0 (so aaG aaH))
def Bo:=[
 o3 118 (.build [.d (.int .i64 0),.d (.int .i64 0),.d (.int .i64 0),.d (.int .i64 0),.d (.int .i64 0),.d (.int .i64 0),.d (.int .i64 0),.d (.int .i64 0),.d (.bool false),.d (.int .i64 0),.d (.int .i64 0),.d (.bool false)] []) [],
 o0 (.store 12) [.t 4,.t 118]]
def Bp:Ac:=.ret
def pf:Ac:=(so Bo Bp)
def aaJ:Ac:=(.seq (so aaF aaI) pf)
def aaK:Ac:=(so aaE aaJ)
def F17:Fn:={ np:=2,pb:=[],rs:=[.c 4 (some 12)],body:=aaK }
def aaL:=[
 o3 4 (.box 24) [.t 1],
 o3 6 (.alloc [.d (.bool false),.d (.int .i64 0),.d (.int .i64 0),.d (.int .u8 0),.d (.int .i64 0),.d (.int .i64 0),.d (.int .i64 0),.d (.int .u16 0),.d (.int .u16 0),.d (.int .u16 0),.d (.int .i64 0),.d (.int .i64 0),.d (.int .i64 0),.d (.int .i64 0),.d (.int .i64 0),.d (.bool false),.d (.int .i64 0),.d (.int .i64 0),.d (.int .i64 0),.d (.int .i64 0),.d (.int .i64 0),.d (.bool false),.d (.bool false),.d (.bool false),.d (.bool false)]) [],
 o3 7 .mv [.i 0]]
def aaM:=[
 om 12 0,
 o3 13 (.callf 39) [.t 12],
 om 11 13,
 oe 14 0 11,
 oe 15 1 11,
 om 8 14,
 om 9 15]
def aaN:=[
 om 16 8,
 o3 17 (.load (some 24)) [.t 4],
 o3 18 (.callf 8) [.t 16,.t 17],
 om 10 18]
def aaO:=[
 om 19 9,
 o3 20 (.bin .gtr) [.t 19,.i 0]]
def F1:=[
 om 21 10,
 om 22 9,
 o3 23 (.load (some 24)) [.t 4],
 o3 24 (.callf 8) [.t 22,.t 23],
 o3 25 (.append 25 168 false) [.t 21,.t 24],
 om 10 25]
def aaP:Ac:=(cd 20 (.ops F1) .skip)
def F2:=[
 om 26 10,
 o3 27 .lenL [.t 26],
 o3 28 (.bin .eql) [.t 27,.i 0]]
def Ga:=[
 o3 29 (.build [.d (.bool false),.d (.int .i64 0),.d (.int .i64 0),.d (.int .u8 0),.d (.int .i64 0),.d (.int .i64 0),.d (.int .i64 0),.d (.int .u16 0),.d (.int .u16 0),.d (.int .u16 0),.d (.int .i64 0),.d (.int .i64 0),.d (.int .i64 0),.d (.int .i64 0),.d (.int .i64 0),.d (.bool false),.d (.int .i64 0),.d (.int .i64 0),.d (.int .i64 0),.d (.int .i64 0),.d (.int .i64 0),.d (.bool false),.d (.bool false),.d (.bool false),.d (.bool false)] []) [],
 o0 (.store 25) [.t 6,.t 29],
 o3 7 .mv [.i 6]]
def Gb:Ac:=.ret
def Gc:Ac:=(cd 28 (so Ga Gb) .skip)
def Gd:=[
 om 30 2,
 om 31 30,
 og 32 .mv [.t 10] 31 true,
 og 33 (.iaddrS 25) [.t 32,.i 0] 31 true,
 og 34 (.faddr 24) [.t 33] 31 true,
 og 35 (.load none) [.t 34] 31 true,
 o3 36 .pick [.t 31,.t 35,.b false],
 om 37 36,
 og 38 .mv [.t 10] 37 true,
 og 39 .lenL [.t 38] 37 true,
 og 40 (.bin .gtr) [.t 39,.i 1] 37 true,
 o3 41 .pick [.t 37,.t 40,.b false]]
def Ge:=[
 om 42 10,
 o3 43 (.iaddrS 25) [.t 42,.i 1],
 o3 44 (.load (some 25)) [.t 43],
 o0 (.store 25) [.t 6,.t 44],
 o3 7 .mv [.i 0]]
def Gf:Ac:=.ret
def Gg:Ac:=(cd 41 (so Ge Gf) .skip)
def Gi:=[
 om 45 10,
 o3 46 (.iaddrS 25) [.t 45,.i 0],
 o3 47 (.load (some 25)) [.t 46],
 o0 (.store 25) [.t 6,.t 47],
 o3 7 .mv [.i 0]]
def Gj:Ac:=.ret
def Gk:Ac:=(so Gi Gj)
def Gl:Ac:=(.seq (so Gd Gg) Gk)
def zt:Ac:=(.seq (so F2 Gc) Gl)
def Gm:Ac:=(.seq (.gh []) (.seq (.keep [2,6,10] [[6],[18]]) zt))
def aaQ:Ac:=(.seq (so aaO aaP) Gm)
def aaR:Ac:=(so aaN aaQ)
def aaS:Ac:=(so aaM aaR)
def aaT:Ac:=(so aaL aaS)
def F18:Fn:={ np:=3,pb:=[],rs:=[.c 6 (some 25),.t 7],body:=aaT }
def aaU:=[
 o3 2 .mv [.b false]]
def aaV:=[
 om 3 0]
def aaW:=[
 o3 5 (.bin .eql) [.t 3,.y 128],
 om 4 5]
def Gn:=[
 o3 6 (.bin .eql) [.t 3,.y 129],
 om 4 6]
def Gp:=[
 o3 7 (.bin .eql) [.t 3,.y 131],
 om 4 7]
def Gq:=[
 o3 8 (.bin .eql) [.t 3,.y 143],
 om 4 8]
def Gr:=[
 o3 9 (.bin .eql) [.t 3,.y 198],
 om 4 9]
def Gt:=[
 o3 10 (.bin .eql) [.t 3,.y 199],
 om 4 10]
def Gu:=[
 o3 11 (.bin .eql) [.t 3,.y 208],
 om 4 11]
def Gv:=[
 o3 12 (.bin .eql) [.t 3,.y 209],
 om 4 12]
def Gw:=[
 o3 13 (.bin .eql) [.t 3,.y 210],
 om 4 13]
def Gx:=[
 o3 14 (.bin .eql) [.t 3,.y 211],
 om 4 14]
def Gy:=[
 o3 15 (.bin .eql) [.t 3,.y 246],
 om 4 15]
def Gz:=[
 o3 16 (.bin .eql) [.t 3,.y 247],
 om 4 16]
def GA:=[
 o3 17 (.bin .eql) [.t 3,.y 254],
 om 4 17]
def GB:=[
 o3 18 (.bin .eql) [.t 3,.y 255],
 om 4 18]
def GC:Ac:=(cd 4 .skip (.ops GB))
def GD:Ac:=(cd 4 .skip (so GA GC))
def GE:Ac:=(cd 4 .skip (so Gz GD))
def GF:Ac:=(cd 4 .skip (so Gy GE))
def GG:Ac:=(cd 4 .skip (so Gx GF))
def GH:Ac:=(cd 4 .skip (so Gw GG))
def GI:Ac:=(cd 4 .skip (so Gv GH))
def GJ:Ac:=(cd 4 .skip (so Gu GI))
def GK:Ac:=(cd 4 .skip (so Gt GJ))
def GL:Ac:=(cd 4 .skip (so Gr GK))
def GM:Ac:=(cd 4 .skip (so Gq GL))
def GN:Ac:=(cd 4 .skip (so Gp GM))
def aaX:Ac:=(cd 4 .skip (so Gn GN))
def GO:=[
 o3 2 .mv [.b true]]
def GP:Ac:=.ret
def GQ:Ac:=(cd 4 (so GO GP) .skip)
def aaY:Ac:=(.block 0 (.seq (so aaW aaX) GQ))
def GR:=[
 o3 2 .mv [.b false]]
def GS:Ac:=.ret
def GT:Ac:=(so GR GS)
def aaZ:Ac:=(.seq (so aaV aaY) GT)
def aa0:Ac:=(so aaU aaZ)
def F19:Fn:={ np:=1,pb:=[],rs:=[.t 2],body:=aa0 }
def aa1:=[
 o3 2 .mv [.b false]]
def aa2:=[
 om 3 0]
def aa3:=[
 o3 5 (.bin .eql) [.t 3,.y 38],
 om 4 5]
def GU:=[
 o3 6 (.bin .eql) [.t 3,.y 46],
 om 4 6]
def GV:=[
 o3 7 (.bin .eql) [.t 3,.y 54],
 om 4 7]
def GW:=[
 o3 8 (.bin .eql) [.t 3,.y 62],
 om 4 8]
def GX:=[
 o3 9 (.bin .eql) [.t 3,.y 240],
 om 4 9]
def GY:=[
 o3 10 (.bin .eql) [.t 3,.y 242],
 om 4 10]
def GZ:=[
 o3 11 (.bin .eql) [.t 3,.y 243],
 om 4 11]
def G0:Ac:=(cd 4 .skip (.ops GZ))
def G2:Ac:=(cd 4 .skip (so GY G0))
def G3:Ac:=(cd 4 .skip (so GX G2))
def G4:Ac:=(cd 4 .skip (so GW G3))
def G5:Ac:=(cd 4 .skip (so GV G4))
def aa4:Ac:=(cd 4 .skip (so GU G5))
def G6:=[
 o3 2 .mv [.b true]]
def G7:Ac:=.ret
def G8:Ac:=(cd 4 (so G6 G7) .skip)
def aa5:Ac:=(.block 0 (.seq (so aa3 aa4) G8))
def G9:=[
 o3 2 .mv [.b false]]
def Ha:Ac:=.ret
def Hb:Ac:=(so G9 Ha)
def aa6:Ac:=(.seq (so aa2 aa5) Hb)
def aa7:Ac:=(so aa1 aa6)
def F20:Fn:={ np:=1,pb:=[],rs:=[.t 2],body:=aa7 }
def aa8:=[
 o3 4 (.alloc [.d (.int .i64 0),.d (.int .i64 0),.d (.int .i64 0),.d (.bool false)]) [],
 o3 5 .mv [.b false]]
def aa9:=[
 om 7 1,
 o3 8 (.bin .and) [.t 7,.i 7],
 om 1 8]
def aba:=[
 om 10 0,
 o3 11 (.bin .lss) [.t 10,.y 64],
 om 9 11]
def Hc:=[
 om 12 0,
 o3 13 (.callf 40) [.t 12],
 oe 14 0 13,
 oe 15 1 13,
 o0 (.store 4) [.t 4,.t 14],
 om 5 15]
def Hd:Ac:=.ret
def He:=[
 om 17 0,
 o3 18 (.bin .lss) [.t 17,.y 96],
 om 16 18]
def Hf:=[
 o3 19 (.bslice (.int .i64 0) 4 [0,1,2,3]) [.i 15,.i 16,.i 9,.i 10],
 om 20 0,
 o3 21 (.bin .sub) [.t 20,.y 64],
 o3 22 (.bin .shr) [.t 21,.c (.d (.int .u64 3))],
 o3 23 (.iaddrS 1) [.t 19,.t 22],
 o3 24 (.load none) [.t 23],
 om 6 24]
def Hg:=[
 om 25 6,
 o3 26 (.callf 41) [.t 25,.i 22,.i 0],
 oe 27 0 26,
 oe 28 1 26,
 o0 (.store 4) [.t 4,.t 27],
 om 5 28]
def Hh:Ac:=.ret
def Hi:Ac:=(so Hg Hh)
def Hj:=[
 om 30 0,
 o3 31 (.bin .lss) [.t 30,.y 112],
 om 29 31]
def Hk:=[
 o3 32 (.callf 42) [],
 oe 33 0 32,
 oe 34 1 32,
 o0 (.store 4) [.t 4,.t 33],
 om 5 34]
def Hl:Ac:=.ret
def Hm:=[
 om 36 0,
 o3 37 (.bin .lss) [.t 36,.y 128],
 om 35 37]
def Hn:=[
 om 38 0,
 o3 39 (.bin .sub) [.t 38,.y 112],
 o3 40 (.toInt .i64) [.t 39],
 o3 41 (.bin .add) [.i 17,.t 40],
 o3 42 (.callf 41) [.t 41,.i 9,.i 0],
 oe 43 0 42,
 oe 44 1 42,
 o0 (.store 4) [.t 4,.t 43],
 om 5 44]
def Ho:Ac:=.ret
def Hp:=[
 om 46 0,
 o3 47 (.bin .lss) [.t 46,.y 144],
 om 45 47]
def Hq:=[
 om 48 0,
 om 49 1,
 o3 50 (.callf 43) [.t 48,.t 49],
 oe 51 0 50,
 oe 52 1 50,
 o0 (.store 4) [.t 4,.t 51],
 om 5 52]
def Hr:Ac:=.ret
def Hs:=[
 om 54 0,
 o3 55 (.bin .lss) [.t 54,.y 160],
 om 53 55]
def Ht:=[
 om 56 0,
 o3 57 (.callf 44) [.t 56],
 oe 58 0 57,
 oe 59 1 57,
 o0 (.store 4) [.t 4,.t 58],
 om 5 59]
def Hu:Ac:=.ret
def Hv:=[
 om 61 0,
 o3 62 (.bin .lss) [.t 61,.y 176],
 om 60 62]
def Hw:=[
 om 63 0,
 o3 64 (.callf 45) [.t 63],
 oe 65 0 64,
 oe 66 1 64,
 o0 (.store 4) [.t 4,.t 65],
 om 5 66]
def Hx:Ac:=.ret
def Hy:=[
 om 68 0,
 o3 69 (.bin .lss) [.t 68,.y 184],
 om 67 69]
def Hz:=[
 o3 70 (.callf 41) [.i 35,.i 21,.i 6],
 oe 71 0 70,
 oe 72 1 70,
 o0 (.store 4) [.t 4,.t 71],
 om 5 72]
def HA:Ac:=.ret
def HB:=[
 om 74 0,
 o3 75 (.bin .lss) [.t 74,.y 192],
 om 73 75]
def HC:=[
 o3 76 (.callf 41) [.i 35,.i 22,.i 7],
 oe 77 0 76,
 oe 78 1 76,
 o0 (.store 4) [.t 4,.t 77],
 om 5 78]
def HD:Ac:=.ret
def HE:=[
 om 80 0,
 o3 81 (.bin .lss) [.t 80,.y 208],
 om 79 81]
def HF:=[
 om 82 0,
 om 83 1,
 o3 84 (.callf 46) [.t 82,.t 83],
 oe 85 0 84,
 oe 86 1 84,
 o0 (.store 4) [.t 4,.t 85],
 om 5 86]
def HG:Ac:=.ret
def HH:=[
 om 88 0,
 o3 89 (.bin .lss) [.t 88,.y 224],
 om 87 89]
def HI:=[
 om 90 0,
 om 91 1,
 o3 92 (.callf 47) [.t 90,.t 91],
 oe 93 0 92,
 oe 94 1 92,
 o0 (.store 4) [.t 4,.t 93],
 om 5 94]
def HJ:Ac:=.ret
def HK:=[
 om 96 0,
 o3 97 (.bin .lss) [.t 96,.y 240],
 om 95 97]
def HL:=[
 om 98 0,
 o3 99 (.callf 48) [.t 98],
 oe 100 0 99,
 oe 101 1 99,
 o0 (.store 4) [.t 4,.t 100],
 om 5 101]
def HM:Ac:=.ret
def HN:Ac:=(cd 95 (so HL HM) .skip)
def HO:Ac:=(cd 87 (so HI HJ) (so HK HN))
def HP:Ac:=(cd 79 (so HF HG) (so HH HO))
def HQ:Ac:=(cd 73 (so HC HD) (so HE HP))
def HR:Ac:=(cd 67 (so Hz HA) (so HB HQ))
def HS:Ac:=(cd 60 (so Hw Hx) (so Hy HR))
def HT:Ac:=(cd 53 (so Ht Hu) (so Hv HS))
def HU:Ac:=(cd 45 (so Hq Hr) (so Hs HT))
def HV:Ac:=(cd 35 (so Hn Ho) (so Hp HU))
def HW:Ac:=(cd 29 (so Hk Hl) (so Hm HV))
def HX:Ac:=(cd 16 (so Hf Hi) (so Hj HW))
def abb:Ac:=(cd 9 (so Hc Hd) (so He HX))
def HY:=[
 om 102 0,
 om 103 1,
 o3 104 (.callf 49) [.t 102,.t 103],
 oe 105 0 104,
 oe 106 1 104,
 o0 (.store 4) [.t 4,.t 105],
 om 5 106]
def HZ:Ac:=.ret
def H0:Ac:=(so HY HZ)
def abc:Ac:=(.seq (.block 0 (so aba abb)) H0)
def abd:Ac:=(so aa9 abc)
def abe:Ac:=(so aa8 abd)
def F21:Fn:={ np:=2,pb:=[],rs:=[.c 4 (some 4),.t 5],body:=abe }
def abf:=[
 o3 4 (.box 12) [.t 1],
 o3 6 .mv [.b false]]
def abg:=[
 om 7 0]
def abh:=[
 o3 9 (.bin .eql) [.t 7,.i 0],
 om 8 9]
def H1:=[
 o3 10 (.faddr 0) [.t 4],
 o3 11 (.load none) [.t 10],
 o3 12 (.bin .eql) [.t 11,.i 0],
 om 6 12]
def H2:Ac:=.ret
def H3:=[
 o3 14 (.bin .eql) [.t 7,.i 1],
 om 13 14]
def H4:=[
 o3 15 (.faddr 0) [.t 4],
 o3 16 (.load none) [.t 15],
 o3 17 (.bin .eql) [.t 16,.i 1],
 om 18 17,
 og 19 (.load (some 12)) [.t 4] 18 false,
 og 20 (.callf 50) [.t 19,.i 1] 18 false,
 o3 21 .pick [.t 18,.b true,.t 20],
 om 6 21]
def H5:Ac:=.ret
def H6:=[
 o3 23 (.bin .eql) [.t 7,.i 2],
 om 22 23]
def H7:=[
 o3 24 (.faddr 0) [.t 4],
 o3 25 (.load none) [.t 24],
 o3 26 (.bin .eql) [.t 25,.i 2],
 om 27 26,
 og 28 (.load (some 12)) [.t 4] 27 false,
 og 29 (.callf 50) [.t 28,.i 2] 27 false,
 o3 30 .pick [.t 27,.b true,.t 29],
 om 6 30]
def H8:Ac:=.ret
def H9:=[
 o3 32 (.bin .eql) [.t 7,.i 3],
 om 31 32]
def Ia:=[
 o3 33 (.faddr 0) [.t 4],
 o3 34 (.load none) [.t 33],
 o3 35 (.bin .eql) [.t 34,.i 1],
 om 6 35]
def Ib:Ac:=.ret
def Ic:=[
 o3 37 (.bin .eql) [.t 7,.i 4],
 om 36 37]
def Ie:=[
 o3 38 (.faddr 0) [.t 4],
 o3 39 (.load none) [.t 38],
 o3 40 (.bin .eql) [.t 39,.i 2],
 om 6 40]
def If:Ac:=.ret
def Ig:=[
 o3 42 (.bin .eql) [.t 7,.i 5],
 om 41 42]
def Ih:=[
 o3 43 (.faddr 0) [.t 4],
 o3 44 (.load none) [.t 43],
 o3 45 (.bin .eql) [.t 44,.i 3],
 om 6 45]
def Ii:Ac:=.ret
def Ij:=[
 o3 47 (.bin .eql) [.t 7,.i 6],
 om 46 47]
def Ik:=[
 o3 48 (.load (some 12)) [.t 4],
 o3 49 (.callf 51) [.t 48],
 om 50 49,
 og 51 (.faddr 3) [.t 4] 50 true,
 og 52 (.faddr 0) [.t 51] 50 true,
 og 53 (.load none) [.t 52] 50 true,
 og 54 (.callf 52) [.t 53,.i 1] 50 true,
 o3 55 .pick [.t 50,.t 54,.b false],
 om 6 55]
def Il:Ac:=.ret
def Im:=[
 o3 57 (.bin .eql) [.t 7,.i 7],
 om 56 57]
def In:=[
 o3 58 (.load (some 12)) [.t 4],
 o3 59 (.callf 53) [.t 58],
 om 60 59,
 og 61 (.faddr 3) [.t 4] 60 true,
 og 62 (.load (some 6)) [.t 61] 60 true,
 og 63 (.callf 54) [.t 62] 60 true,
 og 64 (.un .not) [.t 63] 60 true,
 og 65 .mv [.t 64] 60 true,
 og 66 (.faddr 3) [.t 4] 65 false,
 og 67 (.faddr 0) [.t 66] 65 false,
 og 68 (.load none) [.t 67] 65 false,
 og 69 (.callf 52) [.t 68,.i 2] 65 false,
 og 70 .pick [.t 65,.b true,.t 69] 60 true,
 o3 71 .pick [.t 60,.t 70,.b false],
 om 6 71]
def Io:Ac:=.ret
def Ip:=[
 o3 73 (.bin .eql) [.t 7,.i 8],
 om 72 73]
def Iq:=[
 o3 74 (.load (some 12)) [.t 4],
 o3 75 (.callf 51) [.t 74],
 om 76 75,
 og 77 (.faddr 3) [.t 4] 76 true,
 og 78 (.faddr 0) [.t 77] 76 true,
 og 79 (.load none) [.t 78] 76 true,
 og 80 (.callf 55) [.t 79] 76 true,
 o3 81 .pick [.t 76,.t 80,.b false],
 om 6 81]
def Ir:Ac:=.ret
def Is:=[
 o3 83 (.bin .eql) [.t 7,.i 9],
 om 82 83]
def It:=[
 o3 84 (.load (some 12)) [.t 4],
 o3 85 (.callf 56) [.t 84,.b false],
 om 6 85]
def Iu:Ac:=.ret
def Iv:=[
 o3 87 (.bin .eql) [.t 7,.i 10],
 om 86 87]
def Iw:=[
 o3 88 (.load (some 12)) [.t 4],
 o3 89 (.callf 56) [.t 88,.b false],
 om 90 89,
 og 91 (.faddr 11) [.t 4] 90 true,
 og 92 (.load none) [.t 91] 90 true,
 og 93 (.un .not) [.t 92] 90 true,
 o3 94 .pick [.t 90,.t 93,.b false],
 om 6 94]
def Ix:Ac:=.ret
def Iy:=[
 o3 96 (.bin .eql) [.t 7,.i 11],
 om 95 96]
def Iz:=[
 o3 97 (.load (some 12)) [.t 4],
 o3 98 (.callf 56) [.t 97,.b true],
 om 99 98,
 og 100 (.faddr 11) [.t 4] 99 true,
 og 101 (.load none) [.t 100] 99 true,
 og 102 (.un .not) [.t 101] 99 true,
 o3 103 .pick [.t 99,.t 102,.b false],
 om 6 103]
def IA:Ac:=.ret
def IB:=[
 o3 105 (.bin .eql) [.t 7,.i 12],
 om 104 105]
def IC:=[
 o3 106 (.load (some 12)) [.t 4],
 o3 107 (.callf 57) [.t 106,.i 1],
 om 6 107]
def ID:Ac:=.ret
def IE:=[
 o3 109 (.bin .eql) [.t 7,.i 13],
 om 108 109]
def IF:=[
 o3 110 (.load (some 12)) [.t 4],
 o3 111 (.callf 57) [.t 110,.i 2],
 om 6 111]
def IG:Ac:=.ret
def II:=[
 o3 113 (.bin .eql) [.t 7,.i 20],
 om 112 113]
def IJ:=[
 o3 114 (.load (some 12)) [.t 4],
 o3 115 (.callf 50) [.t 114,.i 0],
 om 6 115]
def IK:Ac:=.ret
def IL:=[
 o3 117 (.bin .eql) [.t 7,.i 19],
 om 116 117]
def Bq:=[
 o3 118 (.faddr 0) [.t 4],
 o3 119 (.load none) [.t 118],
 o3 120 (.bin .eql) [.t 119,.i 5],
 om 121 120,
 og 122 (.faddr 9) [.t 4] 121 true,
 og 123 (.load none) [.t 122] 121 true,
 og 124 (.bin .eql) [.t 123,.i 4] 121 true,
 og 125 .mv [.t 124] 121 true,
 og 126 (.faddr 9) [.t 4] 125 false,
 og 127 (.load none) [.t 126] 125 false,
 og 128 (.bin .eql) [.t 127,.i 0] 125 false,
 og 129 .pick [.t 125,.b true,.t 128] 121 true,
 o3 130 .pick [.t 121,.t 129,.b false],
 om 6 130]
def Br:Ac:=.ret
def IM:Ac:=(cd 116 (so Bq Br) .skip)
def IN:Ac:=(cd 112 (so IJ IK) (so IL IM))
def qZq:Ac:=(cd 108 (so IF IG) (so II IN))
def IP:Ac:=(cd 104 (so IC ID) (so IE qZq))
def IQ:Ac:=(cd 95 (so Iz IA) (so IB IP))
def IR:Ac:=(cd 86 (so Iw Ix) (so Iy IQ))
def IS:Ac:=(cd 82 (so It Iu) (so Iv IR))
def IT:Ac:=(cd 72 (so Iq Ir) (so Is IS))
def IU:Ac:=(cd 56 (so In Io) (so Ip IT))
def IV:Ac:=(cd 46 (so Ik Il) (so Im IU))
def IW:Ac:=(cd 41 (so Ih Ii) (so Ij IV))
def IX:Ac:=(cd 36 (so Ie If) (so Ig IW))
def IY:Ac:=(cd 31 (so Ia Ib) (so Ic IX))
def IZ:Ac:=(cd 22 (so H7 H8) (so H9 IY))
def I0:Ac:=(cd 13 (so H4 H5) (so H6 IZ))
def abi:Ac:=(cd 8 (so H1 H2) (so H3 I0))
def abj:Ac:=(.block 0 (so abh abi))
def Bs:=[
 om 131 0,
 o3 132 (.load (some 12)) [.t 4],
 om 133 2,
 o3 134 (.callf 58) [.t 131,.t 132,.t 133],
 om 6 134]
def Bt:Ac:=.ret
def Bu:Ac:=(so Bs Bt)
def abk:Ac:=(.seq (so abg abj) Bu)
def abl:Ac:=(so abf abk)
def F22:Fn:={ np:=3,pb:=[],rs:=[.t 6],body:=abl }
def abm:=[
 o3 2 (.box 4) [.t 0],
 o3 3 (.box 24) [.t 1],
 o3 4 .mv [.b false]]
def abn:=[
 o3 8 (.faddr 1) [.t 2],
 o3 9 (.load none) [.t 8],
 o3 10 (.faddr 2) [.t 2],
 o3 11 (.load none) [.t 10],
 o3 12 (.build [.d (.int .i64 0),.d (.int .i64 0)] [(0,1),(1,1)]) [.t 9,.t 11],
 o3 13 .mv [.i 0]]
def abo:=[
 o3 14 (.bin .lss) [.t 13,.i 2]]
def I1:=[
 om 15 13,
 o3 16 (.indexA 2 1 none) [.t 12,.t 13],
 om 5 15,
 om 6 16]
def I2:=[
 om 17 6,
 o3 18 (.bin .eql) [.t 17,.i 1],
 om 19 18,
 og 20 .mv [.t 6] 19 false,
 og 21 (.bin .eql) [.t 20,.i 2] 19 false,
 o3 22 .pick [.t 19,.b true,.t 21],
 om 23 22,
 og 24 .mv [.t 6] 23 false,
 og 25 (.bin .eql) [.t 24,.i 19] 23 false,
 og 26 .mv [.t 25] 23 false,
 og 27 (.faddr 0) [.t 2] 26 true,
 og 28 (.load none) [.t 27] 26 true,
 og 29 (.bin .neq) [.t 28,.i 58] 26 true,
 og 30 .pick [.t 26,.t 29,.b false] 23 false,
 og 31 .mv [.t 30] 23 false,
 og 32 (.faddr 0) [.t 2] 31 true,
 og 33 (.load none) [.t 32] 31 true,
 og 34 (.bin .neq) [.t 33,.i 59] 31 true,
 og 35 .pick [.t 31,.t 34,.b false] 23 false,
 o3 36 .pick [.t 23,.b true,.t 35],
 om 37 36,
 og 38 .mv [.t 5] 37 true,
 og 39 (.iaddrA 2 12) [.t 3,.t 38] 37 true,
 og 40 (.faddr 0) [.t 39] 37 true,
 og 41 (.load none) [.t 40] 37 true,
 og 42 (.bin .eql) [.t 41,.i 5] 37 true,
 o3 43 .pick [.t 37,.t 42,.b false],
 om 44 43,
 og 45 .mv [.t 5] 44 true,
 og 46 (.iaddrA 2 12) [.t 3,.t 45] 44 true,
 og 47 (.faddr 9) [.t 46] 44 true,
 og 48 (.load none) [.t 47] 44 true,
 og 49 (.bin .eql) [.t 48,.i 0] 44 true,
 o3 50 .pick [.t 44,.t 49,.b false]]
def I3:=[
 om 51 5,
 o3 52 (.bin .sub) [.i 1,.t 51],
 o3 53 (.iaddrA 2 12) [.t 3,.t 52],
 o3 54 (.load (some 12)) [.t 53],
 o3 7 (.alloc [.d (.int .i64 0),.d (.int .i64 0),.d (.int .i64 0),.d (.int .i64 0),.d (.int .i64 0),.d (.int .i64 0),.d (.int .i64 0),.d (.int .i64 0),.d (.bool false),.d (.int .i64 0),.d (.int .i64 0),.d (.bool false)]) [],
 o0 (.store 12) [.t 7,.t 54]]
def I4:=[
 o3 55 (.faddr 0) [.t 7],
 o3 56 (.load none) [.t 55],
 o3 57 (.bin .neq) [.t 56,.i 1],
 om 58 57,
 og 59 (.faddr 0) [.t 7] 58 true,
 og 60 (.load none) [.t 59] 58 true,
 og 61 (.bin .neq) [.t 60,.i 2] 58 true,
 o3 62 .pick [.t 58,.t 61,.b false],
 om 63 62,
 og 64 (.faddr 0) [.t 7] 63 true,
 og 65 (.load none) [.t 64] 63 true,
 og 66 (.bin .neq) [.t 65,.i 3] 63 true,
 o3 67 .pick [.t 63,.t 66,.b false],
 om 68 67,
 og 69 (.faddr 2) [.t 2] 68 false,
 og 70 (.load none) [.t 69] 68 false,
 og 71 (.callf 59) [.t 70] 68 false,
 og 72 (.bin .eql) [.t 71,.i 0] 68 false,
 og 73 .mv [.t 72] 68 false,
 og 74 (.faddr 2) [.t 2] 73 true,
 og 75 (.load none) [.t 74] 73 true,
 og 76 (.bin .eql) [.t 75,.i 15] 73 true,
 og 77 .pick [.t 73,.t 76,.b false] 68 false,
 o3 78 .pick [.t 68,.b true,.t 77]]
def I5:=[
 o3 4 .mv [.b false]]
def I6:Ac:=.ret
def I7:Ac:=(cd 78 (so I5 I6) .skip)
def I8:Ac:=(so I4 I7)
def zu:Ac:=(cd 50 (so I3 I8) .skip)
def I9:Ac:=(.seq (.gh []) (.seq (.keep [2,3,5,12,13,50] [[2],[3]]) zu))
def Ja:Ac:=(so I2 I9)
def Jb:=[
 o3 79 (.bin .add) [.t 13,.i 1],
 om 13 79]
def zw:Ac:=(.ops Jb)
def Jc:Ac:=(.seq (.block 1 (so I1 Ja)) zw)
def abp:Ac:=(.seq (cd 14 .skip (.exit 0)) Jc)
def CG:Ac:=(so abo abp)
def abq:Ac:=(.block 0 (.loop (.seq (.gh []) (.seq (.keep [2,3,12,13] [[2],[3]]) CG))))
def Jd:=[
 o3 4 .mv [.b true]]
def Je:Ac:=.ret
def Jf:Ac:=(so Jd Je)
def Jg:Ac:=(.seq (.gh []) (.seq (.keep [] []) Jf))
def abr:Ac:=(.seq (so abn abq) Jg)
def abt:Ac:=(so abm abr)
def F23:Fn:={ np:=2,pb:=[],rs:=[.t 4],body:=abt }
def abu:=[
 o3 6 (.box 4) [.t 2],
 o3 7 (.box 24) [.t 3],
 o3 8 (.alloc [.d (.bool false),.d (.int .i64 0),.d (.int .i64 0),.d (.int .u8 0),.d (.int .i64 0),.d (.int .i64 0),.d (.int .i64 0),.d (.int .u16 0),.d (.int .u16 0),.d (.int .u16 0),.d (.int .i64 0),.d (.int .i64 0),.d (.int .i64 0),.d (.int .i64 0),.d (.int .i64 0),.d (.bool false),.d (.int .i64 0),.d (.int .i64 0),.d (.int .i64 0),.d (.int .i64 0),.d (.int .i64 0),.d (.bool false),.d (.bool false),.d (.bool false),.d (.bool false)]) []]
def abv:=[
 om 12 0,
 o3 13 (.build [.d (.bool false),.d (.int .i64 0),.d (.int .i64 0),.d (.int .u8 0),.d (.int .i64 0),.d (.int .i64 0),.d (.int .i64 0),.d (.int .u16 0),.d (.int .u16 0),.d (.int .u16 0)] [(3,1)]) [.t 12],
 o3 14 (.build [.d (.bool false),.d (.int .i64 0),.d (.int .i64 0),.d (.int .u8 0),.d (.int .i64 0),.d (.int .i64 0),.d (.int .i64 0),.d (.int .u16 0),.d (.int .u16 0),.d (.int .u16 0),.d (.int .i64 0),.d (.int .i64 0),.d (.int .i64 0),.d (.int .i64 0),.d (.int .i64 0),.d (.bool false),.d (.int .i64 0),.d (.int .i64 0),.d (.int .i64 0),.d (.int .i64 0),.d (.int .i64 0),.d (.bool false),.d (.bool false),.d (.bool false),.d (.bool false)] [(0,10)]) [.t 13],
 o3 9 (.alloc [.d (.bool false),.d (.int .i64 0),.d (.int .i64 0),.d (.int .u8 0),.d (.int .i64 0),.d (.int .i64 0),.d (.int .i64 0),.d (.int .u16 0),.d (.int .u16 0),.d (.int .u16 0),.d (.int .i64 0),.d (.int .i64 0),.d (.int .i64 0),.d (.int .i64 0),.d (.int .i64 0),.d (.bool false),.d (.int .i64 0),.d (.int .i64 0),.d (.int .i64 0),.d (.int .i64 0),.d (.int .i64 0),.d (.bool false),.d (.bool false),.d (.bool false),.d (.bool false)]) [],
 o0 (.store 25) [.t 9,.t 14]]
def abw:=[
 o3 15 (.faddr 3) [.t 6],
 o3 16 (.load none) [.t 15],
 om 17 16,
 og 18 .mv [.t 0] 17 true,
 og 19 (.callf 19) [.t 18] 17 true,
 o3 20 .pick [.t 17,.t 19,.b false]]
def abx:=[
 om 21 1,
 o3 22 (.faddr 0) [.t 9],
 o3 23 (.faddr 5) [.t 22],
 o0 (.store 1) [.t 23,.t 21]]
def aby:Ac:=(cd 20 (.ops abx) .skip)
def Jh:=[
 o3 24 (.faddr 1) [.t 6],
 o3 25 (.load none) [.t 24],
 o3 26 (.faddr 2) [.t 6],
 o3 27 (.load none) [.t 26],
 o3 28 (.build [.d (.int .i64 0),.d (.int .i64 0)] [(0,1),(1,1)]) [.t 25,.t 27],
 o3 29 .mv [.i 0]]
def Ji:=[
 o3 30 (.bin .lss) [.t 29,.i 2]]
def Jj:=[
 om 31 29,
 o3 32 (.indexA 2 1 none) [.t 28,.t 29],
 om 10 31,
 om 11 32]
def Jk:=[
 o3 33 (.load (some 25)) [.t 9],
 om 34 11,
 om 35 10,
 o3 36 (.iaddrA 2 12) [.t 7,.t 35],
 o3 37 (.load (some 12)) [.t 36],
  { dst:=some 38,k:=(.callf 61),xs:=[.t 33,.t 34,.t 37],al:=some [] },
 om 39 11,
 om 40 10,
 o3 41 (.iaddrA 2 12) [.t 7,.t 40],
  { dst:=some 42,k:=(.load (some 12)),xs:=[.t 41],av:=[[38]] },
 o3 43 (.callf 60) [.t 38,.t 39,.t 42],
 o0 (.store 25) [.t 9,.t 43]]
def Jl:Ac:=(.ops Jk)
def Jm:=[
 o3 44 (.bin .add) [.t 29,.i 1],
 om 29 44]
def Jn:Ac:=(.ops Jm)
def Jo:Ac:=(.seq (.block 1 (so Jj Jl)) Jn)
def Jp:Ac:=(.seq (cd 30 .skip (.exit 0)) Jo)
def zx:Ac:=(so Ji Jp)
def Jq:Ac:=(.block 0 (.loop (.seq (.gh []) (.seq (.keep [7,8,9,28,29] [[7],[8],[9]]) zx))))
def Jr:=[
 o3 45 (.load (some 25)) [.t 9],
 o0 (.store 25) [.t 8,.t 45]]
def Js:Ac:=.ret
def Jt:Ac:=(so Jr Js)
def Ju:Ac:=(.seq (.gh []) (.seq (.keep [8,9] [[8],[9]]) Jt))
def zy:Ac:=(.seq (so Jh Jq) Ju)
def Jv:Ac:=(.seq (.gh []) (.seq (.keep [6,7,8,9] [[6],[7],[8],[9]]) zy))
def abz:Ac:=(.seq (so abw aby) Jv)
def abA:Ac:=(so abv abz)
def abB:Ac:=(so abu abA)
def F24:Fn:={ np:=4,pb:=[],rs:=[.c 8 (some 25)],body:=abB }
def abC:=[
 o3 1 (.box 10) [.t 0],
 o3 2 .mv [.b false]]
def abD:=[
 o3 6 (.load (some 10)) [.t 1],
 o3 7 (.callf 28) [.t 6],
 om 5 7,
 oe 8 0 5,
 oe 9 1 5,
 o3 3 (.alloc [.d (.int .i64 0),.d (.int .i64 0),.d (.int .i64 0),.d (.bool false)]) [],
 o0 (.store 4) [.t 3,.t 8],
 om 4 9]
def abE:=[
 om 10 4,
 om 11 10,
 og 12 (.load (some 10)) [.t 1] 11 true,
 og 13 (.load (some 4)) [.t 3] 11 true,
 og 14 (.callf 62) [.t 12,.t 13] 11 true,
 o3 15 .pick [.t 11,.t 14,.b false],
 om 16 15,
 og 17 (.load (some 10)) [.t 1] 16 true,
 og 18 (.load (some 4)) [.t 3] 16 true,
 og 19 (.callf 63) [.t 17,.t 18] 16 true,
 o3 20 .pick [.t 16,.t 19,.b false],
 om 21 20,
 og 22 (.load (some 10)) [.t 1] 21 true,
 og 23 (.load (some 4)) [.t 3] 21 true,
 og 24 (.callf 64) [.t 22,.t 23] 21 true,
 o3 25 .pick [.t 21,.t 24,.b false],
 om 2 25]
def abF:Ac:=.ret
def abG:Ac:=(so abE abF)
def abH:Ac:=(so abD abG)
def abI:Ac:=(so abC abH)
def F25:Fn:={ np:=1,pb:=[],rs:=[.t 2],body:=abI }
def abJ:=[
 o3 2 .mv [.c (.nils)]]
def abK:=[
 o3 3 .mv [.c (.nils)]]
def abL:=[
 o3 4 .mv [.i 1]]
def Jw:=[
 om 7 4,
 o3 8 (.bin .leq) [.t 7,.i 12]]
def Jx:Ac:=(cd 8 .skip (.exit 0))
def Jy:=[
 om 11 0,
 o3 12 .lenL [.t 11],
 o3 13 .mv [.i 0]]
def Jz:=[
 o3 14 (.bin .lss) [.t 13,.t 12]]
def JA:=[
 o3 15 (.iaddrS 25) [.t 11,.t 13],
 o3 16 (.load (some 25)) [.t 15],
 o3 6 (.alloc [.d (.bool false),.d (.int .i64 0),.d (.int .i64 0),.d (.int .u8 0),.d (.int .i64 0),.d (.int .i64 0),.d (.int .i64 0),.d (.int .u16 0),.d (.int .u16 0),.d (.int .u16 0),.d (.int .i64 0),.d (.int .i64 0),.d (.int .i64 0),.d (.int .i64 0),.d (.int .i64 0),.d (.bool false),.d (.int .i64 0),.d (.int .i64 0),.d (.int .i64 0),.d (.int .i64 0),.d (.int .i64 0),.d (.bool false),.d (.bool false),.d (.bool false),.d (.bool false)]) [],
 o0 (.store 25) [.t 6,.t 16]]
def JB:=[
 o3 17 (.faddr 0) [.t 6],
 o3 18 (.load (some 10)) [.t 17],
 o3 19 (.callf 10) [.t 18],
 om 20 4,
 o3 21 (.bin .eql) [.t 19,.t 20]]
def JC:=[
 om 22 3,
 o3 23 (.load (some 25)) [.t 6],
 o3 24 (.bslice (.agg [.bool false,.int .i64 0,.int .i64 0,.int .u8 0,.int .i64 0,.int .i64 0,.int .i64 0,.int .u16 0,.int .u16 0,.int .u16 0,.int .i64 0,.int .i64 0,.int .i64 0,.int .i64 0,.int .i64 0,.bool false,.int .i64 0,.int .i64 0,.int .i64 0,.int .i64 0,.int .i64 0,.bool false,.bool false,.bool false,.bool false]) 1 [0]) [.t 23],
 o3 25 (.append 25 168 false) [.t 22,.t 24],
 om 3 25]
def JD:Ac:=(cd 21 (.ops JC) .skip)
def JE:Ac:=(so JB JD)
def JF:=[
 o3 26 (.bin .add) [.t 13,.i 1],
 om 13 26]
def JG:Ac:=(.ops JF)
def JH:Ac:=(.seq (.block 3 (so JA JE)) JG)
def JI:Ac:=(.seq (cd 14 .skip (.exit 2)) JH)
def zz:Ac:=(so Jz JI)
def JJ:Ac:=(.block 2 (.loop (.seq (.gh []) (.seq (.keep [0,3,4,11,12,13] [[3]]) zz))))
def JK:=[
 om 9 4,
 o3 10 (.bin .add) [.t 9,.i 1],
 om 4 10]
def JL:Ac:=(.ops JK)
def JM:Ac:=(.seq (.gh []) (.seq (.keep [0,3,4] [[3]]) JL))
def JN:Ac:=(.seq (.block 1 (so Jy JJ)) JM)
def CH:Ac:=(.seq (so Jw Jx) JN)
def abM:Ac:=(.block 0 (.loop (.seq (.gh []) (.seq (.keep [0,3,4] [[3]]) CH))))
def JO:=[
 om 27 3,
 om 2 27]
def JP:Ac:=.ret
def JQ:Ac:=(so JO JP)
def JR:Ac:=(.seq (.gh []) (.seq (.keep [3] [[3]]) JQ))
def abN:Ac:=(.seq (so abL abM) JR)
def abO:Ac:=(.seq (.gh [.own 3 [3] 25]) (.seq (.keep [0,3] [[3]]) abN))
def abP:Ac:=(so abK abO)
def abQ:Ac:=(so abJ abP)
def F26:Fn:={ np:=1,pb:=[],rs:=[.t 2],body:=abQ }
def abR:=[
 o3 2 .mv [.b false]]
def abS:=[
 om 3 0,
 o3 4 (.bin .lss) [.t 3,.w 128],
 om 5 4,
 og 6 .mv [.t 0] 5 false,
 og 7 (.bin .geq) [.t 6,.w 65408] 5 false,
 o3 8 .pick [.t 5,.b true,.t 7],
 om 2 8]
def abT:Ac:=.ret
def abU:Ac:=(so abS abT)
def abV:Ac:=(so abR abU)
def F27:Fn:={ np:=1,pb:=[],rs:=[.t 2],body:=abV }
def abW:=[
 o3 1 (.box 10) [.t 0],
 o3 2 (.alloc [.d (.int .i64 0),.d (.int .i64 0),.d (.int .i64 0),.d (.bool false)]) [],
 o3 3 .mv [.b false]]
def abX:=[
 o3 4 (.faddr 3) [.t 1],
 o3 5 (.load none) [.t 4],
 o3 6 (.callf 20) [.t 5]]
def abY:=[
 o3 7 (.build [.d (.int .i64 0),.d (.int .i64 0),.d (.int .i64 0),.d (.bool false)] []) [],
 o0 (.store 4) [.t 2,.t 7],
 o3 3 .mv [.b false]]
def abZ:Ac:=.ret
def ab0:Ac:=(cd 6 (so abY abZ) .skip)
def JS:=[
 o3 8 (.faddr 3) [.t 1],
 o3 9 (.load none) [.t 8],
 o3 10 (.faddr 5) [.t 1],
 o3 11 (.load none) [.t 10],
 o3 12 (.callf 21) [.t 9,.t 11],
 oe 13 0 12,
 oe 14 1 12,
 o0 (.store 4) [.t 2,.t 13],
 om 3 14]
def JT:Ac:=.ret
def JU:Ac:=(so JS JT)
def ab1:Ac:=(.seq (so abX ab0) JU)
def ab2:Ac:=(so abW ab1)
def F28:Fn:={ np:=1,pb:=[],rs:=[.c 2 (some 4),.t 3],body:=ab2 }
def ab3:=[
 o3 1 (.box 4) [.t 0],
 o3 2 .mv [.i 0]]
def ab4:=[
 o3 3 (.faddr 1) [.t 1],
 o3 4 (.load none) [.t 3],
  { dst:=some 5,k:=(.callf 59),xs:=[.t 4],al:=some [] },
 o3 6 (.faddr 2) [.t 1],
  { dst:=some 7,k:=(.load none),xs:=[.t 6],av:=[[5]] },
 o3 8 (.callf 59) [.t 7],
 o3 9 (.bin .add) [.t 5,.t 8],
 om 2 9]
def ab5:Ac:=.ret
def ab6:Ac:=(so ab4 ab5)
def ab7:Ac:=(so ab3 ab6)
def F29:Fn:={ np:=1,pb:=[],rs:=[.t 2],body:=ab7 }
def ab8:=[
 o3 4 .mv [.i 0]]
def ab9:=[
 om 6 0,
 o3 7 (.bin .eql) [.t 6,.i 1],
 om 5 7]
def aca:=[
 o3 4 .mv [.i 1]]
def acb:Ac:=.ret
def JV:=[
 om 9 0,
 o3 10 (.bin .eql) [.t 9,.i 2],
 om 8 10]
def JW:=[
 om 11 0,
 o3 12 (.bin .eql) [.t 11,.i 0],
 om 13 12,
 og 14 .mv [.t 1] 13 true,
 og 15 (.bin .eql) [.t 14,.i 6] 13 true,
 o3 16 .pick [.t 13,.t 15,.b false],
 om 8 16]
def JX:Ac:=(cd 8 .skip (.ops JW))
def JY:=[
 o3 4 .mv [.i 2]]
def JZ:Ac:=.ret
def J0:Ac:=(cd 8 (so JY JZ) .skip)
def acd:Ac:=(cd 5 (so aca acb) (.seq (so JV JX) J0))
def J1:=[
 o3 4 .mv [.i 0]]
def J2:Ac:=.ret
def J3:Ac:=(so J1 J2)
def ace:Ac:=(.seq (.block 0 (so ab9 acd)) J3)
def acf:Ac:=(so ab8 ace)
def F30:Fn:={ np:=2,pb:=[],rs:=[.t 4],body:=acf }
def acg:=[
 o3 2 .mv [.c (.d (.str []))]]
def ach:=[
 om 3 0,
 o3 4 (.bin .lss) [.t 3,.i 1],
 om 5 4,
 og 6 .mv [.t 0] 5 false,
 og 7 (.bin .gtr) [.t 6,.i 95] 5 false,
 o3 8 .pick [.t 5,.b true,.t 7]]
def aci:=[
 o3 2 .mv [.c (.d (.str [63]))]]
def acj:Ac:=.ret
def ack:Ac:=(cd 8 (so aci acj) .skip)
def J4:=[
 om 9 0,
 o3 10 (.bin .sub) [.t 9,.i 1],
 o3 11 (.callf 65) [.c (.d (.str lQ)),.t 10],
 om 2 11]
def J5:Ac:=.ret
def J6:Ac:=(so J4 J5)
def acl:Ac:=(.seq (so ach ack) J6)
def acm:Ac:=(so acg acl)
def F31:Fn:={ np:=1,pb:=[],rs:=[.t 2],body:=acm }
def acn:=[
 o3 4 .mv [.c (.d (.str []))]]
def aco:=[
 om 6 0,
 o3 7 (.toInt .i64) [.t 6],
 o3 8 (.callf 65) [.c (.d (.str uI)),.t 7],
 om 5 8]
def acp:=[
 om 9 5,
 o3 10 .lenS [.t 9],
 o3 11 (.bin .gtr) [.t 10,.i 0],
 om 12 11,
 og 13 .mv [.t 5] 12 true,
 og 14 .indexS [.t 13,.i 0] 12 true,
 og 15 (.bin .eql) [.t 14,.y 47] 12 true,
 o3 16 .pick [.t 12,.t 15,.b false]]
def acq:=[
 om 17 5,
 om 18 1,
 o3 19 (.bin .and) [.t 18,.i 7],
 o3 20 (.bin .add) [.t 19,.i 1],
 o3 21 (.callf 34) [.t 17,.y 47,.t 20],
 om 4 21]
def J7:Ac:=.ret
def acr:Ac:=(cd 16 (so acq J7) .skip)
def J8:=[
 om 22 5,
 om 4 22]
def J9:Ac:=.ret
def Ka:Ac:=(so J8 J9)
def acs:Ac:=(.seq (so acp acr) Ka)
def act:Ac:=(so aco acs)
def acu:Ac:=(so acn act)
def F32:Fn:={ np:=2,pb:=[],rs:=[.t 4],body:=acu }
def acv:=[
 o3 2 .mv [.i 0]]
def acw:=[
 om 3 0,
 o3 4 (.callf 35) [.c (.d (.str lQ)),.t 3],
 om 2 4]
def acx:Ac:=.ret
def acy:Ac:=(so acw acx)
def acz:Ac:=(so acv acy)
def F33:Fn:={ np:=1,pb:=[],rs:=[.t 2],body:=acz }
def acA:=[
 o3 6 .mv [.c (.d (.str []))]]
def acB:=[
 o3 7 .mv [.i 0]]
def acC:=[
 o3 8 .mv [.i 0]]
def Kb:=[
 om 9 8,
 om 10 0,
 o3 11 .lenS [.t 10],
 o3 12 (.bin .leq) [.t 9,.t 11]]
def Kc:Ac:=(cd 12 .skip (.exit 0))
def Ke:=[
 om 15 8,
 om 16 0,
 o3 17 .lenS [.t 16],
 o3 18 (.bin .lss) [.t 15,.t 17],
 om 19 18,
 og 20 .mv [.t 0] 19 true,
 og 21 .mv [.t 8] 19 true,
 og 22 .indexS [.t 20,.t 21] 19 true,
 og 23 .mv [.t 1] 19 true,
 og 24 (.bin .neq) [.t 22,.t 23] 19 true,
 o3 25 .pick [.t 19,.t 24,.b false]]
def Kf:Ac:=(cd 25 (.exit 1) .skip)
def Kg:=[
 om 26 2,
 o3 27 (.bin .eql) [.t 26,.i 0]]
def Kh:=[
 om 28 0,
 om 29 7,
 om 30 8,
 o3 31 (.substr true true) [.t 28,.t 29,.t 30],
 om 6 31]
def Ki:Ac:=.ret
def Kj:Ac:=(cd 27 (so Kh Ki) .skip)
def Kk:=[
 om 32 2,
 o3 33 (.bin .sub) [.t 32,.i 1],
 om 2 33]
def Kl:=[
 om 34 8,
 o3 35 (.bin .add) [.t 34,.i 1],
 om 7 35]
def Km:Ac:=(.ops Kl)
def Kn:Ac:=(so Kk Km)
def Ko:Ac:=(.seq (so Kg Kj) Kn)
def Kp:=[
 om 13 8,
 o3 14 (.bin .add) [.t 13,.i 1],
 om 8 14]
def Kq:Ac:=(.ops Kp)
def Kr:Ac:=(.seq (.block 1 (.seq (so Ke Kf) Ko)) Kq)
def CI:Ac:=(.seq (so Kb Kc) Kr)
def acD:Ac:=(.block 0 (.loop (.seq (.gh []) (.seq (.keep [0,1,2,7,8] []) CI))))
def Ks:=[
 o3 6 .mv [.c (.d (.str []))]]
def Kt:Ac:=.ret
def Ku:Ac:=(so Ks Kt)
def Kv:Ac:=(.seq (.gh []) (.seq (.keep [] []) Ku))
def acE:Ac:=(.seq (so acC acD) Kv)
def acF:Ac:=(so acB acE)
def acG:Ac:=(so acA acF)
def F34:Fn:={ np:=3,pb:=[],rs:=[.t 6],body:=acG }
def acH:=[
 o3 4 .mv [.i 0]]
def acI:=[
 o3 5 .mv [.i 1],
 o3 6 .mv [.i 0]]
def acJ:=[
 o3 7 .mv [.i 0]]
def Kw:=[
 om 8 7,
 om 9 0,
 o3 10 .lenS [.t 9],
 o3 11 (.bin .lss) [.t 8,.t 10]]
def Kx:Ac:=(cd 11 .skip (.exit 0))
def Ky:=[
 om 14 0,
 om 15 7,
 o3 16 .indexS [.t 14,.t 15],
 o3 17 (.bin .neq) [.t 16,.y 32]]
def Kz:Ac:=(cd 17 (.exit 1) .skip)
def KA:=[
 om 18 0,
 om 19 6,
 om 20 7,
 o3 21 (.substr true true) [.t 18,.t 19,.t 20],
 om 22 1,
 o3 23 (.bin .eql) [.t 21,.t 22]]
def KB:=[
 om 24 5,
 om 4 24]
def KC:Ac:=.ret
def KD:Ac:=(cd 23 (so KB KC) .skip)
def KE:=[
 om 25 5,
 o3 26 (.bin .add) [.t 25,.i 1],
 om 5 26]
def KF:=[
 om 27 7,
 o3 28 (.bin .add) [.t 27,.i 1],
 om 6 28]
def KG:Ac:=(.ops KF)
def KH:Ac:=(so KE KG)
def KI:Ac:=(.seq (so KA KD) KH)
def KJ:=[
 om 12 7,
 o3 13 (.bin .add) [.t 12,.i 1],
 om 7 13]
def KL:Ac:=(.ops KJ)
def KM:Ac:=(.seq (.block 1 (.seq (so Ky Kz) KI)) KL)
def CJ:Ac:=(.seq (so Kw Kx) KM)
def acK:Ac:=(.block 0 (.loop (.seq (.gh []) (.seq (.keep [0,1,5,6,7] []) CJ))))
def KO:=[
 o3 4 .mv [.i 0]]
def KQ:Ac:=.ret
def KR:Ac:=(so KO KQ)
def KS:Ac:=(.seq (.gh []) (.seq (.keep [] []) KR))
def acL:Ac:=(.seq (so acJ acK) KS)
def acM:Ac:=(so acI acL)
def acN:Ac:=(so acH acM)
def F35:Fn:={ np:=2,pb:=[],rs:=[.t 4],body:=acN }
def acO:=[
 o3 2 .mv [.b false]]
def acP:=[
 om 3 0,
 o3 4 (.bin .geq) [.t 3,.i 1],
 om 5 4,
 og 6 .mv [.t 0] 5 true,
 og 7 (.bin .leq) [.t 6,.i 5] 5 true,
 o3 8 .pick [.t 5,.t 7,.b false],
 om 9 8,
 og 10 .mv [.t 0] 9 false,
 og 11 (.bin .eql) [.t 10,.i 19] 9 false,
 o3 12 .pick [.t 9,.b true,.t 11],
 om 13 12,
 og 14 .mv [.t 0] 13 false,
 og 15 (.bin .eql) [.t 14,.i 20] 13 false,
 o3 16 .pick [.t 13,.b true,.t 15],
 om 2 16]
def acQ:Ac:=.ret
def acR:Ac:=(so acP acQ)
def acS:Ac:=(so acO acR)
def F36:Fn:={ np:=1,pb:=[],rs:=[.t 2],body:=acS }
def acT:=[
 o3 2 (.box 10) [.t 0],
 o3 4 (.alloc [.d (.int .i64 0),.d (.int .i64 0),.d (.int .i64 0),.d (.int .i64 0),.d (.int .i64 0),.d (.int .i64 0),.d (.int .i64 0),.d (.int .i64 0),.d (.bool false),.d (.int .i64 0),.d (.int .i64 0),.d (.bool false)]) []]
def acU:=[
 o3 6 (.faddr 6) [.t 2],
 o3 7 (.load none) [.t 6],
 om 8 1,
 o3 9 (.faddr 7) [.t 2],
 o3 10 (.load none) [.t 9],
 o3 11 (.toInt .i16) [.t 10],
 o3 12 (.toInt .i64) [.t 11],
 o3 13 (.build [.d (.int .i64 0),.d (.int .i64 0),.d (.int .i64 0),.d (.int .i64 0),.d (.int .i64 0),.d (.bool false)] [(0,1),(5,1)]) [.t 12,.b true],
 o3 14 (.build [.d (.int .i64 0),.d (.int .i64 0),.d (.int .i64 0),.d (.int .i64 0),.d (.int .i64 0),.d (.int .i64 0),.d (.int .i64 0),.d (.int .i64 0),.d (.bool false),.d (.int .i64 0),.d (.int .i64 0),.d (.bool false)] [(0,1),(2,1),(9,1),(3,6)]) [.i 5,.t 7,.t 8,.t 13],
 o3 5 (.alloc [.d (.int .i64 0),.d (.int .i64 0),.d (.int .i64 0),.d (.int .i64 0),.d (.int .i64 0),.d (.int .i64 0),.d (.int .i64 0),.d (.int .i64 0),.d (.bool false),.d (.int .i64 0),.d (.int .i64 0),.d (.bool false)]) [],
 o0 (.store 12) [.t 5,.t 14]]
def acV:=[
 o3 15 (.faddr 4) [.t 2],
 o3 16 (.load none) [.t 15],
 o3 17 (.bin .eql) [.t 16,.i 0],
 om 18 17,
 og 19 (.faddr 6) [.t 2] 18 true,
 og 20 (.load none) [.t 19] 18 true,
 og 21 (.bin .eql) [.t 20,.i 6] 18 true,
 o3 22 .pick [.t 18,.t 21,.b false]]
def acW:=[
 o3 23 (.faddr 2) [.t 5],
 o0 (.store 1) [.t 23,.i 8]]
def KT:=[
 o3 24 (.faddr 7) [.t 2],
 o3 25 (.load none) [.t 24],
 o3 26 (.toInt .i64) [.t 25],
 o3 27 (.faddr 3) [.t 5],
 o3 28 (.faddr 0) [.t 27],
 o0 (.store 1) [.t 28,.t 26]]
def KU:Ac:=(.ops KT)
def acX:Ac:=(cd 22 (so acW KU) .skip)
def KV:=[
 o3 29 (.faddr 4) [.t 2],
 o3 30 (.load none) [.t 29],
 o3 31 (.bin .eql) [.t 30,.i 2]]
def KW:=[
 o3 32 (.faddr 7) [.t 2],
 o3 33 (.load none) [.t 32],
 o3 34 (.toInt .i16) [.t 33],
 o3 35 (.toInt .i64) [.t 34],
 o3 36 (.faddr 3) [.t 5],
 o3 37 (.faddr 0) [.t 36],
 o0 (.store 1) [.t 37,.t 35]]
def KX:Ac:=(cd 31 (.ops KW) .skip)
def KY:=[
 o3 38 (.load (some 12)) [.t 5],
 o0 (.store 12) [.t 4,.t 38]]
def KZ:Ac:=.ret
def K0:Ac:=(so KY KZ)
def K1:Ac:=(.seq (so KV KX) K0)
def acY:Ac:=(.seq (so acV acX) K1)
def acZ:Ac:=(so acU acY)
def ac0:Ac:=(so acT acZ)
def F37:Fn:={ np:=2,pb:=[],rs:=[.c 4 (some 12)],body:=ac0 }
def ac1:=[
 o3 2 (.alloc [.d (.int .i64 0),.d (.int .i64 0),.d (.int .i64 0),.d (.int .i64 0),.d (.int .i64 0),.d (.int .i64 0),.d (.int .i64 0),.d (.int .i64 0),.d (.bool false),.d (.int .i64 0),.d (.int .i64 0),.d (.bool false)]) []]
def ac2:=[
 om 3 0,
 o3 4 (.toInt .i64) [.t 3],
 o3 5 (.build [.d (.int .i64 0),.d (.int .i64 0),.d (.int .i64 0),.d (.int .i64 0),.d (.int .i64 0),.d (.bool false)] [(0,1),(5,1)]) [.t 4,.b true],
 o3 6 (.build [.d (.int .i64 0),.d (.int .i64 0),.d (.int .i64 0),.d (.int .i64 0),.d (.int .i64 0),.d (.int .i64 0),.d (.int .i64 0),.d (.int .i64 0),.d (.bool false),.d (.int .i64 0),.d (.int .i64 0),.d (.bool false)] [(0,1),(2,1),(3,6)]) [.i 4,.i 8,.t 5],
 o0 (.store 12) [.t 2,.t 6]]
def ac3:Ac:=.ret
def ac4:Ac:=(so ac2 ac3)
def ac5:Ac:=(so ac1 ac4)
def F38:Fn:={ np:=1,pb:=[],rs:=[.c 2 (some 12)],body:=ac5 }
def ac6:=[
 o3 2 .mv [.i 0],
 o3 3 .mv [.i 0]]
def ac7:=[
 om 5 0,
 o3 6 (.callf 67) [.t 5],
 o3 7 (.callf 66) [.t 6],
 om 4 7]
def ac8:=[
 om 8 4]
def ac9:=[
 o3 10 (.bin .eql) [.t 8,.i 80],
 om 9 10]
def K2:=[
 om 11 4,
 om 2 11,
 o3 3 .mv [.i 81]]
def K3:Ac:=.ret
def K4:=[
 o3 13 (.bin .eql) [.t 8,.i 39],
 om 12 13]
def K5:=[
 om 14 4,
 om 2 14,
 o3 3 .mv [.i 40]]
def K6:Ac:=.ret
def K7:Ac:=(cd 12 (so K5 K6) .skip)
def K8:Ac:=(cd 9 (so K2 K3) (so K4 K7))
def ada:Ac:=(.block 0 (so ac9 K8))
def K9:=[
 om 15 4,
 om 2 15,
 o3 3 .mv [.i 0]]
def La:Ac:=.ret
def Lb:Ac:=(so K9 La)
def adb:Ac:=(.seq (so ac8 ada) Lb)
def adc:Ac:=(so ac7 adb)
def ade:Ac:=(so ac6 adc)
def F39:Fn:={ np:=1,pb:=[],rs:=[.t 2,.t 3],body:=ade }
def adf:=[
 o3 2 (.alloc [.d (.int .i64 0),.d (.int .i64 0),.d (.int .i64 0),.d (.bool false)]) [],
 o3 3 .mv [.b false]]
def adg:=[
 om 5 0,
 o3 6 (.bin .shr) [.t 5,.c (.d (.int .u64 3))],
 o3 7 (.toInt .i64) [.t 6],
 o3 8 (.bin .add) [.i 1,.t 7],
 om 4 8]
def adh:=[
 om 9 0,
 o3 10 (.bin .and) [.t 9,.y 7]]
def adi:=[
 o3 12 (.bin .eql) [.t 10,.y 0],
 om 11 12]
def Lc:=[
 om 13 4,
 o3 14 (.callf 68) [.t 13,.i 1,.i 3],
 oe 15 0 14,
 oe 16 1 14,
 o0 (.store 4) [.t 2,.t 15],
 om 3 16]
def Ld:Ac:=.ret
def Lf:=[
 o3 18 (.bin .eql) [.t 10,.y 1],
 om 17 18]
def Lg:=[
 om 19 4,
 o3 20 (.callf 68) [.t 19,.i 2,.i 4],
 oe 21 0 20,
 oe 22 1 20,
 o0 (.store 4) [.t 2,.t 21],
 om 3 22]
def Lh:Ac:=.ret
def Li:=[
 o3 24 (.bin .eql) [.t 10,.y 2],
 om 23 24]
def Lj:=[
 om 25 4,
 o3 26 (.callf 68) [.t 25,.i 3,.i 1],
 oe 27 0 26,
 oe 28 1 26,
 o0 (.store 4) [.t 2,.t 27],
 om 3 28]
def Lk:Ac:=.ret
def Ll:=[
 o3 30 (.bin .eql) [.t 10,.y 3],
 om 29 30]
def Lm:=[
 om 31 4,
 o3 32 (.callf 68) [.t 31,.i 4,.i 2],
 oe 33 0 32,
 oe 34 1 32,
 o0 (.store 4) [.t 2,.t 33],
 om 3 34]
def Ln:Ac:=.ret
def Lo:=[
 o3 36 (.bin .eql) [.t 10,.y 4],
 om 35 36]
def Lq:=[
 om 37 4,
 o3 38 (.callf 41) [.t 37,.i 14,.i 6],
 oe 39 0 38,
 oe 40 1 38,
 o0 (.store 4) [.t 2,.t 39],
 om 3 40]
def Lr:Ac:=.ret
def Ls:=[
 o3 42 (.bin .eql) [.t 10,.y 5],
 om 41 42]
def Lt:=[
 om 43 4,
 o3 44 (.callf 41) [.t 43,.i 16,.i 7],
 oe 45 0 44,
 oe 46 1 44,
 o0 (.store 4) [.t 2,.t 45],
 om 3 46]
def Lu:Ac:=.ret
def Lv:Ac:=(cd 41 (so Lt Lu) .skip)
def Lw:Ac:=(cd 35 (so Lq Lr) (so Ls Lv))
def Lx:Ac:=(cd 29 (so Lm Ln) (so Lo Lw))
def Ly:Ac:=(cd 23 (so Lj Lk) (so Ll Lx))
def Lz:Ac:=(cd 17 (so Lg Lh) (so Li Ly))
def LA:Ac:=(cd 11 (so Lc Ld) (so Lf Lz))
def adj:Ac:=(.block 0 (so adi LA))
def LB:=[
 om 47 0]
def LC:=[
 o3 49 (.bin .eql) [.t 47,.y 6],
 om 48 49]
def LD:=[
 o3 50 (.bin .eql) [.t 47,.y 14],
 om 48 50]
def LE:=[
 o3 51 (.bin .eql) [.t 47,.y 22],
 om 48 51]
def LF:=[
 o3 52 (.bin .eql) [.t 47,.y 30],
 om 48 52]
def LG:Ac:=(cd 48 .skip (.ops LF))
def LH:Ac:=(cd 48 .skip (so LE LG))
def LI:Ac:=(cd 48 .skip (so LD LH))
def LJ:=[
 o3 53 (.callf 41) [.i 9,.i 23,.i 0],
 oe 54 0 53,
 oe 55 1 53,
 o0 (.store 4) [.t 2,.t 54],
 om 3 55]
def LK:Ac:=.ret
def LL:=[
 o3 57 (.bin .eql) [.t 47,.y 7],
 om 56 57]
def LM:=[
 o3 58 (.bin .eql) [.t 47,.y 23],
 om 56 58]
def LN:=[
 o3 59 (.bin .eql) [.t 47,.y 31],
 om 56 59]
def LO:Ac:=(cd 56 .skip (.ops LN))
def LP:Ac:=(cd 56 .skip (so LM LO))
def LR:=[
 o3 60 (.callf 41) [.i 10,.i 23,.i 0],
 oe 61 0 60,
 oe 62 1 60,
 o0 (.store 4) [.t 2,.t 61],
 om 3 62]
def LS:Ac:=.ret
def LT:=[
 o3 64 (.bin .eql) [.t 47,.y 39],
 om 63 64]
def LU:=[
 o3 65 (.callf 41) [.i 11,.i 0,.i 0],
 oe 66 0 65,
 oe 67 1 65,
 o0 (.store 4) [.t 2,.t 66],
 om 3 67]
def LV:Ac:=.ret
def LW:=[
 o3 69 (.bin .eql) [.t 47,.y 47],
 om 68 69]
def LX:=[
 o3 70 (.callf 41) [.i 12,.i 0,.i 0],
 oe 71 0 70,
 oe 72 1 70,
 o0 (.store 4) [.t 2,.t 71],
 om 3 72]
def LY:Ac:=.ret
def LZ:=[
 o3 74 (.bin .eql) [.t 47,.y 55],
 om 73 74]
def L0:=[
 o3 75 (.callf 41) [.i 13,.i 0,.i 0],
 oe 76 0 75,
 oe 77 1 75,
 o0 (.store 4) [.t 2,.t 76],
 om 3 77]
def L1:Ac:=.ret
def Bv:=[
 o3 79 (.bin .eql) [.t 47,.y 63],
 om 78 79]
def Bw:=[
 o3 80 (.callf 41) [.i 14,.i 0,.i 0],
 oe 81 0 80,
 oe 82 1 80,
 o0 (.store 4) [.t 2,.t 81],
 om 3 82]
def By:Ac:=.ret
def Bz:Ac:=(cd 78 (so Bw By) .skip)
def L2:Ac:=(cd 73 (so L0 L1) (so Bv Bz))
def L3:Ac:=(cd 68 (so LX LY) (so LZ L2))
def L4:Ac:=(cd 63 (so LU LV) (so LW L3))
def zA:Ac:=(cd 56 (so LR LS) (so LT L4))
def L5:Ac:=(.seq (.gh []) (.seq (.keep [2,47,56] [[2]]) zA))
def zB:Ac:=(cd 48 (so LJ LK) (.seq (so LL LP) L5))
def L6:Ac:=(.seq (.gh []) (.seq (.keep [2,47,48] [[2]]) zB))
def L7:Ac:=(.block 1 (.seq (so LC LI) L6))
def BA:=[
 o3 83 (.callf 42) [],
 oe 84 0 83,
 oe 85 1 83,
 o0 (.store 4) [.t 2,.t 84],
 om 3 85]
def BB:Ac:=.ret
def tc:Ac:=(so BA BB)
def L8:Ac:=(.seq (so LB L7) tc)
def adk:Ac:=(.seq (so adh adj) L8)
def adl:Ac:=(so adg adk)
def adm:Ac:=(so adf adl)
def F40:Fn:={ np:=1,pb:=[],rs:=[.c 2 (some 4),.t 3],body:=adm }
def adn:=[
 o3 6 (.alloc [.d (.int .i64 0),.d (.int .i64 0),.d (.int .i64 0),.d (.bool false)]) [],
 o3 7 .mv [.b false]]
def ado:=[
 om 8 0,
 om 9 1,
 om 10 2,
 o3 11 (.build [.d (.int .i64 0),.d (.int .i64 0),.d (.int .i64 0),.d (.bool false)] [(0,1),(1,1),(2,1)]) [.t 8,.t 9,.t 10],
 o0 (.store 4) [.t 6,.t 11],
 o3 7 .mv [.b true]]
def adp:Ac:=.ret
def adq:Ac:=(so ado adp)
def adr:Ac:=(so adn adq)
def F41:Fn:={ np:=3,pb:=[],rs:=[.c 6 (some 4),.t 7],body:=adr }
def ads:=[
 o3 0 (.alloc [.d (.int .i64 0),.d (.int .i64 0),.d (.int .i64 0),.d (.bool false)]) [],
 o3 1 .mv [.b false]]
def adt:=[
 o3 2 (.build [.d (.int .i64 0),.d (.int .i64 0),.d (.int .i64 0),.d (.bool false)] []) [],
 o0 (.store 4) [.t 0,.t 2],
 o3 1 .mv [.b false]]
def adu:Ac:=.ret
def adw:Ac:=(so adt adu)
def adx:Ac:=(so ads adw)
def F42:Fn:={ np:=0,pb:=[],rs:=[.c 0 (some 4),.t 1],body:=adx }
def ady:=[
 o3 4 (.alloc [.d (.int .i64 0),.d (.int .i64 0),.d (.int .i64 0),.d (.bool false)]) [],
 o3 5 .mv [.b false]]
def adz:=[
 om 6 0]
def adA:=[
 o3 8 (.bin .eql) [.t 6,.y 128],
 om 7 8]
def L9:=[
 om 9 1,
 o3 10 (.bin .add) [.i 1,.t 9],
 o3 11 (.callf 68) [.t 10,.i 1,.i 6],
 oe 12 0 11,
 oe 13 1 11,
 o0 (.store 4) [.t 4,.t 12],
 om 5 13]
def Ma:Ac:=.ret
def Mb:=[
 o3 15 (.bin .eql) [.t 6,.y 129],
 om 14 15]
def Mc:=[
 om 16 1,
 o3 17 (.bin .add) [.i 1,.t 16],
 o3 18 (.callf 68) [.t 17,.i 2,.i 7],
 oe 19 0 18,
 oe 20 1 18,
 o0 (.store 4) [.t 4,.t 19],
 om 5 20]
def Md:Ac:=.ret
def Me:=[
 o3 22 (.bin .eql) [.t 6,.y 131],
 om 21 22]
def Mf:=[
 om 23 1,
 o3 24 (.bin .eql) [.t 23,.i 1],
 om 25 24,
 og 26 .mv [.t 1] 25 false,
 og 27 (.bin .eql) [.t 26,.i 4] 25 false,
 o3 28 .pick [.t 25,.b true,.t 27],
 om 29 28,
 og 30 .mv [.t 1] 29 false,
 og 31 (.bin .eql) [.t 30,.i 6] 29 false,
 o3 32 .pick [.t 29,.b true,.t 31]]
def Mg:=[
 o3 33 (.callf 42) [],
 oe 34 0 33,
 oe 35 1 33,
 o0 (.store 4) [.t 4,.t 34],
 om 5 35]
def Mh:Ac:=.ret
def Mi:Ac:=(cd 32 (so Mg Mh) .skip)
def Mj:=[
 om 36 1,
 o3 37 (.bin .add) [.i 1,.t 36],
 o3 38 (.callf 68) [.t 37,.i 2,.i 8],
 oe 39 0 38,
 oe 40 1 38,
 o0 (.store 4) [.t 4,.t 39],
 om 5 40]
def Mk:Ac:=.ret
def Ml:Ac:=(so Mj Mk)
def Mn:=[
 o3 42 (.bin .eql) [.t 6,.y 132],
 om 41 42]
def Mo:=[
 o3 43 (.callf 68) [.i 33,.i 1,.i 3],
 oe 44 0 43,
 oe 45 1 43,
 o0 (.store 4) [.t 4,.t 44],
 om 5 45]
def Mp:Ac:=.ret
def Mq:=[
 o3 47 (.bin .eql) [.t 6,.y 133],
 om 46 47]
def Mr:=[
 o3 48 (.callf 68) [.i 33,.i 2,.i 4],
 oe 49 0 48,
 oe 50 1 48,
 o0 (.store 4) [.t 4,.t 49],
 om 5 50]
def Ms:Ac:=.ret
def Mt:=[
 o3 52 (.bin .eql) [.t 6,.y 134],
 om 51 52]
def Mu:=[
 o3 53 (.callf 68) [.i 34,.i 1,.i 3],
 oe 54 0 53,
 oe 55 1 53,
 o0 (.store 4) [.t 4,.t 54],
 om 5 55]
def Mv:Ac:=.ret
def Mw:=[
 o3 57 (.bin .eql) [.t 6,.y 135],
 om 56 57]
def Mx:=[
 o3 58 (.callf 68) [.i 34,.i 2,.i 4],
 oe 59 0 58,
 oe 60 1 58,
 o0 (.store 4) [.t 4,.t 59],
 om 5 60]
def My:Ac:=.ret
def Mz:=[
 o3 62 (.bin .eql) [.t 6,.y 136],
 om 61 62]
def MA:=[
 o3 63 (.callf 68) [.i 35,.i 1,.i 3],
 oe 64 0 63,
 oe 65 1 63,
 o0 (.store 4) [.t 4,.t 64],
 om 5 65]
def MB:Ac:=.ret
def MC:=[
 o3 67 (.bin .eql) [.t 6,.y 137],
 om 66 67]
def MD:=[
 o3 68 (.callf 68) [.i 35,.i 2,.i 4],
 oe 69 0 68,
 oe 70 1 68,
 o0 (.store 4) [.t 4,.t 69],
 om 5 70]
def ME:Ac:=.ret
def MF:=[
 o3 72 (.bin .eql) [.t 6,.y 138],
 om 71 72]
def MG:=[
 o3 73 (.callf 68) [.i 35,.i 3,.i 1],
 oe 74 0 73,
 oe 75 1 73,
 o0 (.store 4) [.t 4,.t 74],
 om 5 75]
def MH:Ac:=.ret
def MI:=[
 o3 77 (.bin .eql) [.t 6,.y 139],
 om 76 77]
def MJ:=[
 o3 78 (.callf 68) [.i 35,.i 4,.i 2],
 oe 79 0 78,
 oe 80 1 78,
 o0 (.store 4) [.t 4,.t 79],
 om 5 80]
def MK:Ac:=.ret
def ML:=[
 o3 82 (.bin .eql) [.t 6,.y 140],
 om 81 82]
def MM:=[
 om 83 1,
 o3 84 (.bin .lss) [.t 83,.i 4]]
def MN:=[
 o3 85 (.callf 68) [.i 35,.i 2,.i 5],
 oe 86 0 85,
 oe 87 1 85,
 o0 (.store 4) [.t 4,.t 86],
 om 5 87]
def MO:Ac:=.ret
def MP:Ac:=(cd 84 (so MN MO) .skip)
def MQ:=[
 o3 89 (.bin .eql) [.t 6,.y 141],
 om 88 89]
def MR:=[
 o3 90 (.callf 68) [.i 36,.i 4,.i 20],
 oe 91 0 90,
 oe 92 1 90,
 o0 (.store 4) [.t 4,.t 91],
 om 5 92]
def MS:Ac:=.ret
def MT:=[
 o3 94 (.bin .eql) [.t 6,.y 142],
 om 93 94]
def BC:=[
 om 95 1,
 o3 96 (.bin .lss) [.t 95,.i 4],
 om 97 96,
 og 98 .mv [.t 1] 97 true,
 og 99 (.bin .neq) [.t 98,.i 1] 97 true,
 o3 100 .pick [.t 97,.t 99,.b false]]
def BD:=[
 o3 101 (.callf 68) [.i 35,.i 5,.i 2],
 oe 102 0 101,
 oe 103 1 101,
 o0 (.store 4) [.t 4,.t 102],
 om 5 103]
def BE:Ac:=.ret
def BF:Ac:=(cd 100 (so BD BE) .skip)
def BG:=[
 o3 105 (.bin .eql) [.t 6,.y 143],
 om 104 105]
def BH:=[
 om 106 1,
 o3 107 (.bin .eql) [.t 106,.i 0]]
def BI:=[
 o3 108 (.callf 68) [.i 10,.i 2,.i 0],
 oe 109 0 108,
 oe 110 1 108,
 o0 (.store 4) [.t 4,.t 109],
 om 5 110]
def BJ:Ac:=.ret
def BK:Ac:=(cd 107 (so BI BJ) .skip)
def BL:Ac:=(cd 104 (so BH BK) .skip)
def MU:Ac:=(cd 93 (so BC BF) (so BG BL))
def MV:Ac:=(cd 88 (so MR MS) (so MT MU))
def MW:Ac:=(cd 81 (so MM MP) (so MQ MV))
def MX:Ac:=(cd 76 (so MJ MK) (so ML MW))
def MY:Ac:=(cd 71 (so MG MH) (so MI MX))
def MZ:Ac:=(cd 66 (so MD ME) (so MF MY))
def M0:Ac:=(cd 61 (so MA MB) (so MC MZ))
def M1:Ac:=(cd 56 (so Mx My) (so Mz M0))
def M2:Ac:=(cd 51 (so Mu Mv) (so Mw M1))
def M3:Ac:=(cd 46 (so Mr Ms) (so Mt M2))
def M4:Ac:=(cd 41 (so Mo Mp) (so Mq M3))
def M5:Ac:=(cd 21 (.seq (so Mf Mi) Ml) (so Mn M4))
def M6:Ac:=(cd 14 (so Mc Md) (so Me M5))
def adB:Ac:=(cd 7 (so L9 Ma) (so Mb M6))
def adC:Ac:=(.block 0 (so adA adB))
def BM:=[
 o3 111 (.callf 42) [],
 oe 112 0 111,
 oe 113 1 111,
 o0 (.store 4) [.t 4,.t 112],
 om 5 113]
def BN:Ac:=.ret
def BO:Ac:=(so BM BN)
def adD:Ac:=(.seq (so adz adC) BO)
def adE:Ac:=(so ady adD)
def F43:Fn:={ np:=2,pb:=[],rs:=[.c 4 (some 4),.t 5],body:=adE }
def adF:=[
 o3 2 (.alloc [.d (.int .i64 0),.d (.int .i64 0),.d (.int .i64 0),.d (.bool false)]) [],
 o3 3 .mv [.b false]]
def adG:=[
 om 5 0,
 o3 6 (.bin .lss) [.t 5,.y 152]]
def adH:=[
 o3 7 (.callf 41) [.i 34,.i 16,.i 22],
 oe 8 0 7,
 oe 9 1 7,
 o0 (.store 4) [.t 2,.t 8],
 om 3 9]
def adI:Ac:=.ret
def adJ:Ac:=(cd 6 (so adH adI) .skip)
def M7:=[
 om 10 0,
 o3 11 (.bin .eql) [.t 10,.y 154]]
def M8:=[
 o3 12 (.callf 41) [.i 40,.i 11,.i 0],
 oe 13 0 12,
 oe 14 1 12,
 o0 (.store 4) [.t 2,.t 13],
 om 3 14]
def M9:Ac:=.ret
def Na:Ac:=(cd 11 (so M8 M9) .skip)
def Nb:=[
 o3 15 (.bslice (.int .i64 0) 8 [0,1,2,3,4,5,6,7]) [.i 37,.i 38,.i 0,.i 41,.i 42,.i 43,.i 44,.i 45],
 om 16 0,
 o3 17 (.bin .sub) [.t 16,.y 152],
 o3 18 (.iaddrS 1) [.t 15,.t 17],
 o3 19 (.load none) [.t 18],
 om 4 19]
def Nc:=[
 om 20 4,
 o3 21 (.callf 41) [.t 20,.i 0,.i 0],
 oe 22 0 21,
 oe 23 1 21,
 o0 (.store 4) [.t 2,.t 22],
 om 3 23]
def Nd:Ac:=.ret
def Nf:Ac:=(so Nc Nd)
def Ng:Ac:=(so Nb Nf)
def Nh:Ac:=(.seq (so M7 Na) Ng)
def adK:Ac:=(.seq (so adG adJ) Nh)
def adL:Ac:=(so adF adK)
def F44:Fn:={ np:=1,pb:=[],rs:=[.c 2 (some 4),.t 3],body:=adL }
def adM:=[
 o3 2 (.alloc [.d (.int .i64 0),.d (.int .i64 0),.d (.int .i64 0),.d (.bool false)]) [],
 o3 3 .mv [.b false]]
def adN:=[
 om 4 0]
def adO:=[
 o3 6 (.bin .eql) [.t 4,.y 160],
 om 5 6]
def Ni:=[
 o3 7 (.callf 41) [.i 35,.i 14,.i 12],
 oe 8 0 7,
 oe 9 1 7,
 o0 (.store 4) [.t 2,.t 8],
 om 3 9]
def Nj:Ac:=.ret
def Nk:=[
 o3 11 (.bin .eql) [.t 4,.y 161],
 om 10 11]
def Nl:=[
 o3 12 (.callf 41) [.i 35,.i 16,.i 13],
 oe 13 0 12,
 oe 14 1 12,
 o0 (.store 4) [.t 2,.t 13],
 om 3 14]
def Nm:Ac:=.ret
def Nn:=[
 o3 16 (.bin .eql) [.t 4,.y 162],
 om 15 16]
def Np:=[
 o3 17 (.callf 41) [.i 35,.i 12,.i 14],
 oe 18 0 17,
 oe 19 1 17,
 o0 (.store 4) [.t 2,.t 18],
 om 3 19]
def Nq:Ac:=.ret
def Nr:=[
 o3 21 (.bin .eql) [.t 4,.y 163],
 om 20 21]
def Ns:=[
 o3 22 (.callf 41) [.i 35,.i 13,.i 16],
 oe 23 0 22,
 oe 24 1 22,
 o0 (.store 4) [.t 2,.t 23],
 om 3 24]
def Nt:Ac:=.ret
def Nu:=[
 o3 26 (.bin .eql) [.t 4,.y 168],
 om 25 26]
def Nv:=[
 o3 27 (.callf 41) [.i 33,.i 14,.i 6],
 oe 28 0 27,
 oe 29 1 27,
 o0 (.store 4) [.t 2,.t 28],
 om 3 29]
def Nw:Ac:=.ret
def Nx:=[
 o3 31 (.bin .eql) [.t 4,.y 169],
 om 30 31]
def Ny:=[
 o3 32 (.callf 41) [.i 33,.i 16,.i 7],
 oe 33 0 32,
 oe 34 1 32,
 o0 (.store 4) [.t 2,.t 33],
 om 3 34]
def Nz:Ac:=.ret
def NA:Ac:=(cd 30 (so Ny Nz) .skip)
def NB:Ac:=(cd 25 (so Nv Nw) (so Nx NA))
def NC:Ac:=(cd 20 (so Ns Nt) (so Nu NB))
def ND:Ac:=(cd 15 (so Np Nq) (so Nr NC))
def NE:Ac:=(cd 10 (so Nl Nm) (so Nn ND))
def adP:Ac:=(cd 5 (so Ni Nj) (so Nk NE))
def adQ:Ac:=(.block 0 (so adO adP))
def NF:=[
 om 35 0,
 o3 36 (.bin .lss) [.t 35,.y 168]]
def NG:=[
 om 37 0,
 o3 38 (.bin .sub) [.t 37,.y 164],
 o3 39 (.toInt .i64) [.t 38],
 o3 40 (.bin .add) [.i 46,.t 39],
 o3 41 (.callf 41) [.t 40,.i 0,.i 0],
 oe 42 0 41,
 oe 43 1 41,
 o0 (.store 4) [.t 2,.t 42],
 om 3 43]
def NH:Ac:=.ret
def NI:Ac:=(cd 36 (so NG NH) .skip)
def NJ:=[
 om 44 0,
 o3 45 (.bin .sub) [.t 44,.y 170],
 o3 46 (.toInt .i64) [.t 45],
 o3 47 (.bin .add) [.i 50,.t 46],
 o3 48 (.callf 41) [.t 47,.i 0,.i 0],
 oe 49 0 48,
 oe 50 1 48,
 o0 (.store 4) [.t 2,.t 49],
 om 3 50]
def NK:Ac:=.ret
def NL:Ac:=(so NJ NK)
def NM:Ac:=(.seq (so NF NI) NL)
def adR:Ac:=(.seq (so adN adQ) NM)
def adS:Ac:=(so adM adR)
def F45:Fn:={ np:=1,pb:=[],rs:=[.c 2 (some 4),.t 3],body:=adS }
def adT:=[
 o3 4 (.alloc [.d (.int .i64 0),.d (.int .i64 0),.d (.int .i64 0),.d (.bool false)]) [],
 o3 5 .mv [.b false]]
def adU:=[
 om 6 0]
def adV:=[
 o3 8 (.bin .eql) [.t 6,.y 194],
 om 7 8]
def NN:=[
 o3 9 (.callf 41) [.i 56,.i 7,.i 0],
 oe 10 0 9,
 oe 11 1 9,
 o0 (.store 4) [.t 4,.t 10],
 om 5 11]
def NO:Ac:=.ret
def NP:=[
 o3 13 (.bin .eql) [.t 6,.y 195],
 om 12 13]
def NQ:=[
 o3 14 (.callf 41) [.i 56,.i 0,.i 0],
 oe 15 0 14,
 oe 16 1 14,
 o0 (.store 4) [.t 4,.t 15],
 om 5 16]
def NR:Ac:=.ret
def NS:=[
 o3 18 (.bin .eql) [.t 6,.y 196],
 om 17 18]
def NT:=[
 o3 19 (.callf 68) [.i 58,.i 4,.i 19],
 oe 20 0 19,
 oe 21 1 19,
 o0 (.store 4) [.t 4,.t 20],
 om 5 21]
def NU:Ac:=.ret
def NV:=[
 o3 23 (.bin .eql) [.t 6,.y 197],
 om 22 23]
def NW:=[
 o3 24 (.callf 68) [.i 59,.i 4,.i 19],
 oe 25 0 24,
 oe 26 1 24,
 o0 (.store 4) [.t 4,.t 25],
 om 5 26]
def NX:Ac:=.ret
def NY:=[
 o3 28 (.bin .eql) [.t 6,.y 198],
 om 27 28]
def NZ:=[
 om 29 1,
 o3 30 (.bin .eql) [.t 29,.i 0]]
def N0:=[
 o3 31 (.callf 68) [.i 35,.i 1,.i 6],
 oe 32 0 31,
 oe 33 1 31,
 o0 (.store 4) [.t 4,.t 32],
 om 5 33]
def N1:Ac:=.ret
def N2:Ac:=(cd 30 (so N0 N1) .skip)
def N3:=[
 o3 35 (.bin .eql) [.t 6,.y 199],
 om 34 35]
def N4:=[
 om 36 1,
 o3 37 (.bin .eql) [.t 36,.i 0]]
def N5:=[
 o3 38 (.callf 68) [.i 35,.i 2,.i 7],
 oe 39 0 38,
 oe 40 1 38,
 o0 (.store 4) [.t 4,.t 39],
 om 5 40]
def N6:Ac:=.ret
def N7:Ac:=(cd 37 (so N5 N6) .skip)
def N8:=[
 o3 42 (.bin .eql) [.t 6,.y 202],
 om 41 42]
def N9:=[
 o3 43 (.callf 41) [.i 57,.i 7,.i 0],
 oe 44 0 43,
 oe 45 1 43,
 o0 (.store 4) [.t 4,.t 44],
 om 5 45]
def Oa:Ac:=.ret
def Ob:=[
 o3 47 (.bin .eql) [.t 6,.y 203],
 om 46 47]
def Oc:=[
 o3 48 (.callf 41) [.i 57,.i 0,.i 0],
 oe 49 0 48,
 oe 50 1 48,
 o0 (.store 4) [.t 4,.t 49],
 om 5 50]
def Od:Ac:=.ret
def Oe:=[
 o3 52 (.bin .eql) [.t 6,.y 204],
 om 51 52]
def Of:=[
 o3 53 (.callf 41) [.i 60,.i 24,.i 0],
 oe 54 0 53,
 oe 55 1 53,
 o0 (.store 4) [.t 4,.t 54],
 om 5 55]
def Og:Ac:=.ret
def Oh:=[
 o3 57 (.bin .eql) [.t 6,.y 205],
 om 56 57]
def Oi:=[
 o3 58 (.callf 41) [.i 60,.i 6,.i 0],
 oe 59 0 58,
 oe 60 1 58,
 o0 (.store 4) [.t 4,.t 59],
 om 5 60]
def Oj:Ac:=.ret
def Ok:=[
 o3 62 (.bin .eql) [.t 6,.y 206],
 om 61 62]
def Ol:=[
 o3 63 (.callf 41) [.i 61,.i 0,.i 0],
 oe 64 0 63,
 oe 65 1 63,
 o0 (.store 4) [.t 4,.t 64],
 om 5 65]
def Om:Ac:=.ret
def On:=[
 o3 67 (.bin .eql) [.t 6,.y 207],
 om 66 67]
def Oo:=[
 o3 68 (.callf 41) [.i 62,.i 0,.i 0],
 oe 69 0 68,
 oe 70 1 68,
 o0 (.store 4) [.t 4,.t 69],
 om 5 70]
def Oq:Ac:=.ret
def Ot:Ac:=(cd 66 (so Oo Oq) .skip)
def Ou:Ac:=(cd 61 (so Ol Om) (so On Ot))
def Ov:Ac:=(cd 56 (so Oi Oj) (so Ok Ou))
def Ow:Ac:=(cd 51 (so Of Og) (so Oh Ov))
def Ox:Ac:=(cd 46 (so Oc Od) (so Oe Ow))
def Oy:Ac:=(cd 41 (so N9 Oa) (so Ob Ox))
def Oz:Ac:=(cd 34 (so N4 N7) (so N8 Oy))
def OA:Ac:=(cd 27 (so NZ N2) (so N3 Oz))
def OB:Ac:=(cd 22 (so NW NX) (so NY OA))
def OC:Ac:=(cd 17 (so NT NU) (so NV OB))
def OD:Ac:=(cd 12 (so NQ NR) (so NS OC))
def adW:Ac:=(cd 7 (so NN NO) (so NP OD))
def adX:Ac:=(.block 0 (so adV adW))
def OE:=[
 o3 71 (.callf 42) [],
 oe 72 0 71,
 oe 73 1 71,
 o0 (.store 4) [.t 4,.t 72],
 om 5 73]
def OF:Ac:=.ret
def OG:Ac:=(so OE OF)
def adY:Ac:=(.seq (so adU adX) OG)
def adZ:Ac:=(so adT adY)
def F46:Fn:={ np:=2,pb:=[],rs:=[.c 4 (some 4),.t 5],body:=adZ }
def ad0:=[
 o3 4 (.alloc [.d (.int .i64 0),.d (.int .i64 0),.d (.int .i64 0),.d (.bool false)]) [],
 o3 5 .mv [.b false]]
def ad1:=[
 om 9 0,
 o3 10 (.bin .lss) [.t 9,.y 212]]
def ad2:=[
 om 11 1,
 o3 12 (.bin .eql) [.t 11,.i 6]]
def OH:=[
 o3 13 (.callf 42) [],
 oe 14 0 13,
 oe 15 1 13,
 o0 (.store 4) [.t 4,.t 14],
 om 5 15]
def OI:Ac:=.ret
def ad3:Ac:=(cd 12 (so OH OI) .skip)
def OJ:=[
 o3 16 (.bslice (.int .i64 0) 8 [0,1,2,3,4,5,6,7]) [.i 63,.i 64,.i 65,.i 66,.i 67,.i 68,.i 0,.i 69],
 om 17 1,
 o3 18 (.iaddrS 1) [.t 16,.t 17],
 o3 19 (.load none) [.t 18],
 om 6 19]
def OK:=[
 o3 7 .mv [.i 1],
 o3 8 .mv [.i 18]]
def OL:=[
 om 20 0,
 o3 21 (.bin .and) [.t 20,.y 1],
 o3 22 (.bin .eql) [.t 21,.y 1]]
def OM:=[
 o3 7 .mv [.i 2]]
def ON:Ac:=(cd 22 (.ops OM) .skip)
def OP:=[
 om 23 0,
 o3 24 (.bin .and) [.t 23,.y 2],
 o3 25 (.bin .neq) [.t 24,.y 0]]
def OQ:=[
 o3 8 .mv [.i 15]]
def OR:Ac:=(cd 25 (.ops OQ) .skip)
def OS:=[
 om 26 6,
 om 27 7,
 om 28 8,
 o3 29 (.callf 68) [.t 26,.t 27,.t 28],
 oe 30 0 29,
 oe 31 1 29,
 o0 (.store 4) [.t 4,.t 30],
 om 5 31]
def OT:Ac:=.ret
def OU:Ac:=(so OS OT)
def OV:Ac:=(.seq (so OP OR) OU)
def OW:Ac:=(.seq (so OL ON) OV)
def OX:Ac:=(so OK OW)
def OY:Ac:=(so OJ OX)
def ad4:Ac:=(cd 10 (.seq (so ad2 ad3) OY) .skip)
def OZ:=[
 om 33 0,
 o3 34 (.bin .eql) [.t 33,.y 212],
 om 32 34]
def O0:=[
 o3 35 (.callf 41) [.i 70,.i 6,.i 0],
 oe 36 0 35,
 oe 37 1 35,
 o0 (.store 4) [.t 4,.t 36],
 om 5 37]
def O1:Ac:=.ret
def O2:=[
 om 39 0,
 o3 40 (.bin .eql) [.t 39,.y 213],
 om 38 40]
def O3:=[
 o3 41 (.callf 41) [.i 71,.i 6,.i 0],
 oe 42 0 41,
 oe 43 1 41,
 o0 (.store 4) [.t 4,.t 42],
 om 5 43]
def O4:Ac:=.ret
def O5:=[
 om 45 0,
 o3 46 (.bin .eql) [.t 45,.y 215],
 om 44 46]
def O6:=[
 o3 47 (.callf 41) [.i 72,.i 0,.i 0],
 oe 48 0 47,
 oe 49 1 47,
 o0 (.store 4) [.t 4,.t 48],
 om 5 49]
def O7:Ac:=.ret
def O8:=[
 om 51 0,
 o3 52 (.bin .geq) [.t 51,.y 216],
 om 50 52]
def O9:=[
 o3 53 (.callf 68) [.i 73,.i 2,.i 0],
 oe 54 0 53,
 oe 55 1 53,
 o0 (.store 4) [.t 4,.t 54],
 om 5 55]
def Pa:Ac:=.ret
def Pb:Ac:=(cd 50 (so O9 Pa) .skip)
def Pc:Ac:=(cd 44 (so O6 O7) (so O8 Pb))
def Pd:Ac:=(cd 38 (so O3 O4) (so O5 Pc))
def Pe:Ac:=(cd 32 (so O0 O1) (so O2 Pd))
def Pf:=[
 o3 56 (.callf 42) [],
 oe 57 0 56,
 oe 58 1 56,
 o0 (.store 4) [.t 4,.t 57],
 om 5 58]
def Pg:Ac:=.ret
def Ph:Ac:=(so Pf Pg)
def Pi:Ac:=(.seq (.block 0 (so OZ Pe)) Ph)
def ad5:Ac:=(.seq (so ad1 ad4) Pi)
def ad6:Ac:=(so ad0 ad5)
def F47:Fn:={ np:=2,pb:=[],rs:=[.c 4 (some 4),.t 5],body:=ad6 }
def ad7:=[
 o3 2 (.alloc [.d (.int .i64 0),.d (.int .i64 0),.d (.int .i64 0),.d (.bool false)]) [],
 o3 3 .mv [.b false]]
def ad8:=[
 om 4 0]
def ad9:=[
 o3 6 (.bin .eql) [.t 4,.y 224],
 om 5 6]
def Pj:=[
 o3 7 (.bin .eql) [.t 4,.y 225],
 om 5 7]
def Pk:=[
 o3 8 (.bin .eql) [.t 4,.y 226],
 om 5 8]
def Pm:=[
 o3 9 (.bin .eql) [.t 4,.y 227],
 om 5 9]
def Pn:Ac:=(cd 5 .skip (.ops Pm))
def Po:Ac:=(cd 5 .skip (so Pk Pn))
def aea:Ac:=(cd 5 .skip (so Pj Po))
def Pp:=[
 om 10 0,
 o3 11 (.bin .sub) [.t 10,.y 224],
 o3 12 (.toInt .i64) [.t 11],
 o3 13 (.bin .add) [.i 74,.t 12],
 o3 14 (.callf 41) [.t 13,.i 9,.i 0],
 oe 15 0 14,
 oe 16 1 14,
 o0 (.store 4) [.t 2,.t 15],
 om 3 16]
def Pq:Ac:=.ret
def Pr:=[
 o3 18 (.bin .eql) [.t 4,.y 228],
 om 17 18]
def Ps:=[
 o3 19 (.callf 41) [.i 78,.i 14,.i 6],
 oe 20 0 19,
 oe 21 1 19,
 o0 (.store 4) [.t 2,.t 20],
 om 3 21]
def Pt:Ac:=.ret
def Pu:=[
 o3 23 (.bin .eql) [.t 4,.y 229],
 om 22 23]
def Pv:=[
 o3 24 (.callf 41) [.i 78,.i 16,.i 6],
 oe 25 0 24,
 oe 26 1 24,
 o0 (.store 4) [.t 2,.t 25],
 om 3 26]
def Pw:Ac:=.ret
def Px:=[
 o3 28 (.bin .eql) [.t 4,.y 230],
 om 27 28]
def Py:=[
 o3 29 (.callf 41) [.i 79,.i 6,.i 14],
 oe 30 0 29,
 oe 31 1 29,
 o0 (.store 4) [.t 2,.t 30],
 om 3 31]
def Pz:Ac:=.ret
def PA:=[
 o3 33 (.bin .eql) [.t 4,.y 231],
 om 32 33]
def PB:=[
 o3 34 (.callf 41) [.i 79,.i 6,.i 16],
 oe 35 0 34,
 oe 36 1 34,
 o0 (.store 4) [.t 2,.t 35],
 om 3 36]
def PC:Ac:=.ret
def PD:=[
 o3 38 (.bin .eql) [.t 4,.y 232],
 om 37 38]
def PF:=[
 o3 39 (.callf 41) [.i 39,.i 10,.i 0],
 oe 40 0 39,
 oe 41 1 39,
 o0 (.store 4) [.t 2,.t 40],
 om 3 41]
def PG:Ac:=.ret
def PH:=[
 o3 43 (.bin .eql) [.t 4,.y 233],
 om 42 43]
def PI:=[
 o3 44 (.callf 41) [.i 80,.i 10,.i 0],
 oe 45 0 44,
 oe 46 1 44,
 o0 (.store 4) [.t 2,.t 45],
 om 3 46]
def PJ:Ac:=.ret
def PK:=[
 o3 48 (.bin .eql) [.t 4,.y 234],
 om 47 48]
def PL:=[
 o3 49 (.callf 41) [.i 81,.i 11,.i 0],
 oe 50 0 49,
 oe 51 1 49,
 o0 (.store 4) [.t 2,.t 50],
 om 3 51]
def PM:Ac:=.ret
def PN:=[
 o3 53 (.bin .eql) [.t 4,.y 235],
 om 52 53]
def PO:=[
 o3 54 (.callf 41) [.i 80,.i 9,.i 0],
 oe 55 0 54,
 oe 56 1 54,
 o0 (.store 4) [.t 2,.t 55],
 om 3 56]
def PP:Ac:=.ret
def PQ:=[
 o3 58 (.bin .eql) [.t 4,.y 236],
 om 57 58]
def PR:=[
 o3 59 (.callf 41) [.i 78,.i 14,.i 17],
 oe 60 0 59,
 oe 61 1 59,
 o0 (.store 4) [.t 2,.t 60],
 om 3 61]
def PS:Ac:=.ret
def PT:=[
 o3 63 (.bin .eql) [.t 4,.y 237],
 om 62 63]
def PU:=[
 o3 64 (.callf 41) [.i 78,.i 16,.i 17],
 oe 65 0 64,
 oe 66 1 64,
 o0 (.store 4) [.t 2,.t 65],
 om 3 66]
def PV:Ac:=.ret
def PW:=[
 o3 68 (.bin .eql) [.t 4,.y 238],
 om 67 68]
def PX:=[
 o3 69 (.callf 41) [.i 79,.i 17,.i 14],
 oe 70 0 69,
 oe 71 1 69,
 o0 (.store 4) [.t 2,.t 70],
 om 3 71]
def PY:Ac:=.ret
def PZ:Ac:=(cd 67 (so PX PY) .skip)
def P0:Ac:=(cd 62 (so PU PV) (so PW PZ))
def P1:Ac:=(cd 57 (so PR PS) (so PT P0))
def P2:Ac:=(cd 52 (so PO PP) (so PQ P1))
def P3:Ac:=(cd 47 (so PL PM) (so PN P2))
def P4:Ac:=(cd 42 (so PI PJ) (so PK P3))
def P5:Ac:=(cd 37 (so PF PG) (so PH P4))
def P6:Ac:=(cd 32 (so PB PC) (so PD P5))
def P7:Ac:=(cd 27 (so Py Pz) (so PA P6))
def P8:Ac:=(cd 22 (so Pv Pw) (so Px P7))
def P9:Ac:=(cd 17 (so Ps Pt) (so Pu P8))
def zC:Ac:=(cd 5 (so Pp Pq) (so Pr P9))
def Qa:Ac:=(.seq (.gh []) (.seq (.keep [0,2,4,5] [[2]]) zC))
def aeb:Ac:=(.block 0 (.seq (so ad9 aea) Qa))
def Qb:=[
 o3 72 (.callf 41) [.i 79,.i 17,.i 16],
 oe 73 0 72,
 oe 74 1 72,
 o0 (.store 4) [.t 2,.t 73],
 om 3 74]
def Qc:Ac:=.ret
def zD:Ac:=(so Qb Qc)
def aec:Ac:=(.seq (so ad8 aeb) zD)
def aed:Ac:=(so ad7 aec)
def F48:Fn:={ np:=1,pb:=[],rs:=[.c 2 (some 4),.t 3],body:=aed }
def aee:=[
 o3 4 (.alloc [.d (.int .i64 0),.d (.int .i64 0),.d (.int .i64 0),.d (.bool false)]) [],
 o3 5 .mv [.b false]]
def aef:=[
 om 10 0,
 o3 11 (.bin .eql) [.t 10,.y 244],
 om 9 11]
def aeg:=[
 o3 12 (.callf 41) [.i 82,.i 0,.i 0],
 oe 13 0 12,
 oe 14 1 12,
 o0 (.store 4) [.t 4,.t 13],
 om 5 14]
def aeh:Ac:=.ret
def Qd:=[
 om 16 0,
 o3 17 (.bin .eql) [.t 16,.y 245],
 om 15 17]
def Qe:=[
 o3 18 (.callf 41) [.i 83,.i 0,.i 0],
 oe 19 0 18,
 oe 20 1 18,
 o0 (.store 4) [.t 4,.t 19],
 om 5 20]
def Qf:Ac:=.ret
def Qg:=[
 om 22 0,
 o3 23 (.bin .geq) [.t 22,.y 248],
 om 24 23,
 og 25 .mv [.t 0] 24 true,
 og 26 (.bin .lss) [.t 25,.y 254] 24 true,
 o3 27 .pick [.t 24,.t 26,.b false],
 om 21 27]
def Qh:=[
 om 28 0,
 o3 29 (.bin .sub) [.t 28,.y 248],
 o3 30 (.toInt .i64) [.t 29],
 o3 31 (.bin .add) [.i 90,.t 30],
 o3 32 (.callf 41) [.t 31,.i 0,.i 0],
 oe 33 0 32,
 oe 34 1 32,
 o0 (.store 4) [.t 4,.t 33],
 om 5 34]
def Qi:Ac:=.ret
def Qj:=[
 om 36 0,
 o3 37 (.bin .lss) [.t 36,.y 246],
 om 35 37]
def Qk:=[
 o3 38 (.callf 42) [],
 oe 39 0 38,
 oe 40 1 38,
 o0 (.store 4) [.t 4,.t 39],
 om 5 40]
def Ql:Ac:=.ret
def Qm:Ac:=(cd 35 (so Qk Ql) .skip)
def zE:Ac:=(cd 21 (so Qh Qi) (so Qj Qm))
def Qn:Ac:=(.seq (.gh []) (.seq (.keep [0,1,4,21] [[4]]) zE))
def Qo:Ac:=(cd 15 (so Qe Qf) (so Qg Qn))
def aei:Ac:=(cd 9 (so aeg aeh) (so Qd Qo))
def Qp:=[
 o3 6 .mv [.i 1],
 o3 7 .mv [.i 6]]
def Qq:=[
 om 41 0,
 o3 42 (.bin .and) [.t 41,.y 1],
 o3 43 (.bin .eql) [.t 42,.y 1]]
def Qr:=[
 o3 6 .mv [.i 2],
 o3 7 .mv [.i 7]]
def Qs:Ac:=(cd 43 (.ops Qr) .skip)
def Qt:=[
 om 44 0,
 o3 45 (.bin .lss) [.t 44,.y 248]]
def Qu:=[
 om 46 1]
def Qv:=[
 o3 48 (.bin .eql) [.t 46,.i 0],
 om 47 48]
def Qw:=[
 om 49 6,
 om 50 7,
 o3 51 (.callf 68) [.i 33,.t 49,.t 50],
 oe 52 0 51,
 oe 53 1 51,
 o0 (.store 4) [.t 4,.t 52],
 om 5 53]
def Qx:Ac:=.ret
def Qy:=[
 o3 55 (.bin .eql) [.t 46,.i 1],
 om 54 55]
def Qz:=[
 o3 56 (.callf 42) [],
 oe 57 0 56,
 oe 58 1 56,
 o0 (.store 4) [.t 4,.t 57],
 om 5 58]
def QA:Ac:=.ret
def QB:Ac:=(cd 54 (so Qz QA) .skip)
def QC:Ac:=(cd 47 (so Qw Qx) (so Qy QB))
def QD:Ac:=(.block 1 (so Qv QC))
def QE:=[
 om 59 1,
 o3 60 (.bin .add) [.i 84,.t 59],
 o3 61 (.bin .sub) [.t 60,.i 2],
 om 62 6,
 o3 63 (.callf 68) [.t 61,.t 62,.i 0],
 oe 64 0 63,
 oe 65 1 63,
 o0 (.store 4) [.t 4,.t 64],
 om 5 65]
def QF:Ac:=.ret
def QG:Ac:=(so QE QF)
def QH:Ac:=(cd 45 (.seq (so Qu QD) QG) .skip)
def QI:=[
 om 67 1,
 o3 68 (.bin .lss) [.t 67,.i 2],
 om 66 68]
def QJ:=[
 om 69 1,
 o3 70 (.bin .add) [.i 15,.t 69],
 om 71 6,
 o3 72 (.callf 68) [.t 70,.t 71,.i 0],
 oe 73 0 72,
 oe 74 1 72,
 o0 (.store 4) [.t 4,.t 73],
 om 5 74]
def QK:Ac:=.ret
def QL:=[
 om 76 0,
 o3 77 (.bin .eql) [.t 76,.y 254],
 om 78 77,
 og 79 .mv [.t 1] 78 false,
 og 80 (.bin .eql) [.t 79,.i 7] 78 false,
 o3 81 .pick [.t 78,.b true,.t 80],
 om 75 81]
def QM:=[
 o3 82 (.callf 42) [],
 oe 83 0 82,
 oe 84 1 82,
 o0 (.store 4) [.t 4,.t 83],
 om 5 84]
def QN:Ac:=.ret
def QO:Ac:=(cd 75 (so QM QN) .skip)
def QP:Ac:=(cd 66 (so QJ QK) (so QL QO))
def QQ:=[
 o3 85 (.bslice (.int .i64 0) 5 [0,1,2,3,4]) [.i 39,.i 40,.i 80,.i 81,.i 9],
 om 86 1,
 o3 87 (.bin .sub) [.t 86,.i 2],
 o3 88 (.iaddrS 1) [.t 85,.t 87],
 o3 89 (.load none) [.t 88],
 om 8 89]
def QR:=[
 om 90 1,
 o3 91 (.bin .eql) [.t 90,.i 3],
 om 92 91,
 og 93 .mv [.t 1] 92 false,
 og 94 (.bin .eql) [.t 93,.i 5] 92 false,
 o3 95 .pick [.t 92,.b true,.t 94]]
def QS:=[
 o3 6 .mv [.i 19]]
def QT:Ac:=(cd 95 (.ops QS) .skip)
def QU:=[
 om 96 8,
 om 97 6,
 o3 98 (.callf 68) [.t 96,.t 97,.i 0],
 oe 99 0 98,
 oe 100 1 98,
 o0 (.store 4) [.t 4,.t 99],
 om 5 100]
def QV:Ac:=.ret
def QW:Ac:=(so QU QV)
def QX:Ac:=(.seq (so QR QT) QW)
def QY:Ac:=(so QQ QX)
def QZ:Ac:=(.seq (.block 2 (so QI QP)) QY)
def zF:Ac:=(.seq (so Qt QH) QZ)
def Q0:Ac:=(.seq (.gh []) (.seq (.keep [0,1,4,6,7] [[4]]) zF))
def Q1:Ac:=(.seq (so Qq Qs) Q0)
def zG:Ac:=(so Qp Q1)
def aej:Ac:=(.seq (.block 0 (so aef aei)) zG)
def aek:Ac:=(so aee aej)
def F49:Fn:={ np:=2,pb:=[],rs:=[.c 4 (some 4),.t 5],body:=aek }
def ael:=[
 o3 2 (.box 12) [.t 0],
 o3 4 .mv [.b false]]
def aem:=[
 o3 5 (.faddr 0) [.t 2],
 o3 6 (.load none) [.t 5],
 o3 7 (.bin .eql) [.t 6,.i 5],
 om 8 7,
 og 9 (.faddr 9) [.t 2] 8 true,
 og 10 (.load none) [.t 9] 8 true,
 og 11 .mv [.t 1] 8 true,
 og 12 (.bin .eql) [.t 10,.t 11] 8 true,
 og 13 .mv [.t 12] 8 true,
 og 14 (.faddr 9) [.t 2] 13 false,
 og 15 (.load none) [.t 14] 13 false,
 og 16 (.bin .eql) [.t 15,.i 0] 13 false,
 og 17 .pick [.t 13,.b true,.t 16] 8 true,
 og 18 .mv [.t 17] 8 true,
 og 19 .mv [.t 1] 18 false,
 og 20 (.bin .eql) [.t 19,.i 0] 18 false,
 og 21 .pick [.t 18,.b true,.t 20] 8 true,
 o3 22 .pick [.t 8,.t 21,.b false],
 om 4 22]
def aen:Ac:=.ret
def aeo:Ac:=(so aem aen)
def aep:Ac:=(so ael aeo)
def F50:Fn:={ np:=2,pb:=[],rs:=[.t 4],body:=aep }
def aeq:=[
 o3 1 (.box 12) [.t 0],
 o3 2 .mv [.b false]]
def aer:=[
 o3 3 (.faddr 0) [.t 1],
 o3 4 (.load none) [.t 3],
 o3 5 (.bin .eql) [.t 4,.i 4],
 om 6 5,
 og 7 (.faddr 3) [.t 1] 6 true,
 og 8 (.load (some 6)) [.t 7] 6 true,
 og 9 (.callf 54) [.t 8] 6 true,
 o3 10 .pick [.t 6,.t 9,.b false],
 om 11 10,
 og 12 (.faddr 3) [.t 1] 11 true,
 og 13 (.faddr 5) [.t 12] 11 true,
 og 14 (.load none) [.t 13] 11 true,
 o3 15 .pick [.t 11,.t 14,.b false],
 om 2 15]
def aes:Ac:=.ret
def aet:Ac:=(so aer aes)
def aeu:Ac:=(so aeq aet)
def F51:Fn:={ np:=1,pb:=[],rs:=[.t 2],body:=aeu }
def aev:=[
 o3 4 .mv [.b false]]
def aew:=[
 om 5 1,
 o3 6 (.bin .eql) [.t 5,.i 1]]
def aex:=[
 om 7 0,
 o3 8 (.bin .geq) [.t 7,.i (-128)],
 om 9 8,
 og 10 .mv [.t 0] 9 true,
 og 11 (.bin .leq) [.t 10,.i 255] 9 true,
 o3 12 .pick [.t 9,.t 11,.b false],
 om 4 12]
def aey:Ac:=.ret
def aez:Ac:=(cd 6 (so aex aey) .skip)
def Q2:=[
 om 13 0,
 o3 14 (.bin .geq) [.t 13,.i (-32768)],
 om 15 14,
 og 16 .mv [.t 0] 15 true,
 og 17 (.bin .leq) [.t 16,.i 65535] 15 true,
 o3 18 .pick [.t 15,.t 17,.b false],
 om 4 18]
def Q3:Ac:=.ret
def Q4:Ac:=(so Q2 Q3)
def aeA:Ac:=(.seq (so aew aez) Q4)
def aeB:Ac:=(so aev aeA)
def F52:Fn:={ np:=2,pb:=[],rs:=[.t 4],body:=aeB }
def aeC:=[
 o3 1 (.box 12) [.t 0],
 o3 2 .mv [.b false]]
def aeD:=[
 o3 3 (.faddr 0) [.t 1],
 o3 4 (.load none) [.t 3],
 o3 5 (.bin .eql) [.t 4,.i 4],
 om 6 5,
 og 7 (.faddr 3) [.t 1] 6 true,
 og 8 (.load (some 6)) [.t 7] 6 true,
 og 9 (.callf 54) [.t 8] 6 true,
 og 10 .mv [.t 9] 6 true,
 og 11 (.faddr 3) [.t 1] 10 false,
 og 12 (.faddr 4) [.t 11] 10 false,
 og 13 (.load none) [.t 12] 10 false,
 og 14 (.bin .neq) [.t 13,.i 0] 10 false,
 og 15 .pick [.t 10,.b true,.t 14] 6 true,
 o3 16 .pick [.t 6,.t 15,.b false],
 om 2 16]
def aeE:Ac:=.ret
def aeF:Ac:=(so aeD aeE)
def aeG:Ac:=(so aeC aeF)
def F53:Fn:={ np:=1,pb:=[],rs:=[.t 2],body:=aeG }
def aeH:=[
 o3 1 (.box 6) [.t 0],
 o3 2 .mv [.b false]]
def aeI:=[
 o3 3 (.faddr 1) [.t 1],
 o3 4 (.load none) [.t 3],
 o3 5 (.bin .eql) [.t 4,.i 0],
 om 6 5,
 og 7 (.faddr 4) [.t 1] 6 true,
 og 8 (.load none) [.t 7] 6 true,
 og 9 (.bin .eql) [.t 8,.i 0] 6 true,
 o3 10 .pick [.t 6,.t 9,.b false],
 om 2 10]
def aeJ:Ac:=.ret
def aeK:Ac:=(so aeI aeJ)
def aeL:Ac:=(so aeH aeK)
def F54:Fn:={ np:=1,pb:=[],rs:=[.t 2],body:=aeL }
def aeM:=[
 o3 2 .mv [.b false]]
def aeN:=[
 om 3 0,
 o3 4 (.toInt .u16) [.t 3],
 o3 5 (.callf 69) [.t 4],
 om 6 5,
 og 7 .mv [.t 0] 6 true,
 og 8 (.callf 52) [.t 7,.i 2] 6 true,
 o3 9 .pick [.t 6,.t 8,.b false],
 om 2 9]
def aeO:Ac:=.ret
def aeP:Ac:=(so aeN aeO)
def aeQ:Ac:=(so aeM aeP)
def F55:Fn:={ np:=1,pb:=[],rs:=[.t 2],body:=aeQ }
def aeR:=[
 o3 2 (.box 12) [.t 0],
 o3 4 .mv [.b false]]
def aeS:=[
 o3 5 (.faddr 0) [.t 2],
 o3 6 (.load none) [.t 5],
 o3 7 (.bin .neq) [.t 6,.i 4],
 om 8 7,
 og 9 (.faddr 3) [.t 2] 8 false,
 og 10 (.faddr 4) [.t 9] 8 false,
 og 11 (.load none) [.t 10] 8 false,
 og 12 (.bin .neq) [.t 11,.i 0] 8 false,
 o3 13 .pick [.t 8,.b true,.t 12],
 om 14 13,
 og 15 (.faddr 3) [.t 2] 14 false,
 og 16 (.load (some 6)) [.t 15] 14 false,
 og 17 (.callf 54) [.t 16] 14 false,
 og 18 .mv [.t 17] 14 false,
 og 19 (.faddr 3) [.t 2] 18 true,
 og 20 (.faddr 5) [.t 19] 18 true,
 og 21 (.load none) [.t 20] 18 true,
 og 22 .pick [.t 18,.t 21,.b false] 14 false,
 o3 23 .pick [.t 14,.b true,.t 22]]
def aeT:=[
 o3 4 .mv [.b false]]
def aeU:Ac:=.ret
def aeV:Ac:=(cd 23 (so aeT aeU) .skip)
def Q5:=[
 o3 24 (.faddr 9) [.t 2],
 o3 25 (.load none) [.t 24],
 o3 26 (.bin .eql) [.t 25,.i 102],
 om 27 1,
 o3 28 (.eqb false) [.t 26,.t 27],
 om 4 28]
def Q6:Ac:=.ret
def Q7:Ac:=(so Q5 Q6)
def aeW:Ac:=(.seq (so aeS aeV) Q7)
def aeX:Ac:=(so aeR aeW)
def F56:Fn:={ np:=2,pb:=[],rs:=[.t 4],body:=aeX }
def aeY:=[
 o3 2 (.box 12) [.t 0],
 o3 4 .mv [.b false]]
def aeZ:=[
 o3 5 (.load (some 12)) [.t 2],
 om 6 1,
 o3 7 (.callf 50) [.t 5,.t 6],
 om 8 7,
 og 9 (.faddr 2) [.t 2] 8 true,
 og 10 (.load none) [.t 9] 8 true,
 og 11 (.bin .eql) [.t 10,.i 8] 8 true,
 o3 12 .pick [.t 8,.t 11,.b false],
 om 4 12]
def ae0:Ac:=.ret
def ae1:Ac:=(so aeZ ae0)
def ae2:Ac:=(so aeY ae1)
def F57:Fn:={ np:=2,pb:=[],rs:=[.t 4],body:=ae2 }
def ae3:=[
 o3 4 (.box 12) [.t 1],
 o3 6 .mv [.b false]]
def ae4:=[
 om 7 0]
def ae5:=[
 o3 9 (.bin .eql) [.t 7,.i 14],
 om 8 9]
def Q8:=[
 o3 10 (.faddr 0) [.t 4],
 o3 11 (.load none) [.t 10],
 o3 12 (.bin .eql) [.t 11,.i 1],
 om 13 12,
 og 14 (.faddr 1) [.t 4] 13 true,
 og 15 (.load none) [.t 14] 13 true,
 og 16 (.bin .eql) [.t 15,.i 0] 13 true,
 o3 17 .pick [.t 13,.t 16,.b false],
 om 6 17]
def Q9:Ac:=.ret
def Ra:=[
 o3 19 (.bin .eql) [.t 7,.i 15],
 om 18 19]
def Rb:=[
 o3 20 (.faddr 0) [.t 4],
 o3 21 (.load none) [.t 20],
 o3 22 (.bin .eql) [.t 21,.i 1],
 om 23 22,
 og 24 (.faddr 1) [.t 4] 23 true,
 og 25 (.load none) [.t 24] 23 true,
 og 26 (.bin .eql) [.t 25,.i 1] 23 true,
 o3 27 .pick [.t 23,.t 26,.b false],
 om 6 27]
def Re:Ac:=.ret
def Rf:=[
 o3 29 (.bin .eql) [.t 7,.i 16],
 om 28 29]
def Rg:=[
 o3 30 (.faddr 0) [.t 4],
 o3 31 (.load none) [.t 30],
 o3 32 (.bin .eql) [.t 31,.i 2],
 om 33 32,
 og 34 (.faddr 1) [.t 4] 33 true,
 og 35 (.load none) [.t 34] 33 true,
 og 36 (.bin .eql) [.t 35,.i 0] 33 true,
 o3 37 .pick [.t 33,.t 36,.b false],
 om 6 37]
def Rh:Ac:=.ret
def Ri:=[
 o3 39 (.bin .eql) [.t 7,.i 17],
 om 38 39]
def Rj:=[
 o3 40 (.faddr 0) [.t 4],
 o3 41 (.load none) [.t 40],
 o3 42 (.bin .eql) [.t 41,.i 2],
 om 43 42,
 og 44 (.faddr 1) [.t 4] 43 true,
 og 45 (.load none) [.t 44] 43 true,
 og 46 (.bin .eql) [.t 45,.i 2] 43 true,
 o3 47 .pick [.t 43,.t 46,.b false],
 om 6 47]
def Rl:Ac:=.ret
def Rm:=[
 o3 49 (.bin .eql) [.t 7,.i 18],
 om 48 49]
def Rn:=[
 o3 50 (.load (some 12)) [.t 4],
 o3 51 (.callf 51) [.t 50],
 om 52 51,
 og 53 (.faddr 3) [.t 4] 52 true,
 og 54 (.faddr 0) [.t 53] 52 true,
 og 55 (.load none) [.t 54] 52 true,
 og 56 (.bin .eql) [.t 55,.i 1] 52 true,
 o3 57 .pick [.t 52,.t 56,.b false],
 om 6 57]
def Rp:Ac:=.ret
def Rq:=[
 o3 59 (.bin .eql) [.t 7,.i 24],
 om 58 59]
def Rr:=[
 o3 60 (.load (some 12)) [.t 4],
 o3 61 (.callf 51) [.t 60],
 om 62 61,
 og 63 (.faddr 3) [.t 4] 62 true,
 og 64 (.faddr 0) [.t 63] 62 true,
 og 65 (.load none) [.t 64] 62 true,
 og 66 (.bin .eql) [.t 65,.i 3] 62 true,
 o3 67 .pick [.t 62,.t 66,.b false],
 om 6 67]
def Rs:Ac:=.ret
def Ru:=[
 o3 69 (.bin .eql) [.t 7,.i 21],
 om 68 69]
def Rw:=[
 o3 70 (.faddr 0) [.t 4],
 o3 71 (.load none) [.t 70],
 o3 72 (.bin .eql) [.t 71,.i 1],
 om 73 72,
 og 74 (.faddr 1) [.t 4] 73 true,
 og 75 (.load none) [.t 74] 73 true,
 og 76 .mv [.t 2] 73 true,
 og 77 (.bin .and) [.t 76,.y 7] 73 true,
 og 78 (.toInt .i64) [.t 77] 73 true,
 og 79 (.bin .eql) [.t 75,.t 78] 73 true,
 o3 80 .pick [.t 73,.t 79,.b false],
 om 6 80]
def Rx:Ac:=.ret
def Ry:=[
 o3 82 (.bin .eql) [.t 7,.i 22],
 om 81 82]
def Rz:=[
 o3 83 (.faddr 0) [.t 4],
 o3 84 (.load none) [.t 83],
 o3 85 (.bin .eql) [.t 84,.i 2],
 om 86 85,
 og 87 (.faddr 1) [.t 4] 86 true,
 og 88 (.load none) [.t 87] 86 true,
 og 89 .mv [.t 2] 86 true,
 og 90 (.bin .and) [.t 89,.y 7] 86 true,
 og 91 (.toInt .i64) [.t 90] 86 true,
 og 92 (.bin .eql) [.t 88,.t 91] 86 true,
 o3 93 .pick [.t 86,.t 92,.b false],
 om 6 93]
def RB:Ac:=.ret
def RE:=[
 o3 95 (.bin .eql) [.t 7,.i 23],
 om 94 95]
def RF:=[
 o3 96 (.faddr 0) [.t 4],
 o3 97 (.load none) [.t 96],
 o3 98 (.bin .eql) [.t 97,.i 3],
 om 99 98,
 og 100 (.faddr 1) [.t 4] 99 true,
 og 101 (.load none) [.t 100] 99 true,
 og 102 .mv [.t 2] 99 true,
 og 103 (.bin .shr) [.t 102,.c (.d (.int .u64 3))] 99 true,
 og 104 (.bin .and) [.t 103,.y 3] 99 true,
 og 105 (.toInt .i64) [.t 104] 99 true,
 og 106 (.bin .eql) [.t 101,.t 105] 99 true,
 o3 107 .pick [.t 99,.t 106,.b false],
 om 6 107]
def RG:Ac:=.ret
def RH:Ac:=(cd 94 (so RF RG) .skip)
def RI:Ac:=(cd 81 (so Rz RB) (so RE RH))
def RJ:Ac:=(cd 68 (so Rw Rx) (so Ry RI))
def RK:Ac:=(cd 58 (so Rr Rs) (so Ru RJ))
def RL:Ac:=(cd 48 (so Rn Rp) (so Rq RK))
def RN:Ac:=(cd 38 (so Rj Rl) (so Rm RL))
def RO:Ac:=(cd 28 (so Rg Rh) (so Ri RN))
def RP:Ac:=(cd 18 (so Rb Re) (so Rf RO))
def ae6:Ac:=(cd 8 (so Q8 Q9) (so Ra RP))
def ae7:Ac:=(.block 0 (so ae5 ae6))
def RQ:=[
 o3 6 .mv [.b false]]
def RR:Ac:=.ret
def RS:Ac:=(so RQ RR)
def ae8:Ac:=(.seq (so ae4 ae7) RS)
def ae9:Ac:=(so ae3 ae8)
def F58:Fn:={ np:=3,pb:=[],rs:=[.t 6],body:=ae9 }
def afa:=[
 o3 2 .mv [.i 0]]
def afb:=[
 om 3 0]
def afc:=[
 o3 5 (.bin .eql) [.t 3,.i 6],
 om 4 5]
def RU:=[
 o3 6 (.bin .eql) [.t 3,.i 8],
 om 4 6]
def RV:=[
 o3 7 (.bin .eql) [.t 3,.i 9],
 om 4 7]
def RW:Ac:=(cd 4 .skip (.ops RV))
def afd:Ac:=(cd 4 .skip (so RU RW))
def RX:=[
 o3 2 .mv [.i 1]]
def RY:Ac:=.ret
def RZ:=[
 o3 9 (.bin .eql) [.t 3,.i 7],
 om 8 9]
def R0:=[
 o3 10 (.bin .eql) [.t 3,.i 10],
 om 8 10]
def R2:=[
 o3 11 (.bin .eql) [.t 3,.i 12],
 om 8 11]
def R3:=[
 o3 12 (.bin .eql) [.t 3,.i 13],
 om 8 12]
def R4:Ac:=(cd 8 .skip (.ops R3))
def R5:Ac:=(cd 8 .skip (so R2 R4))
def R6:Ac:=(cd 8 .skip (so R0 R5))
def R7:=[
 o3 2 .mv [.i 2]]
def R8:Ac:=.ret
def R9:=[
 o3 14 (.bin .eql) [.t 3,.i 11],
 om 13 14]
def Sa:=[
 o3 2 .mv [.i 4]]
def Sb:Ac:=.ret
def Sc:Ac:=(cd 13 (so Sa Sb) .skip)
def Sd:Ac:=(cd 8 (so R7 R8) (so R9 Sc))
def zH:Ac:=(cd 4 (so RX RY) (.seq (so RZ R6) Sd))
def Se:Ac:=(.seq (.gh []) (.seq (.keep [3,4] []) zH))
def afe:Ac:=(.block 0 (.seq (so afc afd) Se))
def Sf:=[
 o3 2 .mv [.i 0]]
def Sg:Ac:=.ret
def zI:Ac:=(so Sf Sg)
def aff:Ac:=(.seq (so afb afe) zI)
def afg:Ac:=(so afa aff)
def F59:Fn:={ np:=1,pb:=[],rs:=[.t 2],body:=afg }
def afh:=[
 o3 3 (.box 25) [.t 0],
 o3 5 (.box 12) [.t 2],
 o3 6 (.alloc [.d (.bool false),.d (.int .i64 0),.d (.int .i64 0),.d (.int .u8 0),.d (.int .i64 0),.d (.int .i64 0),.d (.int .i64 0),.d (.int .u16 0),.d (.int .u16 0),.d (.int .u16 0),.d (.int .i64 0),.d (.int .i64 0),.d (.int .i64 0),.d (.int .i64 0),.d (.int .i64 0),.d (.bool false),.d (.int .i64 0),.d (.int .i64 0),.d (.int .i64 0),.d (.int .i64 0),.d (.int .i64 0),.d (.bool false),.d (.bool false),.d (.bool false),.d (.bool false)]) []]
def afi:=[
 om 7 1]
def afj:=[
 o3 9 (.bin .eql) [.t 7,.i 6],
 om 8 9]
def afk:=[
 o3 10 (.faddr 3) [.t 5],
 o3 11 (.faddr 0) [.t 10],
 o3 12 (.load none) [.t 11],
 o3 13 (.toInt .u16) [.t 12],
 o3 14 (.bin .and) [.t 13,.w 255],
 o3 15 (.faddr 0) [.t 3],
 o3 16 (.faddr 8) [.t 15],
 o0 (.store 1) [.t 16,.t 14]]
def Si:=[
 o3 18 (.bin .eql) [.t 7,.i 8],
 om 17 18]
def Sj:=[
 o3 19 (.faddr 3) [.t 5],
 o3 20 (.faddr 0) [.t 19],
 o3 21 (.load none) [.t 20],
 o3 22 (.toInt .u16) [.t 21],
 o3 23 (.faddr 0) [.t 3],
 o3 24 (.faddr 8) [.t 23],
 o0 (.store 1) [.t 24,.t 22]]
def Sk:=[
 o3 26 (.bin .eql) [.t 7,.i 7],
 om 25 26]
def Sl:=[
 o3 27 (.bin .eql) [.t 7,.i 12],
 om 25 27]
def Sm:=[
 o3 28 (.bin .eql) [.t 7,.i 13],
 om 25 28]
def Sn:Ac:=(cd 25 .skip (.ops Sm))
def So:Ac:=(cd 25 .skip (so Sl Sn))
def Sp:=[
 o3 29 (.faddr 3) [.t 5],
 o3 30 (.faddr 0) [.t 29],
 o3 31 (.load none) [.t 30],
 o3 32 (.toInt .u16) [.t 31],
 o3 33 (.faddr 3) [.t 5],
  { dst:=some 34,k:=(.load (some 6)),xs:=[.t 33],av:=[[3]] },
 o3 35 (.faddr 0) [.t 3],
 o3 36 (.faddr 8) [.t 35],
  { dst:=none,k:=(.store 1),xs:=[.t 36,.t 32],al:=some [[3]] },
 o3 37 (.faddr 16) [.t 3],
 o0 (.store 6) [.t 37,.t 34],
 o3 38 (.faddr 23) [.t 3],
 o0 (.store 1) [.t 38,.b true]]
def Sr:=[
 o3 40 (.bin .eql) [.t 7,.i 9],
 om 39 40]
def Ss:=[
 o3 41 (.bin .eql) [.t 7,.i 10],
 om 39 41]
def Su:Ac:=(cd 39 .skip (.ops Ss))
def Sv:=[
 o3 42 (.faddr 3) [.t 5],
 o3 43 (.load (some 6)) [.t 42],
 o3 44 (.faddr 16) [.t 3],
 o0 (.store 6) [.t 44,.t 43],
 o3 45 (.faddr 23) [.t 3],
 o0 (.store 1) [.t 45,.b true],
 o3 46 (.faddr 24) [.t 3],
 o0 (.store 1) [.t 46,.b true]]
def Sw:=[
 o3 48 (.bin .eql) [.t 7,.i 11],
 om 47 48]
def Sx:=[
 o3 49 (.faddr 3) [.t 5],
 o3 50 (.load (some 6)) [.t 49],
 o3 51 (.faddr 16) [.t 3],
 o0 (.store 6) [.t 51,.t 50],
 o3 52 (.faddr 23) [.t 3],
 o0 (.store 1) [.t 52,.b true]]
def Sy:Ac:=(cd 47 (.ops Sx) .skip)
def zJ:Ac:=(cd 39 (.ops Sv) (so Sw Sy))
def Sz:Ac:=(.seq (.gh []) (.seq (.keep [3,5,6,7,39] [[3],[5],[6]]) zJ))
def zK:Ac:=(cd 25 (.ops Sp) (.seq (so Sr Su) Sz))
def SA:Ac:=(.seq (.gh []) (.seq (.keep [3,5,6,7,25] [[3],[5],[6]]) zK))
def SB:Ac:=(cd 17 (.ops Sj) (.seq (so Sk So) SA))
def afl:Ac:=(cd 8 (.ops afk) (so Si SB))
def afm:Ac:=(.block 0 (so afj afl))
def SC:=[
 o3 53 (.load (some 25)) [.t 3],
 o0 (.store 25) [.t 6,.t 53]]
def SD:Ac:=.ret
def wz:Ac:=(so SC SD)
def afn:Ac:=(.seq (so afi afm) wz)
def afo:Ac:=(so afh afn)
def F60:Fn:={ np:=3,pb:=[],rs:=[.c 6 (some 25)],body:=afo }
def afp:=[
 o3 3 (.box 25) [.t 0],
 o3 5 (.box 12) [.t 2],
 o3 6 (.alloc [.d (.bool false),.d (.int .i64 0),.d (.int .i64 0),.d (.int .u8 0),.d (.int .i64 0),.d (.int .i64 0),.d (.int .i64 0),.d (.int .u16 0),.d (.int .u16 0),.d (.int .u16 0),.d (.int .i64 0),.d (.int .i64 0),.d (.int .i64 0),.d (.int .i64 0),.d (.int .i64 0),.d (.bool false),.d (.int .i64 0),.d (.int .i64 0),.d (.int .i64 0),.d (.int .i64 0),.d (.int .i64 0),.d (.bool false),.d (.bool false),.d (.bool false),.d (.bool false)]) []]
def afq:=[
 om 74 1,
 o3 75 (.bin .eql) [.t 74,.i 3],
 om 76 75,
 og 77 .mv [.t 1] 76 false,
 og 78 (.bin .eql) [.t 77,.i 4] 76 false,
 o3 79 .pick [.t 76,.b true,.t 78],
 om 80 79,
 og 81 .mv [.t 1] 80 false,
 og 82 (.bin .eql) [.t 81,.i 5] 80 false,
 o3 83 .pick [.t 80,.b true,.t 82],
 om 73 83]
def afr:=[
 o3 84 (.faddr 1) [.t 5],
 o3 85 (.load none) [.t 84],
 o3 86 (.faddr 0) [.t 3],
 o3 87 (.faddr 5) [.t 86],
 o0 (.store 1) [.t 87,.t 85]]
def afs:=[
 om 89 1,
 o3 90 (.callf 70) [.t 89],
 o3 91 (.un .not) [.t 90],
 om 88 91]
def SE:=[
 o3 93 (.faddr 0) [.t 5],
 o3 94 (.load none) [.t 93],
 o3 95 (.bin .neq) [.t 94,.i 5],
 om 92 95]
def SF:=[
 o3 96 (.faddr 1) [.t 5],
  { dst:=some 97,k:=(.load none),xs:=[.t 96],av:=[[3]] },
 o3 98 (.faddr 0) [.t 3],
 o3 99 (.faddr 4) [.t 98],
  { dst:=none,k:=(.store 1),xs:=[.t 99,.i 3],al:=some [[3]] },
 o3 100 (.faddr 0) [.t 3],
 o3 101 (.faddr 6) [.t 100],
 o0 (.store 1) [.t 101,.t 97]]
def SG:=[
 o3 8 (.faddr 3) [.t 5],
 o3 9 (.load (some 6)) [.t 8],
 o3 10 (.faddr 10) [.t 3],
 o0 (.store 6) [.t 10,.t 9]]
def SH:=[
 o3 11 (.faddr 3) [.t 5],
 o3 12 (.load (some 6)) [.t 11],
 o3 13 (.callf 54) [.t 12],
 om 14 13,
 og 15 (.faddr 3) [.t 5] 14 true,
 og 16 (.faddr 5) [.t 15] 14 true,
 og 17 (.load none) [.t 16] 14 true,
 o3 18 .pick [.t 14,.t 17,.b false],
 om 7 18]
def SI:=[
 o3 19 (.faddr 2) [.t 5],
 o3 20 (.load none) [.t 19],
 o3 21 (.faddr 3) [.t 5],
 o3 22 (.faddr 0) [.t 21],
  { dst:=some 23,k:=(.load none),xs:=[.t 22],av:=[[3]] },
 o3 24 (.toInt .u16) [.t 23],
 o3 25 (.faddr 0) [.t 3],
 o3 26 (.faddr 6) [.t 25],
  { dst:=none,k:=(.store 1),xs:=[.t 26,.t 20],al:=some [[3]] },
 o3 27 (.faddr 0) [.t 3],
 o3 28 (.faddr 7) [.t 27],
 o0 (.store 1) [.t 28,.t 24]]
def SJ:=[
 o3 32 (.faddr 2) [.t 5],
 o3 33 (.load none) [.t 32],
 o3 34 (.bin .eql) [.t 33,.i 8],
 om 31 34]
def SK:=[
 o3 35 (.faddr 0) [.t 3],
 o3 36 (.faddr 4) [.t 35],
 o0 (.store 1) [.t 36,.i 0],
 o3 37 (.faddr 0) [.t 3],
 o3 38 (.faddr 6) [.t 37],
 o0 (.store 1) [.t 38,.i 6]]
def SL:=[
 om 40 7,
 om 41 40,
 og 42 (.faddr 3) [.t 5] 41 true,
 og 43 (.faddr 0) [.t 42] 41 true,
 og 44 (.load none) [.t 43] 41 true,
 og 45 (.bin .eql) [.t 44,.i 0] 41 true,
 o3 46 .pick [.t 41,.t 45,.b false],
 om 47 46,
 og 48 (.faddr 2) [.t 5] 47 true,
 og 49 (.load none) [.t 48] 47 true,
 og 50 (.bin .neq) [.t 49,.i 6] 47 true,
 o3 51 .pick [.t 47,.t 50,.b false],
 om 39 51]
def SM:=[
 o3 52 (.faddr 0) [.t 3],
 o3 53 (.faddr 4) [.t 52],
 o0 (.store 1) [.t 53,.i 0]]
def SN:=[
 om 55 7,
 om 56 55,
 og 57 (.faddr 3) [.t 5] 56 true,
 og 58 (.faddr 0) [.t 57] 56 true,
 og 59 (.load none) [.t 58] 56 true,
 og 60 (.callf 55) [.t 59] 56 true,
 o3 61 .pick [.t 56,.t 60,.b false],
 om 54 61]
def SO:=[
 o3 62 (.faddr 0) [.t 3],
 o3 63 (.faddr 4) [.t 62],
 o0 (.store 1) [.t 63,.i 1]]
def SP:=[
 o3 29 (.faddr 0) [.t 3],
 o3 30 (.faddr 4) [.t 29],
 o0 (.store 1) [.t 30,.i 2]]
def SQ:Ac:=(cd 54 (.ops SO) (.ops SP))
def zL:Ac:=(cd 39 (.ops SM) (so SN SQ))
def SR:Ac:=(.seq (.gh []) (.seq (.keep [3,5,6,7,39] [[3],[5],[6]]) zL))
def SS:Ac:=(cd 31 (.ops SK) (so SL SR))
def ST:=[
 o3 64 (.faddr 0) [.t 3],
 o3 65 (.faddr 4) [.t 64],
 o3 66 (.load none) [.t 65],
 o3 67 (.faddr 0) [.t 3],
 o3 68 (.faddr 6) [.t 67],
 o3 69 (.load none) [.t 68],
 o3 70 (.callf 30) [.t 66,.t 69],
 o3 71 (.bin .eql) [.t 70,.i 2],
 o3 72 (.faddr 22) [.t 3],
 o0 (.store 1) [.t 72,.t 71]]
def zM:Ac:=(.ops ST)
def SU:Ac:=(.seq (.block 1 (so SJ SS)) zM)
def zN:Ac:=(so SI SU)
def SV:Ac:=(.seq (.gh []) (.seq (.keep [3,5,6,7] [[3],[5],[6]]) zN))
def SW:Ac:=(so SH SV)
def SX:Ac:=(cd 92 (.ops SF) (so SG SW))
def SY:Ac:=(cd 88 .skip (so SE SX))
def CK:Ac:=(cd 73 (.ops afr) (so afs SY))
def aft:Ac:=(.seq (.gh []) (.seq (.keep [1,3,5,6,73] [[3],[5],[6]]) CK))
def SZ:=[
 o3 102 (.load (some 25)) [.t 3],
 o0 (.store 25) [.t 6,.t 102]]
def S0:Ac:=.ret
def tf:Ac:=(so SZ S0)
def afu:Ac:=(.seq (.block 0 (so afq aft)) tf)
def afv:Ac:=(so afp afu)
def F61:Fn:={ np:=3,pb:=[],rs:=[.c 6 (some 25)],body:=afv }
def afw:=[
 o3 2 (.box 10) [.t 0],
 o3 3 (.box 4) [.t 1],
 o3 4 .mv [.b false]]
def afx:=[
 o3 5 (.faddr 3) [.t 3],
 o3 6 (.load none) [.t 5],
 o3 7 (.un .not) [.t 6]]
def afy:=[
 o3 8 (.faddr 4) [.t 2],
 o3 9 (.load none) [.t 8],
 o3 10 (.bin .eql) [.t 9,.i 0],
 om 11 10,
 og 12 (.faddr 5) [.t 2] 11 true,
 og 13 (.load none) [.t 12] 11 true,
 og 14 (.bin .eql) [.t 13,.i 0] 11 true,
 o3 15 .pick [.t 11,.t 14,.b false],
 om 16 15,
 og 17 (.faddr 6) [.t 2] 16 true,
 og 18 (.load none) [.t 17] 16 true,
 og 19 (.bin .eql) [.t 18,.i 0] 16 true,
 o3 20 .pick [.t 16,.t 19,.b false],
 om 21 20,
 og 22 (.faddr 7) [.t 2] 21 true,
 og 23 (.load none) [.t 22] 21 true,
 og 24 (.bin .eql) [.t 23,.w 0] 21 true,
 o3 25 .pick [.t 21,.t 24,.b false],
 om 4 25]
def afz:Ac:=.ret
def afA:Ac:=(cd 7 (so afy afz) .skip)
def S1:=[
 o3 26 (.faddr 4) [.t 2],
 o3 27 (.load none) [.t 26],
 o3 28 (.bin .lss) [.t 27,.i 0],
 om 29 28,
 og 30 (.faddr 4) [.t 2] 29 false,
 og 31 (.load none) [.t 30] 29 false,
 og 32 (.bin .gtr) [.t 31,.i 3] 29 false,
 o3 33 .pick [.t 29,.b true,.t 32],
 om 34 33,
 og 35 (.faddr 5) [.t 2] 34 false,
 og 36 (.load none) [.t 35] 34 false,
 og 37 (.bin .lss) [.t 36,.i 0] 34 false,
 o3 38 .pick [.t 34,.b true,.t 37],
 om 39 38,
 og 40 (.faddr 5) [.t 2] 39 false,
 og 41 (.load none) [.t 40] 39 false,
 og 42 (.bin .gtr) [.t 41,.i 7] 39 false,
 o3 43 .pick [.t 39,.b true,.t 42],
 om 44 43,
 og 45 (.faddr 6) [.t 2] 44 false,
 og 46 (.load none) [.t 45] 44 false,
 og 47 (.bin .lss) [.t 46,.i 0] 44 false,
 o3 48 .pick [.t 44,.b true,.t 47],
 om 49 48,
 og 50 (.faddr 6) [.t 2] 49 false,
 og 51 (.load none) [.t 50] 49 false,
 og 52 (.bin .gtr) [.t 51,.i 7] 49 false,
 o3 53 .pick [.t 49,.b true,.t 52]]
def S2:=[
 o3 4 .mv [.b false]]
def S3:Ac:=.ret
def S4:Ac:=(cd 53 (so S2 S3) .skip)
def S5:=[
 o3 54 (.faddr 4) [.t 2],
 o3 55 (.load none) [.t 54],
 o3 56 (.bin .eql) [.t 55,.i 3],
 om 57 56,
 og 58 (.faddr 1) [.t 3] 57 true,
 og 59 (.load none) [.t 58] 57 true,
 og 60 (.bin .eql) [.t 59,.i 19] 57 true,
 og 61 .mv [.t 60] 57 true,
 og 62 (.faddr 2) [.t 3] 61 false,
 og 63 (.load none) [.t 62] 61 false,
 og 64 (.bin .eql) [.t 63,.i 19] 61 false,
 og 65 .pick [.t 61,.b true,.t 64] 57 true,
 og 66 .mv [.t 65] 57 true,
 og 67 (.faddr 2) [.t 3] 66 false,
 og 68 (.load none) [.t 67] 66 false,
 og 69 (.bin .eql) [.t 68,.i 20] 66 false,
 og 70 .pick [.t 66,.b true,.t 69] 57 true,
 o3 71 .pick [.t 57,.t 70,.b false]]
def S6:=[
 o3 4 .mv [.b false]]
def S7:Ac:=.ret
def S8:Ac:=(cd 71 (so S6 S7) .skip)
def S9:=[
 o3 72 (.faddr 4) [.t 2],
 o3 73 (.load none) [.t 72],
 o3 74 (.faddr 6) [.t 2],
 o3 75 (.load none) [.t 74],
 o3 76 (.callf 30) [.t 73,.t 75]]
def Ta:=[
 o3 78 (.bin .eql) [.t 76,.i 0],
 om 77 78]
def Tb:=[
 o3 79 (.faddr 7) [.t 2],
 o3 80 (.load none) [.t 79],
 o3 81 (.bin .eql) [.t 80,.w 0],
 om 4 81]
def Tc:Ac:=.ret
def Td:=[
 o3 83 (.bin .eql) [.t 76,.i 1],
 om 82 83]
def Te:=[
 o3 84 (.faddr 7) [.t 2],
 o3 85 (.load none) [.t 84],
 o3 86 (.callf 69) [.t 85],
 om 4 86]
def Tf:Ac:=.ret
def Tg:Ac:=(cd 82 (so Te Tf) .skip)
def Th:Ac:=(cd 77 (so Tb Tc) (so Td Tg))
def Ti:Ac:=(.block 0 (so Ta Th))
def Tj:=[
 o3 4 .mv [.b true]]
def Tk:Ac:=.ret
def Tl:Ac:=(so Tj Tk)
def zO:Ac:=(.seq (so S9 Ti) Tl)
def Tm:Ac:=(.seq (.gh []) (.seq (.keep [2] [[2]]) zO))
def Tn:Ac:=(.seq (so S5 S8) Tm)
def To:Ac:=(.seq (so S1 S4) Tn)
def afB:Ac:=(.seq (so afx afA) To)
def afC:Ac:=(so afw afB)
def F62:Fn:={ np:=2,pb:=[],rs:=[.t 4],body:=afC }
def afD:=[
 o3 2 (.box 10) [.t 0],
 o3 3 (.box 4) [.t 1],
 o3 4 .mv [.b false]]
def afE:=[
 o3 7 (.faddr 1) [.t 3],
 o3 8 (.load none) [.t 7],
 o3 9 (.faddr 2) [.t 3],
 o3 10 (.load none) [.t 9],
 o3 11 (.build [.d (.int .i64 0),.d (.int .i64 0)] [(0,1),(1,1)]) [.t 8,.t 10],
 o3 12 .mv [.i 0]]
def afF:=[
 o3 13 (.bin .lss) [.t 12,.i 2]]
def Tp:=[
 o3 14 (.indexA 2 1 none) [.t 11,.t 12],
 om 6 14]
def Tq:=[
 om 15 6]
def Tr:=[
 o3 17 (.bin .eql) [.t 15,.i 6],
 om 16 17]
def Ts:=[
 o3 18 (.faddr 8) [.t 2],
 o3 19 (.load none) [.t 18],
 o3 20 (.bin .lss) [.t 19,.w 256],
 om 21 20,
 og 22 (.faddr 9) [.t 2] 21 true,
 og 23 (.load none) [.t 22] 21 true,
 og 24 (.bin .eql) [.t 23,.w 0] 21 true,
 o3 25 .pick [.t 21,.t 24,.b false],
 om 26 25,
 og 27 (.faddr 0) [.t 3] 26 true,
 og 28 (.load none) [.t 27] 26 true,
 og 29 (.bin .neq) [.t 28,.i 70] 26 true,
 og 30 .mv [.t 29] 26 true,
 og 31 (.faddr 0) [.t 3] 30 true,
 og 32 (.load none) [.t 31] 30 true,
 og 33 (.bin .neq) [.t 32,.i 71] 30 true,
 og 34 .pick [.t 30,.t 33,.b false] 26 true,
 og 35 .mv [.t 34] 26 true,
 og 36 (.faddr 8) [.t 2] 35 false,
 og 37 (.load none) [.t 36] 35 false,
 og 38 (.bin .eql) [.t 37,.w 10] 35 false,
 og 39 .pick [.t 35,.b true,.t 38] 26 true,
 o3 40 .pick [.t 26,.t 39,.b false],
 om 4 40]
def Tt:Ac:=.ret
def Tu:=[
 o3 42 (.bin .eql) [.t 15,.i 8],
 om 41 42]
def Tv:=[
 o3 43 (.bin .eql) [.t 15,.i 9],
 om 41 43]
def Tw:Ac:=(cd 41 .skip (.ops Tv))
def Tx:=[
 o3 44 (.faddr 8) [.t 2],
 o3 45 (.load none) [.t 44],
 o3 46 (.callf 69) [.t 45],
 om 47 46,
 og 48 (.faddr 9) [.t 2] 47 true,
 og 49 (.load none) [.t 48] 47 true,
 og 50 (.bin .eql) [.t 49,.w 0] 47 true,
 o3 51 .pick [.t 47,.t 50,.b false],
 om 4 51]
def Ty:Ac:=.ret
def Tz:=[
 o3 53 (.bin .eql) [.t 15,.i 7],
 om 52 53]
def TA:=[
 o3 54 (.bin .eql) [.t 15,.i 10],
 om 52 54]
def TB:=[
 o3 55 (.bin .eql) [.t 15,.i 12],
 om 52 55]
def TC:=[
 o3 56 (.bin .eql) [.t 15,.i 13],
 om 52 56]
def TD:Ac:=(cd 52 .skip (.ops TC))
def TE:Ac:=(cd 52 .skip (so TB TD))
def TF:Ac:=(cd 52 .skip (so TA TE))
def TG:=[
 o3 57 (.faddr 9) [.t 2],
 o3 58 (.load none) [.t 57],
 o3 59 (.bin .eql) [.t 58,.w 0],
 om 4 59]
def TH:Ac:=.ret
def TI:=[
 o3 61 (.bin .eql) [.t 15,.i 11],
 om 60 61]
def TJ:=[
 o3 4 .mv [.b true]]
def TK:Ac:=.ret
def TL:Ac:=(cd 60 (so TJ TK) .skip)
def TM:Ac:=(cd 52 (so TG TH) (so TI TL))
def zP:Ac:=(cd 41 (so Tx Ty) (.seq (so Tz TF) TM))
def TN:Ac:=(.seq (.gh []) (.seq (.keep [2,3,11,12,15,41] [[2],[3]]) zP))
def TO:Ac:=(cd 16 (so Ts Tt) (.seq (so Tu Tw) TN))
def TP:Ac:=(.block 2 (so Tr TO))
def TQ:Ac:=(so Tq TP)
def TR:=[
 o3 62 (.bin .add) [.t 12,.i 1],
 om 12 62]
def zQ:Ac:=(.ops TR)
def TS:Ac:=(.seq (.block 1 (so Tp TQ)) zQ)
def afG:Ac:=(.seq (cd 13 .skip (.exit 0)) TS)
def CL:Ac:=(so afF afG)
def afH:Ac:=(.block 0 (.loop (.seq (.gh []) (.seq (.keep [2,3,11,12] [[2],[3]]) CL))))
def TT:=[
 o3 63 (.faddr 8) [.t 2],
 o3 64 (.load none) [.t 63],
 o3 65 (.bin .eql) [.t 64,.w 0],
 om 66 65,
 og 67 (.faddr 9) [.t 2] 66 true,
 og 68 (.load none) [.t 67] 66 true,
 og 69 (.bin .eql) [.t 68,.w 0] 66 true,
 o3 70 .pick [.t 66,.t 69,.b false],
 om 4 70]
def TU:Ac:=.ret
def TV:Ac:=(so TT TU)
def TW:Ac:=(.seq (.gh []) (.seq (.keep [2] [[2]]) TV))
def afI:Ac:=(.seq (so afE afH) TW)
def afJ:Ac:=(so afD afI)
def F63:Fn:={ np:=2,pb:=[],rs:=[.t 4],body:=afJ }
def afK:=[
 o3 2 (.box 10) [.t 0],
 o3 3 (.box 4) [.t 1],
 o3 4 .mv [.b false]]
def afL:=[
 o3 6 (.faddr 0) [.t 3],
 o3 7 (.load none) [.t 6],
 o3 8 (.callf 71) [.t 7],
 om 5 8]
def afM:=[
 o3 9 (.faddr 1) [.t 2],
 o3 10 (.load none) [.t 9]]
def afN:=[
 o3 12 (.bin .eql) [.t 10,.i 0],
 om 11 12]
def TX:=[
 o3 14 (.bin .eql) [.t 10,.i 1],
 om 13 14]
def TY:=[
 om 15 5,
 o3 16 (.bin .lss) [.t 15,.i 2]]
def TZ:=[
 o3 4 .mv [.b false]]
def T0:Ac:=.ret
def T1:Ac:=(cd 16 (so TZ T0) .skip)
def T2:=[
 o3 18 (.bin .eql) [.t 10,.i 2],
 om 17 18]
def T3:=[
 om 19 5,
 o3 20 (.bin .lss) [.t 19,.i 1]]
def T4:=[
 o3 4 .mv [.b false]]
def T5:Ac:=.ret
def T6:Ac:=(cd 20 (so T4 T5) .skip)
def T7:=[
 o3 4 .mv [.b false]]
def T8:Ac:=.ret
def T9:Ac:=(cd 17 (so T3 T6) (so T7 T8))
def Ua:Ac:=(cd 13 (so TY T1) (so T2 T9))
def Ub:Ac:=(cd 11 .skip (so TX Ua))
def afO:Ac:=(.block 0 (so afN Ub))
def Uc:=[
 o3 21 (.faddr 2) [.t 2],
 o3 22 (.load none) [.t 21],
 o3 23 (.bin .geq) [.t 22,.i 0],
 om 24 23,
 og 25 (.faddr 2) [.t 2] 24 true,
 og 26 (.load none) [.t 25] 24 true,
 og 27 (.bin .leq) [.t 26,.i 4] 24 true,
 o3 28 .pick [.t 24,.t 27,.b false],
 om 4 28]
def Ud:Ac:=.ret
def Ue:Ac:=(so Uc Ud)
def afP:Ac:=(.seq (so afM afO) Ue)
def afQ:Ac:=(so afL afP)
def afR:Ac:=(so afK afQ)
def F64:Fn:={ np:=2,pb:=[],rs:=[.t 4],body:=afR }
def afS:=[
 o3 4 .mv [.c (.d (.str []))]]
def afT:=[
 o3 5 .mv [.i 0]]
def afU:=[
 o3 6 .mv [.i 0]]
def Uf:=[
 om 8 6,
 om 9 1,
 o3 10 (.bin .lss) [.t 8,.t 9],
 om 11 10,
 og 12 .mv [.t 5] 11 true,
 og 13 .mv [.t 0] 11 true,
 og 14 .lenS [.t 13] 11 true,
 og 15 (.bin .lss) [.t 12,.t 14] 11 true,
 o3 16 .pick [.t 11,.t 15,.b false]]
def Ug:Ac:=(cd 16 .skip (.exit 0))
def Uh:=[
 om 19 5,
 om 20 0,
 o3 21 .lenS [.t 20],
 o3 22 (.bin .lss) [.t 19,.t 21],
 om 23 22,
 og 24 .mv [.t 0] 23 true,
 og 25 .mv [.t 5] 23 true,
 og 26 .indexS [.t 24,.t 25] 23 true,
 og 27 (.bin .neq) [.t 26,.y 32] 23 true,
 o3 28 .pick [.t 23,.t 27,.b false]]
def Ui:Ac:=(cd 28 .skip (.exit 2))
def Uj:=[
 om 29 5,
 o3 30 (.bin .add) [.t 29,.i 1],
 om 5 30]
def Uk:Ac:=(.block 3 (.ops Uj))
def zR:Ac:=(.seq (so Uh Ui) Uk)
def Ul:=[
 om 31 5,
 o3 32 (.bin .add) [.t 31,.i 1],
 om 5 32]
def Um:Ac:=(.ops Ul)
def Un:Ac:=(.seq (.gh []) (.seq (.keep [0,1,5,6] []) Um))
def Uo:=[
 om 17 6,
 o3 18 (.bin .add) [.t 17,.i 1],
 om 6 18]
def Up:Ac:=(.ops Uo)
def Uq:Ac:=(.seq (.block 1 (.seq (.block 2 (.loop (.seq (.gh []) (.seq (.keep [0,1,5,6] []) zR)))) Un)) Up)
def CM:Ac:=(.seq (so Uf Ug) Uq)
def afV:Ac:=(.block 0 (.loop (.seq (.gh []) (.seq (.keep [0,1,5,6] []) CM))))
def Ur:=[
 om 33 5,
 om 7 33]
def Us:=[
 om 34 7,
 om 35 0,
 o3 36 .lenS [.t 35],
 o3 37 (.bin .lss) [.t 34,.t 36],
 om 38 37,
 og 39 .mv [.t 0] 38 true,
 og 40 .mv [.t 7] 38 true,
 og 41 .indexS [.t 39,.t 40] 38 true,
 og 42 (.bin .neq) [.t 41,.y 32] 38 true,
 o3 43 .pick [.t 38,.t 42,.b false]]
def Ut:Ac:=(cd 43 .skip (.exit 4))
def Uu:=[
 om 44 7,
 o3 45 (.bin .add) [.t 44,.i 1],
 om 7 45]
def Uv:Ac:=(.block 5 (.ops Uu))
def zS:Ac:=(.seq (so Us Ut) Uv)
def Uw:=[
 om 46 5,
 om 47 0,
 o3 48 .lenS [.t 47],
 o3 49 (.bin .geq) [.t 46,.t 48]]
def Ux:=[
 o3 4 .mv [.c (.d (.str []))]]
def Uy:Ac:=.ret
def Uz:Ac:=(cd 49 (so Ux Uy) .skip)
def UA:=[
 om 50 0,
 om 51 5,
 om 52 7,
 o3 53 (.substr true true) [.t 50,.t 51,.t 52],
 om 4 53]
def UB:Ac:=.ret
def UC:Ac:=(so UA UB)
def UD:Ac:=(.seq (so Uw Uz) UC)
def UE:Ac:=(.seq (.gh []) (.seq (.keep [0,5,7] []) UD))
def UF:Ac:=(.seq (.block 4 (.loop (.seq (.gh []) (.seq (.keep [0,5,7] []) zS)))) UE)
def UG:Ac:=(so Ur UF)
def UH:Ac:=(.seq (.gh []) (.seq (.keep [0,5] []) UG))
def afW:Ac:=(.seq (so afU afV) UH)
def afX:Ac:=(so afT afW)
def afY:Ac:=(so afS afX)
def F65:Fn:={ np:=2,pb:=[],rs:=[.t 4],body:=afY }
def afZ:=[
 o3 2 .mv [.i 0]]
def af0:=[
 o3 5 (.callf 72) [.c (.d (.str qe))],
 o3 6 .lenL [.t 5],
 o3 7 .mv [.i 0]]
def af1:=[
 o3 8 (.bin .lss) [.t 7,.t 6]]
def UI:=[
 om 9 7,
 o3 10 (.iaddrS 1) [.t 5,.t 7],
 o3 11 (.load none) [.t 10],
 om 3 9,
 om 4 11]
def UJ:=[
 om 12 4,
 om 13 0,
 o3 14 (.bin .eql) [.t 12,.t 13]]
def UK:=[
 om 15 3,
 o3 16 (.bin .add) [.t 15,.i 1],
 om 2 16]
def UL:Ac:=.ret
def UM:Ac:=(cd 14 (so UK UL) .skip)
def UN:Ac:=(so UJ UM)
def UO:=[
 o3 17 (.bin .add) [.t 7,.i 1],
 om 7 17]
def UP:Ac:=(.ops UO)
def UQ:Ac:=(.seq (.block 1 (so UI UN)) UP)
def af2:Ac:=(.seq (cd 8 .skip (.exit 0)) UQ)
def CN:Ac:=(so af1 af2)
def af3:Ac:=(.block 0 (.loop (.seq (.gh [.frz 5]) (.seq (.keep [0,5,6,7] []) CN))))
def UR:=[
 o3 2 .mv [.i 0]]
def US:Ac:=.ret
def UT:Ac:=(so UR US)
def UU:Ac:=(.seq (.gh []) (.seq (.keep [] []) UT))
def af4:Ac:=(.seq (so af0 af3) UU)
def af5:Ac:=(so afZ af4)
def F66:Fn:={ np:=1,pb:=[],rs:=[.t 2],body:=af5 }
def af6:=[
 o3 2 .mv [.c (.d (.str []))]]
def af7:=[
 om 3 0]
def af8:=[
 o3 5 (.bin .eql) [.t 3,.c (.d (.str [74,69]))],
 om 4 5]
def UV:=[
 o3 2 .mv [.c (.d (.str [74,90]))]]
def UW:Ac:=.ret
def UX:=[
 o3 7 (.bin .eql) [.t 3,.c (.d (.str [74,78,69]))],
 om 6 7]
def UY:=[
 o3 2 .mv [.c (.d (.str [74,78,90]))]]
def UZ:Ac:=.ret
def U0:=[
 o3 9 (.bin .eql) [.t 3,.c (.d (.str [74,67]))],
 om 8 9]
def U1:=[
 o3 10 (.bin .eql) [.t 3,.c (.d (.str [74,78,65,69]))],
 om 8 10]
def U2:Ac:=(cd 8 .skip (.ops U1))
def U3:=[
 o3 2 .mv [.c (.d (.str [74,66]))]]
def U4:Ac:=.ret
def U5:=[
 o3 12 (.bin .eql) [.t 3,.c (.d (.str [74,78,67]))],
 om 11 12]
def U6:=[
 o3 13 (.bin .eql) [.t 3,.c (.d (.str [74,65,69]))],
 om 11 13]
def U7:Ac:=(cd 11 .skip (.ops U6))
def U8:=[
 o3 2 .mv [.c (.d (.str [74,78,66]))]]
def U9:Ac:=.ret
def Va:=[
 o3 15 (.bin .eql) [.t 3,.c (.d (.str [74,78,65]))],
 om 14 15]
def Vb:=[
 o3 2 .mv [.c (.d (.str [74,66,69]))]]
def Vc:Ac:=.ret
def Vd:=[
 o3 17 (.bin .eql) [.t 3,.c (.d (.str [74,78,66,69]))],
 om 16 17]
def Ve:=[
 o3 2 .mv [.c (.d (.str [74,65]))]]
def Vf:Ac:=.ret
def Vg:=[
 o3 19 (.bin .eql) [.t 3,.c (.d (.str [74,80,69]))],
 om 18 19]
def Vh:=[
 o3 2 .mv [.c (.d (.str [74,80]))]]
def Vi:Ac:=.ret
def Vj:=[
 o3 21 (.bin .eql) [.t 3,.c (.d (.str [74,80,79]))],
 om 20 21]
def Vk:=[
 o3 2 .mv [.c (.d (.str [74,78,80]))]]
def Vl:Ac:=.ret
def Vm:=[
 o3 23 (.bin .eql) [.t 3,.c (.d (.str [74,78,71,69]))],
 om 22 23]
def Vn:=[
 o3 2 .mv [.c (.d (.str [74,76]))]]
def Vo:Ac:=.ret
def Vp:=[
 o3 25 (.bin .eql) [.t 3,.c (.d (.str [74,78,76]))],
 om 24 25]
def Vq:=[
 o3 2 .mv [.c (.d (.str [74,71,69]))]]
def Vr:Ac:=.ret
def Vs:=[
 o3 27 (.bin .eql) [.t 3,.c (.d (.str [74,78,71]))],
 om 26 27]
def Vt:=[
 o3 2 .mv [.c (.d (.str [74,76,69]))]]
def Vu:Ac:=.ret
def Vv:=[
 o3 29 (.bin .eql) [.t 3,.c (.d (.str [74,78,76,69]))],
 om 28 29]
def Vw:=[
 o3 2 .mv [.c (.d (.str [74,71]))]]
def Vx:Ac:=.ret
def Vy:=[
 o3 31 (.bin .eql) [.t 3,.c (.d (.str [76,79,79,80,69]))],
 om 30 31]
def Vz:=[
 o3 2 .mv [.c (.d (.str [76,79,79,80,90]))]]
def VA:Ac:=.ret
def VB:=[
 o3 33 (.bin .eql) [.t 3,.c (.d (.str [76,79,79,80,78,69]))],
 om 32 33]
def VD:=[
 o3 2 .mv [.c (.d (.str [76,79,79,80,78,90]))]]
def VE:Ac:=.ret
def VF:=[
 o3 35 (.bin .eql) [.t 3,.c (.d (.str [83,65,76]))],
 om 34 35]
def BP:=[
 o3 2 .mv [.c (.d (.str [83,72,76]))]]
def BQ:Ac:=.ret
def BR:Ac:=(cd 34 (so BP BQ) .skip)
def VG:Ac:=(cd 32 (so VD VE) (so VF BR))
def VH:Ac:=(cd 30 (so Vz VA) (so VB VG))
def VI:Ac:=(cd 28 (so Vw Vx) (so Vy VH))
def VJ:Ac:=(cd 26 (so Vt Vu) (so Vv VI))
def VK:Ac:=(cd 24 (so Vq Vr) (so Vs VJ))
def VL:Ac:=(cd 22 (so Vn Vo) (so Vp VK))
def VM:Ac:=(cd 20 (so Vk Vl) (so Vm VL))
def VN:Ac:=(cd 18 (so Vh Vi) (so Vj VM))
def VO:Ac:=(cd 16 (so Ve Vf) (so Vg VN))
def VP:Ac:=(cd 14 (so Vb Vc) (so Vd VO))
def zT:Ac:=(cd 11 (so U8 U9) (so Va VP))
def VQ:Ac:=(.seq (.gh []) (.seq (.keep [0,3,11] []) zT))
def zU:Ac:=(cd 8 (so U3 U4) (.seq (so U5 U7) VQ))
def VR:Ac:=(.seq (.gh []) (.seq (.keep [0,3,8] []) zU))
def VS:Ac:=(cd 6 (so UY UZ) (.seq (so U0 U2) VR))
def af9:Ac:=(cd 4 (so UV UW) (so UX VS))
def aga:Ac:=(.block 0 (so af8 af9))
def BS:=[
 om 36 0,
 om 2 36]
def BT:Ac:=.ret
def tg:Ac:=(so BS BT)
def agb:Ac:=(.seq (so af7 aga) tg)
def agc:Ac:=(so af6 agb)
def F67:Fn:={ np:=1,pb:=[],rs:=[.t 2],body:=agc }
def agd:=[
 o3 6 (.alloc [.d (.int .i64 0),.d (.int .i64 0),.d (.int .i64 0),.d (.bool false)]) [],
 o3 7 .mv [.b false]]
def age:=[
 om 8 0,
 om 9 1,
 om 10 2,
 o3 11 (.build [.d (.int .i64 0),.d (.int .i64 0),.d (.int .i64 0),.d (.bool false)] [(0,1),(1,1),(2,1),(3,1)]) [.t 8,.t 9,.t 10,.b true],
 o0 (.store 4) [.t 6,.t 11],
 o3 7 .mv [.b true]]
def agf:Ac:=.ret
def agh:Ac:=(so age agf)
def agi:Ac:=(so agd agh)
def F68:Fn:={ np:=3,pb:=[],rs:=[.c 6 (some 4),.t 7],body:=agi }
def agj:=[
 o3 2 .mv [.b false]]
def agk:=[
 om 3 0,
 o3 4 (.callf 74) [.t 3],
 o3 5 (.callf 73) [.t 4],
 om 6 0,
 o3 7 (.bin .eql) [.t 5,.t 6],
 om 2 7]
def agl:Ac:=.ret
def agm:Ac:=(so agk agl)
def agn:Ac:=(so agj agm)
def F69:Fn:={ np:=1,pb:=[],rs:=[.t 2],body:=agn }
def ago:=[
 o3 2 .mv [.b false]]
def agp:=[
 om 3 0,
 o3 4 (.bin .eql) [.t 3,.i 1],
 om 5 4,
 og 6 .mv [.t 0] 5 false,
 og 7 (.bin .eql) [.t 6,.i 2] 5 false,
 o3 8 .pick [.t 5,.b true,.t 7],
 om 9 8,
 og 10 .mv [.t 0] 9 false,
 og 11 (.bin .eql) [.t 10,.i 19] 9 false,
 o3 12 .pick [.t 9,.b true,.t 11],
 om 13 12,
 og 14 .mv [.t 0] 13 false,
 og 15 (.bin .eql) [.t 14,.i 20] 13 false,
 o3 16 .pick [.t 13,.b true,.t 15],
 om 2 16]
def agq:Ac:=.ret
def agr:Ac:=(so agp agq)
def ags:Ac:=(so ago agr)
def F70:Fn:={ np:=1,pb:=[],rs:=[.t 2],body:=ags }
def agt:=[
 o3 2 .mv [.i 0]]
def agu:=[
 om 3 0]
def agv:=[
 o3 5 (.bin .eql) [.t 3,.i 46],
 om 4 5]
def VT:=[
 o3 6 (.bin .eql) [.t 3,.i 47],
 om 4 6]
def VU:=[
 o3 7 (.bin .eql) [.t 3,.i 50],
 om 4 7]
def VV:=[
 o3 8 (.bin .eql) [.t 3,.i 51],
 om 4 8]
def VW:=[
 o3 9 (.bin .eql) [.t 3,.i 52],
 om 4 9]
def VX:=[
 o3 10 (.bin .eql) [.t 3,.i 53],
 om 4 10]
def VY:Ac:=(cd 4 .skip (.ops VX))
def VZ:Ac:=(cd 4 .skip (so VW VY))
def V0:Ac:=(cd 4 .skip (so VV VZ))
def V1:Ac:=(cd 4 .skip (so VU V0))
def agw:Ac:=(cd 4 .skip (so VT V1))
def V2:=[
 o3 2 .mv [.i 1]]
def V3:Ac:=.ret
def V4:=[
 o3 12 (.bin .eql) [.t 3,.i 48],
 om 11 12]
def V5:=[
 o3 13 (.bin .eql) [.t 3,.i 49],
 om 11 13]
def V6:=[
 o3 14 (.bin .eql) [.t 3,.i 54],
 om 11 14]
def V7:=[
 o3 15 (.bin .eql) [.t 3,.i 55],
 om 11 15]
def V8:Ac:=(cd 11 .skip (.ops V7))
def V9:Ac:=(cd 11 .skip (so V6 V8))
def Wa:Ac:=(cd 11 .skip (so V5 V9))
def Wb:=[
 o3 2 .mv [.i 2]]
def Wc:Ac:=.ret
def Wd:Ac:=(cd 11 (so Wb Wc) .skip)
def zW:Ac:=(cd 4 (so V2 V3) (.seq (so V4 Wa) Wd))
def We:Ac:=(.seq (.gh []) (.seq (.keep [3,4] []) zW))
def agx:Ac:=(.block 0 (.seq (so agv agw) We))
def Wf:=[
 o3 2 .mv [.i 0]]
def Wg:Ac:=.ret
def zX:Ac:=(so Wf Wg)
def agy:Ac:=(.seq (so agu agx) zX)
def agz:Ac:=(so agt agy)
def F71:Fn:={ np:=1,pb:=[],rs:=[.t 2],body:=agz }
def agA:=[
 o3 2 .mv [.w 0]]
def agB:=[
 om 3 0,
 o3 4 (.toInt .i8) [.t 3],
 o3 5 (.toInt .i16) [.t 4],
 o3 6 (.toInt .u16) [.t 5],
 om 2 6]
def agC:Ac:=.ret
def agD:Ac:=(so agB agC)
def agE:Ac:=(so agA agD)
def F73:Fn:={ np:=1,pb:=[],rs:=[.t 2],body:=agE }
def agF:=[
 o3 2 .mv [.y 0]]
def agG:=[
 om 3 0,
 o3 4 (.toInt .u8) [.t 3],
 om 2 4]
def agH:Ac:=.ret
def agI:Ac:=(so agG agH)
def agJ:Ac:=(so agF agI)
def F74:Fn:={ np:=1,pb:=[],rs:=[.t 2],body:=agJ }
def mg1:Mm:=fun b o=>match b with
 | 0=>(([0,0,0,0,0,0,0,0,0,1,1,1,1,1,0,0,0,0,0,0,0,0,0,0,0,0,0,0,0,0,0,0,1,0,0,0,0,0,0,0,0,0,0,0,0,0,0,0,0,0,0,0,0,0,0,0,0,0,0,0,0,0,0,0,0,0,0,0,0,0,0,0,0,0,0,0,0,0,0,0,0,0,0,0,0,0,0,0,0,0,0,0,0,0,0,0,0,0,0,0,0,0,0,0,0,0,0,0,0,0,0,0,0,0,0,0,0,0,0,0,0,0,0,0,0,0,0,0,0,0,0,0,0,0,0,0,0,0,0,0,0,0,0,0,0,0,0,0,0,0,0,0,0,0,0,0,0,0,0,0,0,0,0,0,0,0,0,0,0,0,0,0,0,0,0,0,0,0,0,0,0,0,0,0,0,0,0,0,0,0,0,0,0,0,0,0,0,0,0,0,0,0,0,0,0,0,0,0,0,0,0,0,0,0,0,0,0,0,0,0,0,0,0,0,0,0,0,0,0,0,0,0,0,0,0,0,0,0,0,0,0,0,0,0,0,0,0,0,0,0,0,0,0,0,0,0]:List Int)[o]?).map (Value.int .u8)
 | _=>none
def G1:Nat→Option A
 | 0=>some (.elt (.agg [.int .u8 0,.int .u8 0,.int .u8 0,.int .u8 0,.int .u8 0,.int .u8 0,.int .u8 0,.int .u8 0,.int .u8 0,.int .u8 1,.int .u8 1,.int .u8 1,.int .u8 1,.int .u8 1,.int .u8 0,.int .u8 0,.int .u8 0,.int .u8 0,.int .u8 0,.int .u8 0,.int .u8 0,.int .u8 0,.int .u8 0,.int .u8 0,.int .u8 0,.int .u8 0,.int .u8 0,.int .u8 0,.int .u8 0,.int .u8 0,.int .u8 0,.int .u8 0,.int .u8 1,.int .u8 0,.int .u8 0,.int .u8 0,.int .u8 0,.int .u8 0,.int .u8 0,.int .u8 0,.int .u8 0,.int .u8 0,.int .u8 0,.int .u8 0,.int .u8 0,.int .u8 0,.int .u8 0,.int .u8 0,.int .u8 0,.int .u8 0,.int .u8 0,.int .u8 0,.int .u8 0,.int .u8 0,.int .u8 0,.int .u8 0,.int .u8 0,.int .u8 0,.int .u8 0,.int .u8 0,.int .u8 0,.int .u8 0,.int .u8 0,.int .u8 0,.int .u8 0,.int .u8 0,.int .u8 0,.int .u8 0,.int .u8 0,.int .u8 0,.int .u8 0,.int .u8 0,.int .u8 0,.int .u8 0,.int .u8 0,.int .u8 0,.int .u8 0,.int .u8 0,.int .u8 0,.int .u8 0,.int .u8 0,.int .u8 0,.int .u8 0,.int .u8 0,.int .u8 0,.int .u8 0,.int .u8 0,.int .u8 0,.int .u8 0,.int .u8 0,.int .u8 0,.int .u8 0,.int .u8 0,.int .u8 0,.int .u8 0,.int .u8 0,.int .u8 0,.int .u8 0,.int .u8 0,.int .u8 0,.int .u8 0,.int .u8 0,.int .u8 0,.int .u8 0,.int .u8 0,.int .u8 0,.int .u8 0,.int .u8 0,.int .u8 0,.int .u8 0,.int .u8 0,.int .u8 0,.int .u8 0,.int .u8 0,.int .u8 0,.int .u8 0,.int .u8 0,.int .u8 0,.int .u8 0,.int .u8 0,.int .u8 0,.int .u8 0,.int .u8 0,.int .u8 0,.int .u8 0,.int .u8 0,.int .u8 0,.int .u8 0,.int .u8 0,.int .u8 0,.int .u8 0,.int .u8 0,.int .u8 0,.int .u8 0,.int .u8 0,.int .u8 0,.int .u8 0,.int .u8 0,.int .u8 0,.int .u8 0,.int .u8 0,.int .u8 0,.int .u8 0,.int .u8 0,.int .u8 0,.int .u8 0,.int .u8 0,.int .u8 0,.int .u8 0,.int .u8 0,.int .u8 0,.int .u8 0,.int .u8 0,.int .u8 0,.int .u8 0,.int .u8 0,.int .u8 0,.int .u8 0,.int .u8 0,.int .u8 0,.int .u8 0,.int .u8 0,.int .u8 0,.int .u8 0,.int .u8 0,.int .u8 0,.int .u8 0,.int .u8 0,.int .u8 0,.int .u8 0,.int .u8 0,.int .u8 0,.int .u8 0,.int .u8 0,.int .u8 0,.int .u8 0,.int .u8 0,.int .u8 0,.int .u8 0,.int .u8 0,.int .u8 0,.int .u8 0,.int .u8 0,.int .u8 0,.int .u8 0,.int .u8 0,.int .u8 0,.int .u8 0,.int .u8 0,.int .u8 0,.int .u8 0,.int .u8 0,.int .u8 0,.int .u8 0,.int .u8 0,.int .u8 0,.int .u8 0,.int .u8 0,.int .u8 0,.int .u8 0,.int .u8 0,.int .u8 0,.int .u8 0,.int .u8 0,.int .u8 0,.int .u8 0,.int .u8 0,.int .u8 0,.int .u8 0,.int .u8 0,.int .u8 0,.int .u8 0,.int .u8 0,.int .u8 0,.int .u8 0,.int .u8 0,.int .u8 0,.int .u8 0,.int .u8 0,.int .u8 0,.int .u8 0,.int .u8 0,.int .u8 0,.int .u8 0,.int .u8 0,.int .u8 0,.int .u8 0,.int .u8 0,.int .u8 0,.int .u8 0,.int .u8 0,.int .u8 0,.int .u8 0,.int .u8 0,.int .u8 0,.int .u8 0,.int .u8 0,.int .u8 0,.int .u8 0,.int .u8 0,.int .u8 0,.int .u8 0,.int .u8 0,.int .u8 0,.int .u8 0,.int .u8 0,.int .u8 0,.int .u8 0,.int .u8 0,.int .u8 0,.int .u8 0,.int .u8 0,.int .u8 0,.int .u8 0,.int .u8 0,.int .u8 0]) 0)
 | _=>none
theorem am:GOk mg1 G1:=by
 intro n a h g bx hle
 unfold G1 at h
 split at h
 ·cases h
  exact AM (l:=[0,0,0,0,0,0,0,0,0,1,1,1,1,1,0,0,0,0,0,0,0,0,0,0,0,0,0,0,0,0,0,0,1,0,0,0,0,0,0,0,0,0,0,0,0,0,0,0,0,0,0,0,0,0,0,0,0,0,0,0,0,0,0,0,0,0,0,0,0,0,0,0,0,0,0,0,0,0,0,0,0,0,0,0,0,0,0,0,0,0,0,0,0,0,0,0,0,0,0,0,0,0,0,0,0,0,0,0,0,0,0,0,0,0,0,0,0,0,0,0,0,0,0,0,0,0,0,0,0,0,0,0,0,0,0,0,0,0,0,0,0,0,0,0,0,0,0,0,0,0,0,0,0,0,0,0,0,0,0,0,0,0,0,0,0,0,0,0,0,0,0,0,0,0,0,0,0,0,0,0,0,0,0,0,0,0,0,0,0,0,0,0,0,0,0,0,0,0,0,0,0,0,0,0,0,0,0,0,0,0,0,0,0,0,0,0,0,0,0,0,0,0,0,0,0,0,0,0,0,0,0,0,0,0,0,0,0,0,0,0,0,0,0,0,0,0,0,0,0,0,0,0,0,0,0,0]) (k:=.u8) (fun j hj=>hle 0 j _ (by simp only [mg1]; rw [List.getElem?_eq_getElem hj]; rfl))
 ·cases h
def agK:Nat→Nat→n0
 | _,_=>[]
def agL:Nat→p5
 | 72,5=>some ([0,3,4,5,6],[[39],[41]])
 | 72,18=>some ([0,9,10,12],[[39],[41]])
 | 72,21=>some ([0,9,10,11,12],[[39],[41]])
 | 72,27=>some ([0,9,10,12],[[39],[41]])
 | 75,4=>some ([0,1,5,6,14],[[11],[12],[28],[29],[42],[43],[46]])
 | 75,16=>some ([0,1,9,47,48,49],[[11],[12],[28],[29],[42],[43],[46]])
 | 78,3=>some ([0,1,19,20],[])
 | 78,14=>some ([0,1,7,8],[])
 | 79,3=>some ([0,1,15,16],[[10]])
 | 79,14=>some ([0,1,7,8],[[10]])
 | _,_=>none
def spf:Nat→Bool:=fun n=>[1000003,1000004,1000005,1000006,1000007,1000008,1000009,1000010,1000011,1000012,1000013,1000014,1000015,1000016,1000017,1000018,1000019,1000020,1000021,1000022,1000023,1000024,1000025,1000026,1000027,1000028,1000029,1000030,1000031,1000032,1000033,1000034,1000035,1000036,1000037,1000038,1000039,1000040,1000041,1000042,1000043,1000044,1000045,1000046,1000047,1000048,1000049,1000050,1000051,1000052,1000053,1000054,1000055,1000056,1000057,1000058,1000059,1000060,1000061,1000062,1000063,1000064,1000065,1000066,1000067,1000068,1000069,1000070,1000071,1000073,1000074].contains n
noncomputable def wA:Nat→Option Fn
 | 3=>some F3
 | 4=>some F4
 | 5=>some F5
 | 6=>some F6
 | 7=>some F7
 | 8=>some F8
 | 9=>some F9
 | 10=>some F10
 | 11=>some F11
 | 12=>some F12
 | 13=>some F13
 | 14=>some F14
 | 15=>some F15
 | 16=>some F16
 | 17=>some F17
 | 18=>some F18
 | 19=>some F19
 | 20=>some F20
 | 21=>some F21
 | 22=>some F22
 | 23=>some F23
 | 24=>some F24
 | 25=>some F25
 | 26=>some F26
 | 27=>some F27
 | 28=>some F28
 | 29=>some F29
 | 30=>some F30
 | 31=>some F31
 | 32=>some F32
 | 33=>some F33
 | 34=>some F34
 | 35=>some F35
 | 36=>some F36
 | 37=>some F37
 | 38=>some F38
 | 39=>some F39
 | 40=>some F40
 | 41=>some F41
 | 42=>some F42
 | 43=>some F43
 | 44=>some F44
 | 45=>some F45
 | 46=>some F46
 | 47=>some F47
 | 48=>some F48
 | 49=>some F49
 | 50=>some F50
 | 51=>some F51
 | 52=>some F52
 | 53=>some F53
 | 54=>some F54
 | 55=>some F55
 | 56=>some F56
 | 57=>some F57
 | 58=>some F58
 | 59=>some F59
 | 60=>some F60
 | 61=>some F61
 | 62=>some F62
 | 63=>some F63
 | 64=>some F64
 | 65=>some F65
 | 66=>some F66
 | 67=>some F67
 | 68=>some F68
 | 69=>some F69
 | 70=>some F70
 | 71=>some F71
 | 73=>some F73
 | 74=>some F74
 | n=>xl Tryd.prog G1 spf agK agL n
noncomputable def L:Cs:=lim wA (fun _ _=>none)
theorem ok3:FnOk mg1 Tryd.prog 3 F3:=aq am Tryd.func3 (by kernel_rfl)
theorem ok4:FnOk mg1 Tryd.prog 4 F4:=aq am Tryd.func4 (by kernel_rfl)
theorem ok5:FnOk mg1 Tryd.prog 5 F5:=aq am Tryd.func5 (by kernel_rfl)
theorem ok6:FnOk mg1 Tryd.prog 6 F6:=aq am Tryd.func6 (by kernel_rfl)
theorem ok7:FnOk mg1 Tryd.prog 7 F7:=aq am Tryd.func7 (by kernel_rfl)
theorem ok8:FnOk mg1 Tryd.prog 8 F8:=aq am Tryd.func8 (by kernel_rfl)
theorem ok9:FnOk mg1 Tryd.prog 9 F9:=aq am Tryd.func9 (by kernel_rfl)
theorem ah1:FnOk mg1 Tryd.prog 10 F10:=aq am Tryd.func10 (by kernel_rfl)
theorem ah2:FnOk mg1 Tryd.prog 11 F11:=aq am Tryd.func11 (by kernel_rfl)
theorem ah3:FnOk mg1 Tryd.prog 12 F12:=aq am Tryd.func12 (by kernel_rfl)
theorem ah4:FnOk mg1 Tryd.prog 13 F13:=aq am Tryd.func13 (by kernel_rfl)
theorem ah5:FnOk mg1 Tryd.prog 14 F14:=aq am Tryd.func14 (by kernel_rfl)
theorem ah6:FnOk mg1 Tryd.prog 15 F15:=aq am Tryd.func15 (by kernel_rfl)
theorem ah7:FnOk mg1 Tryd.prog 16 F16:=aq am Tryd.func16 (by kernel_rfl)
theorem ah8:FnOk mg1 Tryd.prog 17 F17:=aq am Tryd.func17 (by kernel_rfl)
theorem ah9:FnOk mg1 Tryd.prog 18 F18:=aq am Tryd.func18 (by kernel_rfl)
theorem aia:FnOk mg1 Tryd.prog 19 F19:=aq am Tryd.func19 (by kernel_rfl)
theorem aib:FnOk mg1 Tryd.prog 20 F20:=aq am Tryd.func20 (by kernel_rfl)
theorem aic:FnOk mg1 Tryd.prog 21 F21:=aq am Tryd.func21 (by kernel_rfl)
theorem aid:FnOk mg1 Tryd.prog 22 F22:=aq am Tryd.func22 (by kernel_rfl)
theorem aie:FnOk mg1 Tryd.prog 23 F23:=aq am Tryd.func23 (by kernel_rfl)
theorem aif:FnOk mg1 Tryd.prog 24 F24:=aq am Tryd.func24 (by kernel_rfl)
theorem aig:FnOk mg1 Tryd.prog 25 F25:=aq am Tryd.func25 (by kernel_rfl)
theorem aih:FnOk mg1 Tryd.prog 26 F26:=aq am Tryd.func26 (by kernel_rfl)
theorem aii:FnOk mg1 Tryd.prog 27 F27:=aq am Tryd.func27 (by kernel_rfl)
theorem aij:FnOk mg1 Tryd.prog 28 F28:=aq am Tryd.func28 (by kernel_rfl)
theorem aik:FnOk mg1 Tryd.prog 29 F29:=aq am Tryd.func29 (by kernel_rfl)
theorem ail:FnOk mg1 Tryd.prog 30 F30:=aq am Tryd.func30 (by kernel_rfl)
theorem aim:FnOk mg1 Tryd.prog 31 F31:=aq am Tryd.func31 (by kernel_rfl)
theorem ain:FnOk mg1 Tryd.prog 32 F32:=aq am Tryd.func32 (by kernel_rfl)
theorem aio:FnOk mg1 Tryd.prog 33 F33:=aq am Tryd.func33 (by kernel_rfl)
theorem aip:FnOk mg1 Tryd.prog 34 F34:=aq am Tryd.func34 (by kernel_rfl)
theorem aiq:FnOk mg1 Tryd.prog 35 F35:=aq am Tryd.func35 (by kernel_rfl)
theorem air:FnOk mg1 Tryd.prog 36 F36:=aq am Tryd.func36 (by kernel_rfl)
theorem ais:FnOk mg1 Tryd.prog 37 F37:=aq am Tryd.func37 (by kernel_rfl)
theorem ait:FnOk mg1 Tryd.prog 38 F38:=aq am Tryd.func38 (by kernel_rfl)
theorem aiu:FnOk mg1 Tryd.prog 39 F39:=aq am Tryd.func39 (by kernel_rfl)
theorem aiv:FnOk mg1 Tryd.prog 40 F40:=aq am Tryd.func40 (by kernel_rfl)
theorem aiw:FnOk mg1 Tryd.prog 41 F41:=aq am Tryd.func41 (by kernel_rfl)
theorem aix:FnOk mg1 Tryd.prog 42 F42:=aq am Tryd.func42 (by kernel_rfl)
theorem aiy:FnOk mg1 Tryd.prog 43 F43:=aq am Tryd.func43 (by kernel_rfl)
theorem aiz:FnOk mg1 Tryd.prog 44 F44:=aq am Tryd.func44 (by kernel_rfl)
theorem aiA:FnOk mg1 Tryd.prog 45 F45:=aq am Tryd.func45 (by kernel_rfl)
theorem aiB:FnOk mg1 Tryd.prog 46 F46:=aq am Tryd.func46 (by kernel_rfl)
theorem aiC:FnOk mg1 Tryd.prog 47 F47:=aq am Tryd.func47 (by kernel_rfl)
theorem aiD:FnOk mg1 Tryd.prog 48 F48:=aq am Tryd.func48 (by kernel_rfl)
theorem aiE:FnOk mg1 Tryd.prog 49 F49:=aq am Tryd.func49 (by kernel_rfl)
theorem aiF:FnOk mg1 Tryd.prog 50 F50:=aq am Tryd.func50 (by kernel_rfl)
theorem aiG:FnOk mg1 Tryd.prog 51 F51:=aq am Tryd.func51 (by kernel_rfl)
theorem aiH:FnOk mg1 Tryd.prog 52 F52:=aq am Tryd.func52 (by kernel_rfl)
theorem aiI:FnOk mg1 Tryd.prog 53 F53:=aq am Tryd.func53 (by kernel_rfl)
theorem aiJ:FnOk mg1 Tryd.prog 54 F54:=aq am Tryd.func54 (by kernel_rfl)
theorem aiK:FnOk mg1 Tryd.prog 55 F55:=aq am Tryd.func55 (by kernel_rfl)
theorem aiL:FnOk mg1 Tryd.prog 56 F56:=aq am Tryd.func56 (by kernel_rfl)
theorem aiM:FnOk mg1 Tryd.prog 57 F57:=aq am Tryd.func57 (by kernel_rfl)
theorem aiN:FnOk mg1 Tryd.prog 58 F58:=aq am Tryd.func58 (by kernel_rfl)
theorem aiO:FnOk mg1 Tryd.prog 59 F59:=aq am Tryd.func59 (by kernel_rfl)
theorem aiP:FnOk mg1 Tryd.prog 60 F60:=aq am Tryd.func60 (by kernel_rfl)
theorem aiQ:FnOk mg1 Tryd.prog 61 F61:=aq am Tryd.func61 (by kernel_rfl)
theorem aiR:FnOk mg1 Tryd.prog 62 F62:=aq am Tryd.func62 (by kernel_rfl)
theorem aiS:FnOk mg1 Tryd.prog 63 F63:=aq am Tryd.func63 (by kernel_rfl)
theorem aiT:FnOk mg1 Tryd.prog 64 F64:=aq am Tryd.func64 (by kernel_rfl)
theorem aiU:FnOk mg1 Tryd.prog 65 F65:=aq am Tryd.func65 (by kernel_rfl)
theorem aiV:FnOk mg1 Tryd.prog 66 F66:=aq am Tryd.func66 (by kernel_rfl)
theorem aiW:FnOk mg1 Tryd.prog 67 F67:=aq am Tryd.func67 (by kernel_rfl)
theorem aiX:FnOk mg1 Tryd.prog 68 F68:=aq am Tryd.func68 (by kernel_rfl)
theorem aiY:FnOk mg1 Tryd.prog 69 F69:=aq am Tryd.func69 (by kernel_rfl)
theorem aiZ:FnOk mg1 Tryd.prog 70 F70:=aq am Tryd.func70 (by kernel_rfl)
theorem ai0:FnOk mg1 Tryd.prog 71 F71:=aq am Tryd.func71 (by kernel_rfl)
theorem ai1:FnOk mg1 Tryd.prog 73 F73:=aq am Tryd.func73 (by kernel_rfl)
theorem ai2:FnOk mg1 Tryd.prog 74 F74:=aq am Tryd.func74 (by kernel_rfl)
theorem BU:∀ f fn,wA f=some fn→FnOk mg1 Tryd.prog f fn:=by
 intro f fn h
 unfold wA at h
 split at h
 ·cases h; exact ok3
 ·cases h; exact ok4
 ·cases h; exact ok5
 ·cases h; exact ok6
 ·cases h; exact ok7
 ·cases h; exact ok8
 ·cases h; exact ok9
 ·cases h; exact ah1
 ·cases h; exact ah2
 ·cases h; exact ah3
 ·cases h; exact ah4
 ·cases h; exact ah5
 ·cases h; exact ah6
 ·cases h; exact ah7
 ·cases h; exact ah8
 ·cases h; exact ah9
 ·cases h; exact aia
 ·cases h; exact aib
 ·cases h; exact aic
 ·cases h; exact aid
 ·cases h; exact aie
 ·cases h; exact aif
 ·cases h; exact aig
 ·cases h; exact aih
 ·cases h; exact aii
 ·cases h; exact aij
 ·cases h; exact aik
 ·cases h; exact ail
 ·cases h; exact aim
 ·cases h; exact ain
 ·cases h; exact aio
 ·cases h; exact aip
 ·cases h; exact aiq
 ·cases h; exact air
 ·cases h; exact ais
 ·cases h; exact ait
 ·cases h; exact aiu
 ·cases h; exact aiv
 ·cases h; exact aiw
 ·cases h; exact aix
 ·cases h; exact aiy
 ·cases h; exact aiz
 ·cases h; exact aiA
 ·cases h; exact aiB
 ·cases h; exact aiC
 ·cases h; exact aiD
 ·cases h; exact aiE
 ·cases h; exact aiF
 ·cases h; exact aiG
 ·cases h; exact aiH
 ·cases h; exact aiI
 ·cases h; exact aiJ
 ·cases h; exact aiK
 ·cases h; exact aiL
 ·cases h; exact aiM
 ·cases h; exact aiN
 ·cases h; exact aiO
 ·cases h; exact aiP
 ·cases h; exact aiQ
 ·cases h; exact aiR
 ·cases h; exact aiS
 ·cases h; exact aiT
 ·cases h; exact aiU
 ·cases h; exact aiV
 ·cases h; exact aiW
 ·cases h; exact aiX
 ·cases h; exact aiY
 ·cases h; exact aiZ
 ·cases h; exact ai0
 ·cases h; exact ai1
 ·cases h; exact ai2
 ·exact wu am h
theorem Wh (f:Nat):fY mg1 Tryd.prog f (L f):=ya BU (fun f _ m w args vs bs _ _ _ _ _ r a h=>by cases h) f
end Go.Es.Pko
