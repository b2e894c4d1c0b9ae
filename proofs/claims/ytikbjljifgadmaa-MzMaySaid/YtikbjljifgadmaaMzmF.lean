/- The code of the functions that the statement MzMay reaches, as the interpreter reads it. No condition. -/
import Derived.Test.YtikbjljifgadmaaEsD
import Derived.Test.YtikbjljifgadmaaChecked
import Derived.KernelRfl
set_option linter.unusedVariables false
set_option linter.unusedSimpArgs false
set_option maxRecDepth 100000
set_option maxHeartbeats 4000000
namespace Go.Es.Mzm
open Go.Proofs
def F7o1 := [
 o3 3 (.box 7) [.t 0],
 o3 6 .mv [.b false]]
def F7o3 := [
 o3 12 (.load (some 7)) [.t 3],
 o3 13 (.callf 29) [.t 12],
 o3 7 (.alloc [.nils, .nils, .d (.int .u16 0), .d (.int .u16 0), .d (.int .u16 0), .d (.int .u16 0), .d (.int .i64 0)]) [],
 o0 (.store 7) [.t 7, .t 13]]
def F7o5 := [
 o3 14 (.faddr 0) [.t 7],
 o3 15 (.load none) [.t 14],
 o3 16 (.bslice (.int .u8 0) 4 [0, 1, 2, 3]) [.y 1, .y 2, .y 3, .y 4],
 o3 17 (.append 1 1 false) [.t 15, .t 16],
 o3 18 (.faddr 0) [.t 7],
 o0 (.store 1) [.t 18, .t 17]]
def F7o7 := [
 o3 19 (.faddr 0) [.t 7],
 o3 20 (.load none) [.t 19],
 o3 21 .lenL [.t 20],
 om 8 21]
def F7o9 := [
 om 22 8,
 o3 23 (.bin .sub) [.t 22, .i 4],
 om 24 8,
 o3 25 (.bin .sub) [.t 24, .i 2],
 o3 26 (.bslice (.int .i64 0) 2 [0, 1]) [.t 23, .t 25],
 o3 27 (.faddr 1) [.t 7],
 o0 (.store 1) [.t 27, .t 26]]
def F7o11 := [
 o3 9 .mv [.i 0]]
def F7o14 := [
 om 28 1,
 o3 29 (.bin .and) [.t 28, .i 15],
 o3 30 (.bin .rem) [.t 29, .i 7]]
def F7o17 := [
 o3 32 (.bin .eql) [.t 30, .i 0],
 om 31 32]
def F7o20 := [
 o3 33 (.faddr 1) [.t 7],
 o3 34 (.load none) [.t 33],
 om 35 8,
 o3 36 (.bin .sub) [.t 35, .i 1],
 o3 37 (.iaddrS 1) [.t 34, .i 1],
 o0 (.store 1) [.t 37, .t 36]]
def F7o21 := [
 o3 9 .mv [.i 1]]
def F7c21 : Ac := (.ops F7o21)
def F7o23 := [
 o3 39 (.bin .eql) [.t 30, .i 1],
 om 38 39]
def F7o26 := [
 o3 40 (.faddr 1) [.t 7],
 o3 41 (.load none) [.t 40],
 om 42 8,
 o3 43 (.bin .sub) [.t 42, .i 3],
 o3 44 (.iaddrS 1) [.t 41, .i 1],
 o0 (.store 1) [.t 44, .t 43]]
def F7o27 := [
 o3 9 .mv [.i 1]]
def F7c27 : Ac := (.ops F7o27)
def F7o29 := [
 o3 46 (.bin .eql) [.t 30, .i 2],
 om 45 46]
def F7o32 := [
 o3 47 (.faddr 1) [.t 7],
 o3 48 (.load none) [.t 47],
 om 49 2,
 o3 50 (.bin .and) [.t 49, .i 255],
 o3 51 (.bin .sub) [.i (-1), .t 50],
 o3 52 (.iaddrS 1) [.t 48, .i 0],
 o0 (.store 1) [.t 52, .t 51]]
def F7o33 := [
 o3 9 .mv [.i 1]]
def F7c33 : Ac := (.ops F7o33)
def F7o35 := [
 o3 54 (.bin .eql) [.t 30, .i 3],
 om 53 54]
def F7o38 := [
 o3 55 (.faddr 1) [.t 7],
 o3 56 (.load none) [.t 55],
 o3 57 (.faddr 1) [.t 7],
  { dst := some 58, k := (.load none), xs := [.t 57], av := [[0, 7], [0, 13], [1, 7], [1, 13], [17], [26]] },
 om 59 8,
 o3 60 (.bin .sub) [.t 59, .i 2],
 om 61 8,
 o3 62 (.bin .sub) [.t 61, .i 4],
 o3 63 (.iaddrS 1) [.t 56, .i 0],
  { dst := none, k := (.store 1), xs := [.t 63, .t 60], al := some [[0, 7], [0, 13], [1, 7], [1, 13], [17], [26]] },
 o3 64 (.iaddrS 1) [.t 58, .i 1],
 o0 (.store 1) [.t 64, .t 62]]
def F7o39 := [
 o3 9 .mv [.i 1]]
def F7c39 : Ac := (.ops F7o39)
def F7o41 := [
 o3 66 (.bin .eql) [.t 30, .i 4],
 om 65 66]
def F7o44 := [
 om 67 2,
 o3 68 (.bin .and) [.t 67, .i 255],
 o3 69 (.bin .sub) [.i (-1), .t 68],
 o3 70 (.faddr 6) [.t 7],
 o0 (.store 1) [.t 70, .t 69]]
def F7o45 := [
 o3 9 .mv [.i 1]]
def F7c45 : Ac := (.ops F7o45)
def F7o47 := [
 o3 72 (.bin .eql) [.t 30, .i 5],
 om 71 72]
def F7o50 := [
 om 73 8,
 o3 74 (.bin .add) [.t 73, .i 15],
 o3 75 (.bin .quo) [.t 74, .i 16],
 o3 76 (.bin .sub) [.i 40960, .t 75],
 om 77 2,
 o3 78 (.bin .and) [.t 77, .i 1],
 o3 79 (.bin .add) [.t 76, .t 78],
 o3 80 (.faddr 6) [.t 7],
 o0 (.store 1) [.t 80, .t 79]]
def F7o52 := [
 om 81 2,
 o3 82 (.bin .and) [.t 81, .i 1],
 o3 83 (.bin .eql) [.t 82, .i 1]]
def F7o54 := [
 o3 9 .mv [.i 1]]
def F7c53 : Ac := (cd 83 (.ops F7o54) .skip)
def F7c51 : Ac := (so F7o52 F7c53)
def F7c48 : Ac := (cd 71 (so F7o50 F7c51) .skip)
def F7c42 : Ac := (cd 65 (so F7o44 F7c45) (so F7o47 F7c48))
def F7c36 : Ac := (cd 53 (so F7o38 F7c39) (so F7o41 F7c42))
def F7c30 : Ac := (cd 45 (so F7o32 F7c33) (so F7o35 F7c36))
def F7c24 : Ac := (cd 38 (so F7o26 F7c27) (so F7o29 F7c30))
def F7c18 : Ac := (cd 31 (so F7o20 F7c21) (so F7o23 F7c24))
def F7c15 : Ac := (.block 0 (so F7o17 F7c18))
def F7o58 := [
 o3 85 (.load (some 7)) [.t 7],
 o3 86 (.callf 31) [.t 85],
 om 84 86,
 oe 87 0 84,
 oe 88 1 84,
 om 10 87,
 om 11 88]
def F7o60 := [
 o3 89 (.callf 33) [],
 om 90 89,
 og 91 .mv [.t 11] 90 true,
 og 92 .mv [.t 9] 90 true,
 og 93 (.bin .eql) [.t 91, .t 92] 90 true,
 o3 94 .pick [.t 90, .t 93, .b false],
 om 95 94,
 og 96 (.load (some 7)) [.t 7] 95 true,
 og 97 (.callf 34) [.t 96] 95 true,
 og 98 .mv [.t 9] 95 true,
 og 99 (.bin .eql) [.t 98, .i 0] 95 true,
 og 100 (.eqb false) [.t 97, .t 99] 95 true,
 o3 101 .pick [.t 95, .t 100, .b false],
 om 102 101,
 og 103 .mv [.t 10] 102 true,
 og 104 .lenL [.t 103] 102 true,
 og 105 (.bin .gtr) [.t 104, .i 0] 102 true,
 og 106 .mv [.t 9] 102 true,
 og 107 (.bin .eql) [.t 106, .i 0] 102 true,
 og 108 (.eqb false) [.t 105, .t 107] 102 true,
 o3 109 .pick [.t 102, .t 108, .b false],
 om 6 109]
def F7c61 : Ac := .ret
def F7c59 : Ac := (so F7o60 F7c61)
def F7b57 : Ac := (so F7o58 F7c59)
def F7c57 : Ac := (.seq (.gh []) (.seq (.keep [7, 9] [[7], [26], [0, 13]]) F7b57))
def F7c12 : Ac := (.seq (so F7o14 F7c15) F7c57)
def F7c10 : Ac := (so F7o11 F7c12)
def F7c8 : Ac := (so F7o9 F7c10)
def F7c6 : Ac := (so F7o7 F7c8)
def F7c4 : Ac := (so F7o5 F7c6)
def F7c2 : Ac := (so F7o3 F7c4)
def F7c0 : Ac := (so F7o1 F7c2)
/-- hansom/hansomlaw44.MzMay -/
def F7 : Fn := { np := 3, pb := [], rs := [.t 6], body := F7c0 }
def F29o1 := [
 o3 1 (.box 7) [.t 0],
 o3 2 (.alloc [.nils, .nils, .d (.int .u16 0), .d (.int .u16 0), .d (.int .u16 0), .d (.int .u16 0), .d (.int .i64 0)]) []]
def F29o3 := [
 o3 5 (.load (some 7)) [.t 1],
 o0 (.store 7) [.t 2, .t 5]]
def F29o5 := [
 o3 6 (.bslice (.int .u8 0) 0 []) [],
 o3 7 (.faddr 0) [.t 1],
 o3 8 (.load none) [.t 7],
 o3 9 (.faddr 0) [.t 1],
 o3 10 (.load none) [.t 9],
 o3 11 .lenL [.t 10],
 o3 12 .mn [.t 11, .i 600],
 o3 13 (.subsl 1 false true false) [.t 8, .t 12],
 o3 14 (.append 1 1 false) [.t 6, .t 13],
 o3 15 (.faddr 0) [.t 2],
 o0 (.store 1) [.t 15, .t 14]]
def F29o7 := [
 o3 16 (.faddr 1) [.t 2],
 o0 (.store 1) [.t 16, .c (.nils)]]
def F29o9 := [
 o3 3 .mv [.i 0]]
def F29o12 := [
 o3 4 .mv [.i 0]]
def F29o17 := [
 om 17 4,
 o3 18 (.faddr 1) [.t 1],
 o3 19 (.load none) [.t 18],
 o3 20 .lenL [.t 19],
 o3 21 (.bin .lss) [.t 17, .t 20],
 om 22 21,
 og 23 .mv [.t 4] 22 true,
 og 24 (.bin .lss) [.t 23, .i 6] 22 true,
 o3 25 .pick [.t 22, .t 24, .b false]]
def F29c18 : Ac := (cd 25 .skip (.exit 0))
def F29o24 := [
 om 28 3,
 o3 29 (.faddr 1) [.t 1],
 o3 30 (.load none) [.t 29],
 om 31 4,
 o3 32 (.iaddrS 1) [.t 30, .t 31],
 o3 33 (.load none) [.t 32],
 o3 34 (.bin .and) [.t 33, .i 63],
 o3 35 (.bin .add) [.t 28, .t 34],
 om 3 35]
def F29o27 := [
 om 36 3,
 o3 37 (.bin .add) [.t 36, .i 2],
 o3 38 (.faddr 0) [.t 2],
 o3 39 (.load none) [.t 38],
 o3 40 .lenL [.t 39],
 o3 41 (.bin .gtr) [.t 37, .t 40]]
def F29c28 : Ac := (cd 41 (.exit 0) .skip)
def F29o32 := [
 o3 42 (.faddr 1) [.t 2],
 o3 43 (.load none) [.t 42],
 om 44 3,
 o3 45 (.bslice (.int .i64 0) 1 [0]) [.t 44],
 o3 46 (.append 1 8 false) [.t 43, .t 45],
 o3 47 (.faddr 1) [.t 2],
 o0 (.store 1) [.t 47, .t 46]]
def F29o33 := [
 om 48 3,
 o3 49 (.bin .add) [.t 48, .i 2],
 om 3 49]
def F29c33 : Ac := (.ops F29o33)
def F29c31 : Ac := (so F29o32 F29c33)
def F29c25 : Ac := (.seq (so F29o27 F29c28) F29c31)
def F29o34 := [
 om 26 4,
 o3 27 (.bin .add) [.t 26, .i 1],
 om 4 27]
def F29c34 : Ac := (.ops F29o34)
def F29c21 : Ac := (.seq (.block 1 (so F29o24 F29c25)) F29c34)
def F29l14 : Ac := (.seq (so F29o17 F29c18) F29c21)
def F29c13 : Ac := (.block 0 (.loop (.seq (.gh []) (.seq (.keep [1, 2, 3, 4] [[1], [2], [6], [901, 2]]) F29l14))))
def F29o36 := [
 o3 50 (.faddr 6) [.t 1],
 o3 51 (.load none) [.t 50],
 o3 52 (.bin .and) [.t 51, .i 255],
 o3 53 (.faddr 6) [.t 2],
 o0 (.store 1) [.t 53, .t 52]]
def F29o38 := [
 o3 54 (.load (some 7)) [.t 2],
 o0 (.store 7) [.t 2, .t 54]]
def F29c39 : Ac := .ret
def F29c37 : Ac := (so F29o38 F29c39)
def F29b35 : Ac := (so F29o36 F29c37)
def F29c35 : Ac := (.seq (.gh []) (.seq (.keep [1, 2] [[1], [2], [6], [901, 2]]) F29b35))
def F29c10 : Ac := (.seq (so F29o12 F29c13) F29c35)
def F29b8 : Ac := (so F29o9 F29c10)
def F29c8 : Ac := (.seq (.gh [.ownB [2] 1 [901, 2] 1]) (.seq (.keep [1, 2] [[1], [2], [6], [901, 2]]) F29b8))
def F29c6 : Ac := (so F29o7 F29c8)
def F29c4 : Ac := (so F29o5 F29c6)
def F29b2 : Ac := (so F29o3 F29c4)
def F29c2 : Ac := (.seq (.gh [.ownB [2] 0 [900, 2] 1, .ownB [2] 1 [901, 2] 1]) (.seq (.keep [1, 2] [[1], [2], [900, 2], [901, 2]]) F29b2))
def F29c0 : Ac := (so F29o1 F29c2)
/-- hansom/hansomref44.Near -/
def F29 : Fn := { np := 1, pb := [], rs := [.c 2 (some 7)], body := F29c0 }
def F31o1 := [
 o3 1 (.box 7) [.t 0],
 o3 2 .mv [.c (.nils)],
 o3 3 .mv [.i 0]]
def F31o4 := [
 o3 14 (.load (some 7)) [.t 1],
 o3 15 (.callf 34) [.t 14],
 o3 16 (.un .not) [.t 15]]
def F31o7 := [
 o3 2 .mv [.c (.nils)],
 o3 3 .mv [.i 1]]
def F31c8 : Ac := (.seq (.gh [.frz 2]) .ret)
def F31c5 : Ac := (cd 16 (so F31o7 F31c8) .skip)
def F31o11 := [
 o3 17 (.faddr 1) [.t 1],
 o3 18 (.load none) [.t 17],
 o3 19 .lenL [.t 18],
 o3 20 (.callf 70) [.t 19],
 om 4 20]
def F31o13 := [
 om 21 4,
 o3 22 (.faddr 0) [.t 1],
 o3 23 (.load none) [.t 22],
 o3 24 .lenL [.t 23],
 o3 25 (.bin .add) [.t 21, .t 24],
 om 5 25]
def F31o15 := [
 om 26 5,
 o3 27 (.bin .rem) [.t 26, .i 512],
 o3 28 (.toInt .u16) [.t 27],
 om 29 5,
 o3 30 (.bin .add) [.t 29, .i 512],
 o3 31 (.bin .sub) [.t 30, .i 1],
 o3 32 (.bin .quo) [.t 31, .i 512],
 o3 33 (.toInt .u16) [.t 32],
 o3 34 (.faddr 1) [.t 1],
 o3 35 (.load none) [.t 34],
 o3 36 .lenL [.t 35],
 o3 37 (.toInt .u16) [.t 36],
 om 38 4,
 o3 39 (.bin .quo) [.t 38, .i 16],
 o3 40 (.toInt .u16) [.t 39],
 o3 41 (.faddr 6) [.t 1],
 o3 42 (.load none) [.t 41],
 o3 43 (.toInt .u16) [.t 42],
 o3 44 (.faddr 4) [.t 1],
 o3 45 (.load none) [.t 44],
 o3 46 (.faddr 5) [.t 1],
 o3 47 (.load none) [.t 46],
 o3 48 (.faddr 3) [.t 1],
 o3 49 (.load none) [.t 48],
 o3 50 (.faddr 2) [.t 1],
 o3 51 (.load none) [.t 50],
 o3 52 (.bslice (.int .u16 0) 13 [0, 1, 2, 3, 4, 5, 6, 7, 8, 9, 10, 11, 12]) [.t 28, .t 33, .t 37, .t 40, .t 43, .w 65535, .t 45, .t 47, .w 0, .t 49, .t 51, .w 28, .w 0],
 om 6 52]
def F31o17 := [
 o3 53 (.bslice (.int .u8 0) 2 [0, 1]) [.y 77, .y 90],
 om 7 53]
def F31o20 := [
 om 54 6,
 o3 55 .lenL [.t 54],
 o3 56 .mv [.i 0]]
def F31o24 := [
 o3 57 (.bin .lss) [.t 56, .t 55]]
def F31o32 := [
 o3 58 (.iaddrS 1) [.t 54, .t 56],
 o3 59 (.load none) [.t 58],
 om 9 59]
def F31o33 := [
 om 60 7,
 om 61 9,
 o3 62 (.callf 62) [.t 61],
 o3 63 (.append 1 1 false) [.t 60, .t 62],
 om 7 63]
def F31c33 : Ac := (.ops F31o33)
def F31o34 := [
 o3 64 (.bin .add) [.t 56, .i 1],
 om 56 64]
def F31c34 : Ac := (.ops F31o34)
def F31c29 : Ac := (.seq (.block 1 (so F31o32 F31c33)) F31c34)
def F31c25 : Ac := (.seq (cd 57 .skip (.exit 0)) F31c29)
def F31l22 : Ac := (so F31o24 F31c25)
def F31c21 : Ac := (.block 0 (.loop (.seq (.gh [.frz 54]) (.seq (.keep [1, 4, 7, 54, 55, 56] [[1], [53]]) F31l22))))
def F31o37 := [
 o3 65 (.faddr 1) [.t 1],
 o3 66 (.load none) [.t 65],
 o3 67 .lenL [.t 66],
 o3 68 .mv [.i 0]]
def F31o41 := [
 o3 69 (.bin .lss) [.t 68, .t 67]]
def F31o49 := [
 o3 70 (.iaddrS 1) [.t 66, .t 68],
 o3 71 (.load none) [.t 70],
 om 11 71]
def F31o51 := [
 om 73 11,
 o3 74 (.toInt .u32) [.t 73],
 o3 75 (.callf 71) [.t 74],
 om 72 75,
 oe 76 0 72,
 oe 77 1 72,
 om 12 76,
 om 13 77]
def F31o52 := [
 om 78 7,
 om 79 13,
 o3 80 (.callf 62) [.t 79],
 o3 81 (.append 1 1 false) [.t 78, .t 80],
 om 82 12,
 o3 83 (.callf 62) [.t 82],
 o3 84 (.append 1 1 false) [.t 81, .t 83],
 om 7 84]
def F31c52 : Ac := (.ops F31o52)
def F31c50 : Ac := (so F31o51 F31c52)
def F31o53 := [
 o3 85 (.bin .add) [.t 68, .i 1],
 om 68 85]
def F31c53 : Ac := (.ops F31o53)
def F31c46 : Ac := (.seq (.block 3 (so F31o49 F31c50)) F31c53)
def F31c42 : Ac := (.seq (cd 69 .skip (.exit 2)) F31c46)
def F31l39 : Ac := (so F31o41 F31c42)
def F31c38 : Ac := (.block 2 (.loop (.seq (.gh []) (.seq (.keep [1, 4, 7, 66, 67, 68] [[1], [53]]) F31l39))))
def F31o55 := [
 om 86 7,
 om 87 4,
 om 88 7,
 o3 89 .lenL [.t 88],
 o3 90 (.bin .sub) [.t 87, .t 89],
 o3 91 (.appmk (.int .u8 0) 1) [.t 86, .t 90],
 om 7 91]
def F31o57 := [
 om 92 7,
 o3 93 (.faddr 0) [.t 1],
 o3 94 (.load none) [.t 93],
 o3 95 (.append 1 1 false) [.t 92, .t 94],
 om 2 95,
 o3 3 .mv [.i 0]]
def F31c58 : Ac := (.seq (.gh [.frz 2]) .ret)
def F31c56 : Ac := (so F31o57 F31c58)
def F31b54 : Ac := (so F31o55 F31c56)
def F31c54 : Ac := (.seq (.gh []) (.seq (.keep [1, 4, 7] [[1], [53]]) F31b54))
def F31b35 : Ac := (.seq (so F31o37 F31c38) F31c54)
def F31c35 : Ac := (.seq (.gh []) (.seq (.keep [1, 4, 7] [[1], [53]]) F31b35))
def F31c18 : Ac := (.seq (so F31o20 F31c21) F31c35)
def F31c16 : Ac := (so F31o17 F31c18)
def F31c14 : Ac := (so F31o15 F31c16)
def F31c12 : Ac := (so F31o13 F31c14)
def F31c10 : Ac := (so F31o11 F31c12)
def F31c2 : Ac := (.seq (so F31o4 F31c5) F31c10)
def F31c0 : Ac := (so F31o1 F31c2)
/-- hansom/mz.Write -/
def F31 : Fn := { np := 1, pb := [], rs := [.t 2, .t 3], body := F31c0 }
def F34o1 := [
 o3 1 (.box 7) [.t 0],
 o3 2 .mv [.b false]]
def F34o4 := [
 o3 5 (.faddr 0) [.t 1],
 o3 6 (.load none) [.t 5],
 o3 7 .lenL [.t 6],
 o3 8 (.bin .gtr) [.t 7, .i 655360],
 om 9 8,
 og 10 (.faddr 6) [.t 1] 9 false,
 og 11 (.load none) [.t 10] 9 false,
 og 12 (.bin .lss) [.t 11, .i 0] 9 false,
 o3 13 .pick [.t 9, .b true, .t 12],
 om 14 13,
 og 15 (.faddr 6) [.t 1] 14 false,
  { dst := some 16, k := (.load none), xs := [.t 15], g := some (14, false), av := [[20]] },
 og 17 (.faddr 0) [.t 1] 14 false,
 og 18 (.load none) [.t 17] 14 false,
 og 19 .lenL [.t 18] 14 false,
  { dst := some 20, k := (.callf 75), xs := [.t 19], g := some (14, false), al := some [] },
 og 21 (.bin .sub) [.i 40960, .t 20] 14 false,
 og 22 (.bin .gtr) [.t 16, .t 21] 14 false,
 o3 23 .pick [.t 14, .b true, .t 22],
 om 24 23,
 og 25 (.faddr 1) [.t 1] 24 false,
 og 26 (.load none) [.t 25] 24 false,
 og 27 .lenL [.t 26] 24 false,
 og 28 (.bin .gtr) [.t 27, .i 4000] 24 false,
 o3 29 .pick [.t 24, .b true, .t 28]]
def F34o7 := [
 o3 2 .mv [.b false]]
def F34c8 : Ac := .ret
def F34c5 : Ac := (cd 29 (so F34o7 F34c8) .skip)
def F34o12 := [
 o3 30 (.faddr 1) [.t 1],
 o3 31 (.load none) [.t 30],
 o3 32 .lenL [.t 31],
 o3 33 .mv [.i 0]]
def F34o16 := [
 o3 34 (.bin .lss) [.t 33, .t 32]]
def F34o24 := [
 om 35 33,
 o3 36 (.iaddrS 1) [.t 31, .t 33],
 o3 37 (.load none) [.t 36],
 om 3 35,
 om 4 37]
def F34o26 := [
 om 38 4,
 o3 39 (.bin .lss) [.t 38, .i 0],
 om 40 39,
 og 41 .mv [.t 4] 40 false,
 og 42 (.faddr 0) [.t 1] 40 false,
 og 43 (.load none) [.t 42] 40 false,
 og 44 .lenL [.t 43] 40 false,
 og 45 (.bin .sub) [.t 44, .i 2] 40 false,
 og 46 (.bin .gtr) [.t 41, .t 45] 40 false,
 o3 47 .pick [.t 40, .b true, .t 46],
 om 48 47,
 og 49 .mv [.t 3] 48 false,
 og 50 (.bin .gtr) [.t 49, .i 0] 48 false,
 og 51 .mv [.t 50] 48 false,
 og 52 .mv [.t 4] 51 true,
 og 53 (.faddr 1) [.t 1] 51 true,
 og 54 (.load none) [.t 53] 51 true,
 og 55 .mv [.t 3] 51 true,
 og 56 (.bin .sub) [.t 55, .i 1] 51 true,
 og 57 (.iaddrS 1) [.t 54, .t 56] 51 true,
 og 58 (.load none) [.t 57] 51 true,
 og 59 (.bin .sub) [.t 52, .t 58] 51 true,
 og 60 (.bin .lss) [.t 59, .i 2] 51 true,
 og 61 .pick [.t 51, .t 60, .b false] 48 false,
 o3 62 .pick [.t 48, .b true, .t 61]]
def F34o29 := [
 o3 2 .mv [.b false]]
def F34c30 : Ac := .ret
def F34c27 : Ac := (cd 62 (so F34o29 F34c30) .skip)
def F34c25 : Ac := (so F34o26 F34c27)
def F34o32 := [
 o3 63 (.bin .add) [.t 33, .i 1],
 om 33 63]
def F34c32 : Ac := (.ops F34o32)
def F34c21 : Ac := (.seq (.block 1 (so F34o24 F34c25)) F34c32)
def F34c17 : Ac := (.seq (cd 34 .skip (.exit 0)) F34c21)
def F34l14 : Ac := (so F34o16 F34c17)
def F34c13 : Ac := (.block 0 (.loop (.seq (.gh []) (.seq (.keep [1, 31, 32, 33] [[1]]) F34l14))))
def F34o34 := [
 o3 2 .mv [.b true]]
def F34c35 : Ac := .ret
def F34b33 : Ac := (so F34o34 F34c35)
def F34c33 : Ac := (.seq (.gh []) (.seq (.keep [] []) F34b33))
def F34c10 : Ac := (.seq (so F34o12 F34c13) F34c33)
def F34c2 : Ac := (.seq (so F34o4 F34c5) F34c10)
def F34c0 : Ac := (so F34o1 F34c2)
/-- hansom/mz.May -/
def F34 : Fn := { np := 1, pb := [], rs := [.t 2], body := F34c0 }
def F62o1 := [
 o3 2 .mv [.c (.nils)]]
def F62o3 := [
 om 3 0,
 o3 4 (.callf 100) [.t 3],
 om 5 0,
 o3 6 (.callf 101) [.t 5],
 o3 7 (.bslice (.int .u8 0) 2 [0, 1]) [.t 4, .t 6],
 om 2 7]
def F62c4 : Ac := (.seq (.gh [.frz 2]) .ret)
def F62c2 : Ac := (so F62o3 F62c4)
def F62c0 : Ac := (so F62o1 F62c2)
/-- hansom/index.Two -/
def F62 : Fn := { np := 1, pb := [], rs := [.t 2], body := F62c0 }
def F70o1 := [
 o3 2 .mv [.i 0]]
def F70o3 := [
 om 3 0,
 o3 4 (.bin .mul) [.i 4, .t 3],
 o3 5 (.bin .add) [.i 28, .t 4],
 o3 6 (.callf 104) [.t 5, .i 16],
 om 2 6]
def F70c4 : Ac := .ret
def F70c2 : Ac := (so F70o3 F70c4)
def F70c0 : Ac := (so F70o1 F70c2)
/-- hansom/mz.head -/
def F70 : Fn := { np := 1, pb := [], rs := [.t 2], body := F70c0 }
def F71o1 := [
 o3 2 .mv [.w 0],
 o3 3 .mv [.w 0]]
def F71o3 := [
 om 4 0,
 o3 5 (.bin .and) [.t 4, .u 1048575],
 om 0 5]
def F71o5 := [
 om 6 0,
 o3 7 (.bin .shr) [.t 6, .c (.d (.int .u64 4))],
 o3 8 (.toInt .u16) [.t 7],
 om 9 0,
 o3 10 (.bin .and) [.t 9, .u 15],
 o3 11 (.toInt .u16) [.t 10],
 om 2 8,
 om 3 11]
def F71c6 : Ac := .ret
def F71c4 : Ac := (so F71o5 F71c6)
def F71c2 : Ac := (so F71o3 F71c4)
def F71c0 : Ac := (so F71o1 F71c2)
/-- hansom/bits.Normal -/
def F71 : Fn := { np := 1, pb := [], rs := [.t 2, .t 3], body := F71c0 }
def F75o1 := [
 o3 2 .mv [.i 0]]
def F75o4 := [
 om 3 0,
 o3 4 (.bin .lss) [.t 3, .i 1]]
def F75o7 := [
 o3 2 .mv [.i 0]]
def F75c8 : Ac := .ret
def F75c5 : Ac := (cd 4 (so F75o7 F75c8) .skip)
def F75o11 := [
 om 5 0,
 o3 6 (.bin .sub) [.t 5, .i 1],
 o3 7 (.bin .quo) [.t 6, .i 16],
 o3 8 (.bin .add) [.t 7, .i 1],
 om 2 8]
def F75c12 : Ac := .ret
def F75c10 : Ac := (so F75o11 F75c12)
def F75c2 : Ac := (.seq (so F75o4 F75c5) F75c10)
def F75c0 : Ac := (so F75o1 F75c2)
/-- hansom/bits.Paras -/
def F75 : Fn := { np := 1, pb := [], rs := [.t 2], body := F75c0 }
def F100o1 := [
 o3 2 .mv [.y 0]]
def F100o3 := [
 om 3 0,
 o3 4 (.toInt .u8) [.t 3],
 om 2 4]
def F100c4 : Ac := .ret
def F100c2 : Ac := (so F100o3 F100c4)
def F100c0 : Ac := (so F100o1 F100c2)
/-- hansom/bits.Low -/
def F100 : Fn := { np := 1, pb := [], rs := [.t 2], body := F100c0 }
def F101o1 := [
 o3 2 .mv [.y 0]]
def F101o3 := [
 om 3 0,
 o3 4 (.bin .shr) [.t 3, .c (.d (.int .u64 8))],
 o3 5 (.toInt .u8) [.t 4],
 om 2 5]
def F101c4 : Ac := .ret
def F101c2 : Ac := (so F101o3 F101c4)
def F101c0 : Ac := (so F101o1 F101c2)
/-- hansom/bits.High -/
def F101 : Fn := { np := 1, pb := [], rs := [.t 2], body := F101c0 }
def F104o1 := [
 o3 4 .mv [.i 0]]
def F104o4 := [
 om 5 1,
 o3 6 (.bin .lss) [.t 5, .i 1],
 om 7 6,
 og 8 .mv [.t 1] 7 false,
 og 9 (.bin .gtr) [.t 8, .i 4096] 7 false,
 o3 10 .pick [.t 7, .b true, .t 9],
 om 11 10,
 og 12 .mv [.t 1] 11 false,
 og 13 .mv [.t 1] 11 false,
 og 14 (.bin .sub) [.t 13, .i 1] 11 false,
 og 15 (.bin .and) [.t 12, .t 14] 11 false,
 og 16 (.bin .neq) [.t 15, .i 0] 11 false,
 o3 17 .pick [.t 11, .b true, .t 16]]
def F104o6 := [
 o3 1 .mv [.i 1]]
def F104c5 : Ac := (cd 17 (.ops F104o6) .skip)
def F104o9 := [
 om 18 0,
 o3 19 .mx [.t 18, .i 0],
 o3 20 .mn [.t 19, .i 16777216],
 om 0 20]
def F104o11 := [
 om 21 0,
 om 22 1,
 o3 23 (.bin .add) [.t 21, .t 22],
 o3 24 (.bin .sub) [.t 23, .i 1],
 om 25 1,
 o3 26 (.bin .sub) [.t 25, .i 1],
 o3 27 (.bin .andNot) [.t 24, .t 26],
 om 4 27]
def F104c12 : Ac := .ret
def F104c10 : Ac := (so F104o11 F104c12)
def F104c8 : Ac := (so F104o9 F104c10)
def F104c2 : Ac := (.seq (so F104o4 F104c5) F104c8)
def F104c0 : Ac := (so F104o1 F104c2)
/-- hansom/bits.Up -/
def F104 : Fn := { np := 2, pb := [], rs := [.t 4], body := F104c0 }
def hints : Nat → Nat → Hint
  | 32, 13 => [(4, [[10]], some []), (7, [[60], [10]], none), (9, [[60], [10]], none), (11, [[60], [10]], none), (13, [[60], [10]], none), (15, [[60], [10]], none), (18, [[60]], none)]
  | 34, 1 => [(11, [[20]], none), (15, [], some [])]
  | _, _ => []
def spf : Nat → Bool := fun n => [67, 1000007, 1000029, 1000031, 1000034, 1000062, 1000070, 1000071, 1000075, 1000100, 1000101, 1000104].contains n
noncomputable def tab1 : Nat → Option Fn
  | 7 => some F7
  | 29 => some F29
  | 31 => some F31
  | 34 => some F34
  | 62 => some F62
  | 70 => some F70
  | 71 => some F71
  | 75 => some F75
  | 100 => some F100
  | 101 => some F101
  | 104 => some F104
  | n => autoT Try.prog (fun _ => none) spf hints n
noncomputable def L : Cs := lim tab1 (fun _ _ => none)

theorem no_globals : GOk (fun _ _ => none) (fun _ => none) := fun n a h => by cases h
theorem ok7 : FnOk (fun _ _ => none) Try.prog 7 F7 := compF_spec no_globals Try.func7 (by kernel_rfl)
theorem ok29 : FnOk (fun _ _ => none) Try.prog 29 F29 := compF_spec no_globals Try.func29 (by kernel_rfl)
theorem ok31 : FnOk (fun _ _ => none) Try.prog 31 F31 := compF_spec no_globals Try.func31 (by kernel_rfl)
theorem ok34 : FnOk (fun _ _ => none) Try.prog 34 F34 := compF_spec no_globals Try.func34 (by kernel_rfl)
theorem ok62 : FnOk (fun _ _ => none) Try.prog 62 F62 := compF_spec no_globals Try.func62 (by kernel_rfl)
theorem ok70 : FnOk (fun _ _ => none) Try.prog 70 F70 := compF_spec no_globals Try.func70 (by kernel_rfl)
theorem ok71 : FnOk (fun _ _ => none) Try.prog 71 F71 := compF_spec no_globals Try.func71 (by kernel_rfl)
theorem ok75 : FnOk (fun _ _ => none) Try.prog 75 F75 := compF_spec no_globals Try.func75 (by kernel_rfl)
theorem ok100 : FnOk (fun _ _ => none) Try.prog 100 F100 := compF_spec no_globals Try.func100 (by kernel_rfl)
theorem ok101 : FnOk (fun _ _ => none) Try.prog 101 F101 := compF_spec no_globals Try.func101 (by kernel_rfl)
theorem ok104 : FnOk (fun _ _ => none) Try.prog 104 F104 := compF_spec no_globals Try.func104 (by kernel_rfl)
theorem tab1_ok : ∀ f fn, tab1 f = some fn → FnOk (fun _ _ => none) Try.prog f fn := by
  intro f fn h
  unfold tab1 at h
  split at h
  · cases h; exact ok7
  · cases h; exact ok29
  · cases h; exact ok31
  · cases h; exact ok34
  · cases h; exact ok62
  · cases h; exact ok70
  · cases h; exact ok71
  · cases h; exact ok75
  · cases h; exact ok100
  · cases h; exact ok101
  · cases h; exact ok104
  · exact autoT_spec no_globals h
theorem meets1 (f : Nat) : Meets (fun _ _ => none) Try.prog f (L f) := lim_meets tab1_ok (fun f _ m w args vs bs _ _ _ _ _ r a h => by cases h) f

end Go.Es.Mzm
