/- The code of the functions that the statement MzAny reaches, as the interpreter reads it. No condition. -/
import Derived.Test.YtikbjljifgadmaaEsD
import Derived.Test.YtikbjljifgadmaaChecked
import Derived.KernelRfl
set_option linter.unusedVariables false
set_option linter.unusedSimpArgs false
set_option maxRecDepth 100000
set_option maxHeartbeats 4000000
namespace Go.Es.Mza
open Go.Proofs
def F8o1 := [
 o3 3 (.box 7) [.t 0],
 o3 4 (.box 2) [.t 1],
 o3 6 .mv [.b false]]
def F8o3 := [
 o3 15 (.load (some 7)) [.t 3],
 o3 16 (.callf 29) [.t 15],
 o3 17 (.callf 30) [.t 16],
 o3 18 .strBytes [.t 17],
 om 7 18]
def F8o5 := [
 o3 19 (.iaddrA 2 1) [.t 4, .i 0],
 o3 20 (.load none) [.t 19],
 o3 21 (.bin .and) [.t 20, .i 255],
 om 22 7,
 o3 23 .lenL [.t 22],
 o3 24 .mn [.t 23, .i 48],
 o3 25 (.bin .rem) [.t 21, .t 24],
 om 8 25]
def F8o7 := [
 om 26 7,
 om 27 8,
 o3 28 (.iaddrS 1) [.t 26, .t 27],
 o3 29 (.load none) [.t 28],
 o3 30 (.iaddrA 2 1) [.t 4, .i 1],
 o3 31 (.load none) [.t 30],
 o3 32 (.bin .and) [.t 31, .i 255],
 o3 33 (.bin .rem) [.t 32, .i 255],
 o3 34 (.bin .add) [.t 33, .i 1],
 o3 35 (.toInt .u8) [.t 34],
 o3 36 (.bin .xor) [.t 29, .t 35],
 o3 37 (.iaddrS 1) [.t 26, .t 27],
 o0 (.store 1) [.t 37, .t 36]]
def F8o10 := [
 o3 38 (.iaddrA 2 1) [.t 4, .i 1],
 o3 39 (.load none) [.t 38],
 o3 40 (.bin .shr) [.t 39, .c (.d (.int .u64 8))],
 o3 41 (.bin .and) [.t 40, .i 7],
 o3 42 (.bin .eql) [.t 41, .i 0]]
def F8o12 := [
 om 43 2,
 om 44 2,
 o3 45 .lenL [.t 44],
 o3 46 .mn [.t 45, .i 80],
 o3 47 (.subsl 1 false true false) [.t 43, .t 46],
 om 7 47]
def F8c11 : Ac := (cd 42 (.ops F8o12) .skip)
def F8o15 := [
 om 49 7,
 o3 50 (.callf 32) [.t 49],
 om 48 50,
 oe 51 0 48,
 oe 52 1 48,
 o3 9 (.alloc [.nils, .nils, .d (.int .u16 0), .d (.int .u16 0), .d (.int .u16 0), .d (.int .u16 0), .d (.int .i64 0)]) [],
 o0 (.store 7) [.t 9, .t 51],
 om 10 52]
def F8o18 := [
 om 53 10,
 o3 54 (.bin .neq) [.t 53, .i 0]]
def F8o21 := [
 o3 55 (.callf 33) [],
 om 56 55,
 og 57 (.faddr 0) [.t 9] 56 true,
 og 58 (.load none) [.t 57] 56 true,
 og 59 .lenL [.t 58] 56 true,
 og 60 (.faddr 1) [.t 9] 56 true,
 og 61 (.load none) [.t 60] 56 true,
 og 62 .lenL [.t 61] 56 true,
 og 63 (.bin .add) [.t 59, .t 62] 56 true,
 og 64 (.bin .eql) [.t 63, .i 0] 56 true,
 o3 65 .pick [.t 56, .t 64, .b false],
 om 66 65,
 og 67 .mv [.t 10] 66 true,
 og 68 (.bin .eql) [.t 67, .i 2] 66 true,
 og 69 .mv [.t 68] 66 true,
 og 70 .mv [.t 10] 69 false,
 og 71 (.bin .eql) [.t 70, .i 440] 69 false,
 og 72 .pick [.t 69, .b true, .t 71] 66 true,
 og 73 .mv [.t 72] 66 true,
 og 74 .mv [.t 10] 73 false,
 og 75 (.bin .eql) [.t 74, .i 3] 73 false,
 og 76 .pick [.t 73, .b true, .t 75] 66 true,
 og 77 .mv [.t 76] 66 true,
 og 78 .mv [.t 10] 77 false,
 og 79 (.bin .eql) [.t 78, .i 8] 77 false,
 og 80 .pick [.t 77, .b true, .t 79] 66 true,
 o3 81 .pick [.t 66, .t 80, .b false],
 om 6 81]
def F8c22 : Ac := .ret
def F8c19 : Ac := (cd 54 (so F8o21 F8c22) .skip)
def F8o25 := [
 o3 83 (.load (some 7)) [.t 9],
 o3 84 (.callf 31) [.t 83],
 om 82 84,
 oe 85 0 82,
 oe 86 1 82,
 om 11 85,
 om 12 86]
def F8o27 := [
 om 88 11,
 o3 89 (.callf 32) [.t 88],
 om 87 89,
 oe 90 0 87,
 oe 91 1 87,
 o3 13 (.alloc [.nils, .nils, .d (.int .u16 0), .d (.int .u16 0), .d (.int .u16 0), .d (.int .u16 0), .d (.int .i64 0)]) [],
 o0 (.store 7) [.t 13, .t 90],
 om 14 91]
def F8o29 := [
 o3 92 (.callf 33) [],
 om 93 92,
 og 94 (.load (some 7)) [.t 9] 93 true,
 og 95 (.callf 34) [.t 94] 93 true,
 o3 96 .pick [.t 93, .t 95, .b false],
 om 97 96,
 og 98 .mv [.t 12] 97 true,
 og 99 (.bin .eql) [.t 98, .i 0] 97 true,
 o3 100 .pick [.t 97, .t 99, .b false],
 om 101 100,
 og 102 .mv [.t 14] 101 true,
 og 103 (.bin .eql) [.t 102, .i 0] 101 true,
 o3 104 .pick [.t 101, .t 103, .b false],
 om 105 104,
 og 106 (.load (some 7)) [.t 9] 105 true,
 og 107 (.load (some 7)) [.t 13] 105 true,
 og 108 (.callf 35) [.t 106, .t 107] 105 true,
 o3 109 .pick [.t 105, .t 108, .b false],
 om 110 109,
 og 111 (.faddr 0) [.t 9] 110 true,
 og 112 (.load none) [.t 111] 110 true,
 og 113 .lenL [.t 112] 110 true,
 og 114 .mv [.t 7] 110 true,
 og 115 .lenL [.t 114] 110 true,
 og 116 (.bin .leq) [.t 113, .t 115] 110 true,
 o3 117 .pick [.t 110, .t 116, .b false],
 om 6 117]
def F8c30 : Ac := .ret
def F8c28 : Ac := (so F8o29 F8c30)
def F8c26 : Ac := (so F8o27 F8c28)
def F8c24 : Ac := (so F8o25 F8c26)
def F8c16 : Ac := (.seq (so F8o18 F8c19) F8c24)
def F8b14 : Ac := (so F8o15 F8c16)
def F8c14 : Ac := (.seq (.gh [.frz 7]) (.seq (.keep [7] []) F8b14))
def F8c8 : Ac := (.seq (so F8o10 F8c11) F8c14)
def F8c6 : Ac := (so F8o7 F8c8)
def F8c4 : Ac := (so F8o5 F8c6)
def F8c2 : Ac := (so F8o3 F8c4)
def F8c0 : Ac := (so F8o1 F8c2)
/-- hansom/hansomlaw44.MzAny -/
def F8 : Fn := { np := 3, pb := [], rs := [.t 6], body := F8c0 }
def F29o1 := [
 o3 1 (.box 7) [.t 0],
 o3 2 (.alloc [.nils, .nils, .d (.int .u16 0), .d (.int .u16 0), .d (.int .u16 0), .d (.int .u16 0), .d (.int .i64 0)]) []]
def F29o3 := [
 o3 5 (.load (some 7)) [.t 1],
 o0 (.store 7) [.t 2, .t 5]]
def F29o5 := [
 o3 6 (.bslice (.int .u8 0) 0 []) [],
 o3 7 (.faddr 0) [.t 1],
 o3 8 (.load none) [.t 7],
 o3 9 (.faddr 0) [.t 1],
 o3 10 (.load none) [.t 9],
 o3 11 .lenL [.t 10],
 o3 12 .mn [.t 11, .i 600],
 o3 13 (.subsl 1 false true false) [.t 8, .t 12],
 o3 14 (.append 1 1 false) [.t 6, .t 13],
 o3 15 (.faddr 0) [.t 2],
 o0 (.store 1) [.t 15, .t 14]]
def F29o7 := [
 o3 16 (.faddr 1) [.t 2],
 o0 (.store 1) [.t 16, .c (.nils)]]
def F29o9 := [
 o3 3 .mv [.i 0]]
def F29o12 := [
 o3 4 .mv [.i 0]]
def F29o17 := [
 om 17 4,
 o3 18 (.faddr 1) [.t 1],
 o3 19 (.load none) [.t 18],
 o3 20 .lenL [.t 19],
 o3 21 (.bin .lss) [.t 17, .t 20],
 om 22 21,
 og 23 .mv [.t 4] 22 true,
 og 24 (.bin .lss) [.t 23, .i 6] 22 true,
 o3 25 .pick [.t 22, .t 24, .b false]]
def F29c18 : Ac := (cd 25 .skip (.exit 0))
def F29o24 := [
 om 28 3,
 o3 29 (.faddr 1) [.t 1],
 o3 30 (.load none) [.t 29],
 om 31 4,
 o3 32 (.iaddrS 1) [.t 30, .t 31],
 o3 33 (.load none) [.t 32],
 o3 34 (.bin .and) [.t 33, .i 63],
 o3 35 (.bin .add) [.t 28, .t 34],
 om 3 35]
def F29o27 := [
 om 36 3,
 o3 37 (.bin .add) [.t 36, .i 2],
 o3 38 (.faddr 0) [.t 2],
 o3 39 (.load none) [.t 38],
 o3 40 .lenL [.t 39],
 o3 41 (.bin .gtr) [.t 37, .t 40]]
def F29c28 : Ac := (cd 41 (.exit 0) .skip)
def F29o32 := [
 o3 42 (.faddr 1) [.t 2],
 o3 43 (.load none) [.t 42],
 om 44 3,
 o3 45 (.bslice (.int .i64 0) 1 [0]) [.t 44],
 o3 46 (.append 1 8 false) [.t 43, .t 45],
 o3 47 (.faddr 1) [.t 2],
 o0 (.store 1) [.t 47, .t 46]]
def F29o33 := [
 om 48 3,
 o3 49 (.bin .add) [.t 48, .i 2],
 om 3 49]
def F29c33 : Ac := (.ops F29o33)
def F29c31 : Ac := (so F29o32 F29c33)
def F29c25 : Ac := (.seq (so F29o27 F29c28) F29c31)
def F29o34 := [
 om 26 4,
 o3 27 (.bin .add) [.t 26, .i 1],
 om 4 27]
def F29c34 : Ac := (.ops F29o34)
def F29c21 : Ac := (.seq (.block 1 (so F29o24 F29c25)) F29c34)
def F29l14 : Ac := (.seq (so F29o17 F29c18) F29c21)
def F29c13 : Ac := (.block 0 (.loop (.seq (.gh []) (.seq (.keep [1, 2, 3, 4] [[1], [2], [6], [901, 2]]) F29l14))))
def F29o36 := [
 o3 50 (.faddr 6) [.t 1],
 o3 51 (.load none) [.t 50],
 o3 52 (.bin .and) [.t 51, .i 255],
 o3 53 (.faddr 6) [.t 2],
 o0 (.store 1) [.t 53, .t 52]]
def F29o38 := [
 o3 54 (.load (some 7)) [.t 2],
 o0 (.store 7) [.t 2, .t 54]]
def F29c39 : Ac := (.seq (.gh [.frzB [2] 0, .frzB [2] 1]) .ret)
def F29c37 : Ac := (so F29o38 F29c39)
def F29b35 : Ac := (so F29o36 F29c37)
def F29c35 : Ac := (.seq (.gh []) (.seq (.keep [1, 2] [[1], [2], [6], [901, 2]]) F29b35))
def F29c10 : Ac := (.seq (so F29o12 F29c13) F29c35)
def F29b8 : Ac := (so F29o9 F29c10)
def F29c8 : Ac := (.seq (.gh [.ownB [2] 1 [901, 2] 1]) (.seq (.keep [1, 2] [[1], [2], [6], [901, 2]]) F29b8))
def F29c6 : Ac := (so F29o7 F29c8)
def F29c4 : Ac := (so F29o5 F29c6)
def F29b2 : Ac := (so F29o3 F29c4)
def F29c2 : Ac := (.seq (.gh [.ownB [2] 1 [901, 2] 1]) (.seq (.keep [1, 2] [[1], [2], [901, 2]]) F29b2))
def F29c0 : Ac := (so F29o1 F29c2)
/-- hansom/hansomref44.Near -/
def F29 : Fn := { np := 1, pb := [], rs := [.c 2 (some 7)], body := F29c0 }
def F30o1 := [
 o3 1 (.box 7) [.t 0],
 o3 2 .mv [.c (.d (.str []))]]
def F30o3 := [
 o3 9 (.faddr 1) [.t 1],
 o3 10 (.load none) [.t 9],
 o3 11 .lenL [.t 10],
 o3 12 (.bin .mul) [.i 4, .t 11],
 o3 13 (.bin .add) [.i 28, .t 12],
 o3 14 (.bin .add) [.t 13, .i 15],
 o3 15 (.bin .quo) [.t 14, .i 16],
 o3 16 (.bin .mul) [.t 15, .i 16],
 om 3 16]
def F30o5 := [
 om 17 3,
 o3 18 (.faddr 0) [.t 1],
 o3 19 (.load none) [.t 18],
 o3 20 .lenL [.t 19],
 o3 21 (.bin .add) [.t 17, .t 20],
 om 4 21]
def F30o7 := [
 o3 5 .mv [.c (.d (.str [77, 90]))]]
def F30o9 := [
 om 22 4,
 o3 23 (.bin .rem) [.t 22, .i 512],
 om 24 4,
 o3 25 (.bin .add) [.t 24, .i 511],
 o3 26 (.bin .quo) [.t 25, .i 512],
 o3 27 (.faddr 1) [.t 1],
 o3 28 (.load none) [.t 27],
 o3 29 .lenL [.t 28],
 om 30 3,
 o3 31 (.bin .quo) [.t 30, .i 16],
 o3 32 (.faddr 6) [.t 1],
 o3 33 (.load none) [.t 32],
 o3 34 (.faddr 4) [.t 1],
 o3 35 (.load none) [.t 34],
 o3 36 (.toInt .i64) [.t 35],
 o3 37 (.faddr 5) [.t 1],
 o3 38 (.load none) [.t 37],
 o3 39 (.toInt .i64) [.t 38],
 o3 40 (.faddr 3) [.t 1],
 o3 41 (.load none) [.t 40],
 o3 42 (.toInt .i64) [.t 41],
 o3 43 (.faddr 2) [.t 1],
 o3 44 (.load none) [.t 43],
 o3 45 (.toInt .i64) [.t 44],
 o3 46 (.bslice (.int .i64 0) 13 [0, 1, 2, 3, 4, 5, 6, 7, 8, 9, 10, 11, 12]) [.t 23, .t 26, .t 29, .t 31, .t 33, .i 65535, .t 36, .t 39, .i 0, .t 42, .t 45, .i 28, .i 0],
 om 6 46]
def F30o12 := [
 o3 7 .mv [.i 0]]
def F30o17 := [
 om 47 7,
 om 48 6,
 o3 49 .lenL [.t 48],
 o3 50 (.bin .lss) [.t 47, .t 49]]
def F30c18 : Ac := (cd 50 .skip (.exit 0))
def F30o23 := [
 om 53 5,
 om 54 6,
 om 55 7,
 o3 56 (.iaddrS 1) [.t 54, .t 55],
 o3 57 (.load none) [.t 56],
 o3 58 (.toInt .u64) [.t 57],
 o3 59 (.callf 58) [.t 58, .i 2],
 o3 60 (.bin .add) [.t 53, .t 59],
 om 5 60]
def F30o24 := [
 om 51 7,
 o3 52 (.bin .add) [.t 51, .i 1],
 om 7 52]
def F30c24 : Ac := (.ops F30o24)
def F30c21 : Ac := (.seq (.block 1 (.ops F30o23)) F30c24)
def F30l14 : Ac := (.seq (so F30o17 F30c18) F30c21)
def F30c13 : Ac := (.block 0 (.loop (.seq (.gh [.frz 6]) (.seq (.keep [1, 3, 5, 6, 7] [[1]]) F30l14))))
def F30o27 := [
 o3 8 .mv [.i 0]]
def F30o32 := [
 om 61 8,
 o3 62 (.faddr 1) [.t 1],
 o3 63 (.load none) [.t 62],
 o3 64 .lenL [.t 63],
 o3 65 (.bin .lss) [.t 61, .t 64]]
def F30c33 : Ac := (cd 65 .skip (.exit 2))
def F30o38 := [
 om 68 5,
 o3 69 (.faddr 1) [.t 1],
 o3 70 (.load none) [.t 69],
 om 71 8,
 o3 72 (.iaddrS 1) [.t 70, .t 71],
 o3 73 (.load none) [.t 72],
 o3 74 (.bin .rem) [.t 73, .i 16],
 o3 75 (.toInt .u64) [.t 74],
  { dst := some 76, k := (.callf 58), xs := [.t 75, .i 2], al := some [] },
 o3 77 (.faddr 1) [.t 1],
  { dst := some 78, k := (.load none), xs := [.t 77], av := [[76]] },
 om 79 8,
 o3 80 (.iaddrS 1) [.t 78, .t 79],
  { dst := some 81, k := (.load none), xs := [.t 80], av := [[76]] },
 o3 82 (.bin .quo) [.t 81, .i 16],
 o3 83 (.toInt .u64) [.t 82],
 o3 84 (.callf 58) [.t 83, .i 2],
 o3 85 (.bin .add) [.t 76, .t 84],
 o3 86 (.bin .add) [.t 68, .t 85],
 om 5 86]
def F30o39 := [
 om 66 8,
 o3 67 (.bin .add) [.t 66, .i 1],
 om 8 67]
def F30c39 : Ac := (.ops F30o39)
def F30c36 : Ac := (.seq (.block 3 (.ops F30o38)) F30c39)
def F30l29 : Ac := (.seq (so F30o32 F30c33) F30c36)
def F30c28 : Ac := (.block 2 (.loop (.seq (.gh []) (.seq (.keep [1, 3, 5, 8] [[1]]) F30l29))))
def F30o45 := [
 om 87 5,
 o3 88 .lenS [.t 87],
 om 89 3,
 o3 90 (.bin .lss) [.t 88, .t 89]]
def F30c46 : Ac := (cd 90 .skip (.exit 4))
def F30o50 := [
 om 91 5,
 o3 92 (.bin .add) [.t 91, .c (.d (.str [0]))],
 om 5 92]
def F30c49 : Ac := (.block 5 (.ops F30o50))
def F30l42 : Ac := (.seq (so F30o45 F30c46) F30c49)
def F30o52 := [
 om 93 5,
 o3 94 (.faddr 0) [.t 1],
 o3 95 (.load none) [.t 94],
 o3 96 .bytesStr [.t 95],
 o3 97 (.bin .add) [.t 93, .t 96],
 om 2 97]
def F30c53 : Ac := .ret
def F30b51 : Ac := (so F30o52 F30c53)
def F30c51 : Ac := (.seq (.gh []) (.seq (.keep [1, 5] [[1]]) F30b51))
def F30b40 : Ac := (.seq (.block 4 (.loop (.seq (.gh []) (.seq (.keep [1, 3, 5] [[1]]) F30l42)))) F30c51)
def F30c40 : Ac := (.seq (.gh []) (.seq (.keep [1, 3, 5] [[1]]) F30b40))
def F30b25 : Ac := (.seq (so F30o27 F30c28) F30c40)
def F30c25 : Ac := (.seq (.gh []) (.seq (.keep [1, 3, 5] [[1]]) F30b25))
def F30c10 : Ac := (.seq (so F30o12 F30c13) F30c25)
def F30c8 : Ac := (so F30o9 F30c10)
def F30c6 : Ac := (so F30o7 F30c8)
def F30c4 : Ac := (so F30o5 F30c6)
def F30c2 : Ac := (so F30o3 F30c4)
def F30c0 : Ac := (so F30o1 F30c2)
/-- hansom/hansomref44.Write -/
def F30 : Fn := { np := 1, pb := [], rs := [.t 2], body := F30c0 }
def F31o1 := [
 o3 1 (.box 7) [.t 0],
 o3 2 .mv [.c (.nils)],
 o3 3 .mv [.i 0]]
def F31o4 := [
 o3 14 (.load (some 7)) [.t 1],
 o3 15 (.callf 34) [.t 14],
 o3 16 (.un .not) [.t 15]]
def F31o7 := [
 o3 2 .mv [.c (.nils)],
 o3 3 .mv [.i 1]]
def F31c8 : Ac := (.seq (.gh [.frz 2]) .ret)
def F31c5 : Ac := (cd 16 (so F31o7 F31c8) .skip)
def F31o11 := [
 o3 17 (.faddr 1) [.t 1],
 o3 18 (.load none) [.t 17],
 o3 19 .lenL [.t 18],
 o3 20 (.callf 70) [.t 19],
 om 4 20]
def F31o13 := [
 om 21 4,
 o3 22 (.faddr 0) [.t 1],
 o3 23 (.load none) [.t 22],
 o3 24 .lenL [.t 23],
 o3 25 (.bin .add) [.t 21, .t 24],
 om 5 25]
def F31o15 := [
 om 26 5,
 o3 27 (.bin .rem) [.t 26, .i 512],
 o3 28 (.toInt .u16) [.t 27],
 om 29 5,
 o3 30 (.bin .add) [.t 29, .i 512],
 o3 31 (.bin .sub) [.t 30, .i 1],
 o3 32 (.bin .quo) [.t 31, .i 512],
 o3 33 (.toInt .u16) [.t 32],
 o3 34 (.faddr 1) [.t 1],
 o3 35 (.load none) [.t 34],
 o3 36 .lenL [.t 35],
 o3 37 (.toInt .u16) [.t 36],
 om 38 4,
 o3 39 (.bin .quo) [.t 38, .i 16],
 o3 40 (.toInt .u16) [.t 39],
 o3 41 (.faddr 6) [.t 1],
 o3 42 (.load none) [.t 41],
 o3 43 (.toInt .u16) [.t 42],
 o3 44 (.faddr 4) [.t 1],
 o3 45 (.load none) [.t 44],
 o3 46 (.faddr 5) [.t 1],
 o3 47 (.load none) [.t 46],
 o3 48 (.faddr 3) [.t 1],
 o3 49 (.load none) [.t 48],
 o3 50 (.faddr 2) [.t 1],
 o3 51 (.load none) [.t 50],
 o3 52 (.bslice (.int .u16 0) 13 [0, 1, 2, 3, 4, 5, 6, 7, 8, 9, 10, 11, 12]) [.t 28, .t 33, .t 37, .t 40, .t 43, .w 65535, .t 45, .t 47, .w 0, .t 49, .t 51, .w 28, .w 0],
 om 6 52]
def F31o17 := [
 o3 53 (.bslice (.int .u8 0) 2 [0, 1]) [.y 77, .y 90],
 om 7 53]
def F31o20 := [
 om 54 6,
 o3 55 .lenL [.t 54],
 o3 56 .mv [.i 0]]
def F31o24 := [
 o3 57 (.bin .lss) [.t 56, .t 55]]
def F31o32 := [
 o3 58 (.iaddrS 1) [.t 54, .t 56],
 o3 59 (.load none) [.t 58],
 om 9 59]
def F31o33 := [
 om 60 7,
 om 61 9,
 o3 62 (.callf 62) [.t 61],
 o3 63 (.append 1 1 false) [.t 60, .t 62],
 om 7 63]
def F31c33 : Ac := (.ops F31o33)
def F31o34 := [
 o3 64 (.bin .add) [.t 56, .i 1],
 om 56 64]
def F31c34 : Ac := (.ops F31o34)
def F31c29 : Ac := (.seq (.block 1 (so F31o32 F31c33)) F31c34)
def F31c25 : Ac := (.seq (cd 57 .skip (.exit 0)) F31c29)
def F31l22 : Ac := (so F31o24 F31c25)
def F31c21 : Ac := (.block 0 (.loop (.seq (.gh [.frz 54]) (.seq (.keep [1, 4, 7, 54, 55, 56] [[1], [53]]) F31l22))))
def F31o37 := [
 o3 65 (.faddr 1) [.t 1],
 o3 66 (.load none) [.t 65],
 o3 67 .lenL [.t 66],
 o3 68 .mv [.i 0]]
def F31o41 := [
 o3 69 (.bin .lss) [.t 68, .t 67]]
def F31o49 := [
 o3 70 (.iaddrS 1) [.t 66, .t 68],
 o3 71 (.load none) [.t 70],
 om 11 71]
def F31o51 := [
 om 73 11,
 o3 74 (.toInt .u32) [.t 73],
 o3 75 (.callf 71) [.t 74],
 om 72 75,
 oe 76 0 72,
 oe 77 1 72,
 om 12 76,
 om 13 77]
def F31o52 := [
 om 78 7,
 om 79 13,
 o3 80 (.callf 62) [.t 79],
 o3 81 (.append 1 1 false) [.t 78, .t 80],
 om 82 12,
 o3 83 (.callf 62) [.t 82],
 o3 84 (.append 1 1 false) [.t 81, .t 83],
 om 7 84]
def F31c52 : Ac := (.ops F31o52)
def F31c50 : Ac := (so F31o51 F31c52)
def F31o53 := [
 o3 85 (.bin .add) [.t 68, .i 1],
 om 68 85]
def F31c53 : Ac := (.ops F31o53)
def F31c46 : Ac := (.seq (.block 3 (so F31o49 F31c50)) F31c53)
def F31c42 : Ac := (.seq (cd 69 .skip (.exit 2)) F31c46)
def F31l39 : Ac := (so F31o41 F31c42)
def F31c38 : Ac := (.block 2 (.loop (.seq (.gh []) (.seq (.keep [1, 4, 7, 66, 67, 68] [[1], [53]]) F31l39))))
def F31o55 := [
 om 86 7,
 om 87 4,
 om 88 7,
 o3 89 .lenL [.t 88],
 o3 90 (.bin .sub) [.t 87, .t 89],
 o3 91 (.appmk (.int .u8 0) 1) [.t 86, .t 90],
 om 7 91]
def F31o57 := [
 om 92 7,
 o3 93 (.faddr 0) [.t 1],
 o3 94 (.load none) [.t 93],
 o3 95 (.append 1 1 false) [.t 92, .t 94],
 om 2 95,
 o3 3 .mv [.i 0]]
def F31c58 : Ac := (.seq (.gh [.frz 2]) .ret)
def F31c56 : Ac := (so F31o57 F31c58)
def F31b54 : Ac := (so F31o55 F31c56)
def F31c54 : Ac := (.seq (.gh []) (.seq (.keep [1, 4, 7] [[1], [53]]) F31b54))
def F31b35 : Ac := (.seq (so F31o37 F31c38) F31c54)
def F31c35 : Ac := (.seq (.gh []) (.seq (.keep [1, 4, 7] [[1], [53]]) F31b35))
def F31c18 : Ac := (.seq (so F31o20 F31c21) F31c35)
def F31c16 : Ac := (so F31o17 F31c18)
def F31c14 : Ac := (so F31o15 F31c16)
def F31c12 : Ac := (so F31o13 F31c14)
def F31c10 : Ac := (so F31o11 F31c12)
def F31c2 : Ac := (.seq (so F31o4 F31c5) F31c10)
def F31c0 : Ac := (so F31o1 F31c2)
/-- hansom/mz.Write -/
def F31 : Fn := { np := 1, pb := [], rs := [.t 2, .t 3], body := F31c0 }
def F32o1 := [
 o3 2 (.alloc [.nils, .nils, .d (.int .u16 0), .d (.int .u16 0), .d (.int .u16 0), .d (.int .u16 0), .d (.int .i64 0)]) [],
 o3 3 .mv [.i 0]]
def F32o3 := [
 om 12 0,
 o3 13 (.callf 72) [.t 12],
 om 11 13,
 oe 14 0 11,
 oe 15 1 11,
 o3 4 (.alloc [.d (.int .u16 0), .d (.int .u16 0), .d (.int .u16 0), .d (.int .u16 0), .d (.int .u16 0), .d (.int .u16 0), .d (.int .u16 0), .d (.int .u16 0), .d (.int .u16 0), .d (.int .u16 0)]) [],
 o0 (.store 10) [.t 4, .t 14],
 om 5 15]
def F32o6 := [
 om 16 5,
 o3 17 (.bin .neq) [.t 16, .i 0]]
def F32o9 := [
 o3 18 (.build [.nils, .nils, .d (.int .u16 0), .d (.int .u16 0), .d (.int .u16 0), .d (.int .u16 0), .d (.int .i64 0)] []) [],
 om 19 5,
 o0 (.store 7) [.t 2, .t 18],
 om 3 19]
def F32c10 : Ac := (.seq (.gh [.frzB [2] 0, .frzB [2] 1]) .ret)
def F32c7 : Ac := (cd 17 (so F32o9 F32c10) .skip)
def F32o13 := [
 o3 21 (.load (some 10)) [.t 4],
 o3 22 (.callf 73) [.t 21],
 om 20 22,
 oe 23 0 20,
 oe 24 1 20,
 om 6 23,
 om 7 24]
def F32o15 := [
 o3 25 (.faddr 3) [.t 4],
 o3 26 (.load none) [.t 25],
 o3 27 (.toInt .i64) [.t 26],
 o3 28 (.bin .mul) [.t 27, .i 16],
 om 8 28]
def F32o19 := [
 om 30 7,
 o3 31 (.un .not) [.t 30],
 om 32 31,
 og 33 .mv [.t 8] 32 false,
 og 34 (.bin .lss) [.t 33, .i 28] 32 false,
 o3 35 .pick [.t 32, .b true, .t 34],
 om 29 35]
def F32o22 := [
 o3 36 (.build [.nils, .nils, .d (.int .u16 0), .d (.int .u16 0), .d (.int .u16 0), .d (.int .u16 0), .d (.int .i64 0)] []) [],
 o0 (.store 7) [.t 2, .t 36],
 o3 3 .mv [.i 3]]
def F32c23 : Ac := (.seq (.gh [.frzB [2] 0, .frzB [2] 1]) .ret)
def F32o25 := [
 om 38 0,
 o3 39 .lenL [.t 38],
 om 40 6,
 o3 41 (.bin .lss) [.t 39, .t 40],
 om 37 41]
def F32o28 := [
 o3 42 (.build [.nils, .nils, .d (.int .u16 0), .d (.int .u16 0), .d (.int .u16 0), .d (.int .u16 0), .d (.int .i64 0)] []) [],
 o0 (.store 7) [.t 2, .t 42],
 o3 3 .mv [.i 2]]
def F32c29 : Ac := (.seq (.gh [.frzB [2] 0, .frzB [2] 1]) .ret)
def F32c26 : Ac := (cd 37 (so F32o28 F32c29) .skip)
def F32c20 : Ac := (cd 29 (so F32o22 F32c23) (so F32o25 F32c26))
def F32o32 := [
 om 44 0,
 o3 45 (.load (some 10)) [.t 4],
 om 46 6,
 om 47 8,
 o3 48 (.bin .sub) [.t 46, .t 47],
 o3 49 (.callf 74) [.t 44, .t 45, .t 48],
 om 43 49,
 oe 50 0 43,
 oe 51 1 43,
 om 9 50,
 om 5 51]
def F32o35 := [
 om 52 5,
 o3 53 (.bin .neq) [.t 52, .i 0]]
def F32o38 := [
 o3 54 (.build [.nils, .nils, .d (.int .u16 0), .d (.int .u16 0), .d (.int .u16 0), .d (.int .u16 0), .d (.int .i64 0)] []) [],
 om 55 5,
 o0 (.store 7) [.t 2, .t 54],
 om 3 55]
def F32c39 : Ac := (.seq (.gh [.frzB [2] 0, .frzB [2] 1]) .ret)
def F32c36 : Ac := (cd 53 (so F32o38 F32c39) .skip)
def F32o42 := [
 om 56 0,
 om 57 8,
 om 58 6,
 o3 59 (.subsl 1 true true false) [.t 56, .t 57, .t 58],
  { dst := some 60, k := (.callf 67), xs := [.t 59], av := [[10]], al := some [] },
 om 61 9,
 o3 62 (.faddr 8) [.t 4],
  { dst := some 63, k := (.load none), xs := [.t 62], av := [[60], [10]] },
 o3 64 (.faddr 7) [.t 4],
  { dst := some 65, k := (.load none), xs := [.t 64], av := [[60], [10]] },
 o3 66 (.faddr 5) [.t 4],
  { dst := some 67, k := (.load none), xs := [.t 66], av := [[60], [10]] },
 o3 68 (.faddr 6) [.t 4],
  { dst := some 69, k := (.load none), xs := [.t 68], av := [[60], [10]] },
 o3 70 (.faddr 4) [.t 4],
  { dst := some 71, k := (.load none), xs := [.t 70], av := [[60], [10]] },
 o3 72 (.toInt .i64) [.t 71],
 o3 73 (.build [.nils, .nils, .d (.int .u16 0), .d (.int .u16 0), .d (.int .u16 0), .d (.int .u16 0), .d (.int .i64 0)] [(0, 1), (1, 1), (2, 1), (3, 1), (4, 1), (5, 1), (6, 1)]) [.t 60, .t 61, .t 63, .t 65, .t 67, .t 69, .t 72],
  { dst := some 10, k := (.alloc [.nils, .nils, .d (.int .u16 0), .d (.int .u16 0), .d (.int .u16 0), .d (.int .u16 0), .d (.int .i64 0)]), xs := [], av := [[60]] },
 o0 (.store 7) [.t 10, .t 73]]
def F32o45 := [
 o3 74 (.load (some 7)) [.t 10],
 o3 75 (.callf 34) [.t 74],
 o3 76 (.un .not) [.t 75]]
def F32o48 := [
 o3 77 (.build [.nils, .nils, .d (.int .u16 0), .d (.int .u16 0), .d (.int .u16 0), .d (.int .u16 0), .d (.int .i64 0)] []) [],
 o0 (.store 7) [.t 2, .t 77],
 o3 3 .mv [.i 8]]
def F32c49 : Ac := (.seq (.gh [.frzB [2] 0, .frzB [2] 1]) .ret)
def F32c46 : Ac := (cd 76 (so F32o48 F32c49) .skip)
def F32o52 := [
 o3 78 (.load (some 7)) [.t 10],
 o0 (.store 7) [.t 2, .t 78],
 o3 3 .mv [.i 0]]
def F32c53 : Ac := (.seq (.gh [.frzB [2] 0]) .ret)
def F32c51 : Ac := (so F32o52 F32c53)
def F32c43 : Ac := (.seq (so F32o45 F32c46) F32c51)
def F32c41 : Ac := (so F32o42 F32c43)
def F32c33 : Ac := (.seq (so F32o35 F32c36) F32c41)
def F32c31 : Ac := (so F32o32 F32c33)
def F32c16 : Ac := (.seq (.block 0 (so F32o19 F32c20)) F32c31)
def F32c14 : Ac := (so F32o15 F32c16)
def F32c12 : Ac := (so F32o13 F32c14)
def F32c4 : Ac := (.seq (so F32o6 F32c7) F32c12)
def F32c2 : Ac := (so F32o3 F32c4)
def F32c0 : Ac := (so F32o1 F32c2)
/-- hansom/mz.Read -/
def F32 : Fn := { np := 1, pb := [], rs := [.c 2 (some 7), .t 3], body := F32c0 }
def F34o1 := [
 o3 1 (.box 7) [.t 0],
 o3 2 .mv [.b false]]
def F34o4 := [
 o3 5 (.faddr 0) [.t 1],
 o3 6 (.load none) [.t 5],
 o3 7 .lenL [.t 6],
 o3 8 (.bin .gtr) [.t 7, .i 655360],
 om 9 8,
 og 10 (.faddr 6) [.t 1] 9 false,
 og 11 (.load none) [.t 10] 9 false,
 og 12 (.bin .lss) [.t 11, .i 0] 9 false,
 o3 13 .pick [.t 9, .b true, .t 12],
 om 14 13,
 og 15 (.faddr 6) [.t 1] 14 false,
  { dst := some 16, k := (.load none), xs := [.t 15], g := some (14, false), av := [[20]] },
 og 17 (.faddr 0) [.t 1] 14 false,
 og 18 (.load none) [.t 17] 14 false,
 og 19 .lenL [.t 18] 14 false,
  { dst := some 20, k := (.callf 75), xs := [.t 19], g := some (14, false), al := some [] },
 og 21 (.bin .sub) [.i 40960, .t 20] 14 false,
 og 22 (.bin .gtr) [.t 16, .t 21] 14 false,
 o3 23 .pick [.t 14, .b true, .t 22],
 om 24 23,
 og 25 (.faddr 1) [.t 1] 24 false,
 og 26 (.load none) [.t 25] 24 false,
 og 27 .lenL [.t 26] 24 false,
 og 28 (.bin .gtr) [.t 27, .i 4000] 24 false,
 o3 29 .pick [.t 24, .b true, .t 28]]
def F34o7 := [
 o3 2 .mv [.b false]]
def F34c8 : Ac := .ret
def F34c5 : Ac := (cd 29 (so F34o7 F34c8) .skip)
def F34o12 := [
 o3 30 (.faddr 1) [.t 1],
 o3 31 (.load none) [.t 30],
 o3 32 .lenL [.t 31],
 o3 33 .mv [.i 0]]
def F34o16 := [
 o3 34 (.bin .lss) [.t 33, .t 32]]
def F34o24 := [
 om 35 33,
 o3 36 (.iaddrS 1) [.t 31, .t 33],
 o3 37 (.load none) [.t 36],
 om 3 35,
 om 4 37]
def F34o26 := [
 om 38 4,
 o3 39 (.bin .lss) [.t 38, .i 0],
 om 40 39,
 og 41 .mv [.t 4] 40 false,
 og 42 (.faddr 0) [.t 1] 40 false,
 og 43 (.load none) [.t 42] 40 false,
 og 44 .lenL [.t 43] 40 false,
 og 45 (.bin .sub) [.t 44, .i 2] 40 false,
 og 46 (.bin .gtr) [.t 41, .t 45] 40 false,
 o3 47 .pick [.t 40, .b true, .t 46],
 om 48 47,
 og 49 .mv [.t 3] 48 false,
 og 50 (.bin .gtr) [.t 49, .i 0] 48 false,
 og 51 .mv [.t 50] 48 false,
 og 52 .mv [.t 4] 51 true,
 og 53 (.faddr 1) [.t 1] 51 true,
 og 54 (.load none) [.t 53] 51 true,
 og 55 .mv [.t 3] 51 true,
 og 56 (.bin .sub) [.t 55, .i 1] 51 true,
 og 57 (.iaddrS 1) [.t 54, .t 56] 51 true,
 og 58 (.load none) [.t 57] 51 true,
 og 59 (.bin .sub) [.t 52, .t 58] 51 true,
 og 60 (.bin .lss) [.t 59, .i 2] 51 true,
 og 61 .pick [.t 51, .t 60, .b false] 48 false,
 o3 62 .pick [.t 48, .b true, .t 61]]
def F34o29 := [
 o3 2 .mv [.b false]]
def F34c30 : Ac := .ret
def F34c27 : Ac := (cd 62 (so F34o29 F34c30) .skip)
def F34c25 : Ac := (so F34o26 F34c27)
def F34o32 := [
 o3 63 (.bin .add) [.t 33, .i 1],
 om 33 63]
def F34c32 : Ac := (.ops F34o32)
def F34c21 : Ac := (.seq (.block 1 (so F34o24 F34c25)) F34c32)
def F34c17 : Ac := (.seq (cd 34 .skip (.exit 0)) F34c21)
def F34l14 : Ac := (so F34o16 F34c17)
def F34c13 : Ac := (.block 0 (.loop (.seq (.gh []) (.seq (.keep [1, 31, 32, 33] [[1]]) F34l14))))
def F34o34 := [
 o3 2 .mv [.b true]]
def F34c35 : Ac := .ret
def F34b33 : Ac := (so F34o34 F34c35)
def F34c33 : Ac := (.seq (.gh []) (.seq (.keep [] []) F34b33))
def F34c10 : Ac := (.seq (so F34o12 F34c13) F34c33)
def F34c2 : Ac := (.seq (so F34o4 F34c5) F34c10)
def F34c0 : Ac := (so F34o1 F34c2)
/-- hansom/mz.May -/
def F34 : Fn := { np := 1, pb := [], rs := [.t 2], body := F34c0 }
def F35o1 := [
 o3 2 (.box 7) [.t 0],
 o3 3 (.box 7) [.t 1],
 o3 4 .mv [.b false]]
def F35o4 := [
 o3 6 (.faddr 0) [.t 2],
 o3 7 (.load none) [.t 6],
 o3 8 .bytesStr [.t 7],
 o3 9 (.faddr 0) [.t 3],
 o3 10 (.load none) [.t 9],
 o3 11 .bytesStr [.t 10],
 o3 12 (.bin .neq) [.t 8, .t 11],
 om 13 12,
 og 14 (.faddr 1) [.t 2] 13 false,
 og 15 (.load none) [.t 14] 13 false,
 og 16 .lenL [.t 15] 13 false,
 og 17 (.faddr 1) [.t 3] 13 false,
 og 18 (.load none) [.t 17] 13 false,
 og 19 .lenL [.t 18] 13 false,
 og 20 (.bin .neq) [.t 16, .t 19] 13 false,
 o3 21 .pick [.t 13, .b true, .t 20],
 om 22 21,
 og 23 (.faddr 2) [.t 2] 22 false,
 og 24 (.load none) [.t 23] 22 false,
 og 25 (.faddr 2) [.t 3] 22 false,
 og 26 (.load none) [.t 25] 22 false,
 og 27 (.bin .neq) [.t 24, .t 26] 22 false,
 o3 28 .pick [.t 22, .b true, .t 27],
 om 29 28,
 og 30 (.faddr 3) [.t 2] 29 false,
 og 31 (.load none) [.t 30] 29 false,
 og 32 (.faddr 3) [.t 3] 29 false,
 og 33 (.load none) [.t 32] 29 false,
 og 34 (.bin .neq) [.t 31, .t 33] 29 false,
 o3 35 .pick [.t 29, .b true, .t 34],
 om 36 35,
 og 37 (.faddr 4) [.t 2] 36 false,
 og 38 (.load none) [.t 37] 36 false,
 og 39 (.faddr 4) [.t 3] 36 false,
 og 40 (.load none) [.t 39] 36 false,
 og 41 (.bin .neq) [.t 38, .t 40] 36 false,
 o3 42 .pick [.t 36, .b true, .t 41],
 om 43 42,
 og 44 (.faddr 5) [.t 2] 43 false,
 og 45 (.load none) [.t 44] 43 false,
 og 46 (.faddr 5) [.t 3] 43 false,
 og 47 (.load none) [.t 46] 43 false,
 og 48 (.bin .neq) [.t 45, .t 47] 43 false,
 o3 49 .pick [.t 43, .b true, .t 48],
 om 50 49,
 og 51 (.faddr 6) [.t 2] 50 false,
 og 52 (.load none) [.t 51] 50 false,
 og 53 (.faddr 6) [.t 3] 50 false,
 og 54 (.load none) [.t 53] 50 false,
 og 55 (.bin .neq) [.t 52, .t 54] 50 false,
 o3 56 .pick [.t 50, .b true, .t 55]]
def F35o7 := [
 o3 4 .mv [.b false]]
def F35c8 : Ac := .ret
def F35c5 : Ac := (cd 56 (so F35o7 F35c8) .skip)
def F35o12 := [
 o3 5 .mv [.i 0]]
def F35o17 := [
 om 57 5,
 o3 58 (.faddr 1) [.t 2],
 o3 59 (.load none) [.t 58],
 o3 60 .lenL [.t 59],
 o3 61 (.bin .lss) [.t 57, .t 60]]
def F35c18 : Ac := (cd 61 .skip (.exit 0))
def F35o24 := [
 o3 64 (.faddr 1) [.t 2],
 o3 65 (.load none) [.t 64],
 om 66 5,
 o3 67 (.iaddrS 1) [.t 65, .t 66],
 o3 68 (.load none) [.t 67],
 o3 69 (.faddr 1) [.t 3],
 o3 70 (.load none) [.t 69],
 om 71 5,
 o3 72 (.iaddrS 1) [.t 70, .t 71],
 o3 73 (.load none) [.t 72],
 o3 74 (.bin .neq) [.t 68, .t 73]]
def F35o27 := [
 o3 4 .mv [.b false]]
def F35c28 : Ac := .ret
def F35c25 : Ac := (cd 74 (so F35o27 F35c28) .skip)
def F35o30 := [
 om 62 5,
 o3 63 (.bin .add) [.t 62, .i 1],
 om 5 63]
def F35c30 : Ac := (.ops F35o30)
def F35c21 : Ac := (.seq (.block 1 (so F35o24 F35c25)) F35c30)
def F35l14 : Ac := (.seq (so F35o17 F35c18) F35c21)
def F35c13 : Ac := (.block 0 (.loop (.seq (.gh []) (.seq (.keep [2, 3, 5] [[2], [3]]) F35l14))))
def F35o32 := [
 o3 4 .mv [.b true]]
def F35c33 : Ac := .ret
def F35b31 : Ac := (so F35o32 F35c33)
def F35c31 : Ac := (.seq (.gh []) (.seq (.keep [] []) F35b31))
def F35c10 : Ac := (.seq (so F35o12 F35c13) F35c31)
def F35c2 : Ac := (.seq (so F35o4 F35c5) F35c10)
def F35c0 : Ac := (so F35o1 F35c2)
/-- hansom/hansomref44.Same -/
def F35 : Fn := { np := 2, pb := [], rs := [.t 4], body := F35c0 }
def F50o1 := [
 o3 2 .mv [.c (.nilp)]]
def F50o3 := [
 om 3 0,
 o3 4 (.append 1 1 false) [.c (.nils), .t 3],
 o3 5 (.build [.nils, .d (.int .i64 0)] [(0, 1)]) [.t 4],
 o3 6 (.box 2) [.t 5],
 om 2 6]
def F50c4 : Ac := (.seq (.gh [.frzB [6] 0]) .ret)
def F50c2 : Ac := (so F50o3 F50c4)
def F50c0 : Ac := (so F50o1 F50c2)
/-- hansom/index.From -/
def F50 : Fn := { np := 1, pb := [], rs := [.t 2], body := F50c0 }
def F56o1 := [
 om 4 0,
 o3 5 (.eqp true) [.t 4, .c (.nilp)],
 om 6 5,
 og 7 .mv [.t 0] 6 true,
 og 8 .nilchk [.t 7] 6 true,
 og 9 (.faddr 1) [.t 8] 6 true,
 og 10 (.load none) [.t 9] 6 true,
 og 11 (.bin .eql) [.t 10, .i 0] 6 true,
 o3 12 .pick [.t 6, .t 11, .b false],
 om 13 12,
 og 14 .mv [.t 1] 13 true,
 og 15 (.bin .neq) [.t 14, .i 0] 13 true,
 o3 16 .pick [.t 13, .t 15, .b false]]
def F56o3 := [
 om 17 0,
 om 18 0,
 om 19 1,
 o3 20 .nilchk [.t 17],
 o3 21 (.faddr 1) [.t 20],
 o0 (.store 1) [.t 21, .t 19],
 o3 22 .nilchk [.t 18],
 o3 23 (.faddr 0) [.t 22],
 o0 (.store 1) [.t 23, .c (.nils)]]
def F56c2 : Ac := (cd 16 (.ops F56o3) .skip)
def F56c0 : Ac := (so F56o1 F56c2)
/-- (*hansom/index.Source).Wrong -/
def F56 : Fn := { np := 2, pb := [[0]], rs := [], body := (.seq F56c0 (.gh [.frzB [0] 0])) }
def F58o1 := [
 o3 4 .mv [.c (.d (.str []))]]
def F58o3 := [
 o3 5 .mv [.c (.d (.str []))]]
def F58o6 := [
 o3 6 .mv [.i 0]]
def F58o11 := [
 om 7 6,
 om 8 1,
 o3 9 (.bin .lss) [.t 7, .t 8]]
def F58c12 : Ac := (cd 9 .skip (.exit 0))
def F58o18 := [
 om 12 5,
 om 13 0,
 o3 14 (.bin .rem) [.t 13, .c (.d (.int .u64 256))],
 o3 15 (.toInt .u8) [.t 14],
 o3 16 (.bslice (.int .u8 0) 1 [0]) [.t 15],
 o3 17 .bytesStr [.t 16],
 o3 18 (.bin .add) [.t 12, .t 17],
 om 5 18]
def F58o19 := [
 om 19 0,
 o3 20 (.bin .quo) [.t 19, .c (.d (.int .u64 256))],
 om 0 20]
def F58c19 : Ac := (.ops F58o19)
def F58o20 := [
 om 10 6,
 o3 11 (.bin .add) [.t 10, .i 1],
 om 6 11]
def F58c20 : Ac := (.ops F58o20)
def F58c15 : Ac := (.seq (.block 1 (so F58o18 F58c19)) F58c20)
def F58l8 : Ac := (.seq (so F58o11 F58c12) F58c15)
def F58c7 : Ac := (.block 0 (.loop (.seq (.gh []) (.seq (.keep [0, 1, 5, 6] []) F58l8))))
def F58o22 := [
 om 21 5,
 om 4 21]
def F58c23 : Ac := .ret
def F58b21 : Ac := (so F58o22 F58c23)
def F58c21 : Ac := (.seq (.gh []) (.seq (.keep [5] []) F58b21))
def F58c4 : Ac := (.seq (so F58o6 F58c7) F58c21)
def F58c2 : Ac := (so F58o3 F58c4)
def F58c0 : Ac := (so F58o1 F58c2)
/-- hansom/hansomref18.Bytes -/
def F58 : Fn := { np := 2, pb := [], rs := [.t 4], body := F58c0 }
def F62o1 := [
 o3 2 .mv [.c (.nils)]]
def F62o3 := [
 om 3 0,
 o3 4 (.callf 100) [.t 3],
 om 5 0,
 o3 6 (.callf 101) [.t 5],
 o3 7 (.bslice (.int .u8 0) 2 [0, 1]) [.t 4, .t 6],
 om 2 7]
def F62c4 : Ac := (.seq (.gh [.frz 2]) .ret)
def F62c2 : Ac := (so F62o3 F62c4)
def F62c0 : Ac := (so F62o1 F62c2)
/-- hansom/index.Two -/
def F62 : Fn := { np := 1, pb := [], rs := [.t 2], body := F62c0 }
def F64o1 := [
 o3 2 .mv [.w 0]]
def F64o4 := [
 om 4 0,
 o3 5 (.callf 99) [.t 4, .i 2],
 om 3 5]
def F64o6 := [
 om 6 3,
 o3 7 .lenL [.t 6],
 o3 8 (.bin .eql) [.t 7, .i 2]]
def F64o9 := [
 om 9 3,
 o3 10 (.iaddrS 1) [.t 9, .i 0],
 o3 11 (.load none) [.t 10],
 om 12 3,
 o3 13 (.iaddrS 1) [.t 12, .i 1],
 o3 14 (.load none) [.t 13],
 o3 15 (.callf 102) [.t 11, .t 14],
 om 2 15]
def F64c10 : Ac := .ret
def F64c7 : Ac := (cd 8 (so F64o9 F64c10) .skip)
def F64c5 : Ac := (so F64o6 F64c7)
def F64o13 := [
 o3 2 .mv [.w 0]]
def F64c14 : Ac := .ret
def F64c12 : Ac := (so F64o13 F64c14)
def F64c2 : Ac := (.seq (so F64o4 F64c5) F64c12)
def F64c0 : Ac := (so F64o1 F64c2)
/-- (*hansom/index.Source).Word -/
def F64 : Fn := { np := 1, pb := [[0]], rs := [.t 2], body := F64c0 }
def F67o1 := [
 o3 2 .mv [.c (.nils)]]
def F67o4 := [
 om 3 0,
 o3 4 (.nilS false) [.t 3, .c (.nils)]]
def F67o7 := [
 o3 2 .mv [.c (.nils)]]
def F67c8 : Ac := (.seq (.gh [.own 2 [2] 1]) .ret)
def F67c5 : Ac := (cd 4 (so F67o7 F67c8) .skip)
def F67o11 := [
 o3 5 (.bslice (.int .u8 0) 0 []) [],
 om 6 0,
 o3 7 (.append 1 1 false) [.t 5, .t 6],
 om 2 7]
def F67c12 : Ac := .ret
def F67c10 : Ac := (so F67o11 F67c12)
def F67c2 : Ac := (.seq (so F67o4 F67c5) F67c10)
def F67c0 : Ac := (so F67o1 F67c2)
/-- slices.Clone[[]byte,byte] -/
def F67 : Fn := { np := 1, sp := true, pb := [], rs := [.t 2], body := F67c0 }
def F70o1 := [
 o3 2 .mv [.i 0]]
def F70o3 := [
 om 3 0,
 o3 4 (.bin .mul) [.i 4, .t 3],
 o3 5 (.bin .add) [.i 28, .t 4],
 o3 6 (.callf 104) [.t 5, .i 16],
 om 2 6]
def F70c4 : Ac := .ret
def F70c2 : Ac := (so F70o3 F70c4)
def F70c0 : Ac := (so F70o1 F70c2)
/-- hansom/mz.head -/
def F70 : Fn := { np := 1, pb := [], rs := [.t 2], body := F70c0 }
def F71o1 := [
 o3 2 .mv [.w 0],
 o3 3 .mv [.w 0]]
def F71o3 := [
 om 4 0,
 o3 5 (.bin .and) [.t 4, .u 1048575],
 om 0 5]
def F71o5 := [
 om 6 0,
 o3 7 (.bin .shr) [.t 6, .c (.d (.int .u64 4))],
 o3 8 (.toInt .u16) [.t 7],
 om 9 0,
 o3 10 (.bin .and) [.t 9, .u 15],
 o3 11 (.toInt .u16) [.t 10],
 om 2 8,
 om 3 11]
def F71c6 : Ac := .ret
def F71c4 : Ac := (so F71o5 F71c6)
def F71c2 : Ac := (so F71o3 F71c4)
def F71c0 : Ac := (so F71o1 F71c2)
/-- hansom/bits.Normal -/
def F71 : Fn := { np := 1, pb := [], rs := [.t 2, .t 3], body := F71c0 }
def F72o1 := [
 o3 2 (.alloc [.d (.int .u16 0), .d (.int .u16 0), .d (.int .u16 0), .d (.int .u16 0), .d (.int .u16 0), .d (.int .u16 0), .d (.int .u16 0), .d (.int .u16 0), .d (.int .u16 0), .d (.int .u16 0)]) [],
 o3 3 .mv [.i 0]]
def F72o4 := [
 om 7 0,
 o3 8 .lenL [.t 7],
 o3 9 (.bin .lss) [.t 8, .i 28]]
def F72o7 := [
 o3 10 (.build [.d (.int .u16 0), .d (.int .u16 0), .d (.int .u16 0), .d (.int .u16 0), .d (.int .u16 0), .d (.int .u16 0), .d (.int .u16 0), .d (.int .u16 0), .d (.int .u16 0), .d (.int .u16 0)] []) [],
 o0 (.store 10) [.t 2, .t 10],
 o3 3 .mv [.i 2]]
def F72c8 : Ac := .ret
def F72c5 : Ac := (cd 9 (so F72o7 F72c8) .skip)
def F72o12 := [
 om 11 0,
 o3 12 (.iaddrS 1) [.t 11, .i 0],
 o3 13 (.load none) [.t 12],
 o3 14 (.bin .neq) [.t 13, .y 77],
 om 15 14,
 og 16 .mv [.t 0] 15 false,
 og 17 (.iaddrS 1) [.t 16, .i 1] 15 false,
 og 18 (.load none) [.t 17] 15 false,
 og 19 (.bin .neq) [.t 18, .y 90] 15 false,
 o3 20 .pick [.t 15, .b true, .t 19]]
def F72o15 := [
 o3 21 (.build [.d (.int .u16 0), .d (.int .u16 0), .d (.int .u16 0), .d (.int .u16 0), .d (.int .u16 0), .d (.int .u16 0), .d (.int .u16 0), .d (.int .u16 0), .d (.int .u16 0), .d (.int .u16 0)] []) [],
 o0 (.store 10) [.t 2, .t 21],
 o3 3 .mv [.i 440]]
def F72c16 : Ac := .ret
def F72c13 : Ac := (cd 20 (so F72o15 F72c16) .skip)
def F72o19 := [
 om 22 0,
 o3 23 (.subsl 1 true true false) [.t 22, .i 2, .i 28],
 o3 24 (.callf 50) [.t 23],
 om 4 24]
def F72o21 := [
 o3 5 .mv [.c (.fn 64 [])]]
def F72o23 := [
 om 25 5,
 om 26 4,
 o3 27 .callv [.t 25, .t 26],
 om 28 5,
 om 29 4,
 o3 30 .callv [.t 28, .t 29],
 om 31 5,
 om 32 4,
 o3 33 .callv [.t 31, .t 32],
 om 34 5,
 om 35 4,
 o3 36 .callv [.t 34, .t 35],
 om 37 5,
 om 38 4,
 o3 39 .callv [.t 37, .t 38],
 o3 40 (.build [.d (.int .u16 0), .d (.int .u16 0), .d (.int .u16 0), .d (.int .u16 0), .d (.int .u16 0), .d (.int .u16 0), .d (.int .u16 0), .d (.int .u16 0), .d (.int .u16 0), .d (.int .u16 0)] [(0, 1), (1, 1), (2, 1), (3, 1), (4, 1)]) [.t 27, .t 30, .t 33, .t 36, .t 39],
 o3 6 (.alloc [.d (.int .u16 0), .d (.int .u16 0), .d (.int .u16 0), .d (.int .u16 0), .d (.int .u16 0), .d (.int .u16 0), .d (.int .u16 0), .d (.int .u16 0), .d (.int .u16 0), .d (.int .u16 0)]) [],
 o0 (.store 10) [.t 6, .t 40]]
def F72o25 := [
 om 41 5,
 om 42 4,
 o3 43 .callv [.t 41, .t 42]]
def F72o27 := [
 om 44 5,
 om 45 4,
 o3 46 .callv [.t 44, .t 45],
 om 47 5,
 om 48 4,
 o3 49 .callv [.t 47, .t 48],
 o3 50 (.faddr 5) [.t 6],
 o0 (.store 1) [.t 50, .t 46],
 o3 51 (.faddr 6) [.t 6],
 o0 (.store 1) [.t 51, .t 49]]
def F72o29 := [
 om 52 5,
 om 53 4,
 o3 54 .callv [.t 52, .t 53]]
def F72o31 := [
 om 55 5,
 om 56 4,
 o3 57 .callv [.t 55, .t 56],
 om 58 5,
 om 59 4,
 o3 60 .callv [.t 58, .t 59],
 om 61 5,
 om 62 4,
 o3 63 .callv [.t 61, .t 62],
 o3 64 (.faddr 7) [.t 6],
 o0 (.store 1) [.t 64, .t 57],
 o3 65 (.faddr 8) [.t 6],
 o0 (.store 1) [.t 65, .t 60],
 o3 66 (.faddr 9) [.t 6],
 o0 (.store 1) [.t 66, .t 63]]
def F72o33 := [
 o3 67 (.load (some 10)) [.t 6],
 o0 (.store 10) [.t 2, .t 67],
 o3 3 .mv [.i 0]]
def F72c34 : Ac := .ret
def F72c32 : Ac := (so F72o33 F72c34)
def F72c30 : Ac := (so F72o31 F72c32)
def F72c28 : Ac := (so F72o29 F72c30)
def F72c26 : Ac := (so F72o27 F72c28)
def F72c24 : Ac := (so F72o25 F72c26)
def F72c22 : Ac := (so F72o23 F72c24)
def F72c20 : Ac := (so F72o21 F72c22)
def F72c18 : Ac := (so F72o19 F72c20)
def F72c10 : Ac := (.seq (so F72o12 F72c13) F72c18)
def F72c2 : Ac := (.seq (so F72o4 F72c5) F72c10)
def F72c0 : Ac := (so F72o1 F72c2)
/-- hansom/mz.first -/
def F72 : Fn := { np := 1, pb := [], rs := [.c 2 (some 10), .t 3], body := F72c0 }
def F73o1 := [
 o3 1 (.box 10) [.t 0],
 o3 2 .mv [.i 0],
 o3 3 .mv [.b false]]
def F73o3 := [
 o3 5 (.faddr 1) [.t 1],
 o3 6 (.load none) [.t 5],
 o3 7 (.toInt .i64) [.t 6],
 o3 8 (.bin .mul) [.t 7, .i 512],
 om 4 8]
def F73o6 := [
 o3 9 (.faddr 0) [.t 1],
 o3 10 (.load none) [.t 9],
 o3 11 (.bin .gtr) [.t 10, .w 0]]
def F73o8 := [
 om 12 4,
 o3 13 (.faddr 0) [.t 1],
 o3 14 (.load none) [.t 13],
 o3 15 (.toInt .i64) [.t 14],
 o3 16 (.bin .sub) [.t 15, .i 512],
 o3 17 (.bin .add) [.t 12, .t 16],
 om 4 17]
def F73c7 : Ac := (cd 11 (.ops F73o8) .skip)
def F73o11 := [
 om 18 4,
 o3 19 (.faddr 0) [.t 1],
 o3 20 (.load none) [.t 19],
 o3 21 (.bin .lss) [.t 20, .w 512],
 om 22 21,
 og 23 .mv [.t 4] 22 true,
 og 24 (.faddr 3) [.t 1] 22 true,
 og 25 (.load none) [.t 24] 22 true,
 og 26 (.toInt .i64) [.t 25] 22 true,
 og 27 (.bin .mul) [.t 26, .i 16] 22 true,
 og 28 (.bin .geq) [.t 23, .t 27] 22 true,
 o3 29 .pick [.t 22, .t 28, .b false],
 om 2 18,
 om 3 29]
def F73c12 : Ac := .ret
def F73c10 : Ac := (so F73o11 F73c12)
def F73c4 : Ac := (.seq (so F73o6 F73c7) F73c10)
def F73c2 : Ac := (so F73o3 F73c4)
def F73c0 : Ac := (so F73o1 F73c2)
/-- hansom/mz.size -/
def F73 : Fn := { np := 1, pb := [], rs := [.t 2, .t 3], body := F73c0 }
def F74o1 := [
 o3 4 (.box 10) [.t 1],
 o3 6 .mv [.c (.nils)],
 o3 7 .mv [.i 0]]
def F74o3 := [
 o3 15 (.faddr 9) [.t 4],
 o3 16 (.load none) [.t 15],
 o3 17 (.toInt .i64) [.t 16],
 om 8 17]
def F74o6 := [
 o3 18 (.faddr 2) [.t 4],
 o3 19 (.load none) [.t 18],
 o3 20 (.bin .gtr) [.t 19, .w 4000]]
def F74o9 := [
 o3 6 .mv [.c (.nils)],
 o3 7 .mv [.i 8]]
def F74c10 : Ac := (.seq (.gh [.frz 6]) .ret)
def F74c7 : Ac := (cd 20 (so F74o9 F74c10) .skip)
def F74o14 := [
 om 21 0,
 o3 22 .lenL [.t 21],
 om 23 8,
 o3 24 (.faddr 2) [.t 4],
 o3 25 (.load none) [.t 24],
 o3 26 (.toInt .i64) [.t 25],
 o3 27 (.bin .mul) [.i 4, .t 26],
 o3 28 (.bin .add) [.t 23, .t 27],
 o3 29 (.bin .lss) [.t 22, .t 28],
 om 30 29,
 og 31 .mv [.t 8] 30 false,
 og 32 (.faddr 2) [.t 4] 30 false,
 og 33 (.load none) [.t 32] 30 false,
 og 34 (.toInt .i64) [.t 33] 30 false,
 og 35 (.bin .mul) [.i 4, .t 34] 30 false,
 og 36 (.bin .add) [.t 31, .t 35] 30 false,
 og 37 (.faddr 3) [.t 4] 30 false,
 og 38 (.load none) [.t 37] 30 false,
 og 39 (.toInt .i64) [.t 38] 30 false,
 og 40 (.bin .mul) [.t 39, .i 16] 30 false,
 og 41 (.bin .gtr) [.t 36, .t 40] 30 false,
 o3 42 .pick [.t 30, .b true, .t 41]]
def F74o17 := [
 o3 6 .mv [.c (.nils)],
 o3 7 .mv [.i 2]]
def F74c18 : Ac := (.seq (.gh [.frz 6]) .ret)
def F74c15 : Ac := (cd 42 (so F74o17 F74c18) .skip)
def F74o21 := [
 o3 9 .mv [.c (.nils)]]
def F74o24 := [
 o3 43 (.faddr 2) [.t 4],
 o3 44 (.load none) [.t 43],
 o3 45 (.toInt .i64) [.t 44],
 o3 46 .mv [.i 0]]
def F74o28 := [
 o3 47 (.bin .lss) [.t 46, .t 45]]
def F74o36 := [
 om 48 46,
 om 10 48]
def F74o38 := [
 om 49 0,
 om 50 8,
 om 51 10,
 o3 52 (.bin .mul) [.i 4, .t 51],
 o3 53 (.bin .add) [.t 50, .t 52],
 om 54 8,
 om 55 10,
 o3 56 (.bin .mul) [.i 4, .t 55],
 o3 57 (.bin .add) [.t 54, .t 56],
 o3 58 (.bin .add) [.t 57, .i 4],
 o3 59 (.subsl 1 true true false) [.t 49, .t 53, .t 58],
 o3 60 (.callf 50) [.t 59],
 om 11 60]
def F74o40 := [
 om 61 11,
 o3 62 (.callf 64) [.t 61],
 om 12 62]
def F74o41 := [
 om 63 9,
 om 64 11,
 o3 65 (.callf 64) [.t 64],
 om 66 12,
 o3 67 (.callf 105) [.t 65, .t 66],
 o3 68 (.toInt .i64) [.t 67],
 o3 69 (.bslice (.int .i64 0) 1 [0]) [.t 68],
 o3 70 (.append 1 8 false) [.t 63, .t 69],
 om 9 70]
def F74c41 : Ac := (.ops F74o41)
def F74c39 : Ac := (so F74o40 F74c41)
def F74c37 : Ac := (so F74o38 F74c39)
def F74o42 := [
 o3 71 (.bin .add) [.t 46, .i 1],
 om 46 71]
def F74c42 : Ac := (.ops F74o42)
def F74c33 : Ac := (.seq (.block 1 (so F74o36 F74c37)) F74c42)
def F74c29 : Ac := (.seq (cd 47 .skip (.exit 0)) F74c33)
def F74l26 : Ac := (so F74o28 F74c29)
def F74c25 : Ac := (.block 0 (.loop (.seq (.gh []) (.seq (.keep [0, 2, 8, 9, 45, 46] [[9]]) F74l26))))
def F74o44 := [
 om 72 9,
 o3 73 (.callf 106) [.l 72]]
def F74o47 := [
 om 74 9,
 o3 75 .lenL [.t 74],
 o3 76 .mv [.i 0]]
def F74o51 := [
 o3 77 (.bin .lss) [.t 76, .t 75]]
def F74o59 := [
 om 78 76,
 o3 79 (.iaddrS 1) [.t 74, .t 76],
 o3 80 (.load none) [.t 79],
 om 13 78,
 om 14 80]
def F74o61 := [
 om 81 14,
 om 82 2,
 o3 83 (.bin .sub) [.t 82, .i 2],
 o3 84 (.bin .gtr) [.t 81, .t 83],
 om 85 84,
 og 86 .mv [.t 13] 85 false,
 og 87 (.bin .gtr) [.t 86, .i 0] 85 false,
 og 88 .mv [.t 87] 85 false,
 og 89 .mv [.t 14] 88 true,
 og 90 .mv [.t 9] 88 true,
 og 91 .mv [.t 13] 88 true,
 og 92 (.bin .sub) [.t 91, .i 1] 88 true,
 og 93 (.iaddrS 1) [.t 90, .t 92] 88 true,
 og 94 (.load none) [.t 93] 88 true,
 og 95 (.bin .sub) [.t 89, .t 94] 88 true,
 og 96 (.bin .lss) [.t 95, .i 2] 88 true,
 og 97 .pick [.t 88, .t 96, .b false] 85 false,
 o3 98 .pick [.t 85, .b true, .t 97]]
def F74o64 := [
 o3 6 .mv [.c (.nils)],
 o3 7 .mv [.i 3]]
def F74c65 : Ac := (.seq (.gh [.frz 6]) .ret)
def F74c62 : Ac := (cd 98 (so F74o64 F74c65) .skip)
def F74c60 : Ac := (so F74o61 F74c62)
def F74o67 := [
 o3 99 (.bin .add) [.t 76, .i 1],
 om 76 99]
def F74c67 : Ac := (.ops F74o67)
def F74c56 : Ac := (.seq (.block 3 (so F74o59 F74c60)) F74c67)
def F74c52 : Ac := (.seq (cd 77 .skip (.exit 2)) F74c56)
def F74l49 : Ac := (so F74o51 F74c52)
def F74c48 : Ac := (.block 2 (.loop (.seq (.gh [.frz 74]) (.seq (.keep [2, 9, 74, 75, 76] [[9]]) F74l49))))
def F74o69 := [
 om 100 9,
 om 6 100,
 o3 7 .mv [.i 0]]
def F74c70 : Ac := (.seq (.gh [.frz 6]) .ret)
def F74b68 : Ac := (so F74o69 F74c70)
def F74c68 : Ac := (.seq (.gh []) (.seq (.keep [9] [[9]]) F74b68))
def F74c45 : Ac := (.seq (so F74o47 F74c48) F74c68)
def F74b43 : Ac := (so F74o44 F74c45)
def F74c43 : Ac := (.seq (.gh []) (.seq (.keep [2, 9] [[9]]) F74b43))
def F74b22 : Ac := (.seq (so F74o24 F74c25) F74c43)
def F74c22 : Ac := (.seq (.gh [.own 9 [9] 1]) (.seq (.keep [0, 2, 4, 8, 9] [[4], [9]]) F74b22))
def F74c20 : Ac := (so F74o21 F74c22)
def F74c12 : Ac := (.seq (so F74o14 F74c15) F74c20)
def F74c4 : Ac := (.seq (so F74o6 F74c7) F74c12)
def F74c2 : Ac := (so F74o3 F74c4)
def F74c0 : Ac := (so F74o1 F74c2)
/-- hansom/mz.sites -/
def F74 : Fn := { np := 3, pb := [], rs := [.t 6, .t 7], body := F74c0 }
def F75o1 := [
 o3 2 .mv [.i 0]]
def F75o4 := [
 om 3 0,
 o3 4 (.bin .lss) [.t 3, .i 1]]
def F75o7 := [
 o3 2 .mv [.i 0]]
def F75c8 : Ac := .ret
def F75c5 : Ac := (cd 4 (so F75o7 F75c8) .skip)
def F75o11 := [
 om 5 0,
 o3 6 (.bin .sub) [.t 5, .i 1],
 o3 7 (.bin .quo) [.t 6, .i 16],
 o3 8 (.bin .add) [.t 7, .i 1],
 om 2 8]
def F75c12 : Ac := .ret
def F75c10 : Ac := (so F75o11 F75c12)
def F75c2 : Ac := (.seq (so F75o4 F75c5) F75c10)
def F75c0 : Ac := (so F75o1 F75c2)
/-- hansom/bits.Paras -/
def F75 : Fn := { np := 1, pb := [], rs := [.t 2], body := F75c0 }
def F99o1 := [
 o3 4 .mv [.c (.nils)]]
def F99o4 := [
 om 6 0,
 o3 7 (.eqp false) [.t 6, .c (.nilp)]]
def F99o7 := [
 o3 4 .mv [.c (.nils)]]
def F99c8 : Ac := .ret
def F99c5 : Ac := (cd 7 (so F99o7 F99c8) .skip)
def F99o12 := [
 om 8 1,
 o3 9 (.bin .lss) [.t 8, .i 0],
 om 10 9,
 og 11 .mv [.t 1] 10 false,
 og 12 .mv [.t 0] 10 false,
 og 13 .nilchk [.t 12] 10 false,
 og 14 (.faddr 0) [.t 13] 10 false,
 og 15 (.load none) [.t 14] 10 false,
 og 16 .lenL [.t 15] 10 false,
 og 17 (.bin .gtr) [.t 11, .t 16] 10 false,
 o3 18 .pick [.t 10, .b true, .t 17]]
def F99o15 := [
 om 19 0,
 o3 20 (.callf 56) [.t 19, .i 2]]
def F99o17 := [
 o3 4 .mv [.c (.nils)]]
def F99c18 : Ac := (.seq (.gh [.frz 4]) .ret)
def F99c16 : Ac := (so F99o17 F99c18)
def F99c13 : Ac := (cd 18 (so F99o15 F99c16) .skip)
def F99o21 := [
 om 21 0,
 o3 22 .nilchk [.t 21],
 o3 23 (.faddr 0) [.t 22],
 o3 24 (.load none) [.t 23],
 om 25 1,
 om 26 1,
 o3 27 (.subsl 1 false true true) [.t 24, .t 25, .t 26],
 om 5 27]
def F99o23 := [
 om 28 0,
 om 29 0,
 o3 30 .nilchk [.t 29],
 o3 31 (.faddr 0) [.t 30],
 o3 32 (.load none) [.t 31],
 om 33 1,
 o3 34 (.subsl 1 true false false) [.t 32, .t 33],
 o3 35 .nilchk [.t 28],
 o3 36 (.faddr 0) [.t 35],
 o0 (.store 1) [.t 36, .t 34]]
def F99o25 := [
 om 37 5,
 om 4 37]
def F99c26 : Ac := .ret
def F99c24 : Ac := (so F99o25 F99c26)
def F99c22 : Ac := (so F99o23 F99c24)
def F99c20 : Ac := (so F99o21 F99c22)
def F99c10 : Ac := (.seq (so F99o12 F99c13) F99c20)
def F99c2 : Ac := (.seq (so F99o4 F99c5) F99c10)
def F99c0 : Ac := (so F99o1 F99c2)
/-- (*hansom/index.Source).Take -/
def F99 : Fn := { np := 2, pb := [[0]], rs := [.t 4], body := F99c0 }
def F100o1 := [
 o3 2 .mv [.y 0]]
def F100o3 := [
 om 3 0,
 o3 4 (.toInt .u8) [.t 3],
 om 2 4]
def F100c4 : Ac := .ret
def F100c2 : Ac := (so F100o3 F100c4)
def F100c0 : Ac := (so F100o1 F100c2)
/-- hansom/bits.Low -/
def F100 : Fn := { np := 1, pb := [], rs := [.t 2], body := F100c0 }
def F101o1 := [
 o3 2 .mv [.y 0]]
def F101o3 := [
 om 3 0,
 o3 4 (.bin .shr) [.t 3, .c (.d (.int .u64 8))],
 o3 5 (.toInt .u8) [.t 4],
 om 2 5]
def F101c4 : Ac := .ret
def F101c2 : Ac := (so F101o3 F101c4)
def F101c0 : Ac := (so F101o1 F101c2)
/-- hansom/bits.High -/
def F101 : Fn := { np := 1, pb := [], rs := [.t 2], body := F101c0 }
def F102o1 := [
 o3 4 .mv [.w 0]]
def F102o3 := [
 om 5 0,
 o3 6 (.toInt .u16) [.t 5],
 om 7 1,
 o3 8 (.toInt .u16) [.t 7],
 o3 9 (.bin .shl) [.t 8, .c (.d (.int .u64 8))],
 o3 10 (.bin .or) [.t 6, .t 9],
 om 4 10]
def F102c4 : Ac := .ret
def F102c2 : Ac := (so F102o3 F102c4)
def F102c0 : Ac := (so F102o1 F102c2)
/-- hansom/bits.Word -/
def F102 : Fn := { np := 2, pb := [], rs := [.t 4], body := F102c0 }
def F104o1 := [
 o3 4 .mv [.i 0]]
def F104o4 := [
 om 5 1,
 o3 6 (.bin .lss) [.t 5, .i 1],
 om 7 6,
 og 8 .mv [.t 1] 7 false,
 og 9 (.bin .gtr) [.t 8, .i 4096] 7 false,
 o3 10 .pick [.t 7, .b true, .t 9],
 om 11 10,
 og 12 .mv [.t 1] 11 false,
 og 13 .mv [.t 1] 11 false,
 og 14 (.bin .sub) [.t 13, .i 1] 11 false,
 og 15 (.bin .and) [.t 12, .t 14] 11 false,
 og 16 (.bin .neq) [.t 15, .i 0] 11 false,
 o3 17 .pick [.t 11, .b true, .t 16]]
def F104o6 := [
 o3 1 .mv [.i 1]]
def F104c5 : Ac := (cd 17 (.ops F104o6) .skip)
def F104o9 := [
 om 18 0,
 o3 19 .mx [.t 18, .i 0],
 o3 20 .mn [.t 19, .i 16777216],
 om 0 20]
def F104o11 := [
 om 21 0,
 om 22 1,
 o3 23 (.bin .add) [.t 21, .t 22],
 o3 24 (.bin .sub) [.t 23, .i 1],
 om 25 1,
 o3 26 (.bin .sub) [.t 25, .i 1],
 o3 27 (.bin .andNot) [.t 24, .t 26],
 om 4 27]
def F104c12 : Ac := .ret
def F104c10 : Ac := (so F104o11 F104c12)
def F104c8 : Ac := (so F104o9 F104c10)
def F104c2 : Ac := (.seq (so F104o4 F104c5) F104c8)
def F104c0 : Ac := (so F104o1 F104c2)
/-- hansom/bits.Up -/
def F104 : Fn := { np := 2, pb := [], rs := [.t 4], body := F104c0 }
def F105o1 := [
 o3 4 .mv [.u 0]]
def F105o3 := [
 om 5 0,
 o3 6 (.toInt .u32) [.t 5],
 o3 7 (.bin .shl) [.t 6, .c (.d (.int .u64 4))],
 om 8 1,
 o3 9 (.toInt .u32) [.t 8],
 o3 10 (.bin .add) [.t 7, .t 9],
 o3 11 (.bin .and) [.t 10, .u 1048575],
 om 4 11]
def F105c4 : Ac := .ret
def F105c2 : Ac := (so F105o3 F105c4)
def F105c0 : Ac := (so F105o1 F105c2)
/-- hansom/bits.Linear -/
def F105 : Fn := { np := 2, pb := [], rs := [.t 4], body := F105c0 }
def F106o1 := [
 om 3 0,
 o3 4 .lenL [.t 3],
 om 2 4]
def F106o2 := [
 om 5 0,
 om 6 2,
 om 7 2,
 o3 8 (.toInt .u64) [.t 7],
 o3 9 (.callf 136) [.t 8],
 o3 10 (.callf 135) [.l 5, .i 0, .t 6, .t 9]]
def F106c2 : Ac := (.ops F106o2)
def F106c0 : Ac := (so F106o1 F106c2)
/-- slices.Sort[[]int,int] -/
def F106 : Fn := { np := 1, pb := [[0]], rs := [], body := (.seq F106c0 (.gh [])) }
def F135o1 := [
 o3 8 .mv [.b true]]
def F135o3 := [
 o3 9 .mv [.b true]]
def F135o8 := [
 om 19 2,
 om 20 1,
 o3 21 (.bin .sub) [.t 19, .t 20],
 om 10 21]
def F135o11 := [
 om 22 10,
 o3 23 (.bin .leq) [.t 22, .i 12]]
def F135o14 := [
 om 24 0,
 om 25 1,
 om 26 2,
 o3 27 (.callf 160) [.l 24, .t 25, .t 26]]
def F135c15 : Ac := .ret
def F135c12 : Ac := (cd 23 (so F135o14 F135c15) .skip)
def F135o19 := [
 om 28 3,
 o3 29 (.bin .eql) [.t 28, .i 0]]
def F135o22 := [
 om 30 0,
 om 31 1,
 om 32 2,
 o3 33 (.callf 161) [.l 30, .t 31, .t 32]]
def F135c23 : Ac := .ret
def F135c20 : Ac := (cd 29 (so F135o22 F135c23) .skip)
def F135o27 := [
 om 34 8,
 o3 35 (.un .not) [.t 34]]
def F135o30 := [
 om 36 0,
 om 37 1,
 om 38 2,
 o3 39 (.callf 162) [.l 36, .t 37, .t 38]]
def F135o31 := [
 om 40 3,
 o3 41 (.bin .sub) [.t 40, .i 1],
 om 3 41]
def F135c31 : Ac := (.ops F135o31)
def F135c28 : Ac := (cd 35 (so F135o30 F135c31) .skip)
def F135o34 := [
 om 43 0,
 om 44 1,
 om 45 2,
 o3 46 (.callf 163) [.l 43, .t 44, .t 45],
 om 42 46,
 oe 47 0 42,
 oe 48 1 42,
 om 11 47,
 om 12 48]
def F135o37 := [
 om 49 12,
 o3 50 (.bin .eql) [.t 49, .i 2]]
def F135o40 := [
 om 51 0,
 om 52 1,
 om 53 2,
 o3 54 (.callf 164) [.l 51, .t 52, .t 53]]
def F135o42 := [
 om 55 2,
 o3 56 (.bin .sub) [.t 55, .i 1],
 om 57 11,
 om 58 1,
 o3 59 (.bin .sub) [.t 57, .t 58],
 o3 60 (.bin .sub) [.t 56, .t 59],
 om 11 60]
def F135o43 := [
 o3 12 .mv [.i 1]]
def F135c43 : Ac := (.ops F135o43)
def F135c41 : Ac := (so F135o42 F135c43)
def F135c38 : Ac := (cd 50 (so F135o40 F135c41) .skip)
def F135o47 := [
 om 61 8,
 om 62 61,
 og 63 .mv [.t 9] 62 true,
 o3 64 .pick [.t 62, .t 63, .b false],
 om 65 64,
 og 66 .mv [.t 12] 65 true,
 og 67 (.bin .eql) [.t 66, .i 1] 65 true,
 o3 68 .pick [.t 65, .t 67, .b false]]
def F135o50 := [
 om 69 0,
 om 70 1,
 om 71 2,
 o3 72 (.callf 165) [.l 69, .t 70, .t 71]]
def F135c51 : Ac := (cd 72 .ret .skip)
def F135c48 : Ac := (cd 68 (so F135o50 F135c51) .skip)
def F135o57 := [
 om 73 1,
 o3 74 (.bin .gtr) [.t 73, .i 0],
 om 75 74,
 og 76 .mv [.t 0] 75 true,
 og 77 .mv [.t 1] 75 true,
 og 78 (.bin .sub) [.t 77, .i 1] 75 true,
 og 79 (.iaddrS 1) [.t 76, .t 78] 75 true,
 og 80 (.load none) [.t 79] 75 true,
 og 81 .mv [.t 0] 75 true,
 og 82 .mv [.t 11] 75 true,
 og 83 (.iaddrS 1) [.t 81, .t 82] 75 true,
 og 84 (.load none) [.t 83] 75 true,
 og 85 (.callf 166) [.t 80, .t 84] 75 true,
 og 86 (.un .not) [.t 85] 75 true,
 o3 87 .pick [.t 75, .t 86, .b false]]
def F135o60 := [
 om 88 0,
 om 89 1,
 om 90 2,
 om 91 11,
 o3 92 (.callf 167) [.l 88, .t 89, .t 90, .t 91],
 om 13 92]
def F135o62 := [
 om 93 13,
 om 1 93]
def F135c63 : Ac := (.exit 1)
def F135c61 : Ac := (so F135o62 F135c63)
def F135c58 : Ac := (cd 87 (so F135o60 F135c61) .skip)
def F135o66 := [
 om 95 0,
 om 96 1,
 om 97 2,
 om 98 11,
 o3 99 (.callf 168) [.l 95, .t 96, .t 97, .t 98],
 om 94 99,
 oe 100 0 94,
 oe 101 1 94,
 om 14 100,
 om 15 101]
def F135o68 := [
 om 102 15,
 om 9 102]
def F135o70 := [
 om 103 14,
 om 104 1,
 o3 105 (.bin .sub) [.t 103, .t 104],
 om 106 2,
 om 107 14,
 o3 108 (.bin .sub) [.t 106, .t 107],
 om 16 105,
 om 17 108]
def F135o72 := [
 om 109 10,
 o3 110 (.bin .quo) [.t 109, .i 8],
 om 18 110]
def F135o74 := [
 om 111 16,
 om 112 17,
 o3 113 (.bin .lss) [.t 111, .t 112]]
def F135o77 := [
 om 114 16,
 om 115 18,
 o3 116 (.bin .geq) [.t 114, .t 115],
 om 8 116]
def F135o79 := [
 om 117 0,
 om 118 1,
 om 119 14,
 om 120 3,
 o3 121 (.callf 135) [.l 117, .t 118, .t 119, .t 120]]
def F135o80 := [
 om 122 14,
 o3 123 (.bin .add) [.t 122, .i 1],
 om 1 123]
def F135c80 : Ac := (.ops F135o80)
def F135c78 : Ac := (so F135o79 F135c80)
def F135o82 := [
 om 124 17,
 om 125 18,
 o3 126 (.bin .geq) [.t 124, .t 125],
 om 8 126]
def F135o84 := [
 om 127 0,
 om 128 14,
 o3 129 (.bin .add) [.t 128, .i 1],
 om 130 2,
 om 131 3,
 o3 132 (.callf 135) [.l 127, .t 129, .t 130, .t 131]]
def F135o85 := [
 om 133 14,
 om 2 133]
def F135c85 : Ac := (.ops F135o85)
def F135c83 : Ac := (so F135o84 F135c85)
def F135c75 : Ac := (cd 113 (so F135o77 F135c78) (so F135o82 F135c83))
def F135c73 : Ac := (so F135o74 F135c75)
def F135c71 : Ac := (so F135o72 F135c73)
def F135c69 : Ac := (so F135o70 F135c71)
def F135c67 : Ac := (so F135o68 F135c69)
def F135b65 : Ac := (so F135o66 F135c67)
def F135c65 : Ac := (.seq (.gh []) (.seq (.keep [0, 1, 2, 3, 10, 11] [[0]]) F135b65))
def F135b55 : Ac := (.seq (so F135o57 F135c58) F135c65)
def F135c55 : Ac := (.seq (.gh []) (.seq (.keep [0, 1, 2, 3, 8, 9, 10, 11] [[0]]) F135b55))
def F135b45 : Ac := (.seq (so F135o47 F135c48) F135c55)
def F135c45 : Ac := (.seq (.gh []) (.seq (.keep [0, 1, 2, 3, 8, 9, 10, 11, 12] [[0]]) F135b45))
def F135c35 : Ac := (.seq (so F135o37 F135c38) F135c45)
def F135b33 : Ac := (so F135o34 F135c35)
def F135c33 : Ac := (.seq (.gh []) (.seq (.keep [0, 1, 2, 3, 8, 9, 10] [[0]]) F135b33))
def F135c25 : Ac := (.seq (so F135o27 F135c28) F135c33)
def F135c17 : Ac := (.seq (so F135o19 F135c20) F135c25)
def F135c9 : Ac := (.seq (so F135o11 F135c12) F135c17)
def F135l5 : Ac := (.block 1 (so F135o8 F135c9))
def F135c4 : Ac := (.block 0 (.loop (.seq (.gh []) (.seq (.keep [0, 1, 2, 3, 8, 9] [[0]]) F135l5))))
def F135c2 : Ac := (so F135o3 F135c4)
def F135b86 : Ac := .skip
def F135c86 : Ac := (.seq (.gh []) (.seq (.keep [] [[0]]) F135b86))
def F135c0 : Ac := (.seq (so F135o1 F135c2) F135c86)
/-- slices.pdqsortOrdered[int] -/
def F135 : Fn := { np := 4, pb := [[0]], rs := [], body := F135c0 }
def F136o1 := [
 o3 2 .mv [.i 0]]
def F136o5 := [
 om 3 0,
 o3 4 (.toInt .u32) [.t 3],
 o3 5 (.callf 169) [.t 4],
 om 2 5]
def F136c6 : Ac := .ret
def F136o9 := [
 om 6 0,
 o3 7 (.callf 170) [.t 6],
 om 2 7]
def F136c10 : Ac := .ret
def F136c8 : Ac := (so F136o9 F136c10)
def F136c2 : Ac := (.seq (.cond (.b false) (so F136o5 F136c6) .skip) F136c8)
def F136c0 : Ac := (so F136o1 F136c2)
/-- math/bits.Len -/
def F136 : Fn := { np := 1, pb := [], rs := [.t 2], body := F136c0 }
def F160o1 := [
 om 8 1,
 o3 9 (.bin .add) [.t 8, .i 1],
 om 6 9]
def F160o6 := [
 om 10 6,
 om 11 2,
 o3 12 (.bin .lss) [.t 10, .t 11]]
def F160c7 : Ac := (cd 12 .skip (.exit 0))
def F160o13 := [
 om 15 6,
 om 7 15]
def F160o18 := [
 om 16 7,
 om 17 1,
 o3 18 (.bin .gtr) [.t 16, .t 17],
 om 19 18,
 og 20 .mv [.t 0] 19 true,
 og 21 .mv [.t 7] 19 true,
 og 22 (.iaddrS 1) [.t 20, .t 21] 19 true,
 og 23 (.load none) [.t 22] 19 true,
 og 24 .mv [.t 0] 19 true,
 og 25 .mv [.t 7] 19 true,
 og 26 (.bin .sub) [.t 25, .i 1] 19 true,
 og 27 (.iaddrS 1) [.t 24, .t 26] 19 true,
 og 28 (.load none) [.t 27] 19 true,
 og 29 (.callf 166) [.t 23, .t 28] 19 true,
 o3 30 .pick [.t 19, .t 29, .b false]]
def F160c19 : Ac := (cd 30 .skip (.exit 2))
def F160o24 := [
 om 33 0,
 om 34 7,
 om 35 0,
 om 36 7,
 o3 37 (.bin .sub) [.t 36, .i 1],
 om 38 0,
 om 39 7,
 o3 40 (.bin .sub) [.t 39, .i 1],
 o3 41 (.iaddrS 1) [.t 38, .t 40],
 o3 42 (.load none) [.t 41],
 om 43 0,
 om 44 7,
 o3 45 (.iaddrS 1) [.t 43, .t 44],
 o3 46 (.load none) [.t 45],
 o3 47 (.iaddrS 1) [.t 33, .t 34],
 o0 (.store 1) [.t 47, .t 42],
 o3 48 (.iaddrS 1) [.t 35, .t 37],
 o0 (.store 1) [.t 48, .t 46]]
def F160o25 := [
 om 31 7,
 o3 32 (.bin .sub) [.t 31, .i 1],
 om 7 32]
def F160c25 : Ac := (.ops F160o25)
def F160c22 : Ac := (.seq (.block 3 (.ops F160o24)) F160c25)
def F160l15 : Ac := (.seq (so F160o18 F160c19) F160c22)
def F160c14 : Ac := (.block 2 (.loop (.seq (.gh []) (.seq (.keep [0, 1, 2, 6, 7] [[0]]) F160l15))))
def F160o26 := [
 om 13 6,
 o3 14 (.bin .add) [.t 13, .i 1],
 om 6 14]
def F160b26 : Ac := (.ops F160o26)
def F160c26 : Ac := (.seq (.gh []) (.seq (.keep [0, 1, 2, 6] [[0]]) F160b26))
def F160c10 : Ac := (.seq (.block 1 (so F160o13 F160c14)) F160c26)
def F160l3 : Ac := (.seq (so F160o6 F160c7) F160c10)
def F160c2 : Ac := (.block 0 (.loop (.seq (.gh []) (.seq (.keep [0, 1, 2, 6] [[0]]) F160l3))))
def F160b27 : Ac := .skip
def F160c27 : Ac := (.seq (.gh []) (.seq (.keep [] [[0]]) F160b27))
def F160c0 : Ac := (.seq (so F160o1 F160c2) F160c27)
/-- slices.insertionSortOrdered[int] -/
def F160 : Fn := { np := 3, pb := [[0]], rs := [], body := (.seq F160c0 (.gh [])) }
def F161o1 := [
 om 11 1,
 om 6 11]
def F161o3 := [
 o3 7 .mv [.i 0]]
def F161o5 := [
 om 12 2,
 om 13 1,
 o3 14 (.bin .sub) [.t 12, .t 13],
 om 8 14]
def F161o8 := [
 om 15 8,
 o3 16 (.bin .sub) [.t 15, .i 1],
 o3 17 (.bin .quo) [.t 16, .i 2],
 om 9 17]
def F161o13 := [
 om 18 9,
 o3 19 (.bin .geq) [.t 18, .i 0]]
def F161c14 : Ac := (cd 19 .skip (.exit 0))
def F161o19 := [
 om 22 0,
 om 23 9,
 om 24 8,
 om 25 6,
 o3 26 (.callf 178) [.l 22, .t 23, .t 24, .t 25]]
def F161o20 := [
 om 20 9,
 o3 21 (.bin .sub) [.t 20, .i 1],
 om 9 21]
def F161c20 : Ac := (.ops F161o20)
def F161c17 : Ac := (.seq (.block 1 (.ops F161o19)) F161c20)
def F161l10 : Ac := (.seq (so F161o13 F161c14) F161c17)
def F161c9 : Ac := (.block 0 (.loop (.seq (.gh []) (.seq (.keep [0, 6, 7, 8, 9] [[0]]) F161l10))))
def F161o22 := [
 om 27 8,
 o3 28 (.bin .sub) [.t 27, .i 1],
 om 10 28]
def F161o27 := [
 om 29 10,
 o3 30 (.bin .geq) [.t 29, .i 0]]
def F161c28 : Ac := (cd 30 .skip (.exit 2))
def F161o34 := [
 om 33 0,
 om 34 6,
 om 35 0,
 om 36 6,
 om 37 10,
 o3 38 (.bin .add) [.t 36, .t 37],
 om 39 0,
 om 40 6,
 om 41 10,
 o3 42 (.bin .add) [.t 40, .t 41],
 o3 43 (.iaddrS 1) [.t 39, .t 42],
 o3 44 (.load none) [.t 43],
 om 45 0,
 om 46 6,
 o3 47 (.iaddrS 1) [.t 45, .t 46],
 o3 48 (.load none) [.t 47],
 o3 49 (.iaddrS 1) [.t 33, .t 34],
 o0 (.store 1) [.t 49, .t 44],
 o3 50 (.iaddrS 1) [.t 35, .t 38],
 o0 (.store 1) [.t 50, .t 48]]
def F161o35 := [
 om 51 0,
 om 52 7,
 om 53 10,
 om 54 6,
 o3 55 (.callf 178) [.l 51, .t 52, .t 53, .t 54]]
def F161c35 : Ac := (.ops F161o35)
def F161o36 := [
 om 31 10,
 o3 32 (.bin .sub) [.t 31, .i 1],
 om 10 32]
def F161c36 : Ac := (.ops F161o36)
def F161c31 : Ac := (.seq (.block 3 (so F161o34 F161c35)) F161c36)
def F161l24 : Ac := (.seq (so F161o27 F161c28) F161c31)
def F161c23 : Ac := (.block 2 (.loop (.seq (.gh []) (.seq (.keep [0, 6, 7, 10] [[0]]) F161l24))))
def F161b21 : Ac := (so F161o22 F161c23)
def F161c21 : Ac := (.seq (.gh []) (.seq (.keep [0, 6, 7, 8] [[0]]) F161b21))
def F161c6 : Ac := (.seq (so F161o8 F161c9) F161c21)
def F161c4 : Ac := (so F161o5 F161c6)
def F161c2 : Ac := (so F161o3 F161c4)
def F161b37 : Ac := .skip
def F161c37 : Ac := (.seq (.gh []) (.seq (.keep [] [[0]]) F161b37))
def F161c0 : Ac := (.seq (so F161o1 F161c2) F161c37)
/-- slices.heapSortOrdered[int] -/
def F161 : Fn := { np := 3, pb := [[0]], rs := [], body := (.seq F161c0 (.gh [])) }
def F162o1 := [
 om 11 2,
 om 12 1,
 o3 13 (.bin .sub) [.t 11, .t 12],
 om 6 13]
def F162o3 := [
 om 14 6,
 o3 15 (.bin .geq) [.t 14, .i 8]]
def F162o6 := [
 om 16 6,
 o3 17 (.toInt .u64) [.t 16],
 o3 7 (.alloc [.d (.int .u64 0)]) [],
 o0 (.store 1) [.t 7, .t 17]]
def F162o8 := [
 om 18 6,
 o3 19 (.callf 179) [.t 18],
 om 8 19]
def F162o10 := [
 om 20 1,
 om 21 6,
 o3 22 (.bin .quo) [.t 21, .i 4],
 o3 23 (.bin .mul) [.t 22, .i 2],
 o3 24 (.bin .add) [.t 20, .t 23],
 o3 25 (.bin .sub) [.t 24, .i 1],
 om 9 25]
def F162o15 := [
 om 26 9,
 om 27 1,
 om 28 6,
 o3 29 (.bin .quo) [.t 28, .i 4],
 o3 30 (.bin .mul) [.t 29, .i 2],
 o3 31 (.bin .add) [.t 27, .t 30],
 o3 32 (.bin .add) [.t 31, .i 1],
 o3 33 (.bin .leq) [.t 26, .t 32]]
def F162c16 : Ac := (cd 33 .skip (.exit 0))
def F162o22 := [
 o3 36 (.callf 180) [.t 7],
 om 37 8,
 o3 38 (.bin .sub) [.t 37, .c (.d (.int .u64 1))],
 o3 39 (.bin .and) [.t 36, .t 38],
 o3 40 (.toInt .i64) [.t 39],
 om 10 40]
def F162o25 := [
 om 41 10,
 om 42 6,
 o3 43 (.bin .geq) [.t 41, .t 42]]
def F162o27 := [
 om 44 10,
 om 45 6,
 o3 46 (.bin .sub) [.t 44, .t 45],
 om 10 46]
def F162c26 : Ac := (cd 43 (.ops F162o27) .skip)
def F162o29 := [
 om 47 0,
 om 48 9,
 om 49 0,
 om 50 1,
 om 51 10,
 o3 52 (.bin .add) [.t 50, .t 51],
 om 53 0,
 om 54 1,
 om 55 10,
 o3 56 (.bin .add) [.t 54, .t 55],
 o3 57 (.iaddrS 1) [.t 53, .t 56],
 o3 58 (.load none) [.t 57],
 om 59 0,
 om 60 9,
 o3 61 (.iaddrS 1) [.t 59, .t 60],
 o3 62 (.load none) [.t 61],
 o3 63 (.iaddrS 1) [.t 47, .t 48],
 o0 (.store 1) [.t 63, .t 58],
 o3 64 (.iaddrS 1) [.t 49, .t 52],
 o0 (.store 1) [.t 64, .t 62]]
def F162b29 : Ac := (.ops F162o29)
def F162c29 : Ac := (.seq (.gh []) (.seq (.keep [0, 1, 6, 7, 8, 9, 10] [[0], [7]]) F162b29))
def F162c23 : Ac := (.seq (so F162o25 F162c26) F162c29)
def F162o30 := [
 om 34 9,
 o3 35 (.bin .add) [.t 34, .i 1],
 om 9 35]
def F162c30 : Ac := (.ops F162o30)
def F162c19 : Ac := (.seq (.block 1 (so F162o22 F162c23)) F162c30)
def F162l12 : Ac := (.seq (so F162o15 F162c16) F162c19)
def F162c11 : Ac := (.block 0 (.loop (.seq (.gh []) (.seq (.keep [0, 1, 6, 7, 8, 9] [[0], [7]]) F162l12))))
def F162c9 : Ac := (so F162o10 F162c11)
def F162c7 : Ac := (so F162o8 F162c9)
def F162c4 : Ac := (cd 15 (so F162o6 F162c7) .skip)
def F162c2 : Ac := (so F162o3 F162c4)
def F162b32 : Ac := .skip
def F162c32 : Ac := (.seq (.gh []) (.seq (.keep [] [[0]]) F162b32))
def F162c0 : Ac := (.seq (so F162o1 F162c2) F162c32)
/-- slices.breakPatternsOrdered[int] -/
def F162 : Fn := { np := 3, pb := [[0]], rs := [], body := (.seq F162c0 (.gh [])) }
def F163o1 := [
 o3 6 .mv [.i 0],
 o3 7 .mv [.i 0]]
def F163o3 := [
 om 13 2,
 om 14 1,
 o3 15 (.bin .sub) [.t 13, .t 14],
 om 8 15]
def F163o5 := [
 o3 9 (.alloc [.d (.int .i64 0)]) []]
def F163o7 := [
 om 16 1,
 om 17 8,
 o3 18 (.bin .quo) [.t 17, .i 4],
 o3 19 (.bin .mul) [.t 18, .i 1],
 o3 20 (.bin .add) [.t 16, .t 19],
 om 10 20]
def F163o9 := [
 om 21 1,
 om 22 8,
 o3 23 (.bin .quo) [.t 22, .i 4],
 o3 24 (.bin .mul) [.t 23, .i 2],
 o3 25 (.bin .add) [.t 21, .t 24],
 om 11 25]
def F163o11 := [
 om 26 1,
 om 27 8,
 o3 28 (.bin .quo) [.t 27, .i 4],
 o3 29 (.bin .mul) [.t 28, .i 3],
 o3 30 (.bin .add) [.t 26, .t 29],
 om 12 30]
def F163o14 := [
 om 31 8,
 o3 32 (.bin .geq) [.t 31, .i 8]]
def F163o18 := [
 om 33 8,
 o3 34 (.bin .geq) [.t 33, .i 50]]
def F163o21 := [
 om 35 0,
 om 36 10,
 o3 37 (.callf 181) [.l 35, .t 36, .t 9],
 om 10 37]
def F163o23 := [
 om 38 0,
 om 39 11,
 o3 40 (.callf 181) [.l 38, .t 39, .t 9],
 om 11 40]
def F163o24 := [
 om 41 0,
 om 42 12,
 o3 43 (.callf 181) [.l 41, .t 42, .t 9],
 om 12 43]
def F163c24 : Ac := (.ops F163o24)
def F163c22 : Ac := (so F163o23 F163c24)
def F163c19 : Ac := (cd 34 (so F163o21 F163c22) .skip)
def F163o26 := [
 om 44 0,
 om 45 10,
 om 46 11,
 om 47 12,
 o3 48 (.callf 182) [.l 44, .t 45, .t 46, .t 47, .t 9],
 om 11 48]
def F163c26 : Ac := (.ops F163o26)
def F163c15 : Ac := (cd 32 (.seq (so F163o18 F163c19) F163c26) .skip)
def F163o29 := [
 o3 49 (.load none) [.t 9]]
def F163o32 := [
 o3 52 (.bin .eql) [.t 49, .i 0],
 om 51 52]
def F163o35 := [
 om 53 11,
 om 6 53,
 o3 7 .mv [.i 1]]
def F163c36 : Ac := .ret
def F163o38 := [
 o3 55 (.bin .eql) [.t 49, .i 12],
 om 54 55]
def F163o41 := [
 om 56 11,
 om 6 56,
 o3 7 .mv [.i 2]]
def F163c42 : Ac := .ret
def F163o44 := [
 om 50 11,
 om 6 50,
 o3 7 .mv [.i 0]]
def F163c45 : Ac := .ret
def F163c39 : Ac := (cd 54 (so F163o41 F163c42) (so F163o44 F163c45))
def F163c33 : Ac := (cd 51 (so F163o35 F163c36) (so F163o38 F163c39))
def F163c30 : Ac := (.block 0 (so F163o32 F163c33))
def F163b28 : Ac := (so F163o29 F163c30)
def F163c28 : Ac := (.seq (.gh []) (.seq (.keep [9, 11] [[0], [9]]) F163b28))
def F163c12 : Ac := (.seq (so F163o14 F163c15) F163c28)
def F163c10 : Ac := (so F163o11 F163c12)
def F163c8 : Ac := (so F163o9 F163c10)
def F163c6 : Ac := (so F163o7 F163c8)
def F163c4 : Ac := (so F163o5 F163c6)
def F163c2 : Ac := (so F163o3 F163c4)
def F163c0 : Ac := (so F163o1 F163c2)
/-- slices.choosePivotOrdered[int] -/
def F163 : Fn := { np := 3, pb := [[0]], rs := [.t 6, .t 7], body := F163c0 }
def F164o1 := [
 om 8 1,
 om 6 8]
def F164o3 := [
 om 9 2,
 o3 10 (.bin .sub) [.t 9, .i 1],
 om 7 10]
def F164o8 := [
 om 11 6,
 om 12 7,
 o3 13 (.bin .lss) [.t 11, .t 12]]
def F164c9 : Ac := (cd 13 .skip (.exit 0))
def F164o14 := [
 om 14 0,
 om 15 6,
 om 16 0,
 om 17 7,
 om 18 0,
 om 19 7,
 o3 20 (.iaddrS 1) [.t 18, .t 19],
 o3 21 (.load none) [.t 20],
 om 22 0,
 om 23 6,
 o3 24 (.iaddrS 1) [.t 22, .t 23],
 o3 25 (.load none) [.t 24],
 o3 26 (.iaddrS 1) [.t 14, .t 15],
 o0 (.store 1) [.t 26, .t 21],
 o3 27 (.iaddrS 1) [.t 16, .t 17],
 o0 (.store 1) [.t 27, .t 25]]
def F164o16 := [
 om 28 6,
 o3 29 (.bin .add) [.t 28, .i 1],
 om 6 29]
def F164o17 := [
 om 30 7,
 o3 31 (.bin .sub) [.t 30, .i 1],
 om 7 31]
def F164c17 : Ac := (.ops F164o17)
def F164c15 : Ac := (so F164o16 F164c17)
def F164c12 : Ac := (.block 1 (so F164o14 F164c15))
def F164l5 : Ac := (.seq (so F164o8 F164c9) F164c12)
def F164c4 : Ac := (.block 0 (.loop (.seq (.gh []) (.seq (.keep [0, 6, 7] [[0]]) F164l5))))
def F164c2 : Ac := (so F164o3 F164c4)
def F164b18 : Ac := .skip
def F164c18 : Ac := (.seq (.gh []) (.seq (.keep [] [[0]]) F164b18))
def F164c0 : Ac := (.seq (so F164o1 F164c2) F164c18)
/-- slices.reverseRangeOrdered[int] -/
def F164 : Fn := { np := 3, pb := [[0]], rs := [], body := (.seq F164c0 (.gh [])) }
def F165o1 := [
 o3 6 .mv [.b false]]
def F165o3 := [
 om 11 1,
 o3 12 (.bin .add) [.t 11, .i 1],
 om 7 12]
def F165o6 := [
 o3 8 .mv [.i 0]]
def F165o11 := [
 om 13 8,
 o3 14 (.bin .lss) [.t 13, .i 5]]
def F165c12 : Ac := (cd 14 .skip (.exit 0))
def F165o22 := [
 om 17 7,
 om 18 2,
 o3 19 (.bin .lss) [.t 17, .t 18],
 om 20 19,
 og 21 .mv [.t 0] 20 true,
 og 22 .mv [.t 7] 20 true,
 og 23 (.iaddrS 1) [.t 21, .t 22] 20 true,
 og 24 (.load none) [.t 23] 20 true,
 og 25 .mv [.t 0] 20 true,
 og 26 .mv [.t 7] 20 true,
 og 27 (.bin .sub) [.t 26, .i 1] 20 true,
 og 28 (.iaddrS 1) [.t 25, .t 27] 20 true,
 og 29 (.load none) [.t 28] 20 true,
 og 30 (.callf 166) [.t 24, .t 29] 20 true,
 og 31 (.un .not) [.t 30] 20 true,
 o3 32 .pick [.t 20, .t 31, .b false]]
def F165c23 : Ac := (cd 32 .skip (.exit 2))
def F165o27 := [
 om 33 7,
 o3 34 (.bin .add) [.t 33, .i 1],
 om 7 34]
def F165c26 : Ac := (.block 3 (.ops F165o27))
def F165l19 : Ac := (.seq (so F165o22 F165c23) F165c26)
def F165o30 := [
 om 35 7,
 om 36 2,
 o3 37 (.bin .eql) [.t 35, .t 36]]
def F165o33 := [
 o3 6 .mv [.b true]]
def F165c34 : Ac := .ret
def F165c31 : Ac := (cd 37 (so F165o33 F165c34) .skip)
def F165o38 := [
 om 38 2,
 om 39 1,
 o3 40 (.bin .sub) [.t 38, .t 39],
 o3 41 (.bin .lss) [.t 40, .i 50]]
def F165o41 := [
 o3 6 .mv [.b false]]
def F165c42 : Ac := .ret
def F165c39 : Ac := (cd 41 (so F165o41 F165c42) .skip)
def F165o45 := [
 om 42 0,
 om 43 7,
 om 44 0,
 om 45 7,
 o3 46 (.bin .sub) [.t 45, .i 1],
 om 47 0,
 om 48 7,
 o3 49 (.bin .sub) [.t 48, .i 1],
 o3 50 (.iaddrS 1) [.t 47, .t 49],
 o3 51 (.load none) [.t 50],
 om 52 0,
 om 53 7,
 o3 54 (.iaddrS 1) [.t 52, .t 53],
 o3 55 (.load none) [.t 54],
 o3 56 (.iaddrS 1) [.t 42, .t 43],
 o0 (.store 1) [.t 56, .t 51],
 o3 57 (.iaddrS 1) [.t 44, .t 46],
 o0 (.store 1) [.t 57, .t 55]]
def F165o48 := [
 om 58 7,
 om 59 1,
 o3 60 (.bin .sub) [.t 58, .t 59],
 o3 61 (.bin .geq) [.t 60, .i 2]]
def F165o51 := [
 om 62 7,
 o3 63 (.bin .sub) [.t 62, .i 1],
 om 9 63]
def F165o56 := [
 om 64 9,
 o3 65 (.bin .geq) [.t 64, .i 1]]
def F165c57 : Ac := (cd 65 .skip (.exit 4))
def F165o64 := [
 om 68 0,
 om 69 9,
 o3 70 (.iaddrS 1) [.t 68, .t 69],
 o3 71 (.load none) [.t 70],
 om 72 0,
 om 73 9,
 o3 74 (.bin .sub) [.t 73, .i 1],
 o3 75 (.iaddrS 1) [.t 72, .t 74],
 o3 76 (.load none) [.t 75],
 o3 77 (.callf 166) [.t 71, .t 76],
 o3 78 (.un .not) [.t 77]]
def F165c65 : Ac := (cd 78 (.exit 4) .skip)
def F165o68 := [
 om 79 0,
 om 80 9,
 om 81 0,
 om 82 9,
 o3 83 (.bin .sub) [.t 82, .i 1],
 om 84 0,
 om 85 9,
 o3 86 (.bin .sub) [.t 85, .i 1],
 o3 87 (.iaddrS 1) [.t 84, .t 86],
 o3 88 (.load none) [.t 87],
 om 89 0,
 om 90 9,
 o3 91 (.iaddrS 1) [.t 89, .t 90],
 o3 92 (.load none) [.t 91],
 o3 93 (.iaddrS 1) [.t 79, .t 80],
 o0 (.store 1) [.t 93, .t 88],
 o3 94 (.iaddrS 1) [.t 81, .t 83],
 o0 (.store 1) [.t 94, .t 92]]
def F165c68 : Ac := (.ops F165o68)
def F165o69 := [
 om 66 9,
 o3 67 (.bin .sub) [.t 66, .i 1],
 om 9 67]
def F165c69 : Ac := (.ops F165o69)
def F165c60 : Ac := (.seq (.block 5 (.seq (so F165o64 F165c65) F165c68)) F165c69)
def F165l53 : Ac := (.seq (so F165o56 F165c57) F165c60)
def F165c52 : Ac := (.block 4 (.loop (.seq (.gh []) (.seq (.keep [0, 1, 2, 7, 8, 9] [[0]]) F165l53))))
def F165c49 : Ac := (cd 61 (so F165o51 F165c52) .skip)
def F165o72 := [
 om 95 2,
 om 96 7,
 o3 97 (.bin .sub) [.t 95, .t 96],
 o3 98 (.bin .geq) [.t 97, .i 2]]
def F165o75 := [
 om 99 7,
 o3 100 (.bin .add) [.t 99, .i 1],
 om 10 100]
def F165o80 := [
 om 101 10,
 om 102 2,
 o3 103 (.bin .lss) [.t 101, .t 102]]
def F165c81 : Ac := (cd 103 .skip (.exit 6))
def F165o88 := [
 om 106 0,
 om 107 10,
 o3 108 (.iaddrS 1) [.t 106, .t 107],
 o3 109 (.load none) [.t 108],
 om 110 0,
 om 111 10,
 o3 112 (.bin .sub) [.t 111, .i 1],
 o3 113 (.iaddrS 1) [.t 110, .t 112],
 o3 114 (.load none) [.t 113],
 o3 115 (.callf 166) [.t 109, .t 114],
 o3 116 (.un .not) [.t 115]]
def F165c89 : Ac := (cd 116 (.exit 6) .skip)
def F165o92 := [
 om 117 0,
 om 118 10,
 om 119 0,
 om 120 10,
 o3 121 (.bin .sub) [.t 120, .i 1],
 om 122 0,
 om 123 10,
 o3 124 (.bin .sub) [.t 123, .i 1],
 o3 125 (.iaddrS 1) [.t 122, .t 124],
 o3 126 (.load none) [.t 125],
 om 127 0,
 om 128 10,
 o3 129 (.iaddrS 1) [.t 127, .t 128],
 o3 130 (.load none) [.t 129],
 o3 131 (.iaddrS 1) [.t 117, .t 118],
 o0 (.store 1) [.t 131, .t 126],
 o3 132 (.iaddrS 1) [.t 119, .t 121],
 o0 (.store 1) [.t 132, .t 130]]
def F165c92 : Ac := (.ops F165o92)
def F165o93 := [
 om 104 10,
 o3 105 (.bin .add) [.t 104, .i 1],
 om 10 105]
def F165c93 : Ac := (.ops F165o93)
def F165c84 : Ac := (.seq (.block 7 (.seq (so F165o88 F165c89) F165c92)) F165c93)
def F165l77 : Ac := (.seq (so F165o80 F165c81) F165c84)
def F165c76 : Ac := (.block 6 (.loop (.seq (.gh []) (.seq (.keep [0, 1, 2, 7, 8, 10] [[0]]) F165l77))))
def F165c73 : Ac := (cd 98 (so F165o75 F165c76) .skip)
def F165b71 : Ac := (so F165o72 F165c73)
def F165c71 : Ac := (.seq (.gh []) (.seq (.keep [0, 1, 2, 7, 8] [[0]]) F165b71))
def F165c46 : Ac := (.seq (so F165o48 F165c49) F165c71)
def F165c44 : Ac := (so F165o45 F165c46)
def F165c36 : Ac := (.seq (so F165o38 F165c39) F165c44)
def F165b28 : Ac := (.seq (so F165o30 F165c31) F165c36)
def F165c28 : Ac := (.seq (.gh []) (.seq (.keep [0, 1, 2, 7, 8] [[0]]) F165b28))
def F165o95 := [
 om 15 8,
 o3 16 (.bin .add) [.t 15, .i 1],
 om 8 16]
def F165b95 : Ac := (.ops F165o95)
def F165c95 : Ac := (.seq (.gh []) (.seq (.keep [0, 1, 2, 7, 8] [[0]]) F165b95))
def F165c15 : Ac := (.seq (.block 1 (.seq (.block 2 (.loop (.seq (.gh []) (.seq (.keep [0, 1, 2, 7, 8] [[0]]) F165l19)))) F165c28)) F165c95)
def F165l8 : Ac := (.seq (so F165o11 F165c12) F165c15)
def F165c7 : Ac := (.block 0 (.loop (.seq (.gh []) (.seq (.keep [0, 1, 2, 7, 8] [[0]]) F165l8))))
def F165o97 := [
 o3 6 .mv [.b false]]
def F165c98 : Ac := .ret
def F165b96 : Ac := (so F165o97 F165c98)
def F165c96 : Ac := (.seq (.gh []) (.seq (.keep [] [[0]]) F165b96))
def F165c4 : Ac := (.seq (so F165o6 F165c7) F165c96)
def F165c2 : Ac := (so F165o3 F165c4)
def F165c0 : Ac := (so F165o1 F165c2)
/-- slices.partialInsertionSortOrdered[int] -/
def F165 : Fn := { np := 3, pb := [[0]], rs := [.t 6], body := F165c0 }
def F166o1 := [
 o3 4 .mv [.b false]]
def F166o3 := [
 om 5 0,
 o3 6 (.callf 183) [.t 5],
 om 7 6,
 og 8 .mv [.t 1] 7 true,
 og 9 (.callf 183) [.t 8] 7 true,
 og 10 (.un .not) [.t 9] 7 true,
 o3 11 .pick [.t 7, .t 10, .b false],
 om 12 11,
 og 13 .mv [.t 0] 12 false,
 og 14 .mv [.t 1] 12 false,
 og 15 (.bin .lss) [.t 13, .t 14] 12 false,
 o3 16 .pick [.t 12, .b true, .t 15],
 om 4 16]
def F166c4 : Ac := .ret
def F166c2 : Ac := (so F166o3 F166c4)
def F166c0 : Ac := (so F166o1 F166c2)
/-- cmp.Less[int] -/
def F166 : Fn := { np := 2, pb := [], rs := [.t 4], body := F166c0 }
def F167o1 := [
 o3 8 .mv [.i 0]]
def F167o3 := [
 om 11 0,
 om 12 1,
 om 13 0,
 om 14 3,
 om 15 0,
 om 16 3,
 o3 17 (.iaddrS 1) [.t 15, .t 16],
 o3 18 (.load none) [.t 17],
 om 19 0,
 om 20 1,
 o3 21 (.iaddrS 1) [.t 19, .t 20],
 o3 22 (.load none) [.t 21],
 o3 23 (.iaddrS 1) [.t 11, .t 12],
 o0 (.store 1) [.t 23, .t 18],
 o3 24 (.iaddrS 1) [.t 13, .t 14],
 o0 (.store 1) [.t 24, .t 22]]
def F167o5 := [
 om 25 1,
 o3 26 (.bin .add) [.t 25, .i 1],
 om 27 2,
 o3 28 (.bin .sub) [.t 27, .i 1],
 om 9 26,
 om 10 28]
def F167o15 := [
 om 29 9,
 om 30 10,
 o3 31 (.bin .leq) [.t 29, .t 30],
 om 32 31,
 og 33 .mv [.t 0] 32 true,
 og 34 .mv [.t 1] 32 true,
 og 35 (.iaddrS 1) [.t 33, .t 34] 32 true,
 og 36 (.load none) [.t 35] 32 true,
 og 37 .mv [.t 0] 32 true,
 og 38 .mv [.t 9] 32 true,
 og 39 (.iaddrS 1) [.t 37, .t 38] 32 true,
 og 40 (.load none) [.t 39] 32 true,
 og 41 (.callf 166) [.t 36, .t 40] 32 true,
 og 42 (.un .not) [.t 41] 32 true,
 o3 43 .pick [.t 32, .t 42, .b false]]
def F167c16 : Ac := (cd 43 .skip (.exit 2))
def F167o20 := [
 om 44 9,
 o3 45 (.bin .add) [.t 44, .i 1],
 om 9 45]
def F167c19 : Ac := (.block 3 (.ops F167o20))
def F167l12 : Ac := (.seq (so F167o15 F167c16) F167c19)
def F167o26 := [
 om 46 9,
 om 47 10,
 o3 48 (.bin .leq) [.t 46, .t 47],
 om 49 48,
 og 50 .mv [.t 0] 49 true,
 og 51 .mv [.t 1] 49 true,
 og 52 (.iaddrS 1) [.t 50, .t 51] 49 true,
 og 53 (.load none) [.t 52] 49 true,
 og 54 .mv [.t 0] 49 true,
 og 55 .mv [.t 10] 49 true,
 og 56 (.iaddrS 1) [.t 54, .t 55] 49 true,
 og 57 (.load none) [.t 56] 49 true,
 og 58 (.callf 166) [.t 53, .t 57] 49 true,
 o3 59 .pick [.t 49, .t 58, .b false]]
def F167c27 : Ac := (cd 59 .skip (.exit 4))
def F167o31 := [
 om 60 10,
 o3 61 (.bin .sub) [.t 60, .i 1],
 om 10 61]
def F167c30 : Ac := (.block 5 (.ops F167o31))
def F167l23 : Ac := (.seq (so F167o26 F167c27) F167c30)
def F167o34 := [
 om 62 9,
 om 63 10,
 o3 64 (.bin .gtr) [.t 62, .t 63]]
def F167c35 : Ac := (cd 64 (.exit 0) .skip)
def F167o39 := [
 om 65 0,
 om 66 9,
 om 67 0,
 om 68 10,
 om 69 0,
 om 70 10,
 o3 71 (.iaddrS 1) [.t 69, .t 70],
 o3 72 (.load none) [.t 71],
 om 73 0,
 om 74 9,
 o3 75 (.iaddrS 1) [.t 73, .t 74],
 o3 76 (.load none) [.t 75],
 o3 77 (.iaddrS 1) [.t 65, .t 66],
 o0 (.store 1) [.t 77, .t 72],
 o3 78 (.iaddrS 1) [.t 67, .t 68],
 o0 (.store 1) [.t 78, .t 76]]
def F167o41 := [
 om 79 9,
 o3 80 (.bin .add) [.t 79, .i 1],
 om 9 80]
def F167o42 := [
 om 81 10,
 o3 82 (.bin .sub) [.t 81, .i 1],
 om 10 82]
def F167c42 : Ac := (.ops F167o42)
def F167c40 : Ac := (so F167o41 F167c42)
def F167c38 : Ac := (so F167o39 F167c40)
def F167b32 : Ac := (.seq (so F167o34 F167c35) F167c38)
def F167c32 : Ac := (.seq (.gh []) (.seq (.keep [0, 1, 9, 10] [[0]]) F167b32))
def F167b21 : Ac := (.seq (.block 4 (.loop (.seq (.gh []) (.seq (.keep [0, 1, 9, 10] [[0]]) F167l23)))) F167c32)
def F167c21 : Ac := (.seq (.gh []) (.seq (.keep [0, 1, 9, 10] [[0]]) F167b21))
def F167l8 : Ac := (.block 1 (.seq (.block 2 (.loop (.seq (.gh []) (.seq (.keep [0, 1, 9, 10] [[0]]) F167l12)))) F167c21))
def F167o44 := [
 om 83 9,
 om 8 83]
def F167c45 : Ac := .ret
def F167b43 : Ac := (so F167o44 F167c45)
def F167c43 : Ac := (.seq (.gh []) (.seq (.keep [9] [[0]]) F167b43))
def F167c6 : Ac := (.seq (.block 0 (.loop (.seq (.gh []) (.seq (.keep [0, 1, 9, 10] [[0]]) F167l8)))) F167c43)
def F167c4 : Ac := (so F167o5 F167c6)
def F167c2 : Ac := (so F167o3 F167c4)
def F167c0 : Ac := (so F167o1 F167c2)
/-- slices.partitionEqualOrdered[int] -/
def F167 : Fn := { np := 4, pb := [[0]], rs := [.t 8], body := F167c0 }
def F168o1 := [
 o3 8 .mv [.i 0],
 o3 9 .mv [.b false]]
def F168o3 := [
 om 12 0,
 om 13 1,
 om 14 0,
 om 15 3,
 om 16 0,
 om 17 3,
 o3 18 (.iaddrS 1) [.t 16, .t 17],
 o3 19 (.load none) [.t 18],
 om 20 0,
 om 21 1,
 o3 22 (.iaddrS 1) [.t 20, .t 21],
 o3 23 (.load none) [.t 22],
 o3 24 (.iaddrS 1) [.t 12, .t 13],
 o0 (.store 1) [.t 24, .t 19],
 o3 25 (.iaddrS 1) [.t 14, .t 15],
 o0 (.store 1) [.t 25, .t 23]]
def F168o5 := [
 om 26 1,
 o3 27 (.bin .add) [.t 26, .i 1],
 om 28 2,
 o3 29 (.bin .sub) [.t 28, .i 1],
 om 10 27,
 om 11 29]
def F168o11 := [
 om 30 10,
 om 31 11,
 o3 32 (.bin .leq) [.t 30, .t 31],
 om 33 32,
 og 34 .mv [.t 0] 33 true,
 og 35 .mv [.t 10] 33 true,
 og 36 (.iaddrS 1) [.t 34, .t 35] 33 true,
 og 37 (.load none) [.t 36] 33 true,
 og 38 .mv [.t 0] 33 true,
 og 39 .mv [.t 1] 33 true,
 og 40 (.iaddrS 1) [.t 38, .t 39] 33 true,
 og 41 (.load none) [.t 40] 33 true,
 og 42 (.callf 166) [.t 37, .t 41] 33 true,
 o3 43 .pick [.t 33, .t 42, .b false]]
def F168c12 : Ac := (cd 43 .skip (.exit 0))
def F168o16 := [
 om 44 10,
 o3 45 (.bin .add) [.t 44, .i 1],
 om 10 45]
def F168c15 : Ac := (.block 1 (.ops F168o16))
def F168l8 : Ac := (.seq (so F168o11 F168c12) F168c15)
def F168o22 := [
 om 46 10,
 om 47 11,
 o3 48 (.bin .leq) [.t 46, .t 47],
 om 49 48,
 og 50 .mv [.t 0] 49 true,
 og 51 .mv [.t 11] 49 true,
 og 52 (.iaddrS 1) [.t 50, .t 51] 49 true,
 og 53 (.load none) [.t 52] 49 true,
 og 54 .mv [.t 0] 49 true,
 og 55 .mv [.t 1] 49 true,
 og 56 (.iaddrS 1) [.t 54, .t 55] 49 true,
 og 57 (.load none) [.t 56] 49 true,
 og 58 (.callf 166) [.t 53, .t 57] 49 true,
 og 59 (.un .not) [.t 58] 49 true,
 o3 60 .pick [.t 49, .t 59, .b false]]
def F168c23 : Ac := (cd 60 .skip (.exit 2))
def F168o27 := [
 om 61 11,
 o3 62 (.bin .sub) [.t 61, .i 1],
 om 11 62]
def F168c26 : Ac := (.block 3 (.ops F168o27))
def F168l19 : Ac := (.seq (so F168o22 F168c23) F168c26)
def F168o30 := [
 om 63 10,
 om 64 11,
 o3 65 (.bin .gtr) [.t 63, .t 64]]
def F168o33 := [
 om 66 0,
 om 67 11,
 om 68 0,
 om 69 1,
 om 70 0,
 om 71 1,
 o3 72 (.iaddrS 1) [.t 70, .t 71],
 o3 73 (.load none) [.t 72],
 om 74 0,
 om 75 11,
 o3 76 (.iaddrS 1) [.t 74, .t 75],
 o3 77 (.load none) [.t 76],
 o3 78 (.iaddrS 1) [.t 66, .t 67],
 o0 (.store 1) [.t 78, .t 73],
 o3 79 (.iaddrS 1) [.t 68, .t 69],
 o0 (.store 1) [.t 79, .t 77]]
def F168o35 := [
 om 80 11,
 om 8 80,
 o3 9 .mv [.b true]]
def F168c36 : Ac := .ret
def F168c34 : Ac := (so F168o35 F168c36)
def F168c31 : Ac := (cd 65 (so F168o33 F168c34) .skip)
def F168o39 := [
 om 81 0,
 om 82 10,
 om 83 0,
 om 84 11,
 om 85 0,
 om 86 11,
 o3 87 (.iaddrS 1) [.t 85, .t 86],
 o3 88 (.load none) [.t 87],
 om 89 0,
 om 90 10,
 o3 91 (.iaddrS 1) [.t 89, .t 90],
 o3 92 (.load none) [.t 91],
 o3 93 (.iaddrS 1) [.t 81, .t 82],
 o0 (.store 1) [.t 93, .t 88],
 o3 94 (.iaddrS 1) [.t 83, .t 84],
 o0 (.store 1) [.t 94, .t 92]]
def F168o41 := [
 om 95 10,
 o3 96 (.bin .add) [.t 95, .i 1],
 om 10 96]
def F168o43 := [
 om 97 11,
 o3 98 (.bin .sub) [.t 97, .i 1],
 om 11 98]
def F168o53 := [
 om 99 10,
 om 100 11,
 o3 101 (.bin .leq) [.t 99, .t 100],
 om 102 101,
 og 103 .mv [.t 0] 102 true,
 og 104 .mv [.t 10] 102 true,
 og 105 (.iaddrS 1) [.t 103, .t 104] 102 true,
 og 106 (.load none) [.t 105] 102 true,
 og 107 .mv [.t 0] 102 true,
 og 108 .mv [.t 1] 102 true,
 og 109 (.iaddrS 1) [.t 107, .t 108] 102 true,
 og 110 (.load none) [.t 109] 102 true,
 og 111 (.callf 166) [.t 106, .t 110] 102 true,
 o3 112 .pick [.t 102, .t 111, .b false]]
def F168c54 : Ac := (cd 112 .skip (.exit 6))
def F168o58 := [
 om 113 10,
 o3 114 (.bin .add) [.t 113, .i 1],
 om 10 114]
def F168c57 : Ac := (.block 7 (.ops F168o58))
def F168l50 : Ac := (.seq (so F168o53 F168c54) F168c57)
def F168o64 := [
 om 115 10,
 om 116 11,
 o3 117 (.bin .leq) [.t 115, .t 116],
 om 118 117,
 og 119 .mv [.t 0] 118 true,
 og 120 .mv [.t 11] 118 true,
 og 121 (.iaddrS 1) [.t 119, .t 120] 118 true,
 og 122 (.load none) [.t 121] 118 true,
 og 123 .mv [.t 0] 118 true,
 og 124 .mv [.t 1] 118 true,
 og 125 (.iaddrS 1) [.t 123, .t 124] 118 true,
 og 126 (.load none) [.t 125] 118 true,
 og 127 (.callf 166) [.t 122, .t 126] 118 true,
 og 128 (.un .not) [.t 127] 118 true,
 o3 129 .pick [.t 118, .t 128, .b false]]
def F168c65 : Ac := (cd 129 .skip (.exit 8))
def F168o69 := [
 om 130 11,
 o3 131 (.bin .sub) [.t 130, .i 1],
 om 11 131]
def F168c68 : Ac := (.block 9 (.ops F168o69))
def F168l61 : Ac := (.seq (so F168o64 F168c65) F168c68)
def F168o72 := [
 om 132 10,
 om 133 11,
 o3 134 (.bin .gtr) [.t 132, .t 133]]
def F168c73 : Ac := (cd 134 (.exit 4) .skip)
def F168o77 := [
 om 135 0,
 om 136 10,
 om 137 0,
 om 138 11,
 om 139 0,
 om 140 11,
 o3 141 (.iaddrS 1) [.t 139, .t 140],
 o3 142 (.load none) [.t 141],
 om 143 0,
 om 144 10,
 o3 145 (.iaddrS 1) [.t 143, .t 144],
 o3 146 (.load none) [.t 145],
 o3 147 (.iaddrS 1) [.t 135, .t 136],
 o0 (.store 1) [.t 147, .t 142],
 o3 148 (.iaddrS 1) [.t 137, .t 138],
 o0 (.store 1) [.t 148, .t 146]]
def F168o79 := [
 om 149 10,
 o3 150 (.bin .add) [.t 149, .i 1],
 om 10 150]
def F168o80 := [
 om 151 11,
 o3 152 (.bin .sub) [.t 151, .i 1],
 om 11 152]
def F168c80 : Ac := (.ops F168o80)
def F168c78 : Ac := (so F168o79 F168c80)
def F168c76 : Ac := (so F168o77 F168c78)
def F168b70 : Ac := (.seq (so F168o72 F168c73) F168c76)
def F168c70 : Ac := (.seq (.gh []) (.seq (.keep [0, 1, 10, 11] [[0]]) F168b70))
def F168b59 : Ac := (.seq (.block 8 (.loop (.seq (.gh []) (.seq (.keep [0, 1, 10, 11] [[0]]) F168l61)))) F168c70)
def F168c59 : Ac := (.seq (.gh []) (.seq (.keep [0, 1, 10, 11] [[0]]) F168b59))
def F168l46 : Ac := (.block 5 (.seq (.block 6 (.loop (.seq (.gh []) (.seq (.keep [0, 1, 10, 11] [[0]]) F168l50)))) F168c59))
def F168o82 := [
 om 153 0,
 om 154 11,
 om 155 0,
 om 156 1,
 om 157 0,
 om 158 1,
 o3 159 (.iaddrS 1) [.t 157, .t 158],
 o3 160 (.load none) [.t 159],
 om 161 0,
 om 162 11,
 o3 163 (.iaddrS 1) [.t 161, .t 162],
 o3 164 (.load none) [.t 163],
 o3 165 (.iaddrS 1) [.t 153, .t 154],
 o0 (.store 1) [.t 165, .t 160],
 o3 166 (.iaddrS 1) [.t 155, .t 156],
 o0 (.store 1) [.t 166, .t 164]]
def F168o84 := [
 om 167 11,
 om 8 167,
 o3 9 .mv [.b false]]
def F168c85 : Ac := .ret
def F168c83 : Ac := (so F168o84 F168c85)
def F168b81 : Ac := (so F168o82 F168c83)
def F168c81 : Ac := (.seq (.gh []) (.seq (.keep [0, 1, 11] [[0]]) F168b81))
def F168c44 : Ac := (.seq (.block 4 (.loop (.seq (.gh []) (.seq (.keep [0, 1, 10, 11] [[0]]) F168l46)))) F168c81)
def F168c42 : Ac := (so F168o43 F168c44)
def F168c40 : Ac := (so F168o41 F168c42)
def F168c38 : Ac := (so F168o39 F168c40)
def F168b28 : Ac := (.seq (so F168o30 F168c31) F168c38)
def F168c28 : Ac := (.seq (.gh []) (.seq (.keep [0, 1, 10, 11] [[0]]) F168b28))
def F168b17 : Ac := (.seq (.block 2 (.loop (.seq (.gh []) (.seq (.keep [0, 1, 10, 11] [[0]]) F168l19)))) F168c28)
def F168c17 : Ac := (.seq (.gh []) (.seq (.keep [0, 1, 10, 11] [[0]]) F168b17))
def F168c6 : Ac := (.seq (.block 0 (.loop (.seq (.gh []) (.seq (.keep [0, 1, 10, 11] [[0]]) F168l8)))) F168c17)
def F168c4 : Ac := (so F168o5 F168c6)
def F168c2 : Ac := (so F168o3 F168c4)
def F168c0 : Ac := (so F168o1 F168c2)
/-- slices.partitionOrdered[int] -/
def F168 : Fn := { np := 4, pb := [[0]], rs := [.t 8, .t 9], body := F168c0 }
def F170o1 := [
 o3 2 .mv [.i 0]]
def F170o4 := [
 om 3 0,
 o3 4 (.bin .geq) [.t 3, .c (.d (.int .u64 4294967296))]]
def F170o7 := [
 om 5 0,
 o3 6 (.bin .shr) [.t 5, .c (.d (.int .u64 32))],
 om 0 6]
def F170o8 := [
 o3 2 .mv [.i 32]]
def F170c8 : Ac := (.ops F170o8)
def F170c5 : Ac := (cd 4 (so F170o7 F170c8) .skip)
def F170o12 := [
 om 7 0,
 o3 8 (.bin .geq) [.t 7, .c (.d (.int .u64 65536))]]
def F170o15 := [
 om 9 0,
 o3 10 (.bin .shr) [.t 9, .c (.d (.int .u64 16))],
 om 0 10]
def F170o16 := [
 om 11 2,
 o3 12 (.bin .add) [.t 11, .i 16],
 om 2 12]
def F170c16 : Ac := (.ops F170o16)
def F170c13 : Ac := (cd 8 (so F170o15 F170c16) .skip)
def F170o20 := [
 om 13 0,
 o3 14 (.bin .geq) [.t 13, .c (.d (.int .u64 256))]]
def F170o23 := [
 om 15 0,
 o3 16 (.bin .shr) [.t 15, .c (.d (.int .u64 8))],
 om 0 16]
def F170o24 := [
 om 17 2,
 o3 18 (.bin .add) [.t 17, .i 8],
 om 2 18]
def F170c24 : Ac := (.ops F170o24)
def F170c21 : Ac := (cd 14 (so F170o23 F170c24) .skip)
def F170o27 := [
 om 19 2,
 om 20 0,
 o3 21 (.toInt .u8) [.t 20],
 o3 22 .indexS [.c (.d (.str [0, 1, 2, 2, 3, 3, 3, 3, 4, 4, 4, 4, 4, 4, 4, 4, 5, 5, 5, 5, 5, 5, 5, 5, 5, 5, 5, 5, 5, 5, 5, 5, 6, 6, 6, 6, 6, 6, 6, 6, 6, 6, 6, 6, 6, 6, 6, 6, 6, 6, 6, 6, 6, 6, 6, 6, 6, 6, 6, 6, 6, 6, 6, 6, 7, 7, 7, 7, 7, 7, 7, 7, 7, 7, 7, 7, 7, 7, 7, 7, 7, 7, 7, 7, 7, 7, 7, 7, 7, 7, 7, 7, 7, 7, 7, 7, 7, 7, 7, 7, 7, 7, 7, 7, 7, 7, 7, 7, 7, 7, 7, 7, 7, 7, 7, 7, 7, 7, 7, 7, 7, 7, 7, 7, 7, 7, 7, 7, 8, 8, 8, 8, 8, 8, 8, 8, 8, 8, 8, 8, 8, 8, 8, 8, 8, 8, 8, 8, 8, 8, 8, 8, 8, 8, 8, 8, 8, 8, 8, 8, 8, 8, 8, 8, 8, 8, 8, 8, 8, 8, 8, 8, 8, 8, 8, 8, 8, 8, 8, 8, 8, 8, 8, 8, 8, 8, 8, 8, 8, 8, 8, 8, 8, 8, 8, 8, 8, 8, 8, 8, 8, 8, 8, 8, 8, 8, 8, 8, 8, 8, 8, 8, 8, 8, 8, 8, 8, 8, 8, 8, 8, 8, 8, 8, 8, 8, 8, 8, 8, 8, 8, 8, 8, 8, 8, 8, 8, 8, 8, 8, 8, 8, 8, 8, 8, 8, 8, 8, 8, 8, 8, 8, 8, 8, 8, 8])), .t 21],
 o3 23 (.toInt .i64) [.t 22],
 o3 24 (.bin .add) [.t 19, .t 23],
 om 2 24]
def F170c28 : Ac := .ret
def F170c26 : Ac := (so F170o27 F170c28)
def F170b18 : Ac := (.seq (so F170o20 F170c21) F170c26)
def F170c18 : Ac := (.seq (.gh []) (.seq (.keep [0, 2] []) F170b18))
def F170b10 : Ac := (.seq (so F170o12 F170c13) F170c18)
def F170c10 : Ac := (.seq (.gh []) (.seq (.keep [0, 2] []) F170b10))
def F170c2 : Ac := (.seq (so F170o4 F170c5) F170c10)
def F170c0 : Ac := (so F170o1 F170c2)
/-- math/bits.Len64 -/
def F170 : Fn := { np := 1, pb := [], rs := [.t 2], body := F170c0 }
def F178o1 := [
 om 10 1,
 om 8 10]
def F178o6 := [
 om 11 8,
 o3 12 (.bin .mul) [.i 2, .t 11],
 o3 13 (.bin .add) [.t 12, .i 1],
 om 9 13]
def F178o9 := [
 om 14 9,
 om 15 2,
 o3 16 (.bin .geq) [.t 14, .t 15]]
def F178c10 : Ac := (cd 16 (.exit 0) .skip)
def F178o15 := [
 om 17 9,
 o3 18 (.bin .add) [.t 17, .i 1],
 om 19 2,
 o3 20 (.bin .lss) [.t 18, .t 19],
 om 21 20,
 og 22 .mv [.t 0] 21 true,
 og 23 .mv [.t 3] 21 true,
 og 24 .mv [.t 9] 21 true,
 og 25 (.bin .add) [.t 23, .t 24] 21 true,
 og 26 (.iaddrS 1) [.t 22, .t 25] 21 true,
 og 27 (.load none) [.t 26] 21 true,
 og 28 .mv [.t 0] 21 true,
 og 29 .mv [.t 3] 21 true,
 og 30 .mv [.t 9] 21 true,
 og 31 (.bin .add) [.t 29, .t 30] 21 true,
 og 32 (.bin .add) [.t 31, .i 1] 21 true,
 og 33 (.iaddrS 1) [.t 28, .t 32] 21 true,
 og 34 (.load none) [.t 33] 21 true,
 og 35 (.callf 166) [.t 27, .t 34] 21 true,
 o3 36 .pick [.t 21, .t 35, .b false]]
def F178o17 := [
 om 37 9,
 o3 38 (.bin .add) [.t 37, .i 1],
 om 9 38]
def F178c16 : Ac := (cd 36 (.ops F178o17) .skip)
def F178o21 := [
 om 39 0,
 om 40 3,
 om 41 8,
 o3 42 (.bin .add) [.t 40, .t 41],
 o3 43 (.iaddrS 1) [.t 39, .t 42],
 o3 44 (.load none) [.t 43],
 om 45 0,
 om 46 3,
 om 47 9,
 o3 48 (.bin .add) [.t 46, .t 47],
 o3 49 (.iaddrS 1) [.t 45, .t 48],
 o3 50 (.load none) [.t 49],
 o3 51 (.callf 166) [.t 44, .t 50],
 o3 52 (.un .not) [.t 51]]
def F178c22 : Ac := (cd 52 .ret .skip)
def F178o26 := [
 om 53 0,
 om 54 3,
 om 55 8,
 o3 56 (.bin .add) [.t 54, .t 55],
 om 57 0,
 om 58 3,
 om 59 9,
 o3 60 (.bin .add) [.t 58, .t 59],
 om 61 0,
 om 62 3,
 om 63 9,
 o3 64 (.bin .add) [.t 62, .t 63],
 o3 65 (.iaddrS 1) [.t 61, .t 64],
 o3 66 (.load none) [.t 65],
 om 67 0,
 om 68 3,
 om 69 8,
 o3 70 (.bin .add) [.t 68, .t 69],
 o3 71 (.iaddrS 1) [.t 67, .t 70],
 o3 72 (.load none) [.t 71],
 o3 73 (.iaddrS 1) [.t 53, .t 56],
 o0 (.store 1) [.t 73, .t 66],
 o3 74 (.iaddrS 1) [.t 57, .t 60],
 o0 (.store 1) [.t 74, .t 72]]
def F178o27 := [
 om 75 9,
 om 8 75]
def F178c27 : Ac := (.ops F178o27)
def F178c25 : Ac := (so F178o26 F178c27)
def F178b19 : Ac := (.seq (so F178o21 F178c22) F178c25)
def F178c19 : Ac := (.seq (.gh []) (.seq (.keep [0, 2, 3, 8, 9] [[0]]) F178b19))
def F178c13 : Ac := (.seq (so F178o15 F178c16) F178c19)
def F178c7 : Ac := (.seq (so F178o9 F178c10) F178c13)
def F178l3 : Ac := (.block 1 (so F178o6 F178c7))
def F178c2 : Ac := (.block 0 (.loop (.seq (.gh []) (.seq (.keep [0, 2, 3, 8] [[0]]) F178l3))))
def F178b28 : Ac := .skip
def F178c28 : Ac := (.seq (.gh []) (.seq (.keep [] [[0]]) F178b28))
def F178c0 : Ac := (.seq (so F178o1 F178c2) F178c28)
/-- slices.siftDownOrdered[int] -/
def F178 : Fn := { np := 4, pb := [[0]], rs := [], body := (.seq F178c0 (.gh [])) }
def F179o1 := [
 o3 2 .mv [.c (.d (.int .u64 0))]]
def F179o3 := [
 om 3 0,
 o3 4 (.toInt .u64) [.t 3],
 o3 5 (.callf 136) [.t 4],
 o3 6 (.bin .shl) [.c (.d (.int .u64 1)), .t 5],
 om 2 6]
def F179c4 : Ac := .ret
def F179c2 : Ac := (so F179o3 F179c4)
def F179c0 : Ac := (so F179o1 F179c2)
/-- slices.nextPowerOfTwo -/
def F179 : Fn := { np := 1, pb := [], rs := [.t 2], body := F179c0 }
def F180o1 := [
 o3 2 .mv [.c (.d (.int .u64 0))]]
def F180o3 := [
 om 3 0,
 o3 4 .nilchk [.t 3],
 o3 5 (.load none) [.t 4],
 om 6 0,
 o3 7 .nilchk [.t 6],
 o3 8 (.load none) [.t 7],
 o3 9 (.bin .shl) [.t 8, .c (.d (.int .u64 13))],
 o3 10 (.bin .xor) [.t 5, .t 9],
 o3 11 .nilchk [.t 3],
 o0 (.store 1) [.t 11, .t 10]]
def F180o5 := [
 om 12 0,
 o3 13 .nilchk [.t 12],
 o3 14 (.load none) [.t 13],
 om 15 0,
 o3 16 .nilchk [.t 15],
 o3 17 (.load none) [.t 16],
 o3 18 (.bin .shr) [.t 17, .c (.d (.int .u64 7))],
 o3 19 (.bin .xor) [.t 14, .t 18],
 o3 20 .nilchk [.t 12],
 o0 (.store 1) [.t 20, .t 19]]
def F180o7 := [
 om 21 0,
 o3 22 .nilchk [.t 21],
 o3 23 (.load none) [.t 22],
 om 24 0,
 o3 25 .nilchk [.t 24],
 o3 26 (.load none) [.t 25],
 o3 27 (.bin .shl) [.t 26, .c (.d (.int .u64 17))],
 o3 28 (.bin .xor) [.t 23, .t 27],
 o3 29 .nilchk [.t 21],
 o0 (.store 1) [.t 29, .t 28]]
def F180o9 := [
 om 30 0,
 o3 31 .nilchk [.t 30],
 o3 32 (.load none) [.t 31],
 om 2 32]
def F180c10 : Ac := .ret
def F180c8 : Ac := (so F180o9 F180c10)
def F180c6 : Ac := (so F180o7 F180c8)
def F180c4 : Ac := (so F180o5 F180c6)
def F180c2 : Ac := (so F180o3 F180c4)
def F180c0 : Ac := (so F180o1 F180c2)
/-- (*slices.xorshift).Next -/
def F180 : Fn := { np := 1, pb := [[0]], rs := [.t 2], body := F180c0 }
def F181o1 := [
 o3 6 .mv [.i 0]]
def F181o3 := [
 om 7 0,
 om 8 1,
 o3 9 (.bin .sub) [.t 8, .i 1],
 om 10 1,
 om 11 1,
 o3 12 (.bin .add) [.t 11, .i 1],
 om 13 2,
 o3 14 (.callf 182) [.l 7, .t 9, .t 10, .t 12, .t 13],
 om 6 14]
def F181c4 : Ac := .ret
def F181c2 : Ac := (so F181o3 F181c4)
def F181c0 : Ac := (so F181o1 F181c2)
/-- slices.medianAdjacentOrdered[int] -/
def F181 : Fn := { np := 3, pb := [[0], [2]], rs := [.t 6], body := F181c0 }
def F182o1 := [
 o3 10 .mv [.i 0]]
def F182o3 := [
 om 12 0,
 om 13 1,
 om 14 2,
 om 15 4,
 o3 16 (.callf 188) [.l 12, .t 13, .t 14, .t 15],
 om 11 16,
 oe 17 0 11,
 oe 18 1 11,
 om 1 17,
 om 2 18]
def F182o5 := [
 om 20 0,
 om 21 2,
 om 22 3,
 om 23 4,
 o3 24 (.callf 188) [.l 20, .t 21, .t 22, .t 23],
 om 19 24,
 oe 25 0 19,
 oe 26 1 19,
 om 2 25,
 om 3 26]
def F182o7 := [
 om 28 0,
 om 29 1,
 om 30 2,
 om 31 4,
 o3 32 (.callf 188) [.l 28, .t 29, .t 30, .t 31],
 om 27 32,
 oe 33 0 27,
 oe 34 1 27,
 om 1 33,
 om 2 34]
def F182o9 := [
 om 35 2,
 om 10 35]
def F182c10 : Ac := .ret
def F182c8 : Ac := (so F182o9 F182c10)
def F182c6 : Ac := (so F182o7 F182c8)
def F182c4 : Ac := (so F182o5 F182c6)
def F182c2 : Ac := (so F182o3 F182c4)
def F182c0 : Ac := (so F182o1 F182c2)
/-- slices.medianOrdered[int] -/
def F182 : Fn := { np := 5, pb := [[0], [4]], rs := [.t 10], body := F182c0 }
def F183o1 := [
 o3 2 .mv [.b false]]
def F183o3 := [
 om 3 0,
 om 4 0,
 o3 5 (.bin .neq) [.t 3, .t 4],
 om 2 5]
def F183c4 : Ac := .ret
def F183c2 : Ac := (so F183o3 F183c4)
def F183c0 : Ac := (so F183o1 F183c2)
/-- cmp.isNaN[int] -/
def F183 : Fn := { np := 1, pb := [], rs := [.t 2], body := F183c0 }
def F188o1 := [
 o3 8 .mv [.i 0],
 o3 9 .mv [.i 0]]
def F188o4 := [
 om 10 0,
 om 11 2,
 o3 12 (.iaddrS 1) [.t 10, .t 11],
 o3 13 (.load none) [.t 12],
 om 14 0,
 om 15 1,
 o3 16 (.iaddrS 1) [.t 14, .t 15],
 o3 17 (.load none) [.t 16],
 o3 18 (.callf 166) [.t 13, .t 17]]
def F188o7 := [
 om 19 3,
 o3 20 .nilchk [.t 19],
 o3 21 (.load none) [.t 20],
 o3 22 (.bin .add) [.t 21, .i 1],
 o3 23 .nilchk [.t 19],
 o0 (.store 1) [.t 23, .t 22]]
def F188o9 := [
 om 24 2,
 om 25 1,
 om 8 24,
 om 9 25]
def F188c10 : Ac := .ret
def F188c8 : Ac := (so F188o9 F188c10)
def F188c5 : Ac := (cd 18 (so F188o7 F188c8) .skip)
def F188o13 := [
 om 26 1,
 om 27 2,
 om 8 26,
 om 9 27]
def F188c14 : Ac := .ret
def F188c12 : Ac := (so F188o13 F188c14)
def F188c2 : Ac := (.seq (so F188o4 F188c5) F188c12)
def F188c0 : Ac := (so F188o1 F188c2)
/-- slices.order2Ordered[int] -/
def F188 : Fn := { np := 4, pb := [[0], [3]], rs := [.t 8, .t 9], body := F188c0 }
def hints : Nat → Nat → Hint
  | 32, 13 => [(4, [[10]], some []), (7, [[60], [10]], none), (9, [[60], [10]], none), (11, [[60], [10]], none), (13, [[60], [10]], none), (15, [[60], [10]], none), (18, [[60]], none)]
  | 34, 1 => [(11, [[20]], none), (15, [], some [])]
  | _, _ => []
def keepf : Nat → Keeps
  | 31, 8 => some ([0, 1, 4, 7, 54, 55, 56], [[0, 1], [1], [1, 1], [52], [53], [62], [63], [80], [81], [83], [84], [91], [95]])
  | 31, 13 => some ([0, 1, 4, 7, 66, 67, 68], [[0, 1], [1], [1, 1], [52], [53], [62], [63], [80], [81], [83], [84], [91], [95]])
  | 34, 4 => some ([0, 1, 31, 32, 33], [[0, 1], [1], [1, 1]])
  | 74, 8 => some ([0, 1, 2, 8, 9, 45, 46], [[0, 60], [4], [60], [69], [70]])
  | 74, 16 => some ([0, 1, 2, 9, 74, 75, 76], [[0, 60], [4], [60], [69], [70]])
  | 135, 2 => some ([0, 1, 2, 3, 8, 9], [])
  | 160, 1 => some ([0, 1, 2, 6], [])
  | 160, 4 => some ([0, 1, 2, 6, 7], [])
  | 161, 4 => some ([0, 1, 2, 6, 7, 8, 9], [])
  | 161, 8 => some ([0, 1, 2, 6, 7, 10], [])
  | 162, 5 => some ([0, 1, 2, 6, 7, 8, 9], [[7]])
  | 164, 2 => some ([0, 1, 2, 6, 7], [])
  | 165, 3 => some ([0, 1, 2, 7, 8], [])
  | 165, 5 => some ([0, 1, 2, 7, 8], [])
  | 165, 14 => some ([0, 1, 2, 7, 8, 9], [])
  | 165, 20 => some ([0, 1, 2, 7, 8, 10], [])
  | 167, 100003 => some ([0, 1, 2, 3, 9, 10], [])
  | 167, 3 => some ([0, 1, 2, 3, 9, 10], [])
  | 167, 5 => some ([0, 1, 2, 3, 9, 10], [])
  | 168, 3 => some ([0, 1, 2, 3, 10, 11], [])
  | 168, 5 => some ([0, 1, 2, 3, 10, 11], [])
  | 168, 100013 => some ([0, 1, 2, 3, 10, 11], [])
  | 168, 13 => some ([0, 1, 2, 3, 10, 11], [])
  | 168, 15 => some ([0, 1, 2, 3, 10, 11], [])
  | 178, 1 => some ([0, 1, 2, 3, 8], [])
  | _, _ => none
def spf : Nat → Bool := fun n => [67, 1000008, 1000029, 1000030, 1000031, 1000032, 1000034, 1000035, 1000050, 1000056, 1000058, 1000062, 1000064, 1000067, 1000070, 1000071, 1000072, 1000073, 1000074, 1000075, 1000099, 1000100, 1000101, 1000102, 1000104, 1000105, 1000136, 1000166, 1000170, 1000179, 1000180, 1000183].contains n
noncomputable def tab1 : Nat → Option Fn
  | 8 => some F8
  | 29 => some F29
  | 30 => some F30
  | 31 => some F31
  | 32 => some F32
  | 34 => some F34
  | 35 => some F35
  | 50 => some F50
  | 56 => some F56
  | 58 => some F58
  | 62 => some F62
  | 64 => some F64
  | 67 => some F67
  | 70 => some F70
  | 71 => some F71
  | 72 => some F72
  | 73 => some F73
  | 74 => some F74
  | 75 => some F75
  | 99 => some F99
  | 100 => some F100
  | 101 => some F101
  | 102 => some F102
  | 104 => some F104
  | 105 => some F105
  | 106 => some F106
  | 135 => some F135
  | 136 => some F136
  | 160 => some F160
  | 161 => some F161
  | 162 => some F162
  | 163 => some F163
  | 164 => some F164
  | 165 => some F165
  | 166 => some F166
  | 167 => some F167
  | 168 => some F168
  | 170 => some F170
  | 178 => some F178
  | 179 => some F179
  | 180 => some F180
  | 181 => some F181
  | 182 => some F182
  | 183 => some F183
  | 188 => some F188
  | n => autoK Try.prog (fun _ => none) spf hints keepf n
noncomputable def L : Cs := lim tab1 (fun _ _ => none)

theorem no_globals : GOk (fun _ _ => none) (fun _ => none) := fun n a h => by cases h
theorem ok8 : FnOk (fun _ _ => none) Try.prog 8 F8 := compF_spec no_globals Try.func8 (by kernel_rfl)
theorem ok29 : FnOk (fun _ _ => none) Try.prog 29 F29 := compF_spec no_globals Try.func29 (by kernel_rfl)
theorem ok30 : FnOk (fun _ _ => none) Try.prog 30 F30 := compF_spec no_globals Try.func30 (by kernel_rfl)
theorem ok31 : FnOk (fun _ _ => none) Try.prog 31 F31 := compF_spec no_globals Try.func31 (by kernel_rfl)
theorem ok32 : FnOk (fun _ _ => none) Try.prog 32 F32 := compF_spec no_globals Try.func32 (by kernel_rfl)
theorem ok34 : FnOk (fun _ _ => none) Try.prog 34 F34 := compF_spec no_globals Try.func34 (by kernel_rfl)
theorem ok35 : FnOk (fun _ _ => none) Try.prog 35 F35 := compF_spec no_globals Try.func35 (by kernel_rfl)
theorem ok50 : FnOk (fun _ _ => none) Try.prog 50 F50 := compF_spec no_globals Try.func50 (by kernel_rfl)
theorem ok56 : FnOk (fun _ _ => none) Try.prog 56 F56 := compF_spec no_globals Try.func56 (by kernel_rfl)
theorem ok58 : FnOk (fun _ _ => none) Try.prog 58 F58 := compF_spec no_globals Try.func58 (by kernel_rfl)
theorem ok62 : FnOk (fun _ _ => none) Try.prog 62 F62 := compF_spec no_globals Try.func62 (by kernel_rfl)
theorem ok64 : FnOk (fun _ _ => none) Try.prog 64 F64 := compF_spec no_globals Try.func64 (by kernel_rfl)
theorem ok67 : FnOk (fun _ _ => none) Try.prog 67 F67 := compF_spec no_globals Try.func67 (by kernel_rfl)
theorem ok70 : FnOk (fun _ _ => none) Try.prog 70 F70 := compF_spec no_globals Try.func70 (by kernel_rfl)
theorem ok71 : FnOk (fun _ _ => none) Try.prog 71 F71 := compF_spec no_globals Try.func71 (by kernel_rfl)
theorem ok72 : FnOk (fun _ _ => none) Try.prog 72 F72 := compF_spec no_globals Try.func72 (by kernel_rfl)
theorem ok73 : FnOk (fun _ _ => none) Try.prog 73 F73 := compF_spec no_globals Try.func73 (by kernel_rfl)
theorem ok74 : FnOk (fun _ _ => none) Try.prog 74 F74 := compF_spec no_globals Try.func74 (by kernel_rfl)
theorem ok75 : FnOk (fun _ _ => none) Try.prog 75 F75 := compF_spec no_globals Try.func75 (by kernel_rfl)
theorem ok99 : FnOk (fun _ _ => none) Try.prog 99 F99 := compF_spec no_globals Try.func99 (by kernel_rfl)
theorem ok100 : FnOk (fun _ _ => none) Try.prog 100 F100 := compF_spec no_globals Try.func100 (by kernel_rfl)
theorem ok101 : FnOk (fun _ _ => none) Try.prog 101 F101 := compF_spec no_globals Try.func101 (by kernel_rfl)
theorem ok102 : FnOk (fun _ _ => none) Try.prog 102 F102 := compF_spec no_globals Try.func102 (by kernel_rfl)
theorem ok104 : FnOk (fun _ _ => none) Try.prog 104 F104 := compF_spec no_globals Try.func104 (by kernel_rfl)
theorem ok105 : FnOk (fun _ _ => none) Try.prog 105 F105 := compF_spec no_globals Try.func105 (by kernel_rfl)
theorem ok106 : FnOk (fun _ _ => none) Try.prog 106 F106 := compF_spec no_globals Try.func106 (by kernel_rfl)
theorem ok135 : FnOk (fun _ _ => none) Try.prog 135 F135 := compF_spec no_globals Try.func135 (by kernel_rfl)
theorem ok136 : FnOk (fun _ _ => none) Try.prog 136 F136 := compF_spec no_globals Try.func136 (by kernel_rfl)
theorem ok160 : FnOk (fun _ _ => none) Try.prog 160 F160 := compF_spec no_globals Try.func160 (by kernel_rfl)
theorem ok161 : FnOk (fun _ _ => none) Try.prog 161 F161 := compF_spec no_globals Try.func161 (by kernel_rfl)
theorem ok162 : FnOk (fun _ _ => none) Try.prog 162 F162 := compF_spec no_globals Try.func162 (by kernel_rfl)
theorem ok163 : FnOk (fun _ _ => none) Try.prog 163 F163 := compF_spec no_globals Try.func163 (by kernel_rfl)
theorem ok164 : FnOk (fun _ _ => none) Try.prog 164 F164 := compF_spec no_globals Try.func164 (by kernel_rfl)
theorem ok165 : FnOk (fun _ _ => none) Try.prog 165 F165 := compF_spec no_globals Try.func165 (by kernel_rfl)
theorem ok166 : FnOk (fun _ _ => none) Try.prog 166 F166 := compF_spec no_globals Try.func166 (by kernel_rfl)
theorem ok167 : FnOk (fun _ _ => none) Try.prog 167 F167 := compF_spec no_globals Try.func167 (by kernel_rfl)
theorem ok168 : FnOk (fun _ _ => none) Try.prog 168 F168 := compF_spec no_globals Try.func168 (by kernel_rfl)
theorem ok170 : FnOk (fun _ _ => none) Try.prog 170 F170 := compF_spec no_globals Try.func170 (by kernel_rfl)
theorem ok178 : FnOk (fun _ _ => none) Try.prog 178 F178 := compF_spec no_globals Try.func178 (by kernel_rfl)
theorem ok179 : FnOk (fun _ _ => none) Try.prog 179 F179 := compF_spec no_globals Try.func179 (by kernel_rfl)
theorem ok180 : FnOk (fun _ _ => none) Try.prog 180 F180 := compF_spec no_globals Try.func180 (by kernel_rfl)
theorem ok181 : FnOk (fun _ _ => none) Try.prog 181 F181 := compF_spec no_globals Try.func181 (by kernel_rfl)
theorem ok182 : FnOk (fun _ _ => none) Try.prog 182 F182 := compF_spec no_globals Try.func182 (by kernel_rfl)
theorem ok183 : FnOk (fun _ _ => none) Try.prog 183 F183 := compF_spec no_globals Try.func183 (by kernel_rfl)
theorem ok188 : FnOk (fun _ _ => none) Try.prog 188 F188 := compF_spec no_globals Try.func188 (by kernel_rfl)
theorem tab1_ok : ∀ f fn, tab1 f = some fn → FnOk (fun _ _ => none) Try.prog f fn := by
  intro f fn h
  unfold tab1 at h
  split at h
  · cases h; exact ok8
  · cases h; exact ok29
  · cases h; exact ok30
  · cases h; exact ok31
  · cases h; exact ok32
  · cases h; exact ok34
  · cases h; exact ok35
  · cases h; exact ok50
  · cases h; exact ok56
  · cases h; exact ok58
  · cases h; exact ok62
  · cases h; exact ok64
  · cases h; exact ok67
  · cases h; exact ok70
  · cases h; exact ok71
  · cases h; exact ok72
  · cases h; exact ok73
  · cases h; exact ok74
  · cases h; exact ok75
  · cases h; exact ok99
  · cases h; exact ok100
  · cases h; exact ok101
  · cases h; exact ok102
  · cases h; exact ok104
  · cases h; exact ok105
  · cases h; exact ok106
  · cases h; exact ok135
  · cases h; exact ok136
  · cases h; exact ok160
  · cases h; exact ok161
  · cases h; exact ok162
  · cases h; exact ok163
  · cases h; exact ok164
  · cases h; exact ok165
  · cases h; exact ok166
  · cases h; exact ok167
  · cases h; exact ok168
  · cases h; exact ok170
  · cases h; exact ok178
  · cases h; exact ok179
  · cases h; exact ok180
  · cases h; exact ok181
  · cases h; exact ok182
  · cases h; exact ok183
  · cases h; exact ok188
  · exact autoK_spec no_globals h
theorem meets1 (f : Nat) : Meets (fun _ _ => none) Try.prog f (L f) := lim_meets tab1_ok (fun f _ m w args vs bs _ _ _ _ _ r a h => by cases h) f

end Go.Es.Mza
