/- The code of the functions that the statement OmfCheck reaches, as the interpreter reads it. No condition. -/
import Derived.Test.YthjlplonbkhilaaEsD
import Derived.Test.YthjlplonbkhilaaChecked
import Derived.KernelRfl
set_option linter.unusedVariables false
set_option linter.unusedSimpArgs false
set_option maxRecDepth 100000
set_option maxHeartbeats 4000000
namespace Go.Es.Omc
open Go.Proofs
def F3o1 := [
 o3 3 (.box 18) [.t 0],
 o3 6 .mv [.b false]]
def F3o3 := [
 o3 12 (.load (some 18)) [.t 3],
 o3 13 (.callf 4) [.t 12],
 o3 7 (.alloc [.d (.str []), .nils, .nils, .nils, .nils, .nils, .nils, .nils, .d (.bool false), .d (.bool false), .d (.int .i64 0), .d (.int .i64 0), .d (.bool false), .d (.int .i64 0), .d (.int .i64 0), .d (.int .i64 0), .d (.int .i64 0), .d (.int .u16 0)]) [],
 o0 (.store 18) [.t 7, .t 13]]
def F3o5 := [
 om 14 2,
 o3 15 (.bin .and) [.t 14, .i 255],
 o3 16 (.bin .add) [.t 15, .i 1],
 om 8 16]
def F3o7 := [
 o3 9 .mv [.i 5]]
def F3o10 := [
 om 17 1,
 o3 18 (.bin .and) [.t 17, .i 15],
 o3 19 (.bin .rem) [.t 18, .i 6]]
def F3o13 := [
 o3 25 (.bin .eql) [.t 19, .i 0],
 om 24 25]
def F3o15 := [
 o3 26 (.faddr 3) [.t 7],
 o3 27 (.load none) [.t 26],
 o3 28 (.faddr 2) [.t 7],
 o3 29 (.load none) [.t 28],
 o3 30 .lenL [.t 29],
 om 31 8,
 o3 32 (.bin .add) [.t 30, .t 31],
 o3 33 (.build [.d (.int .i64 0), .d (.int .i64 0), .d (.int .u16 0), .d (.int .u8 0), .d (.int .i64 0), .d (.int .i64 0), .d (.int .i64 0), .d (.int .i64 0)] [(0, 1), (5, 1)]) [.i 1, .t 32],
 o3 34 (.bslice (.agg [.int .i64 0, .int .i64 0, .int .u16 0, .int .u8 0, .int .i64 0, .int .i64 0, .int .i64 0, .int .i64 0]) 1 [0]) [.t 33],
 o3 35 (.append 8 56 false) [.t 27, .t 34],
 o3 36 (.faddr 3) [.t 7],
 o0 (.store 1) [.t 36, .t 35]]
def F3o17 := [
 o3 38 (.bin .eql) [.t 19, .i 1],
 om 37 38]
def F3o19 := [
 o3 39 (.faddr 4) [.t 7],
 o3 40 (.load none) [.t 39],
 o3 41 (.faddr 3) [.t 7],
 o3 42 (.load none) [.t 41],
 o3 43 .lenL [.t 42],
 om 44 8,
 o3 45 (.bin .add) [.t 43, .t 44],
 o3 46 (.bslice (.int .i64 0) 1 [0]) [.t 45],
 o3 47 (.build [.d (.int .i64 0), .nils] [(0, 1), (1, 1)]) [.i 1, .t 46],
 o3 48 (.bslice (.agg [.int .i64 0, .sl []]) 1 [0]) [.t 47],
 o3 49 (.append 2 32 false) [.t 40, .t 48],
 o3 50 (.faddr 4) [.t 7],
 o0 (.store 1) [.t 50, .t 49]]
def F3o21 := [
 o3 52 (.bin .eql) [.t 19, .i 2],
 om 51 52]
def F3o23 := [
 o3 53 (.faddr 6) [.t 7],
 o3 54 (.load none) [.t 53],
 o3 55 (.faddr 3) [.t 7],
 o3 56 (.load none) [.t 55],
 o3 57 .lenL [.t 56],
 om 58 8,
 o3 59 (.bin .add) [.t 57, .t 58],
 o3 60 (.build [.d (.int .i64 0), .d (.int .i64 0), .d (.int .u16 0), .d (.str []), .d (.int .u16 0)] [(1, 1)]) [.t 59],
 o3 61 (.bslice (.agg [.int .i64 0, .int .i64 0, .int .u16 0, .str [], .int .u16 0]) 1 [0]) [.t 60],
 o3 62 (.append 5 48 false) [.t 54, .t 61],
 o3 63 (.faddr 6) [.t 7],
 o0 (.store 1) [.t 63, .t 62]]
def F3o25 := [
 o3 65 (.bin .eql) [.t 19, .i 3],
 om 64 65]
def F3o27 := [
 o3 66 (.faddr 7) [.t 7],
 o3 67 (.load none) [.t 66],
 o3 68 (.faddr 3) [.t 7],
 o3 69 (.load none) [.t 68],
 o3 70 .lenL [.t 69],
 om 71 8,
 o3 72 (.bin .add) [.t 70, .t 71],
 o3 73 (.bslice (.int .u8 0) 1 [0]) [.y 1],
 o3 74 (.build [.d (.int .i64 0), .d (.int .u16 0), .nils, .nils] [(0, 1), (2, 1)]) [.t 72, .t 73],
 o3 75 (.bslice (.agg [.int .i64 0, .int .u16 0, .sl [], .sl []]) 1 [0]) [.t 74],
 o3 76 (.append 4 64 false) [.t 67, .t 75],
 o3 77 (.faddr 7) [.t 7],
 o0 (.store 1) [.t 77, .t 76]]
def F3o29 := [
 o3 79 (.bin .eql) [.t 19, .i 4],
 om 78 79]
def F3o32 := [
 o3 80 (.faddr 7) [.t 7],
  { dst := some 81, k := (.load none), xs := [.t 80], av := [[88], [90]] },
 o3 82 (.faddr 3) [.t 7],
  { dst := some 83, k := (.load none), xs := [.t 82], av := [[88]] },
 o3 84 (.iaddrS 8) [.t 83, .i 0],
 o3 85 (.faddr 4) [.t 84],
  { dst := some 86, k := (.load none), xs := [.t 85], av := [[88]] },
 o3 87 (.toInt .u16) [.t 86],
 o3 88 (.bslice (.int .u8 0) 1 [0]) [.y 1],
 o3 89 (.build [.d (.int .i64 0), .d (.int .u16 0), .nils, .nils] [(0, 1), (1, 1), (2, 1)]) [.i 1, .t 87, .t 88],
 o3 90 (.bslice (.agg [.int .i64 0, .int .u16 0, .sl [], .sl []]) 1 [0]) [.t 89],
 o3 91 (.append 4 64 false) [.t 81, .t 90],
 o3 92 (.faddr 7) [.t 7],
 o0 (.store 1) [.t 92, .t 91]]
def F3o33 := [
 o3 9 .mv [.i 3]]
def F3c33 : Ac := (.ops F3o33)
def F3o35 := [
 o3 20 (.faddr 3) [.t 7],
 o3 21 (.load none) [.t 20],
 o3 22 (.appmk (.agg [.int .i64 0, .int .i64 0, .int .u16 0, .int .u8 0, .int .i64 0, .int .i64 0, .int .i64 0, .int .i64 0]) 56) [.t 21, .i 64],
 o3 23 (.faddr 3) [.t 7],
 o0 (.store 1) [.t 23, .t 22]]
def F3o36 := [
 o3 9 .mv [.i 8]]
def F3c36 : Ac := (.ops F3o36)
def F3c30 : Ac := (cd 78 (so F3o32 F3c33) (so F3o35 F3c36))
def F3c26 : Ac := (cd 64 (.ops F3o27) (so F3o29 F3c30))
def F3c22 : Ac := (cd 51 (.ops F3o23) (so F3o25 F3c26))
def F3c18 : Ac := (cd 37 (.ops F3o19) (so F3o21 F3c22))
def F3c14 : Ac := (cd 24 (.ops F3o15) (so F3o17 F3c18))
def F3c11 : Ac := (.block 0 (so F3o13 F3c14))
def F3o38 := [
 o3 94 (.load (some 18)) [.t 7],
 o3 95 (.callf 5) [.t 94],
 om 93 95,
 oe 96 0 93,
 oe 97 1 93,
 om 10 96,
 om 11 97]
def F3o40 := [
 o3 98 (.callf 6) [],
 om 99 98,
 og 100 (.load (some 18)) [.t 7] 99 true,
 og 101 (.callf 7) [.t 100] 99 true,
 og 102 .mv [.t 9] 99 true,
 og 103 (.bin .eql) [.t 101, .t 102] 99 true,
 o3 104 .pick [.t 99, .t 103, .b false],
 om 105 104,
 og 106 .mv [.t 11] 105 true,
 og 107 .mv [.t 9] 105 true,
 og 108 (.bin .eql) [.t 106, .t 107] 105 true,
 o3 109 .pick [.t 105, .t 108, .b false],
 om 110 109,
 og 111 .mv [.t 10] 110 true,
 og 112 .lenL [.t 111] 110 true,
 og 113 (.bin .eql) [.t 112, .i 0] 110 true,
 o3 114 .pick [.t 110, .t 113, .b false],
 om 115 114,
 og 116 (.load (some 18)) [.t 7] 115 true,
 og 117 (.faddr 2) [.t 7] 115 true,
 og 118 (.load none) [.t 117] 115 true,
 og 119 .lenL [.t 118] 115 true,
 og 120 .mv [.t 8] 115 true,
 og 121 (.bin .add) [.t 119, .t 120] 115 true,
 og 122 (.callf 8) [.t 116, .t 121] 115 true,
 og 123 (.bin .eql) [.t 122, .c (.d (.str []))] 115 true,
 o3 124 .pick [.t 115, .t 123, .b false],
 om 125 124,
 og 126 (.load (some 18)) [.t 7] 125 true,
 og 127 (.callf 8) [.t 126, .i 0] 125 true,
 og 128 (.bin .eql) [.t 127, .c (.d (.str []))] 125 true,
 o3 129 .pick [.t 125, .t 128, .b false],
 om 6 129]
def F3c41 : Ac := .ret
def F3c39 : Ac := (so F3o40 F3c41)
def F3b37 : Ac := (so F3o38 F3c39)
def F3c37 : Ac := (.seq (.gh []) (.seq (.keep [7, 8, 9] [[7], [3, 13], [4, 13], [6, 13], [7, 13]]) F3b37))
def F3c8 : Ac := (.seq (so F3o10 F3c11) F3c37)
def F3c6 : Ac := (so F3o7 F3c8)
def F3c4 : Ac := (so F3o5 F3c6)
def F3c2 : Ac := (so F3o3 F3c4)
def F3c0 : Ac := (so F3o1 F3c2)
/-- hansom/hansomlaw26.OmfCheck -/
def F3 : Fn := { np := 3, pb := [], rs := [.t 6], body := F3c0 }
def F4o1 := [
 o3 1 (.box 18) [.t 0],
 o3 2 (.alloc [.d (.str []), .nils, .nils, .nils, .nils, .nils, .nils, .nils, .d (.bool false), .d (.bool false), .d (.int .i64 0), .d (.int .i64 0), .d (.bool false), .d (.int .i64 0), .d (.int .i64 0), .d (.int .i64 0), .d (.int .i64 0), .d (.int .u16 0)]) []]
def F4o3 := [
 o3 14 (.load (some 18)) [.t 1],
 o3 15 (.callf 9) [.t 14],
 o0 (.store 18) [.t 2, .t 15]]
def F4o6 := [
 o3 3 .mv [.i 0]]
def F4o11 := [
 om 16 3,
 o3 17 (.faddr 5) [.t 1],
 o3 18 (.load none) [.t 17],
 o3 19 .lenL [.t 18],
 o3 20 (.bin .lss) [.t 16, .t 19],
 om 21 20,
 og 22 .mv [.t 3] 21 true,
 og 23 (.bin .lss) [.t 22, .i 3] 21 true,
 o3 24 .pick [.t 21, .t 23, .b false]]
def F4c12 : Ac := (cd 24 .skip (.exit 0))
def F4o18 := [
 o3 27 (.faddr 5) [.t 1],
 o3 28 (.load none) [.t 27],
 om 29 3,
 o3 30 (.iaddrS 3) [.t 28, .t 29],
 o3 31 (.faddr 0) [.t 30],
 o3 32 (.load none) [.t 31],
 o3 33 (.callf 10) [.t 32],
 o3 34 (.build [.d (.str []), .d (.int .i64 0), .d (.int .u32 0)] [(0, 1)]) [.t 33],
 o3 4 (.alloc [.d (.str []), .d (.int .i64 0), .d (.int .u32 0)]) [],
 o0 (.store 3) [.t 4, .t 34]]
def F4o21 := [
 o3 35 (.faddr 5) [.t 1],
 o3 36 (.load none) [.t 35],
 om 37 3,
 o3 38 (.iaddrS 3) [.t 36, .t 37],
 o3 39 (.faddr 1) [.t 38],
 o3 40 (.load none) [.t 39],
 o3 41 (.bin .and) [.t 40, .i 1],
 o3 42 (.bin .eql) [.t 41, .i 1]]
def F4o23 := [
 o3 43 (.faddr 5) [.t 1],
 o3 44 (.load none) [.t 43],
 om 45 3,
 o3 46 (.iaddrS 3) [.t 44, .t 45],
 o3 47 (.faddr 1) [.t 46],
 o3 48 (.load none) [.t 47],
 o3 49 (.bin .shr) [.t 48, .c (.d (.int .u64 1))],
 o3 50 (.bin .and) [.t 49, .i 1],
 o3 51 (.bin .add) [.i 97, .t 50],
 o3 52 (.faddr 5) [.t 1],
  { dst := some 53, k := (.load none), xs := [.t 52], av := [[4]] },
 om 54 3,
 o3 55 (.iaddrS 3) [.t 53, .t 54],
 o3 56 (.faddr 2) [.t 55],
  { dst := some 57, k := (.load none), xs := [.t 56], av := [[4]] },
 o3 58 (.bin .and) [.t 57, .u 1023],
 o3 59 (.faddr 1) [.t 4],
  { dst := none, k := (.store 1), xs := [.t 59, .t 51], al := some [[4]] },
 o3 60 (.faddr 2) [.t 4],
 o0 (.store 1) [.t 60, .t 58]]
def F4c22 : Ac := (cd 42 (.ops F4o23) .skip)
def F4o25 := [
 o3 61 (.faddr 5) [.t 2],
 o3 62 (.load none) [.t 61],
 o3 63 (.load (some 3)) [.t 4],
 o3 64 (.bslice (.agg [.str [], .int .i64 0, .int .u32 0]) 1 [0]) [.t 63],
 o3 65 (.append 3 32 false) [.t 62, .t 64],
 o3 66 (.faddr 5) [.t 2],
 o0 (.store 1) [.t 66, .t 65]]
def F4c25 : Ac := (.ops F4o25)
def F4c19 : Ac := (.seq (so F4o21 F4c22) F4c25)
def F4o26 := [
 om 25 3,
 o3 26 (.bin .add) [.t 25, .i 1],
 om 3 26]
def F4c26 : Ac := (.ops F4o26)
def F4c15 : Ac := (.seq (.block 1 (so F4o18 F4c19)) F4c26)
def F4l8 : Ac := (.seq (so F4o11 F4c12) F4c15)
def F4c7 : Ac := (.block 0 (.loop (.seq (.gh []) (.seq (.keep [1, 2, 3] [[1], [2], [3, 15], [4, 15], [5, 15], [6, 15], [7, 15]]) F4l8))))
def F4o29 := [
 o3 5 .mv [.i 0]]
def F4o34 := [
 om 67 5,
 o3 68 (.faddr 6) [.t 1],
 o3 69 (.load none) [.t 68],
 o3 70 .lenL [.t 69],
 o3 71 (.bin .lss) [.t 67, .t 70],
 om 72 71,
 og 73 .mv [.t 5] 72 true,
 og 74 (.bin .lss) [.t 73, .i 3] 72 true,
 o3 75 .pick [.t 72, .t 74, .b false]]
def F4c35 : Ac := (cd 75 .skip (.exit 2))
def F4o41 := [
 o3 78 (.faddr 6) [.t 1],
 o3 79 (.load none) [.t 78],
 om 80 5,
 o3 81 (.iaddrS 5) [.t 79, .t 80],
 o3 82 (.load (some 5)) [.t 81],
 o3 6 (.alloc [.d (.int .i64 0), .d (.int .i64 0), .d (.int .u16 0), .d (.str []), .d (.int .u16 0)]) [],
 o0 (.store 5) [.t 6, .t 82]]
def F4o43 := [
 o3 83 (.faddr 0) [.t 6],
  { dst := some 84, k := (.load none), xs := [.t 83], av := [[101], [7]] },
 o3 85 (.bin .and) [.t 84, .i 255],
 o3 86 (.faddr 4) [.t 2],
  { dst := some 87, k := (.load none), xs := [.t 86], av := [[101], [7]] },
 o3 88 .lenL [.t 87],
 o3 89 (.bin .add) [.t 88, .i 1],
 o3 90 (.bin .rem) [.t 85, .t 89],
 o3 91 (.faddr 1) [.t 6],
  { dst := some 92, k := (.load none), xs := [.t 91], av := [[101], [7]] },
 o3 93 (.bin .and) [.t 92, .i 255],
 o3 94 (.faddr 3) [.t 2],
  { dst := some 95, k := (.load none), xs := [.t 94], av := [[101], [7]] },
 o3 96 .lenL [.t 95],
 o3 97 (.bin .add) [.t 96, .i 1],
 o3 98 (.bin .rem) [.t 93, .t 97],
 o3 99 (.faddr 3) [.t 6],
  { dst := some 100, k := (.load none), xs := [.t 99], av := [[7]] },
  { dst := some 101, k := (.callf 10), xs := [.t 100], av := [[7]], al := some [] },
 o3 102 (.faddr 4) [.t 6],
  { dst := some 103, k := (.load none), xs := [.t 102], av := [[101], [7]] },
 o3 104 (.build [.d (.int .i64 0), .d (.int .i64 0), .d (.int .u16 0), .d (.str []), .d (.int .u16 0)] [(0, 1), (1, 1), (3, 1), (4, 1)]) [.t 90, .t 98, .t 101, .t 103],
  { dst := some 7, k := (.alloc [.d (.int .i64 0), .d (.int .i64 0), .d (.int .u16 0), .d (.str []), .d (.int .u16 0)]), xs := [], av := [[101]] },
 o0 (.store 5) [.t 7, .t 104]]
def F4o46 := [
 o3 105 (.faddr 1) [.t 7],
 o3 106 (.load none) [.t 105],
 o3 107 (.bin .eql) [.t 106, .i 0]]
def F4o48 := [
 o3 108 (.faddr 2) [.t 6],
 o3 109 (.load none) [.t 108],
 o3 110 (.faddr 2) [.t 7],
 o0 (.store 1) [.t 110, .t 109]]
def F4c47 : Ac := (cd 107 (.ops F4o48) .skip)
def F4o50 := [
 o3 111 (.faddr 6) [.t 2],
 o3 112 (.load none) [.t 111],
 o3 113 (.load (some 5)) [.t 7],
 o3 114 (.bslice (.agg [.int .i64 0, .int .i64 0, .int .u16 0, .str [], .int .u16 0]) 1 [0]) [.t 113],
 o3 115 (.append 5 48 false) [.t 112, .t 114],
 o3 116 (.faddr 6) [.t 2],
 o0 (.store 1) [.t 116, .t 115]]
def F4c50 : Ac := (.ops F4o50)
def F4c44 : Ac := (.seq (so F4o46 F4c47) F4c50)
def F4c42 : Ac := (so F4o43 F4c44)
def F4o51 := [
 om 76 5,
 o3 77 (.bin .add) [.t 76, .i 1],
 om 5 77]
def F4c51 : Ac := (.ops F4o51)
def F4c38 : Ac := (.seq (.block 3 (so F4o41 F4c42)) F4c51)
def F4l31 : Ac := (.seq (so F4o34 F4c35) F4c38)
def F4c30 : Ac := (.block 2 (.loop (.seq (.gh []) (.seq (.keep [1, 2, 5] [[1], [2], [3, 15], [4, 15], [5, 15], [6, 15], [7, 15]]) F4l31))))
def F4o53 := [
 o3 117 (.faddr 3) [.t 2],
 o3 118 (.load none) [.t 117],
 o3 119 .lenL [.t 118],
 o3 120 (.faddr 4) [.t 2],
 o3 121 (.load none) [.t 120],
 o3 122 .lenL [.t 121],
 o3 123 (.faddr 5) [.t 2],
 o3 124 (.load none) [.t 123],
 o3 125 .lenL [.t 124],
 o3 126 (.build [.d (.int .i64 0), .d (.int .i64 0), .d (.int .i64 0)] [(0, 1), (1, 1), (2, 1)]) [.t 119, .t 122, .t 125],
 o3 8 (.alloc [.d (.int .i64 0), .d (.int .i64 0), .d (.int .i64 0)]) [],
 o0 (.store 3) [.t 8, .t 126]]
def F4o56 := [
 o3 9 .mv [.i 0]]
def F4o61 := [
 om 127 9,
 o3 128 (.faddr 7) [.t 1],
 o3 129 (.load none) [.t 128],
 o3 130 .lenL [.t 129],
 o3 131 (.bin .lss) [.t 127, .t 130],
 om 132 131,
 og 133 .mv [.t 9] 132 true,
 og 134 (.bin .lss) [.t 133, .i 4] 132 true,
 o3 135 .pick [.t 132, .t 134, .b false]]
def F4c62 : Ac := (cd 135 .skip (.exit 4))
def F4o68 := [
 o3 138 (.faddr 7) [.t 1],
 o3 139 (.load none) [.t 138],
 om 140 9,
 o3 141 (.iaddrS 4) [.t 139, .t 140],
 o3 142 (.load (some 4)) [.t 141],
 o3 10 (.alloc [.d (.int .i64 0), .d (.int .u16 0), .nils, .nils]) [],
 o0 (.store 4) [.t 10, .t 142]]
def F4o70 := [
 o3 143 (.faddr 0) [.t 10],
 o3 144 (.load none) [.t 143],
 o3 145 (.bin .and) [.t 144, .i 255],
 o3 146 (.faddr 3) [.t 2],
 o3 147 (.load none) [.t 146],
 o3 148 .lenL [.t 147],
 o3 149 (.bin .rem) [.t 145, .t 148],
 o3 150 (.bin .add) [.t 149, .i 1],
 o3 151 (.build [.d (.int .i64 0), .d (.int .u16 0), .nils, .nils] [(0, 1)]) [.t 150],
 o3 11 (.alloc [.d (.int .i64 0), .d (.int .u16 0), .nils, .nils]) [],
 o0 (.store 4) [.t 11, .t 151]]
def F4o72 := [
 o3 152 (.faddr 3) [.t 2],
 o3 153 (.load none) [.t 152],
 o3 154 (.faddr 0) [.t 11],
 o3 155 (.load none) [.t 154],
 o3 156 (.bin .sub) [.t 155, .i 1],
 o3 157 (.iaddrS 8) [.t 153, .t 156],
 o3 158 (.faddr 4) [.t 157],
 o3 159 (.load none) [.t 158],
 om 12 159]
def F4o74 := [
 o3 160 (.faddr 1) [.t 10],
 o3 161 (.load none) [.t 160],
 om 162 12,
 o3 163 (.bin .sub) [.t 162, .i 4],
 o3 164 (.toInt .u16) [.t 163],
 o3 165 (.bin .rem) [.t 161, .t 164],
 o3 166 (.faddr 1) [.t 11],
 o0 (.store 1) [.t 166, .t 165]]
def F4o76 := [
 o3 167 (.faddr 1) [.t 10],
 o3 168 (.load none) [.t 167],
 o3 169 (.toInt .u8) [.t 168],
 o3 170 (.bslice (.int .u8 0) 4 [0, 1, 2, 3]) [.t 169, .y 1, .y 2, .y 3],
 o3 171 (.faddr 2) [.t 10],
  { dst := some 172, k := (.load none), xs := [.t 171], av := [[170]] },
 o3 173 (.faddr 2) [.t 10],
  { dst := some 174, k := (.load none), xs := [.t 173], av := [[170]] },
 o3 175 .lenL [.t 174],
 om 176 12,
 o3 177 (.bin .sub) [.t 176, .i 4],
 o3 178 (.faddr 1) [.t 11],
  { dst := some 179, k := (.load none), xs := [.t 178], av := [[170]] },
 o3 180 (.toInt .i64) [.t 179],
 o3 181 (.bin .sub) [.t 177, .t 180],
 o3 182 .mn [.t 175, .t 181],
 o3 183 (.subsl 1 false true false) [.t 172, .t 182],
 o3 184 (.append 1 1 false) [.t 170, .t 183],
 o3 185 (.faddr 2) [.t 11],
 o0 (.store 1) [.t 185, .t 184]]
def F4o79 := [
 o3 13 .mv [.i 0]]
def F4o84 := [
 om 186 13,
 o3 187 (.faddr 3) [.t 10],
 o3 188 (.load none) [.t 187],
 o3 189 .lenL [.t 188],
 o3 190 (.bin .lss) [.t 186, .t 189],
 om 191 190,
 og 192 .mv [.t 13] 191 true,
 og 193 (.bin .lss) [.t 192, .i 3] 191 true,
 o3 194 .pick [.t 191, .t 193, .b false]]
def F4c85 : Ac := (cd 194 .skip (.exit 6))
def F4o90 := [
 o3 197 (.faddr 3) [.t 11],
  { dst := some 198, k := (.load none), xs := [.t 197], av := [[208], [209]] },
 o3 199 (.faddr 3) [.t 10],
 o3 200 (.load none) [.t 199],
 om 201 13,
 o3 202 (.iaddrS 8) [.t 200, .t 201],
 o3 203 (.load (some 8)) [.t 202],
 o3 204 (.faddr 2) [.t 11],
 o3 205 (.load none) [.t 204],
 o3 206 .lenL [.t 205],
 o3 207 (.load (some 3)) [.t 8],
  { dst := some 208, k := (.callf 11), xs := [.t 203, .t 206, .t 207], al := some [] },
 o3 209 (.bslice (.agg [.int .i64 0, .int .i64 0, .bool false, .int .i64 0, .int .i64 0, .int .i64 0, .int .i64 0, .int .u16 0]) 1 [0]) [.t 208],
 o3 210 (.append 8 64 false) [.t 198, .t 209],
 o3 211 (.faddr 3) [.t 11],
 o0 (.store 1) [.t 211, .t 210]]
def F4o91 := [
 om 195 13,
 o3 196 (.bin .add) [.t 195, .i 1],
 om 13 196]
def F4c91 : Ac := (.ops F4o91)
def F4c88 : Ac := (.seq (.block 7 (.ops F4o90)) F4c91)
def F4l81 : Ac := (.seq (so F4o84 F4c85) F4c88)
def F4c80 : Ac := (.block 6 (.loop (.seq (.gh []) (.seq (.keep [1, 2, 8, 9, 10, 11, 13] [[1], [2], [8], [10], [11], [170], [3, 15], [4, 15], [5, 15], [6, 15], [7, 15], [903, 11]]) F4l81))))
def F4o92 := [
 o3 212 (.faddr 7) [.t 2],
 o3 213 (.load none) [.t 212],
 o3 214 (.load (some 4)) [.t 11],
 o3 215 (.bslice (.agg [.int .i64 0, .int .u16 0, .sl [], .sl []]) 1 [0]) [.t 214],
 o3 216 (.append 4 64 false) [.t 213, .t 215],
 o3 217 (.faddr 7) [.t 2],
 o0 (.store 1) [.t 217, .t 216]]
def F4b92 : Ac := (.ops F4o92)
def F4c92 : Ac := (.seq (.gh []) (.seq (.keep [1, 2, 8, 9, 11] [[1], [2], [8], [11], [170], [3, 15], [4, 15], [5, 15], [6, 15], [7, 15], [903, 11]]) F4b92))
def F4c77 : Ac := (.seq (so F4o79 F4c80) F4c92)
def F4c75 : Ac := (so F4o76 F4c77)
def F4c73 : Ac := (so F4o74 F4c75)
def F4b71 : Ac := (so F4o72 F4c73)
def F4c71 : Ac := (.seq (.gh [.ownB [11] 3 [903, 11] 8]) (.seq (.keep [1, 2, 8, 9, 10, 11] [[1], [2], [8], [10], [11], [3, 15], [4, 15], [5, 15], [6, 15], [7, 15], [903, 11]]) F4b71))
def F4c69 : Ac := (so F4o70 F4c71)
def F4o93 := [
 om 136 9,
 o3 137 (.bin .add) [.t 136, .i 1],
 om 9 137]
def F4c93 : Ac := (.ops F4o93)
def F4c65 : Ac := (.seq (.block 5 (so F4o68 F4c69)) F4c93)
def F4l58 : Ac := (.seq (so F4o61 F4c62) F4c65)
def F4c57 : Ac := (.block 4 (.loop (.seq (.gh []) (.seq (.keep [1, 2, 8, 9] [[1], [2], [8], [3, 15], [4, 15], [5, 15], [6, 15], [7, 15]]) F4l58))))
def F4o95 := [
 o3 218 (.faddr 8) [.t 1],
 o3 219 (.load none) [.t 218],
 o3 220 (.faddr 9) [.t 1],
  { dst := some 221, k := (.load none), xs := [.t 220], av := [[2]] },
 o3 222 (.faddr 8) [.t 2],
  { dst := none, k := (.store 1), xs := [.t 222, .t 219], al := some [[2]] },
 o3 223 (.faddr 9) [.t 2],
 o0 (.store 1) [.t 223, .t 221]]
def F4o98 := [
 o3 224 (.faddr 9) [.t 2],
 o3 225 (.load none) [.t 224]]
def F4o101 := [
 o3 226 (.faddr 10) [.t 1],
 o3 227 (.load (some 8)) [.t 226],
 o3 228 (.load (some 3)) [.t 8],
 o3 229 (.callf 11) [.t 227, .i 4, .t 228],
 o3 230 (.faddr 10) [.t 2],
 o0 (.store 8) [.t 230, .t 229]]
def F4o103 := [
 o3 231 (.faddr 10) [.t 2],
 o3 232 (.faddr 1) [.t 231],
 o0 (.store 1) [.t 232, .i 0],
 o3 233 (.faddr 10) [.t 2],
 o3 234 (.faddr 0) [.t 233],
 o0 (.store 1) [.t 234, .i 0],
 o3 235 (.faddr 10) [.t 2],
 o3 236 (.faddr 2) [.t 235],
 o0 (.store 1) [.t 236, .b false]]
def F4o105 := [
 o3 237 (.faddr 10) [.t 2],
 o3 238 (.faddr 3) [.t 237],
 o3 239 (.load none) [.t 238],
 o3 240 (.bin .eql) [.t 239, .i 4]]
def F4o107 := [
 o3 241 (.faddr 10) [.t 2],
 o3 242 (.faddr 3) [.t 241],
 o0 (.store 1) [.t 242, .i 5]]
def F4c106 : Ac := (cd 240 (.ops F4o107) .skip)
def F4c104 : Ac := (so F4o105 F4c106)
def F4c102 : Ac := (so F4o103 F4c104)
def F4c99 : Ac := (cd 225 (so F4o101 F4c102) .skip)
def F4o111 := [
 o3 243 (.load (some 18)) [.t 2],
 o0 (.store 18) [.t 2, .t 243]]
def F4c112 : Ac := (.seq (.gh [.frzB [2] 5]) .ret)
def F4c110 : Ac := (so F4o111 F4c112)
def F4c96 : Ac := (.seq (so F4o98 F4c99) F4c110)
def F4b94 : Ac := (so F4o95 F4c96)
def F4c94 : Ac := (.seq (.gh []) (.seq (.keep [1, 2, 8] [[1], [2], [8], [3, 15], [4, 15], [5, 15], [6, 15], [7, 15]]) F4b94))
def F4c54 : Ac := (.seq (so F4o56 F4c57) F4c94)
def F4b52 : Ac := (so F4o53 F4c54)
def F4c52 : Ac := (.seq (.gh []) (.seq (.keep [1, 2] [[1], [2], [3, 15], [4, 15], [5, 15], [6, 15], [7, 15]]) F4b52))
def F4b27 : Ac := (.seq (so F4o29 F4c30) F4c52)
def F4c27 : Ac := (.seq (.gh []) (.seq (.keep [1, 2] [[1], [2], [3, 15], [4, 15], [5, 15], [6, 15], [7, 15]]) F4b27))
def F4c4 : Ac := (.seq (so F4o6 F4c7) F4c27)
def F4b2 : Ac := (so F4o3 F4c4)
def F4c2 : Ac := (.seq (.gh [.ownB [2] 3 [903, 2] 8, .ownB [2] 4 [904, 2] 2, .ownB [2] 5 [905, 2] 3, .ownB [2] 6 [906, 2] 5, .ownB [2] 7 [907, 2] 4]) (.seq (.keep [1, 2] [[1], [2], [903, 2], [904, 2], [905, 2], [906, 2], [907, 2]]) F4b2))
def F4c0 : Ac := (so F4o1 F4c2)
/-- hansom/hansomref26.Near -/
def F4 : Fn := { np := 1, pb := [], rs := [.c 2 (some 18)], body := F4c0 }
def F5o1 := [
 o3 1 (.box 18) [.t 0],
 o3 2 .mv [.c (.nils)],
 o3 3 .mv [.i 0]]
def F5o3 := [
 o3 7 (.load (some 18)) [.t 1],
 o3 8 (.callf 12) [.t 7],
 om 6 8,
 oe 9 0 6,
 oe 10 1 6,
 om 4 9,
 om 5 10]
def F5o6 := [
 om 11 5,
 o3 12 (.bin .neq) [.t 11, .i 0]]
def F5o9 := [
 om 13 5,
 o3 2 .mv [.c (.nils)],
 om 3 13]
def F5c10 : Ac := (.seq (.gh [.frz 2]) .ret)
def F5c7 : Ac := (cd 12 (so F5o9 F5c10) .skip)
def F5c14 : Ac := .ret
def F5c12 : Ac := (.seq deadA F5c14)
def F5c4 : Ac := (.seq (so F5o6 F5c7) F5c12)
def F5c2 : Ac := (so F5o3 F5c4)
def F5c0 : Ac := (so F5o1 F5c2)
/-- hansom/omf.Write -/
def F5 : Fn := { np := 1, pb := [], rs := [.t 2, .t 3], body := F5c0 }
def F7o1 := [
 o3 1 (.box 18) [.t 0],
 o3 2 .mv [.i 0]]
def F7o4 := [
 o3 11 (.load (some 18)) [.t 1],
 o3 12 (.callf 15) [.t 11],
 o3 13 (.un .not) [.t 12]]
def F7o7 := [
 o3 2 .mv [.i 8]]
def F7c8 : Ac := .ret
def F7c5 : Ac := (cd 13 (so F7o7 F7c8) .skip)
def F7o12 := [
 o3 14 (.faddr 3) [.t 1],
 o3 15 (.load none) [.t 14],
 o3 16 .lenL [.t 15],
 o3 17 .mv [.i 0]]
def F7o16 := [
 o3 18 (.bin .lss) [.t 17, .t 16]]
def F7o24 := [
 o3 19 (.iaddrS 8) [.t 15, .t 17],
 o3 20 (.load (some 8)) [.t 19],
 o3 4 (.alloc [.d (.int .i64 0), .d (.int .i64 0), .d (.int .u16 0), .d (.int .u8 0), .d (.int .i64 0), .d (.int .i64 0), .d (.int .i64 0), .d (.int .i64 0)]) [],
 o0 (.store 8) [.t 4, .t 20]]
def F7o27 := [
 o3 21 (.load (some 8)) [.t 4],
 o3 22 (.callf 16) [.t 21],
 o3 23 (.un .not) [.t 22]]
def F7o30 := [
 o3 2 .mv [.i 3]]
def F7c31 : Ac := .ret
def F7c28 : Ac := (cd 23 (so F7o30 F7c31) .skip)
def F7o34 := [
 o3 24 (.load (some 18)) [.t 1],
 o3 25 (.faddr 5) [.t 4],
 o3 26 (.load none) [.t 25],
 o3 27 (.callf 17) [.t 24, .t 26],
 o3 28 (.un .not) [.t 27],
 om 29 28,
 og 30 (.load (some 18)) [.t 1] 29 false,
 og 31 (.faddr 6) [.t 4] 29 false,
 og 32 (.load none) [.t 31] 29 false,
 og 33 (.callf 17) [.t 30, .t 32] 29 false,
 og 34 (.un .not) [.t 33] 29 false,
 o3 35 .pick [.t 29, .b true, .t 34],
 om 36 35,
 og 37 (.load (some 18)) [.t 1] 36 false,
 og 38 (.faddr 7) [.t 4] 36 false,
 og 39 (.load none) [.t 38] 36 false,
 og 40 (.callf 17) [.t 37, .t 39] 36 false,
 og 41 (.un .not) [.t 40] 36 false,
 o3 42 .pick [.t 36, .b true, .t 41]]
def F7o37 := [
 o3 2 .mv [.i 5]]
def F7c38 : Ac := .ret
def F7c35 : Ac := (cd 42 (so F7o37 F7c38) .skip)
def F7c33 : Ac := (so F7o34 F7c35)
def F7c25 : Ac := (.seq (so F7o27 F7c28) F7c33)
def F7o40 := [
 o3 43 (.bin .add) [.t 17, .i 1],
 om 17 43]
def F7c40 : Ac := (.ops F7o40)
def F7c21 : Ac := (.seq (.block 1 (so F7o24 F7c25)) F7c40)
def F7c17 : Ac := (.seq (cd 18 .skip (.exit 0)) F7c21)
def F7l14 : Ac := (so F7o16 F7c17)
def F7c13 : Ac := (.block 0 (.loop (.seq (.gh []) (.seq (.keep [1, 15, 16, 17] [[1]]) F7l14))))
def F7o43 := [
 o3 44 (.faddr 4) [.t 1],
 o3 45 (.load none) [.t 44],
 o3 46 .lenL [.t 45],
 o3 47 .mv [.i 0]]
def F7o47 := [
 o3 48 (.bin .lss) [.t 47, .t 46]]
def F7o55 := [
 o3 49 (.iaddrS 2) [.t 45, .t 47],
 o3 50 (.load (some 2)) [.t 49],
 o3 6 (.alloc [.d (.int .i64 0), .nils]) [],
 o0 (.store 2) [.t 6, .t 50]]
def F7o58 := [
 o3 51 (.load (some 18)) [.t 1],
 o3 52 (.faddr 0) [.t 6],
 o3 53 (.load none) [.t 52],
 o3 54 (.callf 17) [.t 51, .t 53],
 o3 55 (.un .not) [.t 54]]
def F7o61 := [
 o3 2 .mv [.i 5]]
def F7c62 : Ac := .ret
def F7c59 : Ac := (cd 55 (so F7o61 F7c62) .skip)
def F7o65 := [
 o3 56 (.faddr 1) [.t 6],
 o3 57 (.load none) [.t 56],
 o3 58 .lenL [.t 57],
 o3 59 .mv [.i 0]]
def F7o69 := [
 o3 60 (.bin .lss) [.t 59, .t 58]]
def F7o77 := [
 o3 61 (.iaddrS 1) [.t 57, .t 59],
 o3 62 (.load none) [.t 61],
 om 8 62]
def F7o79 := [
 om 63 8,
 o3 64 (.faddr 3) [.t 1],
 o3 65 (.load none) [.t 64],
 o3 66 .lenL [.t 65],
 o3 67 (.callf 18) [.t 63, .t 66],
 o3 68 (.un .not) [.t 67]]
def F7o82 := [
 o3 2 .mv [.i 5]]
def F7c83 : Ac := .ret
def F7c80 : Ac := (cd 68 (so F7o82 F7c83) .skip)
def F7c78 : Ac := (so F7o79 F7c80)
def F7o85 := [
 o3 69 (.bin .add) [.t 59, .i 1],
 om 59 69]
def F7c85 : Ac := (.ops F7o85)
def F7c74 : Ac := (.seq (.block 5 (so F7o77 F7c78)) F7c85)
def F7c70 : Ac := (.seq (cd 60 .skip (.exit 4)) F7c74)
def F7l67 : Ac := (so F7o69 F7c70)
def F7c66 : Ac := (.block 4 (.loop (.seq (.gh []) (.seq (.keep [1, 45, 46, 47, 57, 58, 59] [[1]]) F7l67))))
def F7c64 : Ac := (so F7o65 F7c66)
def F7c56 : Ac := (.seq (so F7o58 F7c59) F7c64)
def F7o86 := [
 o3 70 (.bin .add) [.t 47, .i 1],
 om 47 70]
def F7b86 : Ac := (.ops F7o86)
def F7c86 : Ac := (.seq (.gh []) (.seq (.keep [1, 45, 46, 47] [[1]]) F7b86))
def F7c52 : Ac := (.seq (.block 3 (so F7o55 F7c56)) F7c86)
def F7c48 : Ac := (.seq (cd 48 .skip (.exit 2)) F7c52)
def F7l45 : Ac := (so F7o47 F7c48)
def F7c44 : Ac := (.block 2 (.loop (.seq (.gh []) (.seq (.keep [1, 45, 46, 47] [[1]]) F7l45))))
def F7o89 := [
 o3 71 (.faddr 6) [.t 1],
 o3 72 (.load none) [.t 71],
 o3 73 .lenL [.t 72],
 o3 74 .mv [.i 0]]
def F7o93 := [
 o3 75 (.bin .lss) [.t 74, .t 73]]
def F7o101 := [
 o3 76 (.iaddrS 5) [.t 72, .t 74],
 o3 77 (.load (some 5)) [.t 76],
 o3 10 (.alloc [.d (.int .i64 0), .d (.int .i64 0), .d (.int .u16 0), .d (.str []), .d (.int .u16 0)]) [],
 o0 (.store 5) [.t 10, .t 77]]
def F7o103 := [
 o3 78 (.faddr 0) [.t 10],
 o3 79 (.load none) [.t 78],
 o3 80 (.bin .lss) [.t 79, .i 0],
 om 81 80,
 og 82 (.faddr 0) [.t 10] 81 false,
 og 83 (.load none) [.t 82] 81 false,
 og 84 (.faddr 4) [.t 1] 81 false,
 og 85 (.load none) [.t 84] 81 false,
 og 86 .lenL [.t 85] 81 false,
 og 87 (.bin .gtr) [.t 83, .t 86] 81 false,
 o3 88 .pick [.t 81, .b true, .t 87],
 om 89 88,
 og 90 (.faddr 1) [.t 10] 89 false,
 og 91 (.load none) [.t 90] 89 false,
 og 92 (.bin .lss) [.t 91, .i 0] 89 false,
 o3 93 .pick [.t 89, .b true, .t 92],
 om 94 93,
 og 95 (.faddr 1) [.t 10] 94 false,
 og 96 (.load none) [.t 95] 94 false,
 og 97 (.faddr 3) [.t 1] 94 false,
 og 98 (.load none) [.t 97] 94 false,
 og 99 .lenL [.t 98] 94 false,
 og 100 (.bin .gtr) [.t 96, .t 99] 94 false,
 o3 101 .pick [.t 94, .b true, .t 100]]
def F7o106 := [
 o3 2 .mv [.i 5]]
def F7c107 : Ac := .ret
def F7c104 : Ac := (cd 101 (so F7o106 F7c107) .skip)
def F7c102 : Ac := (so F7o103 F7c104)
def F7o109 := [
 o3 102 (.bin .add) [.t 74, .i 1],
 om 74 102]
def F7c109 : Ac := (.ops F7o109)
def F7c98 : Ac := (.seq (.block 7 (so F7o101 F7c102)) F7c109)
def F7c94 : Ac := (.seq (cd 75 .skip (.exit 6)) F7c98)
def F7l91 : Ac := (so F7o93 F7c94)
def F7c90 : Ac := (.block 6 (.loop (.seq (.gh []) (.seq (.keep [1, 72, 73, 74] [[1]]) F7l91))))
def F7o111 := [
 o3 103 (.load (some 18)) [.t 1],
 o3 104 (.callf 19) [.t 103],
 om 2 104]
def F7c112 : Ac := .ret
def F7b110 : Ac := (so F7o111 F7c112)
def F7c110 : Ac := (.seq (.gh []) (.seq (.keep [1] [[1]]) F7b110))
def F7b87 : Ac := (.seq (so F7o89 F7c90) F7c110)
def F7c87 : Ac := (.seq (.gh []) (.seq (.keep [1] [[1]]) F7b87))
def F7b41 : Ac := (.seq (so F7o43 F7c44) F7c87)
def F7c41 : Ac := (.seq (.gh []) (.seq (.keep [1] [[1]]) F7b41))
def F7c10 : Ac := (.seq (so F7o12 F7c13) F7c41)
def F7c2 : Ac := (.seq (so F7o4 F7c5) F7c10)
def F7c0 : Ac := (so F7o1 F7c2)
/-- hansom/omf.Check -/
def F7 : Fn := { np := 1, pb := [], rs := [.t 2], body := F7c0 }
def F8o1 := [
 o3 2 (.box 18) [.t 0],
 o3 4 .mv [.c (.d (.str []))]]
def F8o4 := [
 om 5 1,
 o3 6 (.faddr 2) [.t 2],
 o3 7 (.load none) [.t 6],
 o3 8 .lenL [.t 7],
 o3 9 (.callf 18) [.t 5, .t 8],
 o3 10 (.un .not) [.t 9]]
def F8o7 := [
 o3 4 .mv [.c (.d (.str []))]]
def F8c8 : Ac := .ret
def F8c5 : Ac := (cd 10 (so F8o7 F8c8) .skip)
def F8o11 := [
 o3 11 (.faddr 2) [.t 2],
 o3 12 (.load none) [.t 11],
 om 13 1,
 o3 14 (.bin .sub) [.t 13, .i 1],
 o3 15 (.iaddrS 1) [.t 12, .t 14],
 o3 16 (.load none) [.t 15],
 om 4 16]
def F8c12 : Ac := .ret
def F8c10 : Ac := (so F8o11 F8c12)
def F8c2 : Ac := (.seq (so F8o4 F8c5) F8c10)
def F8c0 : Ac := (so F8o1 F8c2)
/-- hansom/omf.Name -/
def F8 : Fn := { np := 2, pb := [], rs := [.t 4], body := F8c0 }
def F9o1 := [
 o3 1 (.box 18) [.t 0],
 o3 2 (.alloc [.d (.str []), .nils, .nils, .nils, .nils, .nils, .nils, .nils, .d (.bool false), .d (.bool false), .d (.int .i64 0), .d (.int .i64 0), .d (.bool false), .d (.int .i64 0), .d (.int .i64 0), .d (.int .i64 0), .d (.int .i64 0), .d (.int .u16 0)]) []]
def F9o3 := [
 o3 12 (.faddr 0) [.t 1],
 o3 13 (.load none) [.t 12],
 o3 14 (.callf 10) [.t 13],
 o3 15 (.faddr 0) [.t 2],
 o0 (.store 1) [.t 15, .t 14]]
def F9o5 := [
 o3 16 (.bslice (.str []) 1 [0]) [.c (.d (.str []))],
 o3 17 (.faddr 2) [.t 2],
 o0 (.store 1) [.t 17, .t 16]]
def F9o8 := [
 o3 3 .mv [.i 0]]
def F9o13 := [
 om 18 3,
 o3 19 (.faddr 2) [.t 1],
 o3 20 (.load none) [.t 19],
 o3 21 .lenL [.t 20],
 o3 22 (.bin .lss) [.t 18, .t 21],
 om 23 22,
 og 24 .mv [.t 3] 23 true,
 og 25 (.bin .lss) [.t 24, .i 4] 23 true,
 o3 26 .pick [.t 23, .t 25, .b false]]
def F9c14 : Ac := (cd 26 .skip (.exit 0))
def F9o19 := [
 o3 29 (.faddr 2) [.t 2],
  { dst := some 30, k := (.load none), xs := [.t 29], av := [[36], [37]] },
 o3 31 (.faddr 2) [.t 1],
 o3 32 (.load none) [.t 31],
 om 33 3,
 o3 34 (.iaddrS 1) [.t 32, .t 33],
 o3 35 (.load none) [.t 34],
  { dst := some 36, k := (.callf 10), xs := [.t 35], al := some [] },
 o3 37 (.bslice (.str []) 1 [0]) [.t 36],
 o3 38 (.append 1 16 false) [.t 30, .t 37],
 o3 39 (.faddr 2) [.t 2],
 o0 (.store 1) [.t 39, .t 38]]
def F9o20 := [
 om 27 3,
 o3 28 (.bin .add) [.t 27, .i 1],
 om 3 28]
def F9c20 : Ac := (.ops F9o20)
def F9c17 : Ac := (.seq (.block 1 (.ops F9o19)) F9c20)
def F9l10 : Ac := (.seq (so F9o13 F9c14) F9c17)
def F9c9 : Ac := (.block 0 (.loop (.seq (.gh []) (.seq (.keep [1, 2, 3] [[1], [2], [16], [901, 2], [903, 2], [904, 2], [905, 2], [906, 2], [907, 2]]) F9l10))))
def F9o22 := [
 o3 40 (.faddr 2) [.t 2],
 o3 41 (.load none) [.t 40],
 o3 42 .lenL [.t 41],
 om 4 42]
def F9o25 := [
 o3 5 .mv [.i 0]]
def F9o30 := [
 om 43 5,
 o3 44 (.faddr 1) [.t 1],
 o3 45 (.load none) [.t 44],
 o3 46 .lenL [.t 45],
 o3 47 (.bin .lss) [.t 43, .t 46],
 om 48 47,
 og 49 .mv [.t 5] 48 true,
 og 50 (.bin .lss) [.t 49, .i 2] 48 true,
 o3 51 .pick [.t 48, .t 50, .b false]]
def F9c31 : Ac := (cd 51 .skip (.exit 2))
def F9o37 := [
 o3 54 (.faddr 1) [.t 1],
 o3 55 (.load none) [.t 54],
 om 56 5,
 o3 57 (.iaddrS 3) [.t 55, .t 56],
 o3 58 (.load (some 3)) [.t 57],
 o3 6 (.alloc [.d (.int .u8 0), .d (.int .u8 0), .d (.str [])]) [],
 o0 (.store 3) [.t 6, .t 58]]
def F9o39 := [
 o3 59 (.faddr 2) [.t 6],
 o3 60 (.load none) [.t 59],
 o3 61 (.callf 10) [.t 60],
 o3 62 (.faddr 2) [.t 6],
 o0 (.store 1) [.t 62, .t 61]]
def F9o40 := [
 o3 63 (.faddr 1) [.t 2],
 o3 64 (.load none) [.t 63],
 o3 65 (.load (some 3)) [.t 6],
 o3 66 (.bslice (.agg [.int .u8 0, .int .u8 0, .str []]) 1 [0]) [.t 65],
 o3 67 (.append 3 24 false) [.t 64, .t 66],
 o3 68 (.faddr 1) [.t 2],
 o0 (.store 1) [.t 68, .t 67]]
def F9c40 : Ac := (.ops F9o40)
def F9c38 : Ac := (so F9o39 F9c40)
def F9o41 := [
 om 52 5,
 o3 53 (.bin .add) [.t 52, .i 1],
 om 5 53]
def F9c41 : Ac := (.ops F9o41)
def F9c34 : Ac := (.seq (.block 3 (so F9o37 F9c38)) F9c41)
def F9l27 : Ac := (.seq (so F9o30 F9c31) F9c34)
def F9c26 : Ac := (.block 2 (.loop (.seq (.gh []) (.seq (.keep [1, 2, 4, 5] [[1], [2], [16], [901, 2], [903, 2], [904, 2], [905, 2], [906, 2], [907, 2]]) F9l27))))
def F9o44 := [
 o3 7 .mv [.i 0]]
def F9o49 := [
 om 69 7,
 o3 70 (.bin .eql) [.t 69, .i 0],
 om 71 70,
 og 72 .mv [.t 7] 71 false,
 og 73 (.faddr 3) [.t 1] 71 false,
 og 74 (.load none) [.t 73] 71 false,
 og 75 .lenL [.t 74] 71 false,
 og 76 (.bin .lss) [.t 72, .t 75] 71 false,
 og 77 .mv [.t 76] 71 false,
 og 78 .mv [.t 7] 77 true,
 og 79 (.bin .lss) [.t 78, .i 4] 77 true,
 og 80 .pick [.t 77, .t 79, .b false] 71 false,
 o3 81 .pick [.t 71, .b true, .t 80]]
def F9c50 : Ac := (cd 81 .skip (.exit 4))
def F9o56 := [
 o3 84 (.build [.d (.int .i64 0), .d (.int .i64 0), .d (.int .u16 0), .d (.int .u8 0), .d (.int .i64 0), .d (.int .i64 0), .d (.int .i64 0), .d (.int .i64 0)] []) [],
 o3 8 (.alloc [.d (.int .i64 0), .d (.int .i64 0), .d (.int .u16 0), .d (.int .u8 0), .d (.int .i64 0), .d (.int .i64 0), .d (.int .i64 0), .d (.int .i64 0)]) [],
 o0 (.store 8) [.t 8, .t 84]]
def F9o59 := [
 om 85 7,
 o3 86 (.faddr 3) [.t 1],
 o3 87 (.load none) [.t 86],
 o3 88 .lenL [.t 87],
 o3 89 (.bin .lss) [.t 85, .t 88]]
def F9o61 := [
 o3 90 (.faddr 3) [.t 1],
 o3 91 (.load none) [.t 90],
 om 92 7,
 o3 93 (.iaddrS 8) [.t 91, .t 92],
 o3 94 (.load (some 8)) [.t 93],
 o0 (.store 8) [.t 8, .t 94]]
def F9c60 : Ac := (cd 89 (.ops F9o61) .skip)
def F9o63 := [
 o3 95 (.faddr 3) [.t 2],
  { dst := some 96, k := (.load none), xs := [.t 95], av := [[101], [124]] },
 o3 97 (.faddr 0) [.t 8],
  { dst := some 98, k := (.load none), xs := [.t 97], av := [[101]] },
 o3 99 (.bin .and) [.t 98, .i 3],
 o3 100 (.bin .add) [.t 99, .i 1],
 o3 101 (.bslice (.int .i64 0) 4 [0, 1, 2, 3]) [.i 0, .i 2, .i 5, .i 6],
 o3 102 (.faddr 1) [.t 8],
  { dst := some 103, k := (.load none), xs := [.t 102], av := [[101]] },
 o3 104 (.bin .and) [.t 103, .i 3],
 o3 105 (.iaddrS 1) [.t 101, .t 104],
 o3 106 (.load none) [.t 105],
 o3 107 (.faddr 4) [.t 8],
  { dst := some 108, k := (.load none), xs := [.t 107], av := [[101]] },
 o3 109 (.bin .and) [.t 108, .i 63],
 o3 110 (.bin .add) [.t 109, .i 8],
 o3 111 (.faddr 5) [.t 8],
  { dst := some 112, k := (.load none), xs := [.t 111], av := [[101]] },
 o3 113 (.bin .and) [.t 112, .i 255],
 om 114 4,
 o3 115 (.bin .add) [.t 114, .i 1],
 o3 116 (.bin .rem) [.t 113, .t 115],
 o3 117 (.faddr 6) [.t 8],
  { dst := some 118, k := (.load none), xs := [.t 117], av := [[101]] },
 o3 119 (.bin .and) [.t 118, .i 255],
 om 120 4,
 o3 121 (.bin .add) [.t 120, .i 1],
 o3 122 (.bin .rem) [.t 119, .t 121],
 o3 123 (.build [.d (.int .i64 0), .d (.int .i64 0), .d (.int .u16 0), .d (.int .u8 0), .d (.int .i64 0), .d (.int .i64 0), .d (.int .i64 0), .d (.int .i64 0)] [(0, 1), (1, 1), (4, 1), (5, 1), (6, 1), (7, 1)]) [.t 100, .t 106, .t 110, .t 116, .t 122, .i 1],
 o3 124 (.bslice (.agg [.int .i64 0, .int .i64 0, .int .u16 0, .int .u8 0, .int .i64 0, .int .i64 0, .int .i64 0, .int .i64 0]) 1 [0]) [.t 123],
 o3 125 (.append 8 56 false) [.t 96, .t 124],
 o3 126 (.faddr 3) [.t 2],
 o0 (.store 1) [.t 126, .t 125]]
def F9b63 : Ac := (.ops F9o63)
def F9c63 : Ac := (.seq (.gh []) (.seq (.keep [1, 2, 4, 7, 8] [[1], [2], [8], [16], [901, 2], [903, 2], [904, 2], [905, 2], [906, 2], [907, 2]]) F9b63))
def F9c57 : Ac := (.seq (so F9o59 F9c60) F9c63)
def F9o64 := [
 om 82 7,
 o3 83 (.bin .add) [.t 82, .i 1],
 om 7 83]
def F9c64 : Ac := (.ops F9o64)
def F9b53 : Ac := (.seq (.block 5 (so F9o56 F9c57)) F9c64)
def F9c53 : Ac := (.seq (.gh []) (.seq (.keep [1, 2, 4, 7] [[1], [2], [16], [901, 2], [903, 2], [904, 2], [905, 2], [906, 2], [907, 2]]) F9b53))
def F9l46 : Ac := (.seq (so F9o49 F9c50) F9c53)
def F9c45 : Ac := (.block 4 (.loop (.seq (.gh []) (.seq (.keep [1, 2, 4, 7] [[1], [2], [16], [901, 2], [903, 2], [904, 2], [905, 2], [906, 2], [907, 2]]) F9l46))))
def F9o67 := [
 o3 9 .mv [.i 0]]
def F9o72 := [
 om 127 9,
 o3 128 (.faddr 4) [.t 1],
 o3 129 (.load none) [.t 128],
 o3 130 .lenL [.t 129],
 o3 131 (.bin .lss) [.t 127, .t 130],
 om 132 131,
 og 133 .mv [.t 9] 132 true,
 og 134 (.bin .lss) [.t 133, .i 2] 132 true,
 o3 135 .pick [.t 132, .t 134, .b false]]
def F9c73 : Ac := (cd 135 .skip (.exit 6))
def F9o79 := [
 o3 138 (.faddr 4) [.t 1],
 o3 139 (.load none) [.t 138],
 om 140 9,
 o3 141 (.iaddrS 2) [.t 139, .t 140],
 o3 142 (.faddr 0) [.t 141],
 o3 143 (.load none) [.t 142],
 o3 144 (.bin .and) [.t 143, .i 255],
 om 145 4,
 o3 146 (.bin .rem) [.t 144, .t 145],
 o3 147 (.bin .add) [.t 146, .i 1],
 o3 148 (.build [.d (.int .i64 0), .nils] [(0, 1)]) [.t 147],
 o3 10 (.alloc [.d (.int .i64 0), .nils]) [],
 o0 (.store 2) [.t 10, .t 148]]
def F9o82 := [
 o3 11 .mv [.i 0]]
def F9o87 := [
 om 149 11,
 o3 150 (.faddr 4) [.t 1],
 o3 151 (.load none) [.t 150],
 om 152 9,
 o3 153 (.iaddrS 2) [.t 151, .t 152],
 o3 154 (.faddr 1) [.t 153],
 o3 155 (.load none) [.t 154],
 o3 156 .lenL [.t 155],
 o3 157 (.bin .lss) [.t 149, .t 156],
 om 158 157,
 og 159 .mv [.t 11] 158 true,
 og 160 (.bin .lss) [.t 159, .i 3] 158 true,
 o3 161 .pick [.t 158, .t 160, .b false]]
def F9c88 : Ac := (cd 161 .skip (.exit 8))
def F9o93 := [
 o3 164 (.faddr 1) [.t 10],
  { dst := some 165, k := (.load none), xs := [.t 164], av := [[181]] },
 o3 166 (.faddr 4) [.t 1],
 o3 167 (.load none) [.t 166],
 om 168 9,
 o3 169 (.iaddrS 2) [.t 167, .t 168],
 o3 170 (.faddr 1) [.t 169],
 o3 171 (.load none) [.t 170],
 om 172 11,
 o3 173 (.iaddrS 1) [.t 171, .t 172],
 o3 174 (.load none) [.t 173],
 o3 175 (.bin .and) [.t 174, .i 255],
 o3 176 (.faddr 3) [.t 2],
 o3 177 (.load none) [.t 176],
 o3 178 .lenL [.t 177],
 o3 179 (.bin .rem) [.t 175, .t 178],
 o3 180 (.bin .add) [.t 179, .i 1],
 o3 181 (.bslice (.int .i64 0) 1 [0]) [.t 180],
 o3 182 (.append 1 8 false) [.t 165, .t 181],
 o3 183 (.faddr 1) [.t 10],
 o0 (.store 1) [.t 183, .t 182]]
def F9o94 := [
 om 162 11,
 o3 163 (.bin .add) [.t 162, .i 1],
 om 11 163]
def F9c94 : Ac := (.ops F9o94)
def F9c91 : Ac := (.seq (.block 9 (.ops F9o93)) F9c94)
def F9l84 : Ac := (.seq (so F9o87 F9c88) F9c91)
def F9c83 : Ac := (.block 8 (.loop (.seq (.gh []) (.seq (.keep [1, 2, 4, 9, 10, 11] [[1], [2], [10], [16], [901, 2], [901, 10], [903, 2], [904, 2], [905, 2], [906, 2], [907, 2]]) F9l84))))
def F9o95 := [
 o3 184 (.faddr 4) [.t 2],
 o3 185 (.load none) [.t 184],
 o3 186 (.load (some 2)) [.t 10],
 o3 187 (.bslice (.agg [.int .i64 0, .sl []]) 1 [0]) [.t 186],
 o3 188 (.append 2 32 false) [.t 185, .t 187],
 o3 189 (.faddr 4) [.t 2],
 o0 (.store 1) [.t 189, .t 188]]
def F9b95 : Ac := (.ops F9o95)
def F9c95 : Ac := (.seq (.gh []) (.seq (.keep [1, 2, 4, 9, 10] [[1], [2], [10], [16], [901, 2], [901, 10], [903, 2], [904, 2], [905, 2], [906, 2], [907, 2]]) F9b95))
def F9b80 : Ac := (.seq (so F9o82 F9c83) F9c95)
def F9c80 : Ac := (.seq (.gh [.ownB [10] 1 [901, 10] 1]) (.seq (.keep [1, 2, 4, 9, 10] [[1], [2], [10], [16], [901, 2], [901, 10], [903, 2], [904, 2], [905, 2], [906, 2], [907, 2]]) F9b80))
def F9o96 := [
 om 136 9,
 o3 137 (.bin .add) [.t 136, .i 1],
 om 9 137]
def F9c96 : Ac := (.ops F9o96)
def F9c76 : Ac := (.seq (.block 7 (so F9o79 F9c80)) F9c96)
def F9l69 : Ac := (.seq (so F9o72 F9c73) F9c76)
def F9c68 : Ac := (.block 6 (.loop (.seq (.gh []) (.seq (.keep [1, 2, 4, 9] [[1], [2], [16], [901, 2], [903, 2], [904, 2], [905, 2], [906, 2], [907, 2]]) F9l69))))
def F9o98 := [
 o3 190 (.load (some 18)) [.t 2],
 o0 (.store 18) [.t 2, .t 190]]
def F9c99 : Ac := (.seq (.gh [.frzB [2] 1, .frzB [2] 2]) .ret)
def F9b97 : Ac := (so F9o98 F9c99)
def F9c97 : Ac := (.seq (.gh []) (.seq (.keep [2] [[2], [16], [901, 2], [903, 2], [904, 2], [905, 2], [906, 2], [907, 2]]) F9b97))
def F9b65 : Ac := (.seq (so F9o67 F9c68) F9c97)
def F9c65 : Ac := (.seq (.gh []) (.seq (.keep [1, 2, 4] [[1], [2], [16], [901, 2], [903, 2], [904, 2], [905, 2], [906, 2], [907, 2]]) F9b65))
def F9b42 : Ac := (.seq (so F9o44 F9c45) F9c65)
def F9c42 : Ac := (.seq (.gh []) (.seq (.keep [1, 2, 4] [[1], [2], [16], [901, 2], [903, 2], [904, 2], [905, 2], [906, 2], [907, 2]]) F9b42))
def F9c23 : Ac := (.seq (so F9o25 F9c26) F9c42)
def F9b21 : Ac := (so F9o22 F9c23)
def F9c21 : Ac := (.seq (.gh []) (.seq (.keep [1, 2] [[1], [2], [16], [901, 2], [903, 2], [904, 2], [905, 2], [906, 2], [907, 2]]) F9b21))
def F9c6 : Ac := (.seq (so F9o8 F9c9) F9c21)
def F9c4 : Ac := (so F9o5 F9c6)
def F9b2 : Ac := (so F9o3 F9c4)
def F9c2 : Ac := (.seq (.gh [.ownB [2] 1 [901, 2] 3, .ownB [2] 2 [902, 2] 1, .ownB [2] 3 [903, 2] 8, .ownB [2] 4 [904, 2] 2, .ownB [2] 5 [905, 2] 3, .ownB [2] 6 [906, 2] 5, .ownB [2] 7 [907, 2] 4]) (.seq (.keep [1, 2] [[1], [2], [901, 2], [902, 2], [903, 2], [904, 2], [905, 2], [906, 2], [907, 2]]) F9b2))
def F9c0 : Ac := (so F9o1 F9c2)
/-- hansom/hansomref26.base -/
def F9 : Fn := { np := 1, pb := [], rs := [.c 2 (some 18)], body := F9c0 }
def F10o1 := [
 o3 2 .mv [.c (.d (.str []))]]
def F10o3 := [
 om 3 0,
 om 4 0,
 o3 5 .lenS [.t 4],
 o3 6 .mn [.t 5, .i 12],
 o3 7 (.substr false true) [.t 3, .t 6],
 om 2 7]
def F10c4 : Ac := .ret
def F10c2 : Ac := (so F10o3 F10c4)
def F10c0 : Ac := (so F10o1 F10c2)
/-- hansom/hansomref26.cut -/
def F10 : Fn := { np := 1, pb := [], rs := [.t 2], body := F10c0 }
def F11o1 := [
 o3 3 (.box 8) [.t 0],
 o3 5 (.box 3) [.t 2],
 o3 6 (.alloc [.d (.int .i64 0), .d (.int .i64 0), .d (.bool false), .d (.int .i64 0), .d (.int .i64 0), .d (.int .i64 0), .d (.int .i64 0), .d (.int .u16 0)]) []]
def F11o3 := [
 o3 7 (.faddr 1) [.t 3],
 o3 8 (.load none) [.t 7],
 o3 9 (.bin .and) [.t 8, .i 255],
 o3 10 (.bin .rem) [.t 9, .i 5],
 o3 11 (.faddr 1) [.t 6],
 o0 (.store 1) [.t 11, .t 10]]
def F11o5 := [
 o3 12 (.faddr 2) [.t 3],
 o3 13 (.load none) [.t 12],
 om 14 13,
 og 15 (.faddr 1) [.t 6] 14 true,
 og 16 (.load none) [.t 15] 14 true,
 og 17 (.bin .lss) [.t 16, .i 2] 14 true,
 o3 18 .pick [.t 14, .t 17, .b false],
 o3 19 (.faddr 2) [.t 6],
 o0 (.store 1) [.t 19, .t 18]]
def F11o7 := [
 o3 20 (.faddr 0) [.t 3],
  { dst := some 21, k := (.load none), xs := [.t 20], av := [[26]] },
 o3 22 (.bin .and) [.t 21, .i 65535],
 om 23 1,
 o3 24 (.faddr 1) [.t 6],
 o3 25 (.load none) [.t 24],
  { dst := some 26, k := (.callf 20), xs := [.t 25], al := some [] },
 o3 27 (.bin .sub) [.t 23, .t 26],
 o3 28 (.bin .add) [.t 27, .i 1],
 o3 29 .mn [.t 28, .i 1024],
 o3 30 (.bin .rem) [.t 22, .t 29],
 o3 31 (.faddr 0) [.t 6],
 o0 (.store 1) [.t 31, .t 30]]
def F11o9 := [
 o3 32 (.faddr 5) [.t 3],
 o3 33 (.load none) [.t 32],
 o3 34 (.bin .and) [.t 33, .i 255],
 o3 35 (.bin .rem) [.t 34, .i 3],
 o3 36 (.faddr 3) [.t 3],
  { dst := some 37, k := (.load none), xs := [.t 36], av := [[6]] },
 o3 38 (.bin .and) [.t 37, .i 255],
 o3 39 (.bin .rem) [.t 38, .i 5],
 o3 40 (.faddr 5) [.t 6],
  { dst := none, k := (.store 1), xs := [.t 40, .t 35], al := some [[6]] },
 o3 41 (.faddr 3) [.t 6],
 o0 (.store 1) [.t 41, .t 39]]
def F11o15 := [
 o3 42 (.faddr 5) [.t 6],
 o3 43 (.load none) [.t 42],
 o3 44 (.iaddrA 3 1) [.t 5, .t 43],
 o3 45 (.load none) [.t 44],
 o3 46 (.bin .eql) [.t 45, .i 0]]
def F11c16 : Ac := (cd 46 .skip (.exit 0))
def F11o20 := [
 o3 47 (.faddr 5) [.t 6],
 o3 48 (.load none) [.t 47],
 o3 49 (.bin .add) [.t 48, .i 1],
 o3 50 (.bin .rem) [.t 49, .i 3],
 o3 51 (.faddr 5) [.t 6],
 o0 (.store 1) [.t 51, .t 50]]
def F11c19 : Ac := (.block 1 (.ops F11o20))
def F11l12 : Ac := (.seq (so F11o15 F11c16) F11c19)
def F11o23 := [
 o3 52 (.faddr 3) [.t 6],
 o3 53 (.load none) [.t 52],
 o3 54 (.bin .eql) [.t 53, .i 3]]
def F11o25 := [
 o3 55 (.faddr 3) [.t 6],
 o0 (.store 1) [.t 55, .i 5]]
def F11c24 : Ac := (cd 54 (.ops F11o25) .skip)
def F11o29 := [
 o3 56 (.faddr 3) [.t 6],
 o3 57 (.load none) [.t 56],
 o3 58 (.bin .lss) [.t 57, .i 3],
 om 59 58,
 og 60 (.faddr 3) [.t 6] 59 true,
 og 61 (.load none) [.t 60] 59 true,
 og 62 (.iaddrA 3 1) [.t 5, .t 61] 59 true,
 og 63 (.load none) [.t 62] 59 true,
 og 64 (.bin .eql) [.t 63, .i 0] 59 true,
 o3 65 .pick [.t 59, .t 64, .b false]]
def F11o31 := [
 o3 66 (.faddr 3) [.t 6],
 o0 (.store 1) [.t 66, .i 5]]
def F11c30 : Ac := (cd 65 (.ops F11o31) .skip)
def F11o34 := [
 o3 67 (.faddr 6) [.t 3],
 o3 68 (.load none) [.t 67],
 o3 69 (.bin .and) [.t 68, .i 255],
 o3 70 (.faddr 5) [.t 6],
 o3 71 (.load none) [.t 70],
 o3 72 (.iaddrA 3 1) [.t 5, .t 71],
 o3 73 (.load none) [.t 72],
 o3 74 (.bin .rem) [.t 69, .t 73],
 o3 75 (.bin .add) [.t 74, .i 1],
 o3 76 (.faddr 6) [.t 6],
 o0 (.store 1) [.t 76, .t 75]]
def F11o37 := [
 o3 77 (.faddr 3) [.t 6],
 o3 78 (.load none) [.t 77],
 o3 79 (.bin .lss) [.t 78, .i 3]]
def F11o39 := [
 o3 80 (.faddr 4) [.t 3],
 o3 81 (.load none) [.t 80],
 o3 82 (.bin .and) [.t 81, .i 255],
 o3 83 (.faddr 3) [.t 6],
 o3 84 (.load none) [.t 83],
 o3 85 (.iaddrA 3 1) [.t 5, .t 84],
 o3 86 (.load none) [.t 85],
 o3 87 (.bin .rem) [.t 82, .t 86],
 o3 88 (.bin .add) [.t 87, .i 1],
 o3 89 (.faddr 4) [.t 6],
 o0 (.store 1) [.t 89, .t 88]]
def F11c38 : Ac := (cd 79 (.ops F11o39) .skip)
def F11o42 := [
 o3 90 (.faddr 7) [.t 3],
 o3 91 (.load none) [.t 90],
 o3 92 (.faddr 7) [.t 6],
 o0 (.store 1) [.t 92, .t 91]]
def F11o44 := [
 o3 93 (.load (some 8)) [.t 6],
 o0 (.store 8) [.t 6, .t 93]]
def F11c45 : Ac := .ret
def F11c43 : Ac := (so F11o44 F11c45)
def F11c41 : Ac := (so F11o42 F11c43)
def F11c35 : Ac := (.seq (so F11o37 F11c38) F11c41)
def F11b33 : Ac := (so F11o34 F11c35)
def F11c33 : Ac := (.seq (.gh []) (.seq (.keep [3, 5, 6] [[3], [5], [6]]) F11b33))
def F11b27 : Ac := (.seq (so F11o29 F11c30) F11c33)
def F11c27 : Ac := (.seq (.gh []) (.seq (.keep [3, 5, 6] [[3], [5], [6]]) F11b27))
def F11b21 : Ac := (.seq (so F11o23 F11c24) F11c27)
def F11c21 : Ac := (.seq (.gh []) (.seq (.keep [3, 5, 6] [[3], [5], [6]]) F11b21))
def F11c10 : Ac := (.seq (.block 0 (.loop (.seq (.gh []) (.seq (.keep [3, 5, 6] [[3], [5], [6]]) F11l12)))) F11c21)
def F11c8 : Ac := (so F11o9 F11c10)
def F11b6 : Ac := (so F11o7 F11c8)
def F11c6 : Ac := (.seq (.gh []) (.seq (.keep [1, 3, 5, 6] [[3], [5], [6]]) F11b6))
def F11c4 : Ac := (so F11o5 F11c6)
def F11c2 : Ac := (so F11o3 F11c4)
def F11c0 : Ac := (so F11o1 F11c2)
/-- hansom/hansomref25.Near -/
def F11 : Fn := { np := 3, pb := [], rs := [.c 6 (some 8)], body := F11c0 }
def F12o1 := [
 o3 1 (.box 18) [.t 0],
 o3 2 .mv [.c (.nils)],
 o3 3 .mv [.i 0]]
def F12o4 := [
 o3 20 (.load (some 18)) [.t 1],
 o3 21 (.callf 7) [.t 20],
 om 4 21]
def F12o6 := [
 om 22 4,
 o3 23 (.bin .neq) [.t 22, .i 0]]
def F12o9 := [
 om 24 4,
 o3 2 .mv [.c (.nils)],
 om 3 24]
def F12c10 : Ac := (.seq (.gh [.frz 2]) .ret)
def F12c7 : Ac := (cd 23 (so F12o9 F12c10) .skip)
def F12c5 : Ac := (so F12o6 F12c7)
def F12o17 := [
 o3 2 .mv [.c (.nils)],
 o3 3 .mv [.i 3]]
def F12c18 : Ac := .ret
def F12c15 : Ac := (cd 32 (so F12o17 F12c18) .skip)
def F12o21 := [
 o3 33 (.faddr 0) [.t 1],
 o3 34 (.load none) [.t 33],
 o3 35 (.callf 23) [.t 34],
 o3 36 (.bslice (.agg [.int .u8 0, .sl []]) 1 [0]) [.t 35],
 om 5 36]
def F12o24 := [
 o3 37 (.faddr 1) [.t 1],
 o3 38 (.load none) [.t 37],
 o3 39 .lenL [.t 38],
 o3 40 .mv [.i 0]]
def F12o28 := [
 o3 41 (.bin .lss) [.t 40, .t 39]]
def F12o36 := [
 o3 42 (.iaddrS 3) [.t 38, .t 40],
 o3 43 (.load (some 3)) [.t 42],
 o3 7 (.alloc [.d (.int .u8 0), .d (.int .u8 0), .d (.str [])]) [],
 o0 (.store 3) [.t 7, .t 43]]
def F12o37 := [
 om 44 5,
 o3 45 (.load (some 3)) [.t 7],
 o3 46 (.callf 24) [.t 45],
 o3 47 (.bslice (.agg [.int .u8 0, .sl []]) 1 [0]) [.t 46],
 o3 48 (.append 2 32 false) [.t 44, .t 47],
 om 5 48]
def F12c37 : Ac := (.ops F12o37)
def F12o38 := [
 o3 49 (.bin .add) [.t 40, .i 1],
 om 40 49]
def F12c38 : Ac := (.ops F12o38)
def F12c33 : Ac := (.seq (.block 1 (so F12o36 F12c37)) F12c38)
def F12c29 : Ac := (.seq (cd 41 .skip (.exit 0)) F12c33)
def F12l26 : Ac := (so F12o28 F12c29)
def F12c25 : Ac := (.block 0 (.loop (.seq (.gh []) (.seq (.keep [1, 5, 38, 39, 40] []) F12l26))))
def F12o40 := [
 om 50 5,
 o3 51 (.faddr 2) [.t 1],
 o3 52 (.load none) [.t 51],
 o3 53 (.callf 25) [.t 52],
 o3 54 (.append 2 32 false) [.t 50, .t 53],
 om 5 54]
def F12o43 := [
 o3 55 (.faddr 3) [.t 1],
 o3 56 (.load none) [.t 55],
 o3 57 .lenL [.t 56],
 o3 58 .mv [.i 0]]
def F12o47 := [
 o3 59 (.bin .lss) [.t 58, .t 57]]
def F12o55 := [
 o3 60 (.iaddrS 8) [.t 56, .t 58],
 o3 61 (.load (some 8)) [.t 60],
 o3 9 (.alloc [.d (.int .i64 0), .d (.int .i64 0), .d (.int .u16 0), .d (.int .u8 0), .d (.int .i64 0), .d (.int .i64 0), .d (.int .i64 0), .d (.int .i64 0)]) [],
 o0 (.store 8) [.t 9, .t 61]]
def F12o57 := [
 o3 63 (.load (some 8)) [.t 9],
 o3 64 (.callf 26) [.t 63],
 om 62 64,
 oe 65 0 62,
 oe 66 1 62,
 o3 10 (.alloc [.d (.int .u8 0), .nils]) [],
 o0 (.store 2) [.t 10, .t 65],
 om 11 66]
def F12o58 := [
 om 67 5,
 o3 68 (.load (some 2)) [.t 10],
 o3 69 (.bslice (.agg [.int .u8 0, .sl []]) 1 [0]) [.t 68],
 o3 70 (.append 2 32 false) [.t 67, .t 69],
 om 5 70]
def F12c58 : Ac := (.ops F12o58)
def F12c56 : Ac := (so F12o57 F12c58)
def F12o59 := [
 o3 71 (.bin .add) [.t 58, .i 1],
 om 58 71]
def F12c59 : Ac := (.ops F12o59)
def F12c52 : Ac := (.seq (.block 3 (so F12o55 F12c56)) F12c59)
def F12c48 : Ac := (.seq (cd 59 .skip (.exit 2)) F12c52)
def F12l45 : Ac := (so F12o47 F12c48)
def F12c44 : Ac := (.block 2 (.loop (.seq (.gh []) (.seq (.keep [1, 5, 56, 57, 58] []) F12l45))))
def F12o62 := [
 o3 72 (.faddr 4) [.t 1],
 o3 73 (.load none) [.t 72],
 o3 74 .lenL [.t 73],
 o3 75 .mv [.i 0]]
def F12o66 := [
 o3 76 (.bin .lss) [.t 75, .t 74]]
def F12o74 := [
 o3 77 (.iaddrS 2) [.t 73, .t 75],
 o3 78 (.load (some 2)) [.t 77],
 o3 13 (.alloc [.d (.int .i64 0), .nils]) [],
 o0 (.store 2) [.t 13, .t 78]]
def F12o75 := [
 om 79 5,
 o3 80 (.load (some 2)) [.t 13],
 o3 81 (.callf 27) [.t 80],
 o3 82 (.bslice (.agg [.int .u8 0, .sl []]) 1 [0]) [.t 81],
 o3 83 (.append 2 32 false) [.t 79, .t 82],
 om 5 83]
def F12c75 : Ac := (.ops F12o75)
def F12o76 := [
 o3 84 (.bin .add) [.t 75, .i 1],
 om 75 84]
def F12c76 : Ac := (.ops F12o76)
def F12c71 : Ac := (.seq (.block 5 (so F12o74 F12c75)) F12c76)
def F12c67 : Ac := (.seq (cd 76 .skip (.exit 4)) F12c71)
def F12l64 : Ac := (so F12o66 F12c67)
def F12c63 : Ac := (.block 4 (.loop (.seq (.gh []) (.seq (.keep [1, 5, 73, 74, 75] []) F12l64))))
def F12o78 := [
 om 85 5,
 o3 86 (.faddr 5) [.t 1],
 o3 87 (.load none) [.t 86],
 o3 88 (.callf 28) [.t 87],
 o3 89 (.append 2 32 false) [.t 85, .t 88],
 om 5 89]
def F12o81 := [
 o3 90 (.faddr 6) [.t 1],
 o3 91 (.load none) [.t 90],
 o3 92 .lenL [.t 91],
 o3 93 .mv [.i 0]]
def F12o85 := [
 o3 94 (.bin .lss) [.t 93, .t 92]]
def F12o93 := [
 o3 95 (.iaddrS 5) [.t 91, .t 93],
 o3 96 (.load (some 5)) [.t 95],
 o3 15 (.alloc [.d (.int .i64 0), .d (.int .i64 0), .d (.int .u16 0), .d (.str []), .d (.int .u16 0)]) [],
 o0 (.store 5) [.t 15, .t 96]]
def F12o94 := [
 om 97 5,
 o3 98 (.load (some 5)) [.t 15],
 o3 99 (.bslice (.agg [.int .i64 0, .int .i64 0, .int .u16 0, .str [], .int .u16 0]) 1 [0]) [.t 98],
 o3 100 (.callf 29) [.t 99],
 o3 101 (.bslice (.agg [.int .u8 0, .sl []]) 1 [0]) [.t 100],
 o3 102 (.append 2 32 false) [.t 97, .t 101],
 om 5 102]
def F12c94 : Ac := (.ops F12o94)
def F12o95 := [
 o3 103 (.bin .add) [.t 93, .i 1],
 om 93 103]
def F12c95 : Ac := (.ops F12o95)
def F12c90 : Ac := (.seq (.block 7 (so F12o93 F12c94)) F12c95)
def F12c86 : Ac := (.seq (cd 94 .skip (.exit 6)) F12c90)
def F12l83 : Ac := (so F12o85 F12c86)
def F12c82 : Ac := (.block 6 (.loop (.seq (.gh []) (.seq (.keep [1, 5, 91, 92, 93] []) F12l83))))
def F12o98 := [
 o3 104 (.faddr 7) [.t 1],
 o3 105 (.load none) [.t 104],
 o3 106 .lenL [.t 105],
 o3 107 .mv [.i 0]]
def F12o102 := [
 o3 108 (.bin .lss) [.t 107, .t 106]]
def F12o110 := [
 o3 109 (.iaddrS 4) [.t 105, .t 107],
 o3 110 (.load (some 4)) [.t 109],
 o3 17 (.alloc [.d (.int .i64 0), .d (.int .u16 0), .nils, .nils]) [],
 o0 (.store 4) [.t 17, .t 110]]
def F12o112 := [
 o3 112 (.load (some 4)) [.t 17],
 o3 113 (.callf 30) [.t 112],
 om 111 113,
 oe 114 0 111,
 oe 115 1 111,
 o3 18 (.alloc [.d (.int .u8 0), .nils]) [],
 o0 (.store 2) [.t 18, .t 114],
 om 19 115]
def F12o114 := [
 om 116 5,
 o3 117 (.load (some 2)) [.t 18],
 o3 118 (.bslice (.agg [.int .u8 0, .sl []]) 1 [0]) [.t 117],
 o3 119 (.append 2 32 false) [.t 116, .t 118],
 om 5 119]
def F12o116 := [
 o3 120 (.faddr 3) [.t 17],
 o3 121 (.load none) [.t 120],
 o3 122 .lenL [.t 121],
 o3 123 (.bin .gtr) [.t 122, .i 0]]
def F12o118 := [
 om 124 5,
 o3 125 (.faddr 3) [.t 17],
 o3 126 (.load none) [.t 125],
 o3 127 (.callf 31) [.t 126],
 o3 128 (.bslice (.agg [.int .u8 0, .sl []]) 1 [0]) [.t 127],
 o3 129 (.append 2 32 false) [.t 124, .t 128],
 om 5 129]
def F12c117 : Ac := (cd 123 (.ops F12o118) .skip)
def F12c115 : Ac := (so F12o116 F12c117)
def F12c113 : Ac := (so F12o114 F12c115)
def F12c111 : Ac := (so F12o112 F12c113)
def F12o120 := [
 o3 130 (.bin .add) [.t 107, .i 1],
 om 107 130]
def F12c120 : Ac := (.ops F12o120)
def F12c107 : Ac := (.seq (.block 9 (so F12o110 F12c111)) F12c120)
def F12c103 : Ac := (.seq (cd 108 .skip (.exit 8)) F12c107)
def F12l100 : Ac := (so F12o102 F12c103)
def F12c99 : Ac := (.block 8 (.loop (.seq (.gh []) (.seq (.keep [1, 5, 105, 106, 107] []) F12l100))))
def F12o122 := [
 om 131 5,
 o3 132 (.load (some 18)) [.t 1],
 o3 133 (.callf 32) [.t 132],
 o3 134 (.bslice (.agg [.int .u8 0, .sl []]) 1 [0]) [.t 133],
 o3 135 (.append 2 32 false) [.t 131, .t 134],
 om 2 135,
 o3 3 .mv [.i 0]]
def F12c123 : Ac := .ret
def F12c121 : Ac := (so F12o122 F12c123)
def F12c96 : Ac := (.seq (so F12o98 F12c99) F12c121)
def F12c79 : Ac := (.seq (so F12o81 F12c82) F12c96)
def F12c77 : Ac := (so F12o78 F12c79)
def F12c60 : Ac := (.seq (so F12o62 F12c63) F12c77)
def F12c41 : Ac := (.seq (so F12o43 F12c44) F12c60)
def F12c39 : Ac := (so F12o40 F12c41)
def F12c22 : Ac := (.seq (so F12o24 F12c25) F12c39)
def F12c20 : Ac := (so F12o21 F12c22)
def F12c12 : Ac := (.seq (.seq deadA F12c15) F12c20)
def F12c2 : Ac := (.seq (so F12o4 F12c5) F12c12)
def F12c0 : Ac := (so F12o1 F12c2)
/-- hansom/omf.Records -/
def F12 : Fn := { np := 1, pb := [], rs := [.t 2, .t 3], body := F12c0 }
def F15o1 := [
 o3 1 (.box 18) [.t 0],
 o3 2 .mv [.b false]]
def F15o3 := [
 o3 3 (.faddr 3) [.t 1],
 o3 4 (.load none) [.t 3],
 o3 5 .lenL [.t 4],
 o3 6 (.bin .leq) [.t 5, .i 64],
 om 7 6,
 og 8 (.faddr 4) [.t 1] 7 true,
 og 9 (.load none) [.t 8] 7 true,
 og 10 .lenL [.t 9] 7 true,
 og 11 (.bin .leq) [.t 10, .i 64] 7 true,
 o3 12 .pick [.t 7, .t 11, .b false],
 om 13 12,
 og 14 (.faddr 5) [.t 1] 13 true,
 og 15 (.load none) [.t 14] 13 true,
 og 16 .lenL [.t 15] 13 true,
 og 17 (.bin .leq) [.t 16, .i 256] 13 true,
 o3 18 .pick [.t 13, .t 17, .b false],
 om 19 18,
 og 20 (.faddr 6) [.t 1] 19 true,
 og 21 (.load none) [.t 20] 19 true,
 og 22 .lenL [.t 21] 19 true,
 og 23 (.bin .leq) [.t 22, .i 256] 19 true,
 o3 24 .pick [.t 19, .t 23, .b false],
 om 25 24,
 og 26 (.faddr 2) [.t 1] 25 true,
 og 27 (.load none) [.t 26] 25 true,
 og 28 .lenL [.t 27] 25 true,
 og 29 (.bin .leq) [.t 28, .i 256] 25 true,
 o3 30 .pick [.t 25, .t 29, .b false],
 om 31 30,
 og 32 (.faddr 7) [.t 1] 31 true,
 og 33 (.load none) [.t 32] 31 true,
 og 34 .lenL [.t 33] 31 true,
 og 35 (.bin .leq) [.t 34, .i 512] 31 true,
 o3 36 .pick [.t 31, .t 35, .b false],
 om 2 36]
def F15c4 : Ac := .ret
def F15c2 : Ac := (so F15o3 F15c4)
def F15c0 : Ac := (so F15o1 F15c2)
/-- hansom/omf.many -/
def F15 : Fn := { np := 1, pb := [], rs := [.t 2], body := F15c0 }
def F16o1 := [
 o3 1 (.box 8) [.t 0],
 o3 2 .mv [.b false]]
def F16o4 := [
 o3 5 (.faddr 0) [.t 1],
 o3 6 (.load none) [.t 5],
 o3 7 (.bin .lss) [.t 6, .i 0],
 om 8 7,
 og 9 (.faddr 0) [.t 1] 8 false,
 og 10 (.load none) [.t 9] 8 false,
 og 11 (.bin .gtr) [.t 10, .i 4] 8 false,
 o3 12 .pick [.t 8, .b true, .t 11],
 om 13 12,
 og 14 (.faddr 4) [.t 1] 13 false,
 og 15 (.load none) [.t 14] 13 false,
 og 16 (.bin .lss) [.t 15, .i 0] 13 false,
 o3 17 .pick [.t 13, .b true, .t 16],
 om 18 17,
 og 19 (.faddr 4) [.t 1] 18 false,
 og 20 (.load none) [.t 19] 18 false,
 og 21 (.bin .gtr) [.t 20, .i 65536] 18 false,
 o3 22 .pick [.t 18, .b true, .t 21]]
def F16o7 := [
 o3 2 .mv [.b false]]
def F16c8 : Ac := .ret
def F16c5 : Ac := (cd 22 (so F16o7 F16c8) .skip)
def F16o12 := [
 o3 23 (.faddr 1) [.t 1],
 o3 24 (.load none) [.t 23],
 o3 25 (.bin .neq) [.t 24, .i 0],
 om 26 25,
 og 27 (.faddr 1) [.t 1] 26 true,
 og 28 (.load none) [.t 27] 26 true,
 og 29 (.bin .neq) [.t 28, .i 2] 26 true,
 o3 30 .pick [.t 26, .t 29, .b false],
 om 31 30,
 og 32 (.faddr 1) [.t 1] 31 true,
 og 33 (.load none) [.t 32] 31 true,
 og 34 (.bin .neq) [.t 33, .i 5] 31 true,
 o3 35 .pick [.t 31, .t 34, .b false],
 om 36 35,
 og 37 (.faddr 1) [.t 1] 36 true,
 og 38 (.load none) [.t 37] 36 true,
 og 39 (.bin .neq) [.t 38, .i 6] 36 true,
 o3 40 .pick [.t 36, .t 39, .b false]]
def F16o15 := [
 o3 2 .mv [.b false]]
def F16c16 : Ac := .ret
def F16c13 : Ac := (cd 40 (so F16o15 F16c16) .skip)
def F16o20 := [
 o3 41 (.faddr 0) [.t 1],
 o3 42 (.load none) [.t 41],
 o3 43 (.bin .neq) [.t 42, .i 0],
 om 44 43,
 og 45 (.faddr 2) [.t 1] 44 true,
 og 46 (.load none) [.t 45] 44 true,
 og 47 (.bin .neq) [.t 46, .w 0] 44 true,
 og 48 .mv [.t 47] 44 true,
 og 49 (.faddr 3) [.t 1] 48 false,
 og 50 (.load none) [.t 49] 48 false,
 og 51 (.bin .neq) [.t 50, .y 0] 48 false,
 og 52 .pick [.t 48, .b true, .t 51] 44 true,
 o3 53 .pick [.t 44, .t 52, .b false]]
def F16o23 := [
 o3 2 .mv [.b false]]
def F16c24 : Ac := .ret
def F16c21 : Ac := (cd 53 (so F16o23 F16c24) .skip)
def F16o28 := [
 o3 54 (.faddr 5) [.t 1],
 o3 55 (.load none) [.t 54],
 o3 56 (.faddr 6) [.t 1],
 o3 57 (.load none) [.t 56],
 o3 58 (.faddr 7) [.t 1],
 o3 59 (.load none) [.t 58],
 o3 60 (.build [.d (.int .i64 0), .d (.int .i64 0), .d (.int .i64 0)] [(0, 1), (1, 1), (2, 1)]) [.t 55, .t 57, .t 59],
 o3 61 .mv [.i 0]]
def F16o32 := [
 o3 62 (.bin .lss) [.t 61, .i 3]]
def F16o40 := [
 o3 63 (.indexA 3 1 none) [.t 60, .t 61],
 om 4 63]
def F16o42 := [
 om 64 4,
 o3 65 (.bin .lss) [.t 64, .i 0],
 om 66 65,
 og 67 .mv [.t 4] 66 false,
 og 68 (.bin .gtr) [.t 67, .i 32767] 66 false,
 o3 69 .pick [.t 66, .b true, .t 68]]
def F16o45 := [
 o3 2 .mv [.b false]]
def F16c46 : Ac := .ret
def F16c43 : Ac := (cd 69 (so F16o45 F16c46) .skip)
def F16c41 : Ac := (so F16o42 F16c43)
def F16o48 := [
 o3 70 (.bin .add) [.t 61, .i 1],
 om 61 70]
def F16c48 : Ac := (.ops F16o48)
def F16c37 : Ac := (.seq (.block 1 (so F16o40 F16c41)) F16c48)
def F16c33 : Ac := (.seq (cd 62 .skip (.exit 0)) F16c37)
def F16l30 : Ac := (so F16o32 F16c33)
def F16c29 : Ac := (.block 0 (.loop (.seq (.gh []) (.seq (.keep [60, 61] []) F16l30))))
def F16o50 := [
 o3 2 .mv [.b true]]
def F16c51 : Ac := .ret
def F16b49 : Ac := (so F16o50 F16c51)
def F16c49 : Ac := (.seq (.gh []) (.seq (.keep [] []) F16b49))
def F16b26 : Ac := (.seq (so F16o28 F16c29) F16c49)
def F16c26 : Ac := (.seq (.gh []) (.seq (.keep [1] [[1]]) F16b26))
def F16b18 : Ac := (.seq (so F16o20 F16c21) F16c26)
def F16c18 : Ac := (.seq (.gh []) (.seq (.keep [1] [[1]]) F16b18))
def F16c10 : Ac := (.seq (so F16o12 F16c13) F16c18)
def F16c2 : Ac := (.seq (so F16o4 F16c5) F16c10)
def F16c0 : Ac := (so F16o1 F16c2)
/-- hansom/segs.May -/
def F16 : Fn := { np := 1, pb := [], rs := [.t 2], body := F16c0 }
def F17o1 := [
 o3 2 (.box 18) [.t 0],
 o3 4 .mv [.b false]]
def F17o3 := [
 om 5 1,
 o3 6 (.bin .geq) [.t 5, .i 0],
 om 7 6,
 og 8 .mv [.t 1] 7 true,
 og 9 (.faddr 2) [.t 2] 7 true,
 og 10 (.load none) [.t 9] 7 true,
 og 11 .lenL [.t 10] 7 true,
 og 12 (.bin .leq) [.t 8, .t 11] 7 true,
 o3 13 .pick [.t 7, .t 12, .b false],
 om 4 13]
def F17c4 : Ac := .ret
def F17c2 : Ac := (so F17o3 F17c4)
def F17c0 : Ac := (so F17o1 F17c2)
/-- hansom/omf.named -/
def F17 : Fn := { np := 2, pb := [], rs := [.t 4], body := F17c0 }
def F18o1 := [
 o3 4 .mv [.b false]]
def F18o3 := [
 om 5 0,
 o3 6 (.bin .geq) [.t 5, .i 1],
 om 7 6,
 og 8 .mv [.t 0] 7 true,
 og 9 .mv [.t 1] 7 true,
 og 10 (.bin .leq) [.t 8, .t 9] 7 true,
 o3 11 .pick [.t 7, .t 10, .b false],
 om 4 11]
def F18c4 : Ac := .ret
def F18c2 : Ac := (so F18o3 F18c4)
def F18c0 : Ac := (so F18o1 F18c2)
/-- hansom/omf.in -/
def F18 : Fn := { np := 2, pb := [], rs := [.t 4], body := F18c0 }
def F19o1 := [
 o3 1 (.box 18) [.t 0],
 o3 2 .mv [.i 0]]
def F19o4 := [
 o3 7 (.faddr 7) [.t 1],
 o3 8 (.load none) [.t 7],
 o3 9 .lenL [.t 8],
 o3 10 .mv [.i 0]]
def F19o8 := [
 o3 11 (.bin .lss) [.t 10, .t 9]]
def F19o16 := [
 o3 12 (.iaddrS 4) [.t 8, .t 10],
 o3 13 (.load (some 4)) [.t 12],
 o3 4 (.alloc [.d (.int .i64 0), .d (.int .u16 0), .nils, .nils]) [],
 o0 (.store 4) [.t 4, .t 13]]
def F19o19 := [
 o3 14 (.faddr 0) [.t 4],
 o3 15 (.load none) [.t 14],
 o3 16 (.faddr 3) [.t 1],
 o3 17 (.load none) [.t 16],
 o3 18 .lenL [.t 17],
 o3 19 (.callf 18) [.t 15, .t 18],
 o3 20 (.un .not) [.t 19],
 om 21 20,
 og 22 (.load (some 18)) [.t 1] 21 false,
 og 23 (.faddr 3) [.t 4] 21 false,
 og 24 (.load none) [.t 23] 21 false,
 og 25 (.callf 37) [.t 22, .t 24] 21 false,
 og 26 (.un .not) [.t 25] 21 false,
 o3 27 .pick [.t 21, .b true, .t 26]]
def F19o22 := [
 o3 2 .mv [.i 5]]
def F19c23 : Ac := .ret
def F19c20 : Ac := (cd 27 (so F19o22 F19c23) .skip)
def F19o27 := [
 o3 28 (.faddr 1) [.t 4],
 o3 29 (.load none) [.t 28],
 o3 30 (.toInt .i64) [.t 29],
 o3 31 (.faddr 2) [.t 4],
 o3 32 (.load none) [.t 31],
 o3 33 .lenL [.t 32],
 o3 34 (.bin .add) [.t 30, .t 33],
 o3 35 (.faddr 3) [.t 1],
 o3 36 (.load none) [.t 35],
 o3 37 (.faddr 0) [.t 4],
 o3 38 (.load none) [.t 37],
 o3 39 (.bin .sub) [.t 38, .i 1],
 o3 40 (.iaddrS 8) [.t 36, .t 39],
 o3 41 (.faddr 4) [.t 40],
 o3 42 (.load none) [.t 41],
 o3 43 (.bin .gtr) [.t 34, .t 42]]
def F19o30 := [
 o3 2 .mv [.i 3]]
def F19c31 : Ac := .ret
def F19c28 : Ac := (cd 43 (so F19o30 F19c31) .skip)
def F19o34 := [
 o3 44 (.faddr 3) [.t 4],
 o3 45 (.load none) [.t 44],
 o3 46 .lenL [.t 45],
 o3 47 .mv [.i 0]]
def F19o38 := [
 o3 48 (.bin .lss) [.t 47, .t 46]]
def F19o46 := [
 o3 49 (.iaddrS 8) [.t 45, .t 47],
 o3 50 (.load (some 8)) [.t 49],
 o3 6 (.alloc [.d (.int .i64 0), .d (.int .i64 0), .d (.bool false), .d (.int .i64 0), .d (.int .i64 0), .d (.int .i64 0), .d (.int .i64 0), .d (.int .u16 0)]) [],
 o0 (.store 8) [.t 6, .t 50]]
def F19o48 := [
 o3 51 (.load (some 8)) [.t 6],
 o3 52 (.faddr 2) [.t 4],
 o3 53 (.load none) [.t 52],
 o3 54 .lenL [.t 53],
 o3 55 (.callf 38) [.t 51, .t 54],
 o3 56 (.un .not) [.t 55]]
def F19o51 := [
 o3 2 .mv [.i 3]]
def F19c52 : Ac := .ret
def F19c49 : Ac := (cd 56 (so F19o51 F19c52) .skip)
def F19c47 : Ac := (so F19o48 F19c49)
def F19o54 := [
 o3 57 (.bin .add) [.t 47, .i 1],
 om 47 57]
def F19c54 : Ac := (.ops F19o54)
def F19c43 : Ac := (.seq (.block 3 (so F19o46 F19c47)) F19c54)
def F19c39 : Ac := (.seq (cd 48 .skip (.exit 2)) F19c43)
def F19l36 : Ac := (so F19o38 F19c39)
def F19c35 : Ac := (.block 2 (.loop (.seq (.gh []) (.seq (.keep [1, 4, 8, 9, 10, 45, 46, 47] [[1], [4]]) F19l36))))
def F19c33 : Ac := (so F19o34 F19c35)
def F19c25 : Ac := (.seq (so F19o27 F19c28) F19c33)
def F19c17 : Ac := (.seq (so F19o19 F19c20) F19c25)
def F19o55 := [
 o3 58 (.bin .add) [.t 10, .i 1],
 om 10 58]
def F19b55 : Ac := (.ops F19o55)
def F19c55 : Ac := (.seq (.gh []) (.seq (.keep [1, 8, 9, 10] [[1]]) F19b55))
def F19c13 : Ac := (.seq (.block 1 (so F19o16 F19c17)) F19c55)
def F19c9 : Ac := (.seq (cd 11 .skip (.exit 0)) F19c13)
def F19l6 : Ac := (so F19o8 F19c9)
def F19c5 : Ac := (.block 0 (.loop (.seq (.gh []) (.seq (.keep [1, 8, 9, 10] [[1]]) F19l6))))
def F19o59 := [
 o3 60 (.faddr 9) [.t 1],
 o3 61 (.load none) [.t 60],
 o3 62 (.un .not) [.t 61],
 om 63 62,
 og 64 (.faddr 10) [.t 1] 63 true,
 og 65 (.load (some 8)) [.t 64] 63 true,
 og 66 (.build [.d (.int .i64 0), .d (.int .i64 0), .d (.bool false), .d (.int .i64 0), .d (.int .i64 0), .d (.int .i64 0), .d (.int .i64 0), .d (.int .u16 0)] []) [] 63 true,
 og 67 (.eqa true [.i, .i, .b, .i, .i, .i, .i, .i]) [.t 65, .t 66] 63 true,
 o3 68 .pick [.t 63, .t 67, .b false],
 om 59 68]
def F19o62 := [
 o3 2 .mv [.i 3]]
def F19c63 : Ac := .ret
def F19o65 := [
 o3 70 (.faddr 9) [.t 1],
 o3 71 (.load none) [.t 70],
 o3 72 (.un .not) [.t 71],
 om 69 72]
def F19o68 := [
 o3 2 .mv [.i 0]]
def F19c69 : Ac := .ret
def F19o71 := [
 o3 74 (.load (some 18)) [.t 1],
 o3 75 (.faddr 10) [.t 1],
 o3 76 (.load (some 8)) [.t 75],
 o3 77 (.bslice (.agg [.int .i64 0, .int .i64 0, .bool false, .int .i64 0, .int .i64 0, .int .i64 0, .int .i64 0, .int .u16 0]) 1 [0]) [.t 76],
 o3 78 (.callf 37) [.t 74, .t 77],
 o3 79 (.un .not) [.t 78],
 om 73 79]
def F19o74 := [
 o3 2 .mv [.i 5]]
def F19c75 : Ac := .ret
def F19o77 := [
 o3 81 (.faddr 10) [.t 1],
 o3 82 (.faddr 1) [.t 81],
 o3 83 (.load none) [.t 82],
 o3 84 (.bin .neq) [.t 83, .i 0],
 om 85 84,
 og 86 (.faddr 10) [.t 1] 85 false,
 og 87 (.faddr 0) [.t 86] 85 false,
 og 88 (.load none) [.t 87] 85 false,
 og 89 (.bin .neq) [.t 88, .i 0] 85 false,
 o3 90 .pick [.t 85, .b true, .t 89],
 om 91 90,
 og 92 (.faddr 10) [.t 1] 91 false,
 og 93 (.faddr 2) [.t 92] 91 false,
 og 94 (.load none) [.t 93] 91 false,
 o3 95 .pick [.t 91, .b true, .t 94],
 om 96 95,
 og 97 (.faddr 10) [.t 1] 96 false,
 og 98 (.faddr 3) [.t 97] 96 false,
 og 99 (.load none) [.t 98] 96 false,
 og 100 (.bin .eql) [.t 99, .i 4] 96 false,
 o3 101 .pick [.t 96, .b true, .t 100],
 om 102 101,
 og 103 (.faddr 10) [.t 1] 102 false,
 og 104 (.load (some 8)) [.t 103] 102 false,
 og 105 (.callf 38) [.t 104, .i 1] 102 false,
 og 106 (.un .not) [.t 105] 102 false,
 o3 107 .pick [.t 102, .b true, .t 106],
 om 80 107]
def F19o80 := [
 o3 2 .mv [.i 3]]
def F19c81 : Ac := .ret
def F19c78 : Ac := (cd 80 (so F19o80 F19c81) .skip)
def F19c72 : Ac := (cd 73 (so F19o74 F19c75) (so F19o77 F19c78))
def F19c66 : Ac := (cd 69 (so F19o68 F19c69) (so F19o71 F19c72))
def F19b60 : Ac := (cd 59 (so F19o62 F19c63) (so F19o65 F19c66))
def F19c60 : Ac := (.seq (.gh []) (.seq (.keep [1, 59] [[1]]) F19b60))
def F19o84 := [
 o3 2 .mv [.i 0]]
def F19c85 : Ac := .ret
def F19c83 : Ac := (so F19o84 F19c85)
def F19b56 : Ac := (.seq (.block 4 (so F19o59 F19c60)) F19c83)
def F19c56 : Ac := (.seq (.gh []) (.seq (.keep [1] [[1]]) F19b56))
def F19c2 : Ac := (.seq (so F19o4 F19c5) F19c56)
def F19c0 : Ac := (so F19o1 F19c2)
/-- hansom/omf.rest -/
def F19 : Fn := { np := 1, pb := [], rs := [.t 2], body := F19c0 }
def F20o1 := [
 o3 2 .mv [.i 0]]
def F20o4 := [
 om 3 0,
 o3 4 (.bin .eql) [.t 3, .i 0],
 om 5 4,
 og 6 .mv [.t 0] 5 false,
 og 7 (.bin .eql) [.t 6, .i 4] 5 false,
 o3 8 .pick [.t 5, .b true, .t 7]]
def F20o7 := [
 o3 2 .mv [.i 1]]
def F20c8 : Ac := .ret
def F20c5 : Ac := (cd 8 (so F20o7 F20c8) .skip)
def F20o12 := [
 om 9 0,
 o3 10 (.bin .eql) [.t 9, .i 3]]
def F20o15 := [
 o3 2 .mv [.i 4]]
def F20c16 : Ac := .ret
def F20c13 : Ac := (cd 10 (so F20o15 F20c16) .skip)
def F20o19 := [
 o3 2 .mv [.i 2]]
def F20c20 : Ac := .ret
def F20c18 : Ac := (so F20o19 F20c20)
def F20c10 : Ac := (.seq (so F20o12 F20c13) F20c18)
def F20c2 : Ac := (.seq (so F20o4 F20c5) F20c10)
def F20c0 : Ac := (so F20o1 F20c2)
/-- hansom/hansomref25.Size -/
def F20 : Fn := { np := 1, pb := [], rs := [.t 2], body := F20c0 }
def F37o1 := [
 o3 2 (.box 18) [.t 0],
 o3 4 .mv [.b false]]
def F37o4 := [
 om 7 1,
 o3 8 .lenL [.t 7],
 o3 9 .mv [.i 0]]
def F37o8 := [
 o3 10 (.bin .lss) [.t 9, .t 8]]
def F37o16 := [
 o3 11 (.iaddrS 8) [.t 7, .t 9],
 o3 12 (.load (some 8)) [.t 11],
 o3 6 (.alloc [.d (.int .i64 0), .d (.int .i64 0), .d (.bool false), .d (.int .i64 0), .d (.int .i64 0), .d (.int .i64 0), .d (.int .i64 0), .d (.int .u16 0)]) [],
 o0 (.store 8) [.t 6, .t 12]]
def F37o18 := [
 o3 13 (.load (some 18)) [.t 2],
 o3 14 (.faddr 3) [.t 6],
 o3 15 (.load none) [.t 14],
 o3 16 (.faddr 4) [.t 6],
 o3 17 (.load none) [.t 16],
 o3 18 (.callf 67) [.t 13, .t 15, .t 17],
 o3 19 (.un .not) [.t 18],
 om 20 19,
 og 21 (.load (some 18)) [.t 2] 20 false,
 og 22 (.faddr 5) [.t 6] 20 false,
 og 23 (.load none) [.t 22] 20 false,
 og 24 (.faddr 6) [.t 6] 20 false,
 og 25 (.load none) [.t 24] 20 false,
 og 26 (.callf 67) [.t 21, .t 23, .t 25] 20 false,
 og 27 (.un .not) [.t 26] 20 false,
 o3 28 .pick [.t 20, .b true, .t 27]]
def F37o21 := [
 o3 4 .mv [.b false]]
def F37c22 : Ac := .ret
def F37c19 : Ac := (cd 28 (so F37o21 F37c22) .skip)
def F37c17 : Ac := (so F37o18 F37c19)
def F37o24 := [
 o3 29 (.bin .add) [.t 9, .i 1],
 om 9 29]
def F37c24 : Ac := (.ops F37o24)
def F37c13 : Ac := (.seq (.block 1 (so F37o16 F37c17)) F37c24)
def F37c9 : Ac := (.seq (cd 10 .skip (.exit 0)) F37c13)
def F37l6 : Ac := (so F37o8 F37c9)
def F37c5 : Ac := (.block 0 (.loop (.seq (.gh []) (.seq (.keep [2, 7, 8, 9] [[2]]) F37l6))))
def F37o26 := [
 o3 4 .mv [.b true]]
def F37c27 : Ac := .ret
def F37b25 : Ac := (so F37o26 F37c27)
def F37c25 : Ac := (.seq (.gh []) (.seq (.keep [] []) F37b25))
def F37c2 : Ac := (.seq (so F37o4 F37c5) F37c25)
def F37c0 : Ac := (so F37o1 F37c2)
/-- hansom/omf.fixes -/
def F37 : Fn := { np := 2, pb := [], rs := [.t 4], body := F37c0 }
def F38o1 := [
 o3 2 (.box 8) [.t 0],
 o3 4 .mv [.b false]]
def F38o4 := [
 o3 5 (.faddr 1) [.t 2],
 o3 6 (.load none) [.t 5],
 o3 7 (.bin .lss) [.t 6, .i 0],
 om 8 7,
 og 9 (.faddr 1) [.t 2] 8 false,
 og 10 (.load none) [.t 9] 8 false,
 og 11 (.bin .gtr) [.t 10, .i 4] 8 false,
 o3 12 .pick [.t 8, .b true, .t 11],
 om 13 12,
 og 14 (.faddr 0) [.t 2] 13 false,
 og 15 (.load none) [.t 14] 13 false,
 og 16 (.bin .lss) [.t 15, .i 0] 13 false,
 o3 17 .pick [.t 13, .b true, .t 16],
 om 18 17,
 og 19 (.faddr 0) [.t 2] 18 false,
 og 20 (.load none) [.t 19] 18 false,
 og 21 (.bin .geq) [.t 20, .i 1024] 18 false,
 o3 22 .pick [.t 18, .b true, .t 21],
 om 23 22,
 og 24 (.faddr 0) [.t 2] 23 false,
  { dst := some 25, k := (.load none), xs := [.t 24], g := some (23, false), av := [[29]] },
 og 26 .mv [.t 1] 23 false,
 og 27 (.faddr 1) [.t 2] 23 false,
 og 28 (.load none) [.t 27] 23 false,
  { dst := some 29, k := (.callf 68), xs := [.t 28], g := some (23, false), al := some [] },
 og 30 (.bin .sub) [.t 26, .t 29] 23 false,
 og 31 (.bin .gtr) [.t 25, .t 30] 23 false,
 o3 32 .pick [.t 23, .b true, .t 31]]
def F38o7 := [
 o3 4 .mv [.b false]]
def F38c8 : Ac := .ret
def F38c5 : Ac := (cd 32 (so F38o7 F38c8) .skip)
def F38o12 := [
 o3 33 (.faddr 2) [.t 2],
 o3 34 (.load none) [.t 33],
 om 35 34,
 og 36 (.faddr 1) [.t 2] 35 true,
 og 37 (.load none) [.t 36] 35 true,
 og 38 (.bin .eql) [.t 37, .i 2] 35 true,
 og 39 .mv [.t 38] 35 true,
 og 40 (.faddr 1) [.t 2] 39 false,
 og 41 (.load none) [.t 40] 39 false,
 og 42 (.bin .eql) [.t 41, .i 3] 39 false,
 og 43 .pick [.t 39, .b true, .t 42] 35 true,
 og 44 .mv [.t 43] 35 true,
 og 45 (.faddr 1) [.t 2] 44 false,
 og 46 (.load none) [.t 45] 44 false,
 og 47 (.bin .eql) [.t 46, .i 4] 44 false,
 og 48 .pick [.t 44, .b true, .t 47] 35 true,
 o3 49 .pick [.t 35, .t 48, .b false]]
def F38o15 := [
 o3 4 .mv [.b false]]
def F38c16 : Ac := .ret
def F38c13 : Ac := (cd 49 (so F38o15 F38c16) .skip)
def F38o20 := [
 o3 50 (.faddr 5) [.t 2],
 o3 51 (.load none) [.t 50],
 o3 52 (.callf 69) [.t 51],
 o3 53 (.un .not) [.t 52],
 om 54 53,
 og 55 (.faddr 6) [.t 2] 54 false,
 og 56 (.load none) [.t 55] 54 false,
 og 57 (.bin .lss) [.t 56, .i 1] 54 false,
 o3 58 .pick [.t 54, .b true, .t 57],
 om 59 58,
 og 60 (.faddr 6) [.t 2] 59 false,
 og 61 (.load none) [.t 60] 59 false,
 og 62 (.bin .gtr) [.t 61, .i 32767] 59 false,
 o3 63 .pick [.t 59, .b true, .t 62]]
def F38o23 := [
 o3 4 .mv [.b false]]
def F38c24 : Ac := .ret
def F38c21 : Ac := (cd 63 (so F38o23 F38c24) .skip)
def F38o28 := [
 o3 64 (.faddr 3) [.t 2],
 o3 65 (.load none) [.t 64],
 o3 66 (.callf 69) [.t 65]]
def F38o31 := [
 o3 67 (.faddr 4) [.t 2],
 o3 68 (.load none) [.t 67],
 o3 69 (.bin .geq) [.t 68, .i 1],
 om 70 69,
 og 71 (.faddr 4) [.t 2] 70 true,
 og 72 (.load none) [.t 71] 70 true,
 og 73 (.bin .leq) [.t 72, .i 32767] 70 true,
 o3 74 .pick [.t 70, .t 73, .b false],
 om 4 74]
def F38c32 : Ac := .ret
def F38c29 : Ac := (cd 66 (so F38o31 F38c32) .skip)
def F38o35 := [
 o3 75 (.faddr 3) [.t 2],
 o3 76 (.load none) [.t 75],
 o3 77 (.bin .eql) [.t 76, .i 4],
 om 78 77,
 og 79 (.faddr 3) [.t 2] 78 false,
 og 80 (.load none) [.t 79] 78 false,
 og 81 (.bin .eql) [.t 80, .i 5] 78 false,
 o3 82 .pick [.t 78, .b true, .t 81],
 om 83 82,
 og 84 (.faddr 4) [.t 2] 83 true,
 og 85 (.load none) [.t 84] 83 true,
 og 86 (.bin .eql) [.t 85, .i 0] 83 true,
 o3 87 .pick [.t 83, .t 86, .b false],
 om 4 87]
def F38c36 : Ac := .ret
def F38c34 : Ac := (so F38o35 F38c36)
def F38c26 : Ac := (.seq (so F38o28 F38c29) F38c34)
def F38b18 : Ac := (.seq (so F38o20 F38c21) F38c26)
def F38c18 : Ac := (.seq (.gh []) (.seq (.keep [2] [[2]]) F38b18))
def F38c10 : Ac := (.seq (so F38o12 F38c13) F38c18)
def F38c2 : Ac := (.seq (so F38o4 F38c5) F38c10)
def F38c0 : Ac := (so F38o1 F38c2)
/-- hansom/fixup.May -/
def F38 : Fn := { np := 2, pb := [], rs := [.t 4], body := F38c0 }
def F67o1 := [
 o3 3 (.box 18) [.t 0],
 o3 6 .mv [.b false]]
def F67o4 := [
 om 7 1]
def F67o7 := [
 o3 9 (.bin .eql) [.t 7, .i 0],
 om 8 9]
def F67o10 := [
 om 10 2,
 o3 11 (.faddr 3) [.t 3],
 o3 12 (.load none) [.t 11],
 o3 13 .lenL [.t 12],
 o3 14 (.callf 18) [.t 10, .t 13],
 om 6 14]
def F67c11 : Ac := .ret
def F67o13 := [
 o3 16 (.bin .eql) [.t 7, .i 1],
 om 15 16]
def F67o16 := [
 om 17 2,
 o3 18 (.faddr 4) [.t 3],
 o3 19 (.load none) [.t 18],
 o3 20 .lenL [.t 19],
 o3 21 (.callf 18) [.t 17, .t 20],
 om 6 21]
def F67c17 : Ac := .ret
def F67o19 := [
 o3 23 (.bin .eql) [.t 7, .i 2],
 om 22 23]
def F67o22 := [
 om 24 2,
 o3 25 (.faddr 5) [.t 3],
 o3 26 (.load none) [.t 25],
 o3 27 .lenL [.t 26],
 o3 28 (.callf 18) [.t 24, .t 27],
 om 6 28]
def F67c23 : Ac := .ret
def F67c20 : Ac := (cd 22 (so F67o22 F67c23) .skip)
def F67c14 : Ac := (cd 15 (so F67o16 F67c17) (so F67o19 F67c20))
def F67c8 : Ac := (cd 8 (so F67o10 F67c11) (so F67o13 F67c14))
def F67c5 : Ac := (.block 0 (so F67o7 F67c8))
def F67o26 := [
 o3 6 .mv [.b true]]
def F67c27 : Ac := .ret
def F67c25 : Ac := (so F67o26 F67c27)
def F67c2 : Ac := (.seq (so F67o4 F67c5) F67c25)
def F67c0 : Ac := (so F67o1 F67c2)
/-- hansom/omf.way -/
def F67 : Fn := { np := 3, pb := [], rs := [.t 6], body := F67c0 }
def F68o1 := [
 o3 2 .mv [.i 0]]
def F68o4 := [
 om 3 0]
def F68o8 := [
 o3 5 (.bin .eql) [.t 3, .i 0],
 om 4 5]
def F68o11 := [
 o3 6 (.bin .eql) [.t 3, .i 4],
 om 4 6]
def F68c9 : Ac := (cd 4 .skip (.ops F68o11))
def F68o14 := [
 o3 2 .mv [.i 1]]
def F68c15 : Ac := .ret
def F68o17 := [
 o3 8 (.bin .eql) [.t 3, .i 3],
 om 7 8]
def F68o20 := [
 o3 2 .mv [.i 4]]
def F68c21 : Ac := .ret
def F68c18 : Ac := (cd 7 (so F68o20 F68c21) .skip)
def F68c12 : Ac := (cd 4 (so F68o14 F68c15) (so F68o17 F68c18))
def F68c5 : Ac := (.block 0 (.seq (so F68o8 F68c9) F68c12))
def F68o24 := [
 o3 2 .mv [.i 2]]
def F68c25 : Ac := .ret
def F68c23 : Ac := (so F68o24 F68c25)
def F68c2 : Ac := (.seq (so F68o4 F68c5) F68c23)
def F68c0 : Ac := (so F68o1 F68c2)
/-- hansom/fixup.Size -/
def F68 : Fn := { np := 1, pb := [], rs := [.t 2], body := F68c0 }
def F69o1 := [
 o3 2 .mv [.b false]]
def F69o3 := [
 om 3 0,
 o3 4 (.bin .geq) [.t 3, .i 0],
 om 5 4,
 og 6 .mv [.t 0] 5 true,
 og 7 (.bin .leq) [.t 6, .i 2] 5 true,
 o3 8 .pick [.t 5, .t 7, .b false],
 om 2 8]
def F69c4 : Ac := .ret
def F69c2 : Ac := (so F69o3 F69c4)
def F69c0 : Ac := (so F69o1 F69c2)
/-- hansom/fixup.by -/
def F69 : Fn := { np := 1, pb := [], rs := [.t 2], body := F69c0 }
def tab1 : Nat → Option Fn
  | 3 => some F3
  | 4 => some F4
  | 5 => some F5
  | 7 => some F7
  | 8 => some F8
  | 9 => some F9
  | 10 => some F10
  | 11 => some F11
  | 12 => some F12
  | 15 => some F15
  | 16 => some F16
  | 17 => some F17
  | 18 => some F18
  | 19 => some F19
  | 20 => some F20
  | 37 => some F37
  | 38 => some F38
  | 67 => some F67
  | 68 => some F68
  | 69 => some F69
  | n => none

theorem no_globals : GOk (fun _ _ => none) (fun _ => none) := fun n a h => by cases h
theorem ok3 : FnOk (fun _ _ => none) Try.prog 3 F3 := compF_spec no_globals Try.func3 (by kernel_rfl)
theorem ok4 : FnOk (fun _ _ => none) Try.prog 4 F4 := compF_spec no_globals Try.func4 (by kernel_rfl)
theorem ok5 : FnOk (fun _ _ => none) Try.prog 5 F5 := compF_spec no_globals Try.func5 (by kernel_rfl)
theorem ok7 : FnOk (fun _ _ => none) Try.prog 7 F7 := compF_spec no_globals Try.func7 (by kernel_rfl)
theorem ok8 : FnOk (fun _ _ => none) Try.prog 8 F8 := compF_spec no_globals Try.func8 (by kernel_rfl)
theorem ok9 : FnOk (fun _ _ => none) Try.prog 9 F9 := compF_spec no_globals Try.func9 (by kernel_rfl)
theorem ok10 : FnOk (fun _ _ => none) Try.prog 10 F10 := compF_spec no_globals Try.func10 (by kernel_rfl)
theorem ok11 : FnOk (fun _ _ => none) Try.prog 11 F11 := compF_spec no_globals Try.func11 (by kernel_rfl)
theorem ok12 : FnOk (fun _ _ => none) Try.prog 12 F12 := compF_spec no_globals Try.func12 (by kernel_rfl)
theorem ok15 : FnOk (fun _ _ => none) Try.prog 15 F15 := compF_spec no_globals Try.func15 (by kernel_rfl)
theorem ok16 : FnOk (fun _ _ => none) Try.prog 16 F16 := compF_spec no_globals Try.func16 (by kernel_rfl)
theorem ok17 : FnOk (fun _ _ => none) Try.prog 17 F17 := compF_spec no_globals Try.func17 (by kernel_rfl)
theorem ok18 : FnOk (fun _ _ => none) Try.prog 18 F18 := compF_spec no_globals Try.func18 (by kernel_rfl)
theorem ok19 : FnOk (fun _ _ => none) Try.prog 19 F19 := compF_spec no_globals Try.func19 (by kernel_rfl)
theorem ok20 : FnOk (fun _ _ => none) Try.prog 20 F20 := compF_spec no_globals Try.func20 (by kernel_rfl)
theorem ok37 : FnOk (fun _ _ => none) Try.prog 37 F37 := compF_spec no_globals Try.func37 (by kernel_rfl)
theorem ok38 : FnOk (fun _ _ => none) Try.prog 38 F38 := compF_spec no_globals Try.func38 (by kernel_rfl)
theorem ok67 : FnOk (fun _ _ => none) Try.prog 67 F67 := compF_spec no_globals Try.func67 (by kernel_rfl)
theorem ok68 : FnOk (fun _ _ => none) Try.prog 68 F68 := compF_spec no_globals Try.func68 (by kernel_rfl)
theorem ok69 : FnOk (fun _ _ => none) Try.prog 69 F69 := compF_spec no_globals Try.func69 (by kernel_rfl)
theorem tab1_ok : ∀ f fn, tab1 f = some fn → FnOk (fun _ _ => none) Try.prog f fn := by
  intro f fn h
  unfold tab1 at h
  split at h
  · cases h; exact ok3
  · cases h; exact ok4
  · cases h; exact ok5
  · cases h; exact ok7
  · cases h; exact ok8
  · cases h; exact ok9
  · cases h; exact ok10
  · cases h; exact ok11
  · cases h; exact ok12
  · cases h; exact ok15
  · cases h; exact ok16
  · cases h; exact ok17
  · cases h; exact ok18
  · cases h; exact ok19
  · cases h; exact ok20
  · cases h; exact ok37
  · cases h; exact ok38
  · cases h; exact ok67
  · cases h; exact ok68
  · cases h; exact ok69
  · cases h

end Go.Es.Omc
