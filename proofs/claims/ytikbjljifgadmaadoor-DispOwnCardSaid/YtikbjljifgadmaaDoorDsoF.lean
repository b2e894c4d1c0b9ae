/- The code of the functions that the statement DispOwn reaches, as the interpreter reads it. No condition. -/
import Derived.Test.YtikbjljifgadmaaDoorEsD
import Derived.Test.YtikbjljifgadmaaDoorChecked
import Derived.KernelRfl
set_option linter.unusedVariables false
set_option linter.unusedSimpArgs false
set_option maxRecDepth 100000
set_option maxHeartbeats 4000000
namespace Go.Es.Dso
open Go.Proofs
def F4o1 := [
 o3 2 (.box 10) [.t 0],
 o3 3 (.box 10) [.t 1],
 o3 4 .mv [.b false]]
def F4o3 : List Ao := [
  { dst := some 7, k := (.load (some 10)), xs := [.t 2], av := [[5], [6]] },
  { dst := some 8, k := (.callf 16), xs := [.t 7], av := [[5], [6]], al := some [] },
  { dst := some 9, k := (.load (some 10)), xs := [.t 3], av := [[8], [5], [6]] },
  { dst := some 10, k := (.callf 16), xs := [.t 9], av := [[5], [6]], al := some [] },
  { dst := some 5, k := (.alloc [.d (.bool false), .d (.int .i64 0), .d (.int .i64 0), .d (.int .u8 0), .d (.int .i64 0), .d (.int .i64 0), .d (.int .i64 0), .d (.int .u16 0), .d (.int .u16 0), .d (.int .u16 0)]), xs := [], av := [[8], [10], [6]] },
  { dst := some 6, k := (.alloc [.d (.bool false), .d (.int .i64 0), .d (.int .i64 0), .d (.int .u8 0), .d (.int .i64 0), .d (.int .i64 0), .d (.int .i64 0), .d (.int .u16 0), .d (.int .u16 0), .d (.int .u16 0)]), xs := [], av := [[8], [10], [5]] },
 o0 (.store 10) [.t 5, .t 8],
 o0 (.store 10) [.t 6, .t 10]]
def F4o5 := [
 o3 11 (.faddr 3) [.t 5],
 o3 12 (.load none) [.t 11],
 o3 13 (.faddr 3) [.t 6],
 o0 (.store 1) [.t 13, .t 12]]
def F4o7 := [
 o3 14 (.load (some 10)) [.t 6],
 o3 15 (.callf 16) [.t 14],
 o0 (.store 10) [.t 6, .t 15]]
def F4o10 := [
 o3 16 (.faddr 3) [.t 6],
 o3 17 (.load none) [.t 16],
 o3 18 (.faddr 3) [.t 5],
 o3 19 (.load none) [.t 18],
 o3 20 (.bin .neq) [.t 17, .t 19],
 om 21 20,
 og 22 (.faddr 2) [.t 5] 21 false,
 og 23 (.load none) [.t 22] 21 false,
 og 24 (.bin .gtr) [.t 23, .i 0] 21 false,
 o3 25 .pick [.t 21, .b true, .t 24],
 om 26 25,
 og 27 (.faddr 2) [.t 6] 26 false,
 og 28 (.load none) [.t 27] 26 false,
 og 29 (.bin .gtr) [.t 28, .i 0] 26 false,
 o3 30 .pick [.t 26, .b true, .t 29]]
def F4o13 := [
 o3 31 (.callf 6) [],
 om 4 31]
def F4c14 : Ac := .ret
def F4c11 : Ac := (cd 30 (so F4o13 F4c14) .skip)
def F4o17 := [
 o3 32 (.callf 6) [],
 om 33 32,
 og 34 (.load (some 10)) [.t 5] 33 true,
  { dst := some 35, k := (.callf 17), xs := [.t 34], g := some (33, true), al := some [] },
  { dst := some 36, k := (.load (some 10)), xs := [.t 6], g := some (33, true), av := [[35]] },
  { dst := some 37, k := (.callf 17), xs := [.t 36], g := some (33, true), al := some [] },
 og 38 (.bin .eql) [.t 35, .t 37] 33 true,
  { dst := some 39, k := (.load (some 10)), xs := [.t 5], g := some (33, true), av := [[35], [37]] },
  { dst := some 40, k := (.callf 18), xs := [.t 39], g := some (33, true), al := some [] },
  { dst := some 41, k := (.load (some 10)), xs := [.t 6], g := some (33, true), av := [[35], [37], [40]] },
 og 42 (.callf 18) [.t 41] 33 true,
 og 43 (.bin .eql) [.t 40, .t 42] 33 true,
 og 44 (.eqb false) [.t 38, .t 43] 33 true,
 o3 45 .pick [.t 33, .t 44, .b false],
 om 4 45]
def F4c18 : Ac := .ret
def F4c16 : Ac := (so F4o17 F4c18)
def F4c8 : Ac := (.seq (so F4o10 F4c11) F4c16)
def F4c6 : Ac := (so F4o7 F4c8)
def F4c4 : Ac := (so F4o5 F4c6)
def F4c2 : Ac := (so F4o3 F4c4)
def F4c0 : Ac := (so F4o1 F4c2)
/-- hansom/hansomlaw17.DispOwn -/
def F4 : Fn := { np := 2, pb := [], rs := [.t 4], body := F4c0 }
def F5o1 := [
 o3 2 .mv [.i 0]]
def F5o4 := [
 o3 5 (.callf 19) [.c (.d (.str [65, 68, 68, 32, 79, 82, 32, 65, 68, 67, 32, 83, 66, 66, 32, 65, 78, 68, 32, 83, 85, 66, 32, 88, 79, 82, 32, 67, 77, 80, 32, 80, 85, 83, 72, 32, 80, 79, 80, 32, 68, 65, 65, 32, 68, 65, 83, 32, 65, 65, 65, 32, 65, 65, 83, 32, 73, 78, 67, 32, 68, 69, 67, 32, 74, 79, 32, 74, 78, 79, 32, 74, 66, 32, 74, 78, 66, 32, 74, 90, 32, 74, 78, 90, 32, 74, 66, 69, 32, 74, 65, 32, 74, 83, 32, 74, 78, 83, 32, 74, 80, 32, 74, 78, 80, 32, 74, 76, 32, 74, 71, 69, 32, 74, 76, 69, 32, 74, 71, 32, 84, 69, 83, 84, 32, 88, 67, 72, 71, 32, 77, 79, 86, 32, 76, 69, 65, 32, 67, 66, 87, 32, 67, 87, 68, 32, 67, 65, 76, 76, 32, 67, 65, 76, 76, 70, 32, 87, 65, 73, 84, 32, 80, 85, 83, 72, 70, 32, 80, 79, 80, 70, 32, 83, 65, 72, 70, 32, 76, 65, 72, 70, 32, 77, 79, 86, 83, 66, 32, 77, 79, 86, 83, 87, 32, 67, 77, 80, 83, 66, 32, 67, 77, 80, 83, 87, 32, 83, 84, 79, 83, 66, 32, 83, 84, 79, 83, 87, 32, 76, 79, 68, 83, 66, 32, 76, 79, 68, 83, 87, 32, 83, 67, 65, 83, 66, 32, 83, 67, 65, 83, 87, 32, 82, 69, 84, 32, 82, 69, 84, 70, 32, 76, 69, 83, 32, 76, 68, 83, 32, 73, 78, 84, 32, 73, 78, 84, 79, 32, 73, 82, 69, 84, 32, 82, 79, 76, 32, 82, 79, 82, 32, 82, 67, 76, 32, 82, 67, 82, 32, 83, 72, 76, 32, 83, 72, 82, 32, 83, 65, 82, 32, 65, 65, 77, 32, 65, 65, 68, 32, 88, 76, 65, 84, 32, 69, 83, 67, 32, 76, 79, 79, 80, 78, 90, 32, 76, 79, 79, 80, 90, 32, 76, 79, 79, 80, 32, 74, 67, 88, 90, 32, 73, 78, 32, 79, 85, 84, 32, 74, 77, 80, 32, 74, 77, 80, 70, 32, 72, 76, 84, 32, 67, 77, 67, 32, 78, 79, 84, 32, 78, 69, 71, 32, 77, 85, 76, 32, 73, 77, 85, 76, 32, 68, 73, 86, 32, 73, 68, 73, 86, 32, 67, 76, 67, 32, 83, 84, 67, 32, 67, 76, 73, 32, 83, 84, 73, 32, 67, 76, 68, 32, 83, 84, 68]))],
 o3 6 .lenL [.t 5],
 o3 7 .mv [.i 0]]
def F5o8 := [
 o3 8 (.bin .lss) [.t 7, .t 6]]
def F5o16 := [
 om 9 7,
 o3 10 (.iaddrS 1) [.t 5, .t 7],
 o3 11 (.load none) [.t 10],
 om 3 9,
 om 4 11]
def F5o18 := [
 om 12 4,
 om 13 0,
 o3 14 (.bin .eql) [.t 12, .t 13]]
def F5o21 := [
 om 15 3,
 o3 16 (.bin .add) [.t 15, .i 1],
 om 2 16]
def F5c22 : Ac := .ret
def F5c19 : Ac := (cd 14 (so F5o21 F5c22) .skip)
def F5c17 : Ac := (so F5o18 F5c19)
def F5o24 := [
 o3 17 (.bin .add) [.t 7, .i 1],
 om 7 17]
def F5c24 : Ac := (.ops F5o24)
def F5c13 : Ac := (.seq (.block 1 (so F5o16 F5c17)) F5c24)
def F5c9 : Ac := (.seq (cd 8 .skip (.exit 0)) F5c13)
def F5l6 : Ac := (so F5o8 F5c9)
def F5c5 : Ac := (.block 0 (.loop (.seq (.gh [.frz 5]) (.seq (.keep [0, 5, 6, 7] []) F5l6))))
def F5o26 := [
 o3 2 .mv [.i 0]]
def F5c27 : Ac := .ret
def F5b25 : Ac := (so F5o26 F5c27)
def F5c25 : Ac := (.seq (.gh []) (.seq (.keep [] []) F5b25))
def F5c2 : Ac := (.seq (so F5o4 F5c5) F5c25)
def F5c0 : Ac := (so F5o1 F5c2)
/-- hansom/disp.Find -/
def F5 : Fn := { np := 1, pb := [], rs := [.t 2], body := F5c0 }
def F6o1 := [
 o3 0 .mv [.b false]]
def F6o3 := [
 o3 1 (.build [.d (.bool false), .d (.int .i64 0), .d (.int .i64 0), .d (.int .u8 0), .d (.int .i64 0), .d (.int .i64 0), .d (.int .i64 0), .d (.int .u16 0), .d (.int .u16 0), .d (.int .u16 0)] [(3, 1)]) [.y 144],
 o3 2 (.callf 17) [.t 1],
 o3 3 (.bin .eql) [.t 2, .c (.d (.str [88, 67, 72, 71, 32, 65, 88, 44, 65, 88]))],
 om 4 3,
 og 5 (.callf 5) [.c (.d (.str [83, 84, 68]))] 4 true,
 og 6 (.bin .eql) [.t 5, .i 95] 4 true,
 o3 7 .pick [.t 4, .t 6, .b false],
 om 8 7,
 og 9 (.callf 7) [.i 32] 8 true,
 og 10 (.bin .eql) [.t 9, .c (.d (.str [74, 71]))] 8 true,
 o3 11 .pick [.t 8, .t 10, .b false],
 om 0 11]
def F6c4 : Ac := .ret
def F6c2 : Ac := (so F6o3 F6c4)
def F6c0 : Ac := (so F6o1 F6c2)
/-- hansom/hansomlaw17.awake -/
def F6 : Fn := { np := 0, pb := [], rs := [.t 0], body := F6c0 }
def F7o1 := [
 o3 2 .mv [.c (.d (.str []))]]
def F7o3 := [
 om 3 0,
 o3 4 (.bin .sub) [.t 3, .i 1],
 o3 5 (.callf 20) [.c (.d (.str [65, 68, 68, 32, 79, 82, 32, 65, 68, 67, 32, 83, 66, 66, 32, 65, 78, 68, 32, 83, 85, 66, 32, 88, 79, 82, 32, 67, 77, 80, 32, 80, 85, 83, 72, 32, 80, 79, 80, 32, 68, 65, 65, 32, 68, 65, 83, 32, 65, 65, 65, 32, 65, 65, 83, 32, 73, 78, 67, 32, 68, 69, 67, 32, 74, 79, 32, 74, 78, 79, 32, 74, 66, 32, 74, 78, 66, 32, 74, 90, 32, 74, 78, 90, 32, 74, 66, 69, 32, 74, 65, 32, 74, 83, 32, 74, 78, 83, 32, 74, 80, 32, 74, 78, 80, 32, 74, 76, 32, 74, 71, 69, 32, 74, 76, 69, 32, 74, 71, 32, 84, 69, 83, 84, 32, 88, 67, 72, 71, 32, 77, 79, 86, 32, 76, 69, 65, 32, 67, 66, 87, 32, 67, 87, 68, 32, 67, 65, 76, 76, 32, 67, 65, 76, 76, 70, 32, 87, 65, 73, 84, 32, 80, 85, 83, 72, 70, 32, 80, 79, 80, 70, 32, 83, 65, 72, 70, 32, 76, 65, 72, 70, 32, 77, 79, 86, 83, 66, 32, 77, 79, 86, 83, 87, 32, 67, 77, 80, 83, 66, 32, 67, 77, 80, 83, 87, 32, 83, 84, 79, 83, 66, 32, 83, 84, 79, 83, 87, 32, 76, 79, 68, 83, 66, 32, 76, 79, 68, 83, 87, 32, 83, 67, 65, 83, 66, 32, 83, 67, 65, 83, 87, 32, 82, 69, 84, 32, 82, 69, 84, 70, 32, 76, 69, 83, 32, 76, 68, 83, 32, 73, 78, 84, 32, 73, 78, 84, 79, 32, 73, 82, 69, 84, 32, 82, 79, 76, 32, 82, 79, 82, 32, 82, 67, 76, 32, 82, 67, 82, 32, 83, 72, 76, 32, 83, 72, 82, 32, 83, 65, 82, 32, 65, 65, 77, 32, 65, 65, 68, 32, 88, 76, 65, 84, 32, 69, 83, 67, 32, 76, 79, 79, 80, 78, 90, 32, 76, 79, 79, 80, 90, 32, 76, 79, 79, 80, 32, 74, 67, 88, 90, 32, 73, 78, 32, 79, 85, 84, 32, 74, 77, 80, 32, 74, 77, 80, 70, 32, 72, 76, 84, 32, 67, 77, 67, 32, 78, 79, 84, 32, 78, 69, 71, 32, 77, 85, 76, 32, 73, 77, 85, 76, 32, 68, 73, 86, 32, 73, 68, 73, 86, 32, 67, 76, 67, 32, 83, 84, 67, 32, 67, 76, 73, 32, 83, 84, 73, 32, 67, 76, 68, 32, 83, 84, 68])), .t 4],
 om 2 5]
def F7c4 : Ac := .ret
def F7c2 : Ac := (so F7o3 F7c4)
def F7c0 : Ac := (so F7o1 F7c2)
/-- hansom/disp.Name -/
def F7 : Fn := { np := 1, pb := [], rs := [.t 2], body := F7c0 }
def F8o1 := [
 o3 2 .mv [.c (.d (.str []))]]
def F8o4 := [
 om 3 0,
 o3 4 (.bin .lss) [.t 3, .i 1],
 om 5 4,
 og 6 .mv [.t 0] 5 false,
 og 7 (.bin .gtr) [.t 6, .i 95] 5 false,
 o3 8 .pick [.t 5, .b true, .t 7]]
def F8o7 := [
 o3 2 .mv [.c (.d (.str [63]))]]
def F8c8 : Ac := .ret
def F8c5 : Ac := (cd 8 (so F8o7 F8c8) .skip)
def F8o11 := [
 om 9 0,
 o3 10 (.bin .sub) [.t 9, .i 1],
 o3 11 (.callf 21) [.c (.d (.str [65, 68, 68, 32, 79, 82, 32, 65, 68, 67, 32, 83, 66, 66, 32, 65, 78, 68, 32, 83, 85, 66, 32, 88, 79, 82, 32, 67, 77, 80, 32, 80, 85, 83, 72, 32, 80, 79, 80, 32, 68, 65, 65, 32, 68, 65, 83, 32, 65, 65, 65, 32, 65, 65, 83, 32, 73, 78, 67, 32, 68, 69, 67, 32, 74, 79, 32, 74, 78, 79, 32, 74, 66, 32, 74, 78, 66, 32, 74, 90, 32, 74, 78, 90, 32, 74, 66, 69, 32, 74, 65, 32, 74, 83, 32, 74, 78, 83, 32, 74, 80, 32, 74, 78, 80, 32, 74, 76, 32, 74, 71, 69, 32, 74, 76, 69, 32, 74, 71, 32, 84, 69, 83, 84, 32, 88, 67, 72, 71, 32, 77, 79, 86, 32, 76, 69, 65, 32, 67, 66, 87, 32, 67, 87, 68, 32, 67, 65, 76, 76, 32, 67, 65, 76, 76, 70, 32, 87, 65, 73, 84, 32, 80, 85, 83, 72, 70, 32, 80, 79, 80, 70, 32, 83, 65, 72, 70, 32, 76, 65, 72, 70, 32, 77, 79, 86, 83, 66, 32, 77, 79, 86, 83, 87, 32, 67, 77, 80, 83, 66, 32, 67, 77, 80, 83, 87, 32, 83, 84, 79, 83, 66, 32, 83, 84, 79, 83, 87, 32, 76, 79, 68, 83, 66, 32, 76, 79, 68, 83, 87, 32, 83, 67, 65, 83, 66, 32, 83, 67, 65, 83, 87, 32, 82, 69, 84, 32, 82, 69, 84, 70, 32, 76, 69, 83, 32, 76, 68, 83, 32, 73, 78, 84, 32, 73, 78, 84, 79, 32, 73, 82, 69, 84, 32, 82, 79, 76, 32, 82, 79, 82, 32, 82, 67, 76, 32, 82, 67, 82, 32, 83, 72, 76, 32, 83, 72, 82, 32, 83, 65, 82, 32, 65, 65, 77, 32, 65, 65, 68, 32, 88, 76, 65, 84, 32, 69, 83, 67, 32, 76, 79, 79, 80, 78, 90, 32, 76, 79, 79, 80, 90, 32, 76, 79, 79, 80, 32, 74, 67, 88, 90, 32, 73, 78, 32, 79, 85, 84, 32, 74, 77, 80, 32, 74, 77, 80, 70, 32, 72, 76, 84, 32, 67, 77, 67, 32, 78, 79, 84, 32, 78, 69, 71, 32, 77, 85, 76, 32, 73, 77, 85, 76, 32, 68, 73, 86, 32, 73, 68, 73, 86, 32, 67, 76, 67, 32, 83, 84, 67, 32, 67, 76, 73, 32, 83, 84, 73, 32, 67, 76, 68, 32, 83, 84, 68, 32])), .t 10],
 om 2 11]
def F8c12 : Ac := .ret
def F8c10 : Ac := (so F8o11 F8c12)
def F8c2 : Ac := (.seq (so F8o4 F8c5) F8c10)
def F8c0 : Ac := (so F8o1 F8c2)
/-- hansom/hansomref04.Name -/
def F8 : Fn := { np := 1, pb := [], rs := [.t 2], body := F8c0 }
def F9o1 := [
 o3 2 .mv [.c (.d (.str []))]]
def F9o3 := [
 om 3 0,
 o3 4 (.callf 20) [.c (.d (.str [65, 88, 32, 67, 88, 32, 68, 88, 32, 66, 88, 32, 83, 80, 32, 66, 80, 32, 83, 73, 32, 68, 73])), .t 3],
 om 2 4]
def F9c4 : Ac := .ret
def F9c2 : Ac := (so F9o3 F9c4)
def F9c0 : Ac := (so F9o1 F9c2)
/-- hansom/disp.Reg -/
def F9 : Fn := { np := 1, pb := [], rs := [.t 2], body := F9c0 }
def F10o1 := [
 o3 2 .mv [.c (.d (.str []))]]
def F10o3 := [
 o3 3 (.bslice (.str []) 8 [0, 1, 2, 3, 4, 5, 6, 7]) [.c (.d (.str [65, 88])), .c (.d (.str [67, 88])), .c (.d (.str [68, 88])), .c (.d (.str [66, 88])), .c (.d (.str [83, 80])), .c (.d (.str [66, 80])), .c (.d (.str [83, 73])), .c (.d (.str [68, 73]))],
 om 4 0,
 o3 5 (.callf 22) [.t 3, .t 4],
 om 2 5]
def F10c4 : Ac := .ret
def F10c2 : Ac := (so F10o3 F10c4)
def F10c0 : Ac := (so F10o1 F10c2)
/-- hansom/hansomref17.Reg -/
def F10 : Fn := { np := 1, pb := [], rs := [.t 2], body := F10c0 }
def F11o1 := [
 o3 2 .mv [.c (.d (.str []))]]
def F11o3 := [
 om 3 0,
 o3 4 (.callf 20) [.c (.d (.str [65, 76, 32, 67, 76, 32, 68, 76, 32, 66, 76, 32, 65, 72, 32, 67, 72, 32, 68, 72, 32, 66, 72])), .t 3],
 om 2 4]
def F11c4 : Ac := .ret
def F11c2 : Ac := (so F11o3 F11c4)
def F11c0 : Ac := (so F11o1 F11c2)
/-- hansom/disp.Byte -/
def F11 : Fn := { np := 1, pb := [], rs := [.t 2], body := F11c0 }
def F12o1 := [
 o3 2 .mv [.c (.d (.str []))]]
def F12o3 := [
 o3 3 (.bslice (.str []) 8 [0, 1, 2, 3, 4, 5, 6, 7]) [.c (.d (.str [65, 76])), .c (.d (.str [67, 76])), .c (.d (.str [68, 76])), .c (.d (.str [66, 76])), .c (.d (.str [65, 72])), .c (.d (.str [67, 72])), .c (.d (.str [68, 72])), .c (.d (.str [66, 72]))],
 om 4 0,
 o3 5 (.callf 22) [.t 3, .t 4],
 om 2 5]
def F12c4 : Ac := .ret
def F12c2 : Ac := (so F12o3 F12c4)
def F12c0 : Ac := (so F12o1 F12c2)
/-- hansom/hansomref17.Byte -/
def F12 : Fn := { np := 1, pb := [], rs := [.t 2], body := F12c0 }
def F13o1 := [
 o3 2 .mv [.c (.d (.str []))]]
def F13o3 := [
 om 3 0,
 o3 4 (.callf 20) [.c (.d (.str [69, 83, 32, 67, 83, 32, 83, 83, 32, 68, 83])), .t 3],
 om 2 4]
def F13c4 : Ac := .ret
def F13c2 : Ac := (so F13o3 F13c4)
def F13c0 : Ac := (so F13o1 F13c2)
/-- hansom/disp.Seg -/
def F13 : Fn := { np := 1, pb := [], rs := [.t 2], body := F13c0 }
def F14o1 := [
 o3 2 .mv [.c (.d (.str []))]]
def F14o3 := [
 o3 3 (.bslice (.str []) 4 [0, 1, 2, 3]) [.c (.d (.str [69, 83])), .c (.d (.str [67, 83])), .c (.d (.str [83, 83])), .c (.d (.str [68, 83]))],
 om 4 0,
 o3 5 (.callf 22) [.t 3, .t 4],
 om 2 5]
def F14c4 : Ac := .ret
def F14c2 : Ac := (so F14o3 F14c4)
def F14c0 : Ac := (so F14o1 F14c2)
/-- hansom/hansomref17.Seg -/
def F14 : Fn := { np := 1, pb := [], rs := [.t 2], body := F14c0 }
def F15o1 := [
 o3 2 .mv [.i 0]]
def F15o3 := [
 om 3 0,
 o3 4 (.callf 23) [.c (.d (.str [65, 68, 68, 32, 79, 82, 32, 65, 68, 67, 32, 83, 66, 66, 32, 65, 78, 68, 32, 83, 85, 66, 32, 88, 79, 82, 32, 67, 77, 80, 32, 80, 85, 83, 72, 32, 80, 79, 80, 32, 68, 65, 65, 32, 68, 65, 83, 32, 65, 65, 65, 32, 65, 65, 83, 32, 73, 78, 67, 32, 68, 69, 67, 32, 74, 79, 32, 74, 78, 79, 32, 74, 66, 32, 74, 78, 66, 32, 74, 90, 32, 74, 78, 90, 32, 74, 66, 69, 32, 74, 65, 32, 74, 83, 32, 74, 78, 83, 32, 74, 80, 32, 74, 78, 80, 32, 74, 76, 32, 74, 71, 69, 32, 74, 76, 69, 32, 74, 71, 32, 84, 69, 83, 84, 32, 88, 67, 72, 71, 32, 77, 79, 86, 32, 76, 69, 65, 32, 67, 66, 87, 32, 67, 87, 68, 32, 67, 65, 76, 76, 32, 67, 65, 76, 76, 70, 32, 87, 65, 73, 84, 32, 80, 85, 83, 72, 70, 32, 80, 79, 80, 70, 32, 83, 65, 72, 70, 32, 76, 65, 72, 70, 32, 77, 79, 86, 83, 66, 32, 77, 79, 86, 83, 87, 32, 67, 77, 80, 83, 66, 32, 67, 77, 80, 83, 87, 32, 83, 84, 79, 83, 66, 32, 83, 84, 79, 83, 87, 32, 76, 79, 68, 83, 66, 32, 76, 79, 68, 83, 87, 32, 83, 67, 65, 83, 66, 32, 83, 67, 65, 83, 87, 32, 82, 69, 84, 32, 82, 69, 84, 70, 32, 76, 69, 83, 32, 76, 68, 83, 32, 73, 78, 84, 32, 73, 78, 84, 79, 32, 73, 82, 69, 84, 32, 82, 79, 76, 32, 82, 79, 82, 32, 82, 67, 76, 32, 82, 67, 82, 32, 83, 72, 76, 32, 83, 72, 82, 32, 83, 65, 82, 32, 65, 65, 77, 32, 65, 65, 68, 32, 88, 76, 65, 84, 32, 69, 83, 67, 32, 76, 79, 79, 80, 78, 90, 32, 76, 79, 79, 80, 90, 32, 76, 79, 79, 80, 32, 74, 67, 88, 90, 32, 73, 78, 32, 79, 85, 84, 32, 74, 77, 80, 32, 74, 77, 80, 70, 32, 72, 76, 84, 32, 67, 77, 67, 32, 78, 79, 84, 32, 78, 69, 71, 32, 77, 85, 76, 32, 73, 77, 85, 76, 32, 68, 73, 86, 32, 73, 68, 73, 86, 32, 67, 76, 67, 32, 83, 84, 67, 32, 67, 76, 73, 32, 83, 84, 73, 32, 67, 76, 68, 32, 83, 84, 68, 32])), .t 3],
 om 2 4]
def F15c4 : Ac := .ret
def F15c2 : Ac := (so F15o3 F15c4)
def F15c0 : Ac := (so F15o1 F15c2)
/-- hansom/hansomref04.Find -/
def F15 : Fn := { np := 1, pb := [], rs := [.t 2], body := F15c0 }
def F16o1 := [
 o3 1 (.box 10) [.t 0],
 o3 2 (.alloc [.d (.bool false), .d (.int .i64 0), .d (.int .i64 0), .d (.int .u8 0), .d (.int .i64 0), .d (.int .i64 0), .d (.int .i64 0), .d (.int .u16 0), .d (.int .u16 0), .d (.int .u16 0)]) []]
def F16o3 := [
 o3 7 (.faddr 3) [.t 1],
 o3 8 (.load none) [.t 7],
 o3 9 (.faddr 0) [.t 1],
 o3 10 (.load none) [.t 9],
 o3 11 (.build [.d (.bool false), .d (.int .i64 0), .d (.int .i64 0), .d (.int .u8 0), .d (.int .i64 0), .d (.int .i64 0), .d (.int .i64 0), .d (.int .u16 0), .d (.int .u16 0), .d (.int .u16 0)] [(3, 1), (0, 1)]) [.t 8, .t 10],
 o0 (.store 10) [.t 2, .t 11]]
def F16o5 := [
 o3 12 (.faddr 5) [.t 1],
 o3 13 (.load none) [.t 12],
 o3 14 (.bin .and) [.t 13, .i 7],
 o3 15 (.faddr 5) [.t 2],
 o0 (.store 1) [.t 15, .t 14]]
def F16o7 := [
 o3 17 (.load (some 10)) [.t 2],
 o3 18 (.callf 24) [.t 17],
 om 16 18,
 oe 19 0 16,
 oe 20 1 16,
 o3 3 (.alloc [.d (.int .i64 0), .d (.int .i64 0), .d (.int .i64 0), .d (.bool false)]) [],
 o0 (.store 4) [.t 3, .t 19],
 om 4 20]
def F16o10 := [
 om 21 4,
 o3 22 (.un .not) [.t 21]]
def F16o13 := [
 o3 23 (.build [.d (.bool false), .d (.int .i64 0), .d (.int .i64 0), .d (.int .u8 0), .d (.int .i64 0), .d (.int .i64 0), .d (.int .i64 0), .d (.int .u16 0), .d (.int .u16 0), .d (.int .u16 0)] [(3, 1)]) [.y 144],
 o0 (.store 10) [.t 2, .t 23]]
def F16c14 : Ac := .ret
def F16c11 : Ac := (cd 22 (so F16o13 F16c14) .skip)
def F16o18 := [
 o3 24 (.faddr 3) [.t 3],
 o3 25 (.load none) [.t 24],
 o3 26 (.un .not) [.t 25]]
def F16o20 := [
 o3 27 (.faddr 5) [.t 2],
 o0 (.store 1) [.t 27, .i 0]]
def F16o22 := [
 o3 28 (.faddr 4) [.t 1],
 o3 29 (.load none) [.t 28],
 o3 30 (.bin .and) [.t 29, .i 3],
 o3 31 (.faddr 6) [.t 1],
  { dst := some 32, k := (.load none), xs := [.t 31], av := [[2]] },
 o3 33 (.bin .and) [.t 32, .i 7],
 o3 34 (.faddr 4) [.t 2],
  { dst := none, k := (.store 1), xs := [.t 34, .t 30], al := some [[2]] },
 o3 35 (.faddr 6) [.t 2],
 o0 (.store 1) [.t 35, .t 33]]
def F16o24 := [
 o3 36 (.faddr 4) [.t 2],
 o3 37 (.load none) [.t 36],
 o3 38 (.faddr 6) [.t 2],
 o3 39 (.load none) [.t 38],
 o3 40 (.callf 25) [.t 37, .t 39]]
def F16o27 := [
 o3 42 (.bin .eql) [.t 40, .i 1],
 om 41 42]
def F16o29 := [
 o3 43 (.faddr 7) [.t 1],
 o3 44 (.load none) [.t 43],
 o3 45 (.bin .rem) [.t 44, .w 256],
 o3 46 (.toInt .u8) [.t 45],
 o3 47 (.callf 26) [.t 46],
 o3 48 (.faddr 7) [.t 2],
 o0 (.store 1) [.t 48, .t 47]]
def F16o31 := [
 o3 50 (.bin .eql) [.t 40, .i 2],
 om 49 50]
def F16o33 := [
 o3 51 (.faddr 7) [.t 1],
 o3 52 (.load none) [.t 51],
 o3 53 (.faddr 7) [.t 2],
 o0 (.store 1) [.t 53, .t 52]]
def F16c32 : Ac := (cd 49 (.ops F16o33) .skip)
def F16c28 : Ac := (cd 41 (.ops F16o29) (so F16o31 F16c32))
def F16c25 : Ac := (.block 0 (so F16o27 F16c28))
def F16c23 : Ac := (so F16o24 F16c25)
def F16c19 : Ac := (cd 26 (.ops F16o20) (so F16o22 F16c23))
def F16o36 := [
 o3 54 (.faddr 1) [.t 3],
 o3 55 (.load none) [.t 54],
 om 5 55]
def F16o39 := [
 om 56 5,
 o3 57 (.callf 27) [.t 56],
 o3 58 (.bin .eql) [.t 57, .i 0]]
def F16o41 := [
 o3 59 (.faddr 2) [.t 3],
 o3 60 (.load none) [.t 59],
 om 5 60]
def F16c40 : Ac := (cd 58 (.ops F16o41) .skip)
def F16o45 := [
 om 61 5]
def F16o48 := [
 o3 63 (.bin .eql) [.t 61, .i 6],
 om 62 63]
def F16o51 := [
 o3 64 (.faddr 8) [.t 1],
 o3 65 (.load none) [.t 64],
 o3 66 (.bin .rem) [.t 65, .w 256],
 o3 67 (.faddr 8) [.t 2],
 o0 (.store 1) [.t 67, .t 66]]
def F16o53 := [
 o3 68 (.faddr 0) [.t 3],
 o3 69 (.load none) [.t 68],
 o3 70 (.bin .eql) [.t 69, .i 70],
 om 71 70,
 og 72 (.faddr 0) [.t 3] 71 false,
 og 73 (.load none) [.t 72] 71 false,
 og 74 (.bin .eql) [.t 73, .i 71] 71 false,
 o3 75 .pick [.t 71, .b true, .t 74]]
def F16o55 := [
 o3 76 (.faddr 8) [.t 2],
 o0 (.store 1) [.t 76, .w 10]]
def F16c54 : Ac := (cd 75 (.ops F16o55) .skip)
def F16c52 : Ac := (so F16o53 F16c54)
def F16o59 := [
 o3 78 (.bin .eql) [.t 61, .i 8],
 om 77 78]
def F16o62 := [
 o3 79 (.bin .eql) [.t 61, .i 9],
 om 77 79]
def F16c60 : Ac := (cd 77 .skip (.ops F16o62))
def F16o64 := [
 o3 80 (.faddr 8) [.t 1],
 o3 81 (.load none) [.t 80],
 o3 82 (.bin .rem) [.t 81, .w 256],
 o3 83 (.toInt .u8) [.t 82],
 o3 84 (.callf 26) [.t 83],
 o3 85 (.faddr 8) [.t 2],
 o0 (.store 1) [.t 85, .t 84]]
def F16o67 := [
 o3 87 (.bin .eql) [.t 61, .i 7],
 om 86 87]
def F16o71 := [
 o3 88 (.bin .eql) [.t 61, .i 10],
 om 86 88]
def F16o75 := [
 o3 89 (.bin .eql) [.t 61, .i 12],
 om 86 89]
def F16o78 := [
 o3 90 (.bin .eql) [.t 61, .i 13],
 om 86 90]
def F16c76 : Ac := (cd 86 .skip (.ops F16o78))
def F16c72 : Ac := (cd 86 .skip (so F16o75 F16c76))
def F16c68 : Ac := (cd 86 .skip (so F16o71 F16c72))
def F16o80 := [
 o3 91 (.faddr 8) [.t 1],
 o3 92 (.load none) [.t 91],
 o3 93 (.faddr 8) [.t 2],
 o0 (.store 1) [.t 93, .t 92]]
def F16o82 := [
 o3 95 (.bin .eql) [.t 61, .i 11],
 om 94 95]
def F16o84 := [
 o3 96 (.faddr 8) [.t 1],
 o3 97 (.load none) [.t 96],
 o3 98 (.faddr 9) [.t 1],
  { dst := some 99, k := (.load none), xs := [.t 98], av := [[2]] },
 o3 100 (.faddr 8) [.t 2],
  { dst := none, k := (.store 1), xs := [.t 100, .t 97], al := some [[2]] },
 o3 101 (.faddr 9) [.t 2],
 o0 (.store 1) [.t 101, .t 99]]
def F16c83 : Ac := (cd 94 (.ops F16o84) .skip)
def F16b79 : Ac := (cd 86 (.ops F16o80) (so F16o82 F16c83))
def F16c79 : Ac := (.seq (.gh []) (.seq (.keep [1, 2, 3, 61, 86] [[1], [2], [3]]) F16b79))
def F16b63 : Ac := (cd 77 (.ops F16o64) (.seq (so F16o67 F16c68) F16c79))
def F16c63 : Ac := (.seq (.gh []) (.seq (.keep [1, 2, 3, 61, 77] [[1], [2], [3]]) F16b63))
def F16c49 : Ac := (cd 62 (so F16o51 F16c52) (.seq (so F16o59 F16c60) F16c63))
def F16c46 : Ac := (.block 1 (so F16o48 F16c49))
def F16o88 := [
 o3 102 (.faddr 0) [.t 3],
 o3 103 (.load none) [.t 102],
 o3 104 (.callf 28) [.t 103],
 om 6 104]
def F16o90 := [
 om 105 6,
 o3 106 (.bin .gtr) [.t 105, .i 0],
 om 107 106,
 og 108 (.faddr 1) [.t 1] 107 true,
 og 109 (.load none) [.t 108] 107 true,
 og 110 (.bin .and) [.t 109, .i 3] 107 true,
 og 111 (.bin .gtr) [.t 110, .i 0] 107 true,
 o3 112 .pick [.t 107, .t 111, .b false]]
def F16o93 := [
 o3 113 (.faddr 1) [.t 2],
 o0 (.store 1) [.t 113, .i 2]]
def F16o95 := [
 om 114 6,
 o3 115 (.bin .eql) [.t 114, .i 2],
 om 116 115,
 og 117 (.faddr 1) [.t 1] 116 true,
 og 118 (.load none) [.t 117] 116 true,
 og 119 (.bin .and) [.t 118, .i 1] 116 true,
 og 120 (.bin .eql) [.t 119, .i 1] 116 true,
 o3 121 .pick [.t 116, .t 120, .b false]]
def F16o97 := [
 o3 122 (.faddr 1) [.t 2],
 o0 (.store 1) [.t 122, .i 1]]
def F16c96 : Ac := (cd 121 (.ops F16o97) .skip)
def F16c94 : Ac := (so F16o95 F16c96)
def F16c91 : Ac := (cd 112 (so F16o93 F16c94) .skip)
def F16c89 : Ac := (so F16o90 F16c91)
def F16o102 := [
 o3 123 (.faddr 2) [.t 1],
 o3 124 (.load none) [.t 123],
 o3 125 (.bin .and) [.t 124, .i 7],
 o3 126 (.bin .leq) [.t 125, .i 4]]
def F16o104 := [
 o3 127 (.faddr 2) [.t 1],
 o3 128 (.load none) [.t 127],
 o3 129 (.bin .and) [.t 128, .i 7],
 o3 130 (.faddr 2) [.t 2],
 o0 (.store 1) [.t 130, .t 129]]
def F16c103 : Ac := (cd 126 (.ops F16o104) .skip)
def F16o108 := [
 o3 131 (.load (some 10)) [.t 2],
 o3 132 (.callf 29) [.t 131],
 o3 133 (.un .not) [.t 132]]
def F16o111 := [
 o3 134 (.build [.d (.bool false), .d (.int .i64 0), .d (.int .i64 0), .d (.int .u8 0), .d (.int .i64 0), .d (.int .i64 0), .d (.int .i64 0), .d (.int .u16 0), .d (.int .u16 0), .d (.int .u16 0)] [(3, 1)]) [.y 144],
 o0 (.store 10) [.t 2, .t 134]]
def F16c112 : Ac := .ret
def F16c109 : Ac := (cd 133 (so F16o111 F16c112) .skip)
def F16o115 := [
 o3 135 (.load (some 10)) [.t 2],
 o0 (.store 10) [.t 2, .t 135]]
def F16c116 : Ac := .ret
def F16c114 : Ac := (so F16o115 F16c116)
def F16c106 : Ac := (.seq (so F16o108 F16c109) F16c114)
def F16b100 : Ac := (.seq (so F16o102 F16c103) F16c106)
def F16c100 : Ac := (.seq (.gh []) (.seq (.keep [1, 2] [[1], [2]]) F16b100))
def F16b86 : Ac := (.seq (so F16o88 F16c89) F16c100)
def F16c86 : Ac := (.seq (.gh []) (.seq (.keep [1, 2, 3] [[1], [2], [3]]) F16b86))
def F16b43 : Ac := (.seq (so F16o45 F16c46) F16c86)
def F16c43 : Ac := (.seq (.gh []) (.seq (.keep [1, 2, 3, 5] [[1], [2], [3]]) F16b43))
def F16c37 : Ac := (.seq (so F16o39 F16c40) F16c43)
def F16b35 : Ac := (so F16o36 F16c37)
def F16c35 : Ac := (.seq (.gh []) (.seq (.keep [1, 2, 3] [[1], [2], [3]]) F16b35))
def F16c16 : Ac := (.seq (so F16o18 F16c19) F16c35)
def F16c8 : Ac := (.seq (so F16o10 F16c11) F16c16)
def F16c6 : Ac := (so F16o7 F16c8)
def F16c4 : Ac := (so F16o5 F16c6)
def F16c2 : Ac := (so F16o3 F16c4)
def F16c0 : Ac := (so F16o1 F16c2)
/-- hansom/hansomref05.Near -/
def F16 : Fn := { np := 1, pb := [], rs := [.c 2 (some 10)], body := F16c0 }
def F17o1 := [
 o3 1 (.box 10) [.t 0],
 o3 2 .mv [.c (.d (.str []))]]
def F17o4 := [
 o3 8 (.load (some 10)) [.t 1],
 o3 9 (.callf 30) [.t 8],
 o3 10 (.un .not) [.t 9]]
def F17o7 := [
 o3 2 .mv [.c (.d (.str [63]))]]
def F17c8 : Ac := .ret
def F17c5 : Ac := (cd 10 (so F17o7 F17c8) .skip)
def F17o11 := [
 o3 12 (.load (some 10)) [.t 1],
 o3 13 (.callf 31) [.t 12],
 om 11 13,
 oe 14 0 11,
 oe 15 1 11,
 o3 3 (.alloc [.d (.int .i64 0), .d (.int .i64 0), .d (.int .i64 0), .d (.bool false)]) [],
 o0 (.store 4) [.t 3, .t 14],
 om 4 15]
def F17o13 := [
 o3 16 (.build [.d (.str []), .d (.str []), .d (.str [])] [(0, 1), (1, 1), (2, 1)]) [.c (.d (.str [])), .c (.d (.str [82, 69, 80, 78, 69, 32])), .c (.d (.str [82, 69, 80, 32]))],
 o3 17 (.faddr 1) [.t 1],
  { dst := some 18, k := (.load none), xs := [.t 17], av := [[22]] },
 o3 19 (.indexA 3 1 none) [.t 16, .t 18],
 o3 20 (.faddr 0) [.t 3],
 o3 21 (.load none) [.t 20],
  { dst := some 22, k := (.callf 7), xs := [.t 21], al := some [] },
 o3 23 (.bin .add) [.t 19, .t 22],
 om 5 23]
def F17o16 := [
 o3 24 (.faddr 0) [.t 1],
 o3 25 (.load none) [.t 24]]
def F17o18 := [
 om 26 5,
 o3 27 (.bin .add) [.c (.d (.str [76, 79, 67, 75, 32])), .t 26],
 om 5 27]
def F17c17 : Ac := (cd 25 (.ops F17o18) .skip)
def F17o22 := [
 o3 28 (.load (some 10)) [.t 1],
 o3 29 (.faddr 1) [.t 3],
 o3 30 (.load none) [.t 29],
 o3 31 (.callf 32) [.t 28, .t 30],
 om 6 31]
def F17o24 := [
 om 32 6,
 o3 33 (.bin .neq) [.t 32, .c (.d (.str []))]]
def F17o26 := [
 om 34 5,
 om 35 6,
 o3 36 (.bin .add) [.c (.d (.str [32])), .t 35],
 o3 37 (.bin .add) [.t 34, .t 36],
 om 5 37]
def F17c25 : Ac := (cd 33 (.ops F17o26) .skip)
def F17c23 : Ac := (so F17o24 F17c25)
def F17o30 := [
 o3 38 (.load (some 10)) [.t 1],
 o3 39 (.faddr 2) [.t 3],
 o3 40 (.load none) [.t 39],
 o3 41 (.callf 32) [.t 38, .t 40],
 om 7 41]
def F17o32 := [
 om 42 7,
 o3 43 (.bin .neq) [.t 42, .c (.d (.str []))]]
def F17o34 := [
 om 44 5,
 om 45 7,
 o3 46 (.bin .add) [.c (.d (.str [44])), .t 45],
 o3 47 (.bin .add) [.t 44, .t 46],
 om 5 47]
def F17c33 : Ac := (cd 43 (.ops F17o34) .skip)
def F17c31 : Ac := (so F17o32 F17c33)
def F17o37 := [
 om 48 5,
 om 2 48]
def F17c38 : Ac := .ret
def F17c36 : Ac := (so F17o37 F17c38)
def F17b28 : Ac := (.seq (so F17o30 F17c31) F17c36)
def F17c28 : Ac := (.seq (.gh []) (.seq (.keep [1, 3, 5] [[1], [3]]) F17b28))
def F17b20 : Ac := (.seq (so F17o22 F17c23) F17c28)
def F17c20 : Ac := (.seq (.gh []) (.seq (.keep [1, 3, 5] [[1], [3]]) F17b20))
def F17c14 : Ac := (.seq (so F17o16 F17c17) F17c20)
def F17c12 : Ac := (so F17o13 F17c14)
def F17c10 : Ac := (so F17o11 F17c12)
def F17c2 : Ac := (.seq (so F17o4 F17c5) F17c10)
def F17c0 : Ac := (so F17o1 F17c2)
/-- hansom/disp.Text -/
def F17 : Fn := { np := 1, pb := [], rs := [.t 2], body := F17c0 }
def F18o1 := [
 o3 1 (.box 10) [.t 0],
 o3 2 .mv [.c (.d (.str []))]]
def F18o3 := [
 o3 10 (.load (some 10)) [.t 1],
 o3 11 (.callf 24) [.t 10],
 om 9 11,
 oe 12 0 9,
 oe 13 1 9,
 o3 3 (.alloc [.d (.int .i64 0), .d (.int .i64 0), .d (.int .i64 0), .d (.bool false)]) [],
 o0 (.store 4) [.t 3, .t 12],
 om 4 13]
def F18o5 := [
 o3 5 .mv [.c (.d (.str []))]]
def F18o8 := [
 o3 14 (.faddr 0) [.t 1],
 o3 15 (.load none) [.t 14]]
def F18o10 := [
 o3 5 .mv [.c (.d (.str [76, 79, 67, 75, 32]))]]
def F18c9 : Ac := (cd 15 (.ops F18o10) .skip)
def F18o14 := [
 o3 16 (.faddr 1) [.t 1],
 o3 17 (.load none) [.t 16],
 o3 18 (.bin .eql) [.t 17, .i 1]]
def F18o16 := [
 om 19 5,
 o3 20 (.bin .add) [.t 19, .c (.d (.str [82, 69, 80, 78, 69, 32]))],
 om 5 20]
def F18c15 : Ac := (cd 18 (.ops F18o16) .skip)
def F18o20 := [
 o3 21 (.faddr 1) [.t 1],
 o3 22 (.load none) [.t 21],
 o3 23 (.bin .eql) [.t 22, .i 2]]
def F18o22 := [
 om 24 5,
 o3 25 (.bin .add) [.t 24, .c (.d (.str [82, 69, 80, 32]))],
 om 5 25]
def F18c21 : Ac := (cd 23 (.ops F18o22) .skip)
def F18o25 := [
 om 26 5,
 o3 27 (.faddr 0) [.t 3],
 o3 28 (.load none) [.t 27],
 o3 29 (.callf 8) [.t 28],
 o3 30 (.bin .add) [.t 26, .t 29],
 om 5 30]
def F18o28 := [
 o3 31 (.faddr 1) [.t 3],
 o3 32 (.load none) [.t 31],
 o3 33 (.faddr 2) [.t 3],
 o3 34 (.load none) [.t 33],
 o3 35 (.bslice (.int .i64 0) 2 [0, 1]) [.t 32, .t 34],
 o3 36 .lenL [.t 35],
 o3 37 .mv [.i 0]]
def F18o32 := [
 o3 38 (.bin .lss) [.t 37, .t 36]]
def F18o40 := [
 om 39 37,
 o3 40 (.iaddrS 1) [.t 35, .t 37],
 o3 41 (.load none) [.t 40],
 om 6 39,
 om 7 41]
def F18o43 := [
 om 42 7,
 o3 43 (.bin .eql) [.t 42, .i 0]]
def F18c44 : Ac := (cd 43 (.exit 1) .skip)
def F18o48 := [
 o3 44 (.load (some 10)) [.t 1],
 om 45 7,
 o3 46 (.callf 33) [.t 44, .t 45],
 om 8 46]
def F18o51 := [
 om 47 7,
 o3 48 (.bin .eql) [.t 47, .i 24]]
def F18o53 := [
 o3 8 .mv [.c (.d (.str [51]))]]
def F18c52 : Ac := (cd 48 (.ops F18o53) .skip)
def F18o56 := [
 om 49 6,
 o3 50 (.bin .eql) [.t 49, .i 0]]
def F18o58 := [
 om 51 5,
 om 52 8,
 o3 53 (.bin .add) [.c (.d (.str [32])), .t 52],
 o3 54 (.bin .add) [.t 51, .t 53],
 om 5 54]
def F18o59 := [
 om 55 5,
 om 56 8,
 o3 57 (.bin .add) [.c (.d (.str [44])), .t 56],
 o3 58 (.bin .add) [.t 55, .t 57],
 om 5 58]
def F18c57 : Ac := (cd 50 (.ops F18o58) (.ops F18o59))
def F18c55 : Ac := (so F18o56 F18c57)
def F18c49 : Ac := (.seq (so F18o51 F18c52) F18c55)
def F18c47 : Ac := (so F18o48 F18c49)
def F18c41 : Ac := (.seq (so F18o43 F18c44) F18c47)
def F18o60 := [
 o3 59 (.bin .add) [.t 37, .i 1],
 om 37 59]
def F18c60 : Ac := (.ops F18o60)
def F18c37 : Ac := (.seq (.block 1 (so F18o40 F18c41)) F18c60)
def F18c33 : Ac := (.seq (cd 38 .skip (.exit 0)) F18c37)
def F18l30 : Ac := (so F18o32 F18c33)
def F18b29 : Ac := (.block 0 (.loop (.seq (.gh [.frz 35]) (.seq (.keep [1, 5, 35, 36, 37] [[1]]) F18l30))))
def F18c29 : Ac := (.seq (.gh [.frz 35]) (.seq (.keep [1, 5, 35, 36, 37] [[1]]) F18b29))
def F18o62 := [
 om 60 5,
 om 2 60]
def F18c63 : Ac := .ret
def F18b61 : Ac := (so F18o62 F18c63)
def F18c61 : Ac := (.seq (.gh []) (.seq (.keep [5] []) F18b61))
def F18c26 : Ac := (.seq (so F18o28 F18c29) F18c61)
def F18b24 : Ac := (so F18o25 F18c26)
def F18c24 : Ac := (.seq (.gh []) (.seq (.keep [1, 3, 5] [[1], [3]]) F18b24))
def F18b18 : Ac := (.seq (so F18o20 F18c21) F18c24)
def F18c18 : Ac := (.seq (.gh []) (.seq (.keep [1, 3, 5] [[1], [3]]) F18b18))
def F18b12 : Ac := (.seq (so F18o14 F18c15) F18c18)
def F18c12 : Ac := (.seq (.gh []) (.seq (.keep [1, 3, 5] [[1], [3]]) F18b12))
def F18c6 : Ac := (.seq (so F18o8 F18c9) F18c12)
def F18c4 : Ac := (so F18o5 F18c6)
def F18c2 : Ac := (so F18o3 F18c4)
def F18c0 : Ac := (so F18o1 F18c2)
/-- hansom/hansomref17.Text -/
def F18 : Fn := { np := 1, pb := [], rs := [.t 2], body := F18c0 }
def F20o1 := [
 o3 4 .mv [.c (.d (.str []))]]
def F20o3 := [
 om 6 0,
 o3 7 (.callf 19) [.t 6],
 om 5 7]
def F20o6 := [
 om 8 1,
 o3 9 (.bin .lss) [.t 8, .i 0],
 om 10 9,
 og 11 .mv [.t 1] 10 false,
 og 12 .mv [.t 5] 10 false,
 og 13 .lenL [.t 12] 10 false,
 og 14 (.bin .geq) [.t 11, .t 13] 10 false,
 o3 15 .pick [.t 10, .b true, .t 14]]
def F20o9 := [
 o3 4 .mv [.c (.d (.str [63]))]]
def F20c10 : Ac := .ret
def F20c7 : Ac := (cd 15 (so F20o9 F20c10) .skip)
def F20o13 := [
 om 16 5,
 om 17 1,
 o3 18 (.iaddrS 1) [.t 16, .t 17],
 o3 19 (.load none) [.t 18],
 om 4 19]
def F20c14 : Ac := .ret
def F20c12 : Ac := (so F20o13 F20c14)
def F20c4 : Ac := (.seq (so F20o6 F20c7) F20c12)
def F20c2 : Ac := (so F20o3 F20c4)
def F20c0 : Ac := (so F20o1 F20c2)
/-- hansom/disp.nth -/
def F20 : Fn := { np := 2, pb := [], rs := [.t 4], body := F20c0 }
def F21o1 := [
 o3 4 .mv [.c (.d (.str []))]]
def F21o3 := [
 o3 5 .mv [.i 0]]
def F21o6 := [
 o3 6 .mv [.i 0]]
def F21o11 := [
 om 8 6,
 om 9 1,
 o3 10 (.bin .lss) [.t 8, .t 9],
 om 11 10,
 og 12 .mv [.t 5] 11 true,
 og 13 .mv [.t 0] 11 true,
 og 14 .lenS [.t 13] 11 true,
 og 15 (.bin .lss) [.t 12, .t 14] 11 true,
 o3 16 .pick [.t 11, .t 15, .b false]]
def F21c12 : Ac := (cd 16 .skip (.exit 0))
def F21o22 := [
 om 19 5,
 om 20 0,
 o3 21 .lenS [.t 20],
 o3 22 (.bin .lss) [.t 19, .t 21],
 om 23 22,
 og 24 .mv [.t 0] 23 true,
 og 25 .mv [.t 5] 23 true,
 og 26 .indexS [.t 24, .t 25] 23 true,
 og 27 (.bin .neq) [.t 26, .y 32] 23 true,
 o3 28 .pick [.t 23, .t 27, .b false]]
def F21c23 : Ac := (cd 28 .skip (.exit 2))
def F21o27 := [
 om 29 5,
 o3 30 (.bin .add) [.t 29, .i 1],
 om 5 30]
def F21c26 : Ac := (.block 3 (.ops F21o27))
def F21l19 : Ac := (.seq (so F21o22 F21c23) F21c26)
def F21o28 := [
 om 31 5,
 o3 32 (.bin .add) [.t 31, .i 1],
 om 5 32]
def F21b28 : Ac := (.ops F21o28)
def F21c28 : Ac := (.seq (.gh []) (.seq (.keep [0, 1, 5, 6] []) F21b28))
def F21o29 := [
 om 17 6,
 o3 18 (.bin .add) [.t 17, .i 1],
 om 6 18]
def F21c29 : Ac := (.ops F21o29)
def F21c15 : Ac := (.seq (.block 1 (.seq (.block 2 (.loop (.seq (.gh []) (.seq (.keep [0, 1, 5, 6] []) F21l19)))) F21c28)) F21c29)
def F21l8 : Ac := (.seq (so F21o11 F21c12) F21c15)
def F21c7 : Ac := (.block 0 (.loop (.seq (.gh []) (.seq (.keep [0, 1, 5, 6] []) F21l8))))
def F21o31 := [
 om 33 5,
 om 7 33]
def F21o37 := [
 om 34 7,
 om 35 0,
 o3 36 .lenS [.t 35],
 o3 37 (.bin .lss) [.t 34, .t 36],
 om 38 37,
 og 39 .mv [.t 0] 38 true,
 og 40 .mv [.t 7] 38 true,
 og 41 .indexS [.t 39, .t 40] 38 true,
 og 42 (.bin .neq) [.t 41, .y 32] 38 true,
 o3 43 .pick [.t 38, .t 42, .b false]]
def F21c38 : Ac := (cd 43 .skip (.exit 4))
def F21o42 := [
 om 44 7,
 o3 45 (.bin .add) [.t 44, .i 1],
 om 7 45]
def F21c41 : Ac := (.block 5 (.ops F21o42))
def F21l34 : Ac := (.seq (so F21o37 F21c38) F21c41)
def F21o45 := [
 om 46 5,
 om 47 0,
 o3 48 .lenS [.t 47],
 o3 49 (.bin .geq) [.t 46, .t 48]]
def F21o48 := [
 o3 4 .mv [.c (.d (.str []))]]
def F21c49 : Ac := .ret
def F21c46 : Ac := (cd 49 (so F21o48 F21c49) .skip)
def F21o52 := [
 om 50 0,
 om 51 5,
 om 52 7,
 o3 53 (.substr true true) [.t 50, .t 51, .t 52],
 om 4 53]
def F21c53 : Ac := .ret
def F21c51 : Ac := (so F21o52 F21c53)
def F21b43 : Ac := (.seq (so F21o45 F21c46) F21c51)
def F21c43 : Ac := (.seq (.gh []) (.seq (.keep [0, 5, 7] []) F21b43))
def F21c32 : Ac := (.seq (.block 4 (.loop (.seq (.gh []) (.seq (.keep [0, 5, 7] []) F21l34)))) F21c43)
def F21b30 : Ac := (so F21o31 F21c32)
def F21c30 : Ac := (.seq (.gh []) (.seq (.keep [0, 5] []) F21b30))
def F21c4 : Ac := (.seq (so F21o6 F21c7) F21c30)
def F21c2 : Ac := (so F21o3 F21c4)
def F21c0 : Ac := (so F21o1 F21c2)
/-- hansom/hansomref04.word -/
def F21 : Fn := { np := 2, pb := [], rs := [.t 4], body := F21c0 }
def F22o1 := [
 o3 4 .mv [.c (.d (.str []))]]
def F22o4 := [
 om 5 1,
 o3 6 (.bin .lss) [.t 5, .i 0],
 om 7 6,
 og 8 .mv [.t 1] 7 false,
 og 9 .mv [.t 0] 7 false,
 og 10 .lenL [.t 9] 7 false,
 og 11 (.bin .geq) [.t 8, .t 10] 7 false,
 o3 12 .pick [.t 7, .b true, .t 11]]
def F22o7 := [
 o3 4 .mv [.c (.d (.str [63]))]]
def F22c8 : Ac := .ret
def F22c5 : Ac := (cd 12 (so F22o7 F22c8) .skip)
def F22o11 := [
 om 13 0,
 om 14 1,
 o3 15 (.iaddrS 1) [.t 13, .t 14],
 o3 16 (.load none) [.t 15],
 om 4 16]
def F22c12 : Ac := .ret
def F22c10 : Ac := (so F22o11 F22c12)
def F22c2 : Ac := (.seq (so F22o4 F22c5) F22c10)
def F22c0 : Ac := (so F22o1 F22c2)
/-- hansom/hansomref17.of -/
def F22 : Fn := { np := 2, pb := [], rs := [.t 4], body := F22c0 }
def F23o1 := [
 o3 4 .mv [.i 0]]
def F23o3 := [
 o3 5 .mv [.i 1],
 o3 6 .mv [.i 0]]
def F23o6 := [
 o3 7 .mv [.i 0]]
def F23o11 := [
 om 8 7,
 om 9 0,
 o3 10 .lenS [.t 9],
 o3 11 (.bin .lss) [.t 8, .t 10]]
def F23c12 : Ac := (cd 11 .skip (.exit 0))
def F23o19 := [
 om 14 0,
 om 15 7,
 o3 16 .indexS [.t 14, .t 15],
 o3 17 (.bin .neq) [.t 16, .y 32]]
def F23c20 : Ac := (cd 17 (.exit 1) .skip)
def F23o25 := [
 om 18 0,
 om 19 6,
 om 20 7,
 o3 21 (.substr true true) [.t 18, .t 19, .t 20],
 om 22 1,
 o3 23 (.bin .eql) [.t 21, .t 22]]
def F23o28 := [
 om 24 5,
 om 4 24]
def F23c29 : Ac := .ret
def F23c26 : Ac := (cd 23 (so F23o28 F23c29) .skip)
def F23o32 := [
 om 25 5,
 o3 26 (.bin .add) [.t 25, .i 1],
 om 5 26]
def F23o33 := [
 om 27 7,
 o3 28 (.bin .add) [.t 27, .i 1],
 om 6 28]
def F23c33 : Ac := (.ops F23o33)
def F23c31 : Ac := (so F23o32 F23c33)
def F23c23 : Ac := (.seq (so F23o25 F23c26) F23c31)
def F23o34 := [
 om 12 7,
 o3 13 (.bin .add) [.t 12, .i 1],
 om 7 13]
def F23c34 : Ac := (.ops F23o34)
def F23c15 : Ac := (.seq (.block 1 (.seq (so F23o19 F23c20) F23c23)) F23c34)
def F23l8 : Ac := (.seq (so F23o11 F23c12) F23c15)
def F23c7 : Ac := (.block 0 (.loop (.seq (.gh []) (.seq (.keep [0, 1, 5, 6, 7] []) F23l8))))
def F23o36 := [
 o3 4 .mv [.i 0]]
def F23c37 : Ac := .ret
def F23b35 : Ac := (so F23o36 F23c37)
def F23c35 : Ac := (.seq (.gh []) (.seq (.keep [] []) F23b35))
def F23c4 : Ac := (.seq (so F23o6 F23c7) F23c35)
def F23c2 : Ac := (so F23o3 F23c4)
def F23c0 : Ac := (so F23o1 F23c2)
/-- hansom/hansomref04.find -/
def F23 : Fn := { np := 2, pb := [], rs := [.t 4], body := F23c0 }
def F24o1 := [
 o3 1 (.box 10) [.t 0],
 o3 2 (.alloc [.d (.int .i64 0), .d (.int .i64 0), .d (.int .i64 0), .d (.bool false)]) [],
 o3 3 .mv [.b false]]
def F24o4 := [
 o3 4 (.faddr 3) [.t 1],
 o3 5 (.load none) [.t 4],
 o3 6 (.callf 36) [.t 5]]
def F24o7 := [
 o3 7 (.build [.d (.int .i64 0), .d (.int .i64 0), .d (.int .i64 0), .d (.bool false)] []) [],
 o0 (.store 4) [.t 2, .t 7],
 o3 3 .mv [.b false]]
def F24c8 : Ac := .ret
def F24c5 : Ac := (cd 6 (so F24o7 F24c8) .skip)
def F24o11 := [
 o3 8 (.faddr 3) [.t 1],
 o3 9 (.load none) [.t 8],
 o3 10 (.faddr 5) [.t 1],
 o3 11 (.load none) [.t 10],
 o3 12 (.callf 37) [.t 9, .t 11],
 oe 13 0 12,
 oe 14 1 12,
 o0 (.store 4) [.t 2, .t 13],
 om 3 14]
def F24c12 : Ac := .ret
def F24c10 : Ac := (so F24o11 F24c12)
def F24c2 : Ac := (.seq (so F24o4 F24c5) F24c10)
def F24c0 : Ac := (so F24o1 F24c2)
/-- hansom/hansomref05.Row -/
def F24 : Fn := { np := 1, pb := [], rs := [.c 2 (some 4), .t 3], body := F24c0 }
def F25o1 := [
 o3 4 .mv [.i 0]]
def F25o4 := [
 om 5 0,
 o3 6 (.bin .eql) [.t 5, .i 1]]
def F25o7 := [
 o3 4 .mv [.i 1]]
def F25c8 : Ac := .ret
def F25c5 : Ac := (cd 6 (so F25o7 F25c8) .skip)
def F25o12 := [
 om 7 0,
 o3 8 (.bin .eql) [.t 7, .i 2],
 om 9 8,
 og 10 .mv [.t 0] 9 false,
 og 11 (.bin .eql) [.t 10, .i 0] 9 false,
 og 12 .mv [.t 11] 9 false,
 og 13 .mv [.t 1] 12 true,
 og 14 (.bin .eql) [.t 13, .i 6] 12 true,
 og 15 .pick [.t 12, .t 14, .b false] 9 false,
 o3 16 .pick [.t 9, .b true, .t 15]]
def F25o15 := [
 o3 4 .mv [.i 2]]
def F25c16 : Ac := .ret
def F25c13 : Ac := (cd 16 (so F25o15 F25c16) .skip)
def F25o19 := [
 o3 4 .mv [.i 0]]
def F25c20 : Ac := .ret
def F25c18 : Ac := (so F25o19 F25c20)
def F25c10 : Ac := (.seq (so F25o12 F25c13) F25c18)
def F25c2 : Ac := (.seq (so F25o4 F25c5) F25c10)
def F25c0 : Ac := (so F25o1 F25c2)
/-- hansom/hansomref05.Disps -/
def F25 : Fn := { np := 2, pb := [], rs := [.t 4], body := F25c0 }
def F26o1 := [
 o3 2 .mv [.w 0]]
def F26o4 := [
 om 3 0,
 o3 4 (.bin .lss) [.t 3, .y 128]]
def F26o7 := [
 om 5 0,
 o3 6 (.toInt .u16) [.t 5],
 om 2 6]
def F26c8 : Ac := .ret
def F26c5 : Ac := (cd 4 (so F26o7 F26c8) .skip)
def F26o11 := [
 om 7 0,
 o3 8 (.toInt .u16) [.t 7],
 o3 9 (.bin .add) [.w 65280, .t 8],
 om 2 9]
def F26c12 : Ac := .ret
def F26c10 : Ac := (so F26o11 F26c12)
def F26c2 : Ac := (.seq (so F26o4 F26c5) F26c10)
def F26c0 : Ac := (so F26o1 F26c2)
/-- hansom/hansomref01.Sign -/
def F26 : Fn := { np := 1, pb := [], rs := [.t 2], body := F26c0 }
def F27o1 := [
 o3 2 .mv [.i 0]]
def F27o4 := [
 om 3 0]
def F27o8 := [
 o3 5 (.bin .eql) [.t 3, .i 6],
 om 4 5]
def F27o12 := [
 o3 6 (.bin .eql) [.t 3, .i 8],
 om 4 6]
def F27o15 := [
 o3 7 (.bin .eql) [.t 3, .i 9],
 om 4 7]
def F27c13 : Ac := (cd 4 .skip (.ops F27o15))
def F27c9 : Ac := (cd 4 .skip (so F27o12 F27c13))
def F27o18 := [
 o3 2 .mv [.i 1]]
def F27c19 : Ac := .ret
def F27o22 := [
 o3 9 (.bin .eql) [.t 3, .i 7],
 om 8 9]
def F27o26 := [
 o3 10 (.bin .eql) [.t 3, .i 10],
 om 8 10]
def F27o30 := [
 o3 11 (.bin .eql) [.t 3, .i 12],
 om 8 11]
def F27o33 := [
 o3 12 (.bin .eql) [.t 3, .i 13],
 om 8 12]
def F27c31 : Ac := (cd 8 .skip (.ops F27o33))
def F27c27 : Ac := (cd 8 .skip (so F27o30 F27c31))
def F27c23 : Ac := (cd 8 .skip (so F27o26 F27c27))
def F27o36 := [
 o3 2 .mv [.i 2]]
def F27c37 : Ac := .ret
def F27o39 := [
 o3 14 (.bin .eql) [.t 3, .i 11],
 om 13 14]
def F27o42 := [
 o3 2 .mv [.i 4]]
def F27c43 : Ac := .ret
def F27c40 : Ac := (cd 13 (so F27o42 F27c43) .skip)
def F27c34 : Ac := (cd 8 (so F27o36 F27c37) (so F27o39 F27c40))
def F27b16 : Ac := (cd 4 (so F27o18 F27c19) (.seq (so F27o22 F27c23) F27c34))
def F27c16 : Ac := (.seq (.gh []) (.seq (.keep [3, 4] []) F27b16))
def F27c5 : Ac := (.block 0 (.seq (so F27o8 F27c9) F27c16))
def F27o46 := [
 o3 2 .mv [.i 0]]
def F27c47 : Ac := .ret
def F27c45 : Ac := (so F27o46 F27c47)
def F27c2 : Ac := (.seq (so F27o4 F27c5) F27c45)
def F27c0 : Ac := (so F27o1 F27c2)
/-- hansom/hansomref04.Bytes -/
def F27 : Fn := { np := 1, pb := [], rs := [.t 2], body := F27c0 }
def F28o1 := [
 o3 2 .mv [.i 0]]
def F28o4 := [
 om 3 0,
 o3 4 (.callf 8) [.t 3]]
def F28o8 := [
 o3 6 (.bin .eql) [.t 4, .c (.d (.str [77, 79, 86, 83, 66]))],
 om 5 6]
def F28o12 := [
 o3 7 (.bin .eql) [.t 4, .c (.d (.str [77, 79, 86, 83, 87]))],
 om 5 7]
def F28o16 := [
 o3 8 (.bin .eql) [.t 4, .c (.d (.str [83, 84, 79, 83, 66]))],
 om 5 8]
def F28o20 := [
 o3 9 (.bin .eql) [.t 4, .c (.d (.str [83, 84, 79, 83, 87]))],
 om 5 9]
def F28o24 := [
 o3 10 (.bin .eql) [.t 4, .c (.d (.str [76, 79, 68, 83, 66]))],
 om 5 10]
def F28o27 := [
 o3 11 (.bin .eql) [.t 4, .c (.d (.str [76, 79, 68, 83, 87]))],
 om 5 11]
def F28c25 : Ac := (cd 5 .skip (.ops F28o27))
def F28c21 : Ac := (cd 5 .skip (so F28o24 F28c25))
def F28c17 : Ac := (cd 5 .skip (so F28o20 F28c21))
def F28c13 : Ac := (cd 5 .skip (so F28o16 F28c17))
def F28c9 : Ac := (cd 5 .skip (so F28o12 F28c13))
def F28o30 := [
 o3 2 .mv [.i 1]]
def F28c31 : Ac := .ret
def F28o34 := [
 o3 13 (.bin .eql) [.t 4, .c (.d (.str [67, 77, 80, 83, 66]))],
 om 12 13]
def F28o38 := [
 o3 14 (.bin .eql) [.t 4, .c (.d (.str [67, 77, 80, 83, 87]))],
 om 12 14]
def F28o42 := [
 o3 15 (.bin .eql) [.t 4, .c (.d (.str [83, 67, 65, 83, 66]))],
 om 12 15]
def F28o45 := [
 o3 16 (.bin .eql) [.t 4, .c (.d (.str [83, 67, 65, 83, 87]))],
 om 12 16]
def F28c43 : Ac := (cd 12 .skip (.ops F28o45))
def F28c39 : Ac := (cd 12 .skip (so F28o42 F28c43))
def F28c35 : Ac := (cd 12 .skip (so F28o38 F28c39))
def F28o48 := [
 o3 2 .mv [.i 2]]
def F28c49 : Ac := .ret
def F28c46 : Ac := (cd 12 (so F28o48 F28c49) .skip)
def F28b28 : Ac := (cd 5 (so F28o30 F28c31) (.seq (so F28o34 F28c35) F28c46))
def F28c28 : Ac := (.seq (.gh []) (.seq (.keep [4, 5] []) F28b28))
def F28c5 : Ac := (.block 0 (.seq (so F28o8 F28c9) F28c28))
def F28o52 := [
 o3 2 .mv [.i 0]]
def F28c53 : Ac := .ret
def F28c51 : Ac := (so F28o52 F28c53)
def F28c2 : Ac := (.seq (so F28o4 F28c5) F28c51)
def F28c0 : Ac := (so F28o1 F28c2)
/-- hansom/hansomref04.Repeats -/
def F28 : Fn := { np := 1, pb := [], rs := [.t 2], body := F28c0 }
def F29o1 := [
 o3 1 (.box 10) [.t 0],
 o3 2 .mv [.b false]]
def F29o3 := [
 o3 9 (.load (some 10)) [.t 1],
 o3 10 (.callf 24) [.t 9],
 om 8 10,
 oe 11 0 8,
 oe 12 1 8,
 o3 3 (.alloc [.d (.int .i64 0), .d (.int .i64 0), .d (.int .i64 0), .d (.bool false)]) [],
 o0 (.store 4) [.t 3, .t 11],
 om 4 12]
def F29o6 := [
 om 13 4,
 o3 14 (.un .not) [.t 13],
 om 15 14,
 og 16 (.faddr 2) [.t 1] 15 false,
 og 17 (.load none) [.t 16] 15 false,
 og 18 (.bin .lss) [.t 17, .i 0] 15 false,
 o3 19 .pick [.t 15, .b true, .t 18],
 om 20 19,
 og 21 (.faddr 2) [.t 1] 20 false,
 og 22 (.load none) [.t 21] 20 false,
 og 23 (.bin .gtr) [.t 22, .i 4] 20 false,
 o3 24 .pick [.t 20, .b true, .t 23]]
def F29o9 := [
 o3 2 .mv [.b false]]
def F29c10 : Ac := .ret
def F29c7 : Ac := (cd 24 (so F29o9 F29c10) .skip)
def F29o13 := [
 o3 25 (.faddr 0) [.t 3],
 o3 26 (.load none) [.t 25],
 o3 27 (.callf 28) [.t 26],
 om 5 27]
def F29o16 := [
 o3 28 (.faddr 1) [.t 1],
 o3 29 (.load none) [.t 28],
 o3 30 (.bin .lss) [.t 29, .i 0],
 om 31 30,
 og 32 (.faddr 1) [.t 1] 31 false,
 og 33 (.load none) [.t 32] 31 false,
 og 34 (.bin .gtr) [.t 33, .i 2] 31 false,
 o3 35 .pick [.t 31, .b true, .t 34],
 om 36 35,
 og 37 (.faddr 1) [.t 1] 36 false,
 og 38 (.load none) [.t 37] 36 false,
 og 39 (.bin .eql) [.t 38, .i 1] 36 false,
 og 40 .mv [.t 39] 36 false,
 og 41 .mv [.t 5] 40 true,
 og 42 (.bin .lss) [.t 41, .i 2] 40 true,
 og 43 .pick [.t 40, .t 42, .b false] 36 false,
 o3 44 .pick [.t 36, .b true, .t 43],
 om 45 44,
 og 46 (.faddr 1) [.t 1] 45 false,
 og 47 (.load none) [.t 46] 45 false,
 og 48 (.bin .eql) [.t 47, .i 2] 45 false,
 og 49 .mv [.t 48] 45 false,
 og 50 .mv [.t 5] 49 true,
 og 51 (.bin .lss) [.t 50, .i 1] 49 true,
 og 52 .pick [.t 49, .t 51, .b false] 45 false,
 o3 53 .pick [.t 45, .b true, .t 52]]
def F29o19 := [
 o3 2 .mv [.b false]]
def F29c20 : Ac := .ret
def F29c17 : Ac := (cd 53 (so F29o19 F29c20) .skip)
def F29o24 := [
 o3 54 (.faddr 3) [.t 3],
 o3 55 (.load none) [.t 54],
 o3 56 (.un .not) [.t 55]]
def F29o27 := [
 o3 57 (.faddr 4) [.t 1],
 o3 58 (.load none) [.t 57],
 o3 59 (.bin .neq) [.t 58, .i 0],
 om 60 59,
 og 61 (.faddr 5) [.t 1] 60 false,
 og 62 (.load none) [.t 61] 60 false,
 og 63 (.bin .neq) [.t 62, .i 0] 60 false,
 o3 64 .pick [.t 60, .b true, .t 63],
 om 65 64,
 og 66 (.faddr 6) [.t 1] 65 false,
 og 67 (.load none) [.t 66] 65 false,
 og 68 (.bin .neq) [.t 67, .i 0] 65 false,
 o3 69 .pick [.t 65, .b true, .t 68],
 om 70 69,
 og 71 (.faddr 7) [.t 1] 70 false,
 og 72 (.load none) [.t 71] 70 false,
 og 73 (.bin .neq) [.t 72, .w 0] 70 false,
 o3 74 .pick [.t 70, .b true, .t 73]]
def F29o30 := [
 o3 2 .mv [.b false]]
def F29c31 : Ac := .ret
def F29c28 : Ac := (cd 74 (so F29o30 F29c31) .skip)
def F29o35 := [
 o3 75 (.faddr 4) [.t 1],
 o3 76 (.load none) [.t 75],
 o3 77 (.bin .lss) [.t 76, .i 0],
 om 78 77,
 og 79 (.faddr 4) [.t 1] 78 false,
 og 80 (.load none) [.t 79] 78 false,
 og 81 (.bin .gtr) [.t 80, .i 3] 78 false,
 o3 82 .pick [.t 78, .b true, .t 81],
 om 83 82,
 og 84 (.faddr 5) [.t 1] 83 false,
 og 85 (.load none) [.t 84] 83 false,
 og 86 (.bin .lss) [.t 85, .i 0] 83 false,
 o3 87 .pick [.t 83, .b true, .t 86],
 om 88 87,
 og 89 (.faddr 5) [.t 1] 88 false,
 og 90 (.load none) [.t 89] 88 false,
 og 91 (.bin .gtr) [.t 90, .i 7] 88 false,
 o3 92 .pick [.t 88, .b true, .t 91],
 om 93 92,
 og 94 (.faddr 6) [.t 1] 93 false,
 og 95 (.load none) [.t 94] 93 false,
 og 96 (.bin .lss) [.t 95, .i 0] 93 false,
 o3 97 .pick [.t 93, .b true, .t 96],
 om 98 97,
 og 99 (.faddr 6) [.t 1] 98 false,
 og 100 (.load none) [.t 99] 98 false,
 og 101 (.bin .gtr) [.t 100, .i 7] 98 false,
 o3 102 .pick [.t 98, .b true, .t 101]]
def F29o38 := [
 o3 2 .mv [.b false]]
def F29c39 : Ac := .ret
def F29c36 : Ac := (cd 102 (so F29o38 F29c39) .skip)
def F29o43 := [
 o3 103 (.faddr 4) [.t 1],
 o3 104 (.load none) [.t 103],
 o3 105 (.bin .eql) [.t 104, .i 3],
 om 106 105,
 og 107 (.faddr 1) [.t 3] 106 true,
 og 108 (.load none) [.t 107] 106 true,
 og 109 (.bin .eql) [.t 108, .i 19] 106 true,
 og 110 .mv [.t 109] 106 true,
 og 111 (.faddr 1) [.t 3] 110 false,
 og 112 (.load none) [.t 111] 110 false,
 og 113 (.bin .eql) [.t 112, .i 20] 110 false,
 og 114 .pick [.t 110, .b true, .t 113] 106 true,
 og 115 .mv [.t 114] 106 true,
 og 116 (.faddr 2) [.t 3] 115 false,
 og 117 (.load none) [.t 116] 115 false,
 og 118 (.bin .eql) [.t 117, .i 19] 115 false,
 og 119 .pick [.t 115, .b true, .t 118] 106 true,
 og 120 .mv [.t 119] 106 true,
 og 121 (.faddr 2) [.t 3] 120 false,
 og 122 (.load none) [.t 121] 120 false,
 og 123 (.bin .eql) [.t 122, .i 20] 120 false,
 og 124 .pick [.t 120, .b true, .t 123] 106 true,
 o3 125 .pick [.t 106, .t 124, .b false]]
def F29o46 := [
 o3 2 .mv [.b false]]
def F29c47 : Ac := .ret
def F29c44 : Ac := (cd 125 (so F29o46 F29c47) .skip)
def F29o50 := [
 o3 126 (.faddr 4) [.t 1],
 o3 127 (.load none) [.t 126],
 o3 128 (.faddr 6) [.t 1],
 o3 129 (.load none) [.t 128],
 o3 130 (.callf 25) [.t 127, .t 129],
 om 6 130]
def F29o52 := [
 om 131 6,
 o3 132 (.bin .eql) [.t 131, .i 0],
 om 133 132,
 og 134 (.faddr 7) [.t 1] 133 true,
 og 135 (.load none) [.t 134] 133 true,
 og 136 (.bin .neq) [.t 135, .w 0] 133 true,
 o3 137 .pick [.t 133, .t 136, .b false],
 om 138 137,
 og 139 .mv [.t 6] 138 false,
 og 140 (.bin .eql) [.t 139, .i 1] 138 false,
 og 141 .mv [.t 140] 138 false,
 og 142 (.faddr 7) [.t 1] 141 true,
 og 143 (.load none) [.t 142] 141 true,
 og 144 (.callf 38) [.t 143] 141 true,
 og 145 (.un .not) [.t 144] 141 true,
 og 146 .pick [.t 141, .t 145, .b false] 138 false,
 o3 147 .pick [.t 138, .b true, .t 146]]
def F29o55 := [
 o3 2 .mv [.b false]]
def F29c56 : Ac := .ret
def F29c53 : Ac := (cd 147 (so F29o55 F29c56) .skip)
def F29c51 : Ac := (so F29o52 F29c53)
def F29b49 : Ac := (so F29o50 F29c51)
def F29c49 : Ac := (.seq (.gh []) (.seq (.keep [1, 3] [[1], [3]]) F29b49))
def F29c41 : Ac := (.seq (so F29o43 F29c44) F29c49)
def F29c25 : Ac := (cd 56 (so F29o27 F29c28) (.seq (so F29o35 F29c36) F29c41))
def F29o59 := [
 o3 148 (.faddr 1) [.t 3],
 o3 149 (.load none) [.t 148],
 om 7 149]
def F29o62 := [
 om 150 7,
 o3 151 (.callf 27) [.t 150],
 o3 152 (.bin .eql) [.t 151, .i 0]]
def F29o64 := [
 o3 153 (.faddr 2) [.t 3],
 o3 154 (.load none) [.t 153],
 om 7 154]
def F29c63 : Ac := (cd 152 (.ops F29o64) .skip)
def F29o68 := [
 om 155 7]
def F29o71 := [
 o3 157 (.bin .eql) [.t 155, .i 6],
 om 156 157]
def F29o74 := [
 o3 158 (.faddr 8) [.t 1],
 o3 159 (.load none) [.t 158],
 o3 160 (.bin .lss) [.t 159, .w 256],
 om 161 160,
 og 162 (.faddr 9) [.t 1] 161 true,
 og 163 (.load none) [.t 162] 161 true,
 og 164 (.bin .eql) [.t 163, .w 0] 161 true,
 o3 165 .pick [.t 161, .t 164, .b false],
 om 166 165,
 og 167 (.faddr 0) [.t 3] 166 true,
 og 168 (.load none) [.t 167] 166 true,
 og 169 (.bin .neq) [.t 168, .i 70] 166 true,
 og 170 .mv [.t 169] 166 true,
 og 171 (.faddr 0) [.t 3] 170 true,
 og 172 (.load none) [.t 171] 170 true,
 og 173 (.bin .neq) [.t 172, .i 71] 170 true,
 og 174 .pick [.t 170, .t 173, .b false] 166 true,
 og 175 .mv [.t 174] 166 true,
 og 176 (.faddr 8) [.t 1] 175 false,
 og 177 (.load none) [.t 176] 175 false,
 og 178 (.bin .eql) [.t 177, .w 10] 175 false,
 og 179 .pick [.t 175, .b true, .t 178] 166 true,
 o3 180 .pick [.t 166, .t 179, .b false],
 om 2 180]
def F29c75 : Ac := .ret
def F29o78 := [
 o3 182 (.bin .eql) [.t 155, .i 8],
 om 181 182]
def F29o81 := [
 o3 183 (.bin .eql) [.t 155, .i 9],
 om 181 183]
def F29c79 : Ac := (cd 181 .skip (.ops F29o81))
def F29o84 := [
 o3 184 (.faddr 8) [.t 1],
 o3 185 (.load none) [.t 184],
 o3 186 (.callf 38) [.t 185],
 om 187 186,
 og 188 (.faddr 9) [.t 1] 187 true,
 og 189 (.load none) [.t 188] 187 true,
 og 190 (.bin .eql) [.t 189, .w 0] 187 true,
 o3 191 .pick [.t 187, .t 190, .b false],
 om 2 191]
def F29c85 : Ac := .ret
def F29o88 := [
 o3 193 (.bin .eql) [.t 155, .i 7],
 om 192 193]
def F29o92 := [
 o3 194 (.bin .eql) [.t 155, .i 10],
 om 192 194]
def F29o96 := [
 o3 195 (.bin .eql) [.t 155, .i 12],
 om 192 195]
def F29o99 := [
 o3 196 (.bin .eql) [.t 155, .i 13],
 om 192 196]
def F29c97 : Ac := (cd 192 .skip (.ops F29o99))
def F29c93 : Ac := (cd 192 .skip (so F29o96 F29c97))
def F29c89 : Ac := (cd 192 .skip (so F29o92 F29c93))
def F29o102 := [
 o3 197 (.faddr 9) [.t 1],
 o3 198 (.load none) [.t 197],
 o3 199 (.bin .eql) [.t 198, .w 0],
 om 2 199]
def F29c103 : Ac := .ret
def F29o105 := [
 o3 201 (.bin .eql) [.t 155, .i 11],
 om 200 201]
def F29o108 := [
 o3 2 .mv [.b true]]
def F29c109 : Ac := .ret
def F29c106 : Ac := (cd 200 (so F29o108 F29c109) .skip)
def F29c100 : Ac := (cd 192 (so F29o102 F29c103) (so F29o105 F29c106))
def F29b82 : Ac := (cd 181 (so F29o84 F29c85) (.seq (so F29o88 F29c89) F29c100))
def F29c82 : Ac := (.seq (.gh []) (.seq (.keep [1, 155, 181] [[1]]) F29b82))
def F29c72 : Ac := (cd 156 (so F29o74 F29c75) (.seq (so F29o78 F29c79) F29c82))
def F29c69 : Ac := (.block 0 (so F29o71 F29c72))
def F29o112 := [
 o3 202 (.faddr 8) [.t 1],
 o3 203 (.load none) [.t 202],
 o3 204 (.bin .eql) [.t 203, .w 0],
 om 205 204,
 og 206 (.faddr 9) [.t 1] 205 true,
 og 207 (.load none) [.t 206] 205 true,
 og 208 (.bin .eql) [.t 207, .w 0] 205 true,
 o3 209 .pick [.t 205, .t 208, .b false],
 om 2 209]
def F29c113 : Ac := .ret
def F29c111 : Ac := (so F29o112 F29c113)
def F29b66 : Ac := (.seq (so F29o68 F29c69) F29c111)
def F29c66 : Ac := (.seq (.gh []) (.seq (.keep [1, 3, 7] [[1], [3]]) F29b66))
def F29c60 : Ac := (.seq (so F29o62 F29c63) F29c66)
def F29b58 : Ac := (so F29o59 F29c60)
def F29c58 : Ac := (.seq (.gh []) (.seq (.keep [1, 3] [[1], [3]]) F29b58))
def F29b22 : Ac := (.seq (so F29o24 F29c25) F29c58)
def F29c22 : Ac := (.seq (.gh []) (.seq (.keep [1, 3] [[1], [3]]) F29b22))
def F29c14 : Ac := (.seq (so F29o16 F29c17) F29c22)
def F29c12 : Ac := (so F29o13 F29c14)
def F29c4 : Ac := (.seq (so F29o6 F29c7) F29c12)
def F29c2 : Ac := (so F29o3 F29c4)
def F29c0 : Ac := (so F29o1 F29c2)
/-- hansom/hansomref05.May -/
def F29 : Fn := { np := 1, pb := [], rs := [.t 2], body := F29c0 }
def F30o1 := [
 o3 1 (.box 10) [.t 0],
 o3 2 .mv [.b false]]
def F30o3 := [
 o3 6 (.load (some 10)) [.t 1],
 o3 7 (.callf 31) [.t 6],
 om 5 7,
 oe 8 0 5,
 oe 9 1 5,
 o3 3 (.alloc [.d (.int .i64 0), .d (.int .i64 0), .d (.int .i64 0), .d (.bool false)]) [],
 o0 (.store 4) [.t 3, .t 8],
 om 4 9]
def F30o5 := [
 om 10 4,
 om 11 10,
 og 12 (.load (some 10)) [.t 1] 11 true,
 og 13 (.load (some 4)) [.t 3] 11 true,
 og 14 (.callf 39) [.t 12, .t 13] 11 true,
 o3 15 .pick [.t 11, .t 14, .b false],
 om 16 15,
 og 17 (.load (some 10)) [.t 1] 16 true,
 og 18 (.load (some 4)) [.t 3] 16 true,
 og 19 (.callf 40) [.t 17, .t 18] 16 true,
 o3 20 .pick [.t 16, .t 19, .b false],
 om 21 20,
 og 22 (.load (some 10)) [.t 1] 21 true,
 og 23 (.load (some 4)) [.t 3] 21 true,
 og 24 (.callf 41) [.t 22, .t 23] 21 true,
 o3 25 .pick [.t 21, .t 24, .b false],
 om 2 25]
def F30c6 : Ac := .ret
def F30c4 : Ac := (so F30o5 F30c6)
def F30c2 : Ac := (so F30o3 F30c4)
def F30c0 : Ac := (so F30o1 F30c2)
/-- hansom/inst.May -/
def F30 : Fn := { np := 1, pb := [], rs := [.t 2], body := F30c0 }
def F31o1 := [
 o3 1 (.box 10) [.t 0],
 o3 2 (.alloc [.d (.int .i64 0), .d (.int .i64 0), .d (.int .i64 0), .d (.bool false)]) [],
 o3 3 .mv [.b false]]
def F31o4 := [
 o3 4 (.faddr 3) [.t 1],
 o3 5 (.load none) [.t 4],
 o3 6 (.callf 42) [.t 5]]
def F31o7 := [
 o3 7 (.build [.d (.int .i64 0), .d (.int .i64 0), .d (.int .i64 0), .d (.bool false)] []) [],
 o0 (.store 4) [.t 2, .t 7],
 o3 3 .mv [.b false]]
def F31c8 : Ac := .ret
def F31c5 : Ac := (cd 6 (so F31o7 F31c8) .skip)
def F31o11 := [
 o3 8 (.faddr 3) [.t 1],
 o3 9 (.load none) [.t 8],
 o3 10 (.faddr 5) [.t 1],
 o3 11 (.load none) [.t 10],
 o3 12 (.callf 43) [.t 9, .t 11],
 oe 13 0 12,
 oe 14 1 12,
 o0 (.store 4) [.t 2, .t 13],
 om 3 14]
def F31c12 : Ac := .ret
def F31c10 : Ac := (so F31o11 F31c12)
def F31c2 : Ac := (.seq (so F31o4 F31c5) F31c10)
def F31c0 : Ac := (so F31o1 F31c2)
/-- hansom/inst.Row -/
def F31 : Fn := { np := 1, pb := [], rs := [.c 2 (some 4), .t 3], body := F31c0 }
def F32o1 := [
 o3 2 (.box 10) [.t 0],
 o3 4 .mv [.c (.d (.str []))]]
def F32o4 := [
 om 5 1]
def F32o7 := [
 o3 7 (.bin .eql) [.t 5, .i 1],
 om 6 7]
def F32o11 := [
 o3 8 (.faddr 4) [.t 2],
 o3 9 (.load none) [.t 8],
 o3 10 (.bin .eql) [.t 9, .i 3]]
def F32o14 := [
 o3 11 (.faddr 6) [.t 2],
 o3 12 (.load none) [.t 11],
 o3 13 (.callf 11) [.t 12],
 om 4 13]
def F32c15 : Ac := .ret
def F32c12 : Ac := (cd 10 (so F32o14 F32c15) .skip)
def F32o18 := [
 o3 14 (.load (some 10)) [.t 2],
 o3 15 (.callf 44) [.t 14],
 o3 16 (.bin .add) [.c (.d (.str [66, 89, 84, 69, 32])), .t 15],
 om 4 16]
def F32c19 : Ac := .ret
def F32c17 : Ac := (so F32o18 F32c19)
def F32o21 := [
 o3 18 (.bin .eql) [.t 5, .i 2],
 om 17 18]
def F32o25 := [
 o3 19 (.faddr 4) [.t 2],
 o3 20 (.load none) [.t 19],
 o3 21 (.bin .eql) [.t 20, .i 3]]
def F32o28 := [
 o3 22 (.faddr 6) [.t 2],
 o3 23 (.load none) [.t 22],
 o3 24 (.callf 9) [.t 23],
 om 4 24]
def F32c29 : Ac := .ret
def F32c26 : Ac := (cd 21 (so F32o28 F32c29) .skip)
def F32o32 := [
 o3 25 (.load (some 10)) [.t 2],
 o3 26 (.callf 44) [.t 25],
 o3 27 (.bin .add) [.c (.d (.str [87, 79, 82, 68, 32])), .t 26],
 om 4 27]
def F32c33 : Ac := .ret
def F32c31 : Ac := (so F32o32 F32c33)
def F32o35 := [
 o3 29 (.bin .eql) [.t 5, .i 19],
 om 28 29]
def F32o38 := [
 o3 30 (.load (some 10)) [.t 2],
 o3 31 (.callf 44) [.t 30],
 o3 32 (.bin .add) [.c (.d (.str [70, 65, 82, 32])), .t 31],
 om 4 32]
def F32c39 : Ac := .ret
def F32o41 := [
 o3 34 (.bin .eql) [.t 5, .i 20],
 om 33 34]
def F32o44 := [
 o3 35 (.load (some 10)) [.t 2],
 o3 36 (.callf 44) [.t 35],
 om 4 36]
def F32c45 : Ac := .ret
def F32o47 := [
 o3 38 (.bin .eql) [.t 5, .i 3],
 om 37 38]
def F32o50 := [
 o3 39 (.faddr 5) [.t 2],
 o3 40 (.load none) [.t 39],
 o3 41 (.callf 11) [.t 40],
 om 4 41]
def F32c51 : Ac := .ret
def F32o53 := [
 o3 43 (.bin .eql) [.t 5, .i 4],
 om 42 43]
def F32o56 := [
 o3 44 (.faddr 5) [.t 2],
 o3 45 (.load none) [.t 44],
 o3 46 (.callf 9) [.t 45],
 om 4 46]
def F32c57 : Ac := .ret
def F32o59 := [
 o3 48 (.bin .eql) [.t 5, .i 5],
 om 47 48]
def F32o62 := [
 o3 49 (.faddr 5) [.t 2],
 o3 50 (.load none) [.t 49],
 o3 51 (.callf 13) [.t 50],
 om 4 51]
def F32c63 : Ac := .ret
def F32o65 := [
 o3 53 (.bin .eql) [.t 5, .i 6],
 om 52 53]
def F32o68 := [
 o3 54 (.faddr 8) [.t 2],
 o3 55 (.load none) [.t 54],
 o3 56 (.toInt .u32) [.t 55],
 o3 57 (.callf 45) [.t 56, .i 2],
 om 4 57]
def F32c69 : Ac := .ret
def F32o72 := [
 o3 59 (.bin .eql) [.t 5, .i 7],
 om 58 59]
def F32o75 := [
 o3 60 (.bin .eql) [.t 5, .i 8],
 om 58 60]
def F32c73 : Ac := (cd 58 .skip (.ops F32o75))
def F32o78 := [
 o3 61 (.faddr 8) [.t 2],
 o3 62 (.load none) [.t 61],
 o3 63 (.toInt .u32) [.t 62],
 o3 64 (.callf 45) [.t 63, .i 4],
 om 4 64]
def F32c79 : Ac := .ret
def F32c76 : Ac := (cd 58 (so F32o78 F32c79) .skip)
def F32c66 : Ac := (cd 52 (so F32o68 F32c69) (.seq (so F32o72 F32c73) F32c76))
def F32c60 : Ac := (cd 47 (so F32o62 F32c63) (so F32o65 F32c66))
def F32c54 : Ac := (cd 42 (so F32o56 F32c57) (so F32o59 F32c60))
def F32c48 : Ac := (cd 37 (so F32o50 F32c51) (so F32o53 F32c54))
def F32c42 : Ac := (cd 33 (so F32o44 F32c45) (so F32o47 F32c48))
def F32c36 : Ac := (cd 28 (so F32o38 F32c39) (so F32o41 F32c42))
def F32c22 : Ac := (cd 17 (.seq (so F32o25 F32c26) F32c31) (so F32o35 F32c36))
def F32c8 : Ac := (cd 6 (.seq (so F32o11 F32c12) F32c17) (so F32o21 F32c22))
def F32c5 : Ac := (.block 0 (so F32o7 F32c8))
def F32o82 := [
 o3 65 (.load (some 10)) [.t 2],
 om 66 1,
 o3 67 (.callf 46) [.t 65, .t 66],
 om 4 67]
def F32c83 : Ac := .ret
def F32c81 : Ac := (so F32o82 F32c83)
def F32c2 : Ac := (.seq (so F32o4 F32c5) F32c81)
def F32c0 : Ac := (so F32o1 F32c2)
/-- hansom/disp.operand -/
def F32 : Fn := { np := 2, pb := [], rs := [.t 4], body := F32c0 }
def F33o1 := [
 o3 2 (.box 10) [.t 0],
 o3 4 .mv [.c (.d (.str []))]]
def F33o3 := [
 o3 7 (.faddr 8) [.t 2],
 o3 8 (.load none) [.t 7],
 o3 9 (.toInt .u32) [.t 8],
 o3 5 .mv [.c (.d (.str []))],
 om 6 9]
def F33o6 := [
 o3 10 (.faddr 2) [.t 2],
 o3 11 (.load none) [.t 10],
 o3 12 (.bin .gtr) [.t 11, .i 0]]
def F33o8 := [
 o3 13 (.faddr 2) [.t 2],
 o3 14 (.load none) [.t 13],
 o3 15 (.bin .sub) [.t 14, .i 1],
 o3 16 (.callf 14) [.t 15],
 o3 17 (.bin .add) [.t 16, .c (.d (.str [58]))],
 om 5 17]
def F33c7 : Ac := (cd 12 (.ops F33o8) .skip)
def F33o12 := [
 om 18 1]
def F33o15 := [
 o3 20 (.bin .eql) [.t 18, .i 1],
 om 19 20]
def F33o19 := [
 o3 21 (.faddr 4) [.t 2],
 o3 22 (.load none) [.t 21],
 o3 23 (.bin .eql) [.t 22, .i 3]]
def F33o22 := [
 o3 24 (.faddr 6) [.t 2],
 o3 25 (.load none) [.t 24],
 o3 26 (.callf 12) [.t 25],
 om 4 26]
def F33c23 : Ac := .ret
def F33c20 : Ac := (cd 23 (so F33o22 F33c23) .skip)
def F33o26 := [
 o3 27 (.load (some 10)) [.t 2],
 o3 28 (.callf 47) [.t 27],
 o3 29 (.bin .add) [.c (.d (.str [66, 89, 84, 69, 32])), .t 28],
 om 4 29]
def F33c27 : Ac := .ret
def F33c25 : Ac := (so F33o26 F33c27)
def F33o29 := [
 o3 31 (.bin .eql) [.t 18, .i 2],
 om 30 31]
def F33o33 := [
 o3 32 (.faddr 4) [.t 2],
 o3 33 (.load none) [.t 32],
 o3 34 (.bin .eql) [.t 33, .i 3]]
def F33o36 := [
 o3 35 (.faddr 6) [.t 2],
 o3 36 (.load none) [.t 35],
 o3 37 (.callf 10) [.t 36],
 om 4 37]
def F33c37 : Ac := .ret
def F33c34 : Ac := (cd 34 (so F33o36 F33c37) .skip)
def F33o40 := [
 o3 38 (.load (some 10)) [.t 2],
 o3 39 (.callf 47) [.t 38],
 o3 40 (.bin .add) [.c (.d (.str [87, 79, 82, 68, 32])), .t 39],
 om 4 40]
def F33c41 : Ac := .ret
def F33c39 : Ac := (so F33o40 F33c41)
def F33o43 := [
 o3 42 (.bin .eql) [.t 18, .i 3],
 om 41 42]
def F33o46 := [
 o3 43 (.faddr 5) [.t 2],
 o3 44 (.load none) [.t 43],
 o3 45 (.callf 12) [.t 44],
 om 4 45]
def F33c47 : Ac := .ret
def F33o49 := [
 o3 47 (.bin .eql) [.t 18, .i 4],
 om 46 47]
def F33o52 := [
 o3 48 (.faddr 5) [.t 2],
 o3 49 (.load none) [.t 48],
 o3 50 (.callf 10) [.t 49],
 om 4 50]
def F33c53 : Ac := .ret
def F33o55 := [
 o3 52 (.bin .eql) [.t 18, .i 5],
 om 51 52]
def F33o58 := [
 o3 53 (.faddr 5) [.t 2],
 o3 54 (.load none) [.t 53],
 o3 55 (.callf 14) [.t 54],
 om 4 55]
def F33c59 : Ac := .ret
def F33o61 := [
 o3 57 (.bin .eql) [.t 18, .i 6],
 om 56 57]
def F33o64 := [
 om 58 6,
 o3 59 (.callf 48) [.t 58, .i 2],
 om 4 59]
def F33c65 : Ac := .ret
def F33o68 := [
 o3 61 (.bin .eql) [.t 18, .i 7],
 om 60 61]
def F33o71 := [
 o3 62 (.bin .eql) [.t 18, .i 8],
 om 60 62]
def F33c69 : Ac := (cd 60 .skip (.ops F33o71))
def F33o74 := [
 om 63 6,
 o3 64 (.callf 48) [.t 63, .i 4],
 om 4 64]
def F33c75 : Ac := .ret
def F33o78 := [
 o3 66 (.bin .eql) [.t 18, .i 9],
 om 65 66]
def F33o81 := [
 o3 67 (.bin .eql) [.t 18, .i 10],
 om 65 67]
def F33c79 : Ac := (cd 65 .skip (.ops F33o81))
def F33o85 := [
 om 68 6,
 o3 69 (.bin .gtr) [.t 68, .u 32767]]
def F33o88 := [
 om 70 6,
 o3 71 (.bin .sub) [.u 65536, .t 70],
 o3 72 (.callf 48) [.t 71, .i 4],
 o3 73 (.bin .add) [.c (.d (.str [45])), .t 72],
 om 4 73]
def F33c89 : Ac := .ret
def F33c86 : Ac := (cd 69 (so F33o88 F33c89) .skip)
def F33o92 := [
 om 74 6,
 o3 75 (.callf 48) [.t 74, .i 4],
 o3 76 (.bin .add) [.c (.d (.str [43])), .t 75],
 om 4 76]
def F33c93 : Ac := .ret
def F33c91 : Ac := (so F33o92 F33c93)
def F33o95 := [
 o3 78 (.bin .eql) [.t 18, .i 11],
 om 77 78]
def F33o98 := [
 o3 79 (.faddr 9) [.t 2],
 o3 80 (.load none) [.t 79],
 o3 81 (.toInt .u32) [.t 80],
 o3 82 (.callf 48) [.t 81, .i 4],
 o3 83 (.bin .add) [.t 82, .c (.d (.str [58]))],
 om 84 6,
 o3 85 (.callf 48) [.t 84, .i 4],
 o3 86 (.bin .add) [.t 83, .t 85],
 om 4 86]
def F33c99 : Ac := .ret
def F33o101 := [
 o3 88 (.bin .eql) [.t 18, .i 12],
 om 87 88]
def F33o104 := [
 om 89 5,
 o3 90 (.bin .add) [.c (.d (.str [66, 89, 84, 69, 32])), .t 89],
 o3 91 (.bin .add) [.t 90, .c (.d (.str [91]))],
 om 92 6,
 o3 93 (.callf 48) [.t 92, .i 4],
 o3 94 (.bin .add) [.t 91, .t 93],
 o3 95 (.bin .add) [.t 94, .c (.d (.str [93]))],
 om 4 95]
def F33c105 : Ac := .ret
def F33o107 := [
 o3 97 (.bin .eql) [.t 18, .i 13],
 om 96 97]
def F33o110 := [
 om 98 5,
 o3 99 (.bin .add) [.c (.d (.str [87, 79, 82, 68, 32])), .t 98],
 o3 100 (.bin .add) [.t 99, .c (.d (.str [91]))],
 om 101 6,
 o3 102 (.callf 48) [.t 101, .i 4],
 o3 103 (.bin .add) [.t 100, .t 102],
 o3 104 (.bin .add) [.t 103, .c (.d (.str [93]))],
 om 4 104]
def F33c111 : Ac := .ret
def F33o113 := [
 o3 106 (.bin .eql) [.t 18, .i 19],
 om 105 106]
def F33o116 := [
 o3 107 (.load (some 10)) [.t 2],
 o3 108 (.callf 47) [.t 107],
 o3 109 (.bin .add) [.c (.d (.str [70, 65, 82, 32])), .t 108],
 om 4 109]
def F33c117 : Ac := .ret
def F33o119 := [
 o3 111 (.bin .eql) [.t 18, .i 20],
 om 110 111]
def F33o122 := [
 o3 112 (.load (some 10)) [.t 2],
 o3 113 (.callf 47) [.t 112],
 om 4 113]
def F33c123 : Ac := .ret
def F33o125 := [
 o3 115 (.bin .eql) [.t 18, .i 21],
 om 114 115]
def F33o128 := [
 o3 116 (.faddr 3) [.t 2],
 o3 117 (.load none) [.t 116],
 o3 118 (.bin .rem) [.t 117, .y 8],
 o3 119 (.toInt .i64) [.t 118],
 o3 120 (.callf 12) [.t 119],
 om 4 120]
def F33c129 : Ac := .ret
def F33o131 := [
 o3 122 (.bin .eql) [.t 18, .i 22],
 om 121 122]
def F33o134 := [
 o3 123 (.faddr 3) [.t 2],
 o3 124 (.load none) [.t 123],
 o3 125 (.bin .rem) [.t 124, .y 8],
 o3 126 (.toInt .i64) [.t 125],
 o3 127 (.callf 10) [.t 126],
 om 4 127]
def F33c135 : Ac := .ret
def F33o137 := [
 o3 129 (.bin .eql) [.t 18, .i 23],
 om 128 129]
def F33o140 := [
 o3 130 (.faddr 3) [.t 2],
 o3 131 (.load none) [.t 130],
 o3 132 (.bin .quo) [.t 131, .y 8],
 o3 133 (.bin .rem) [.t 132, .y 4],
 o3 134 (.toInt .i64) [.t 133],
 o3 135 (.callf 14) [.t 134],
 om 4 135]
def F33c141 : Ac := .ret
def F33c138 : Ac := (cd 128 (so F33o140 F33c141) .skip)
def F33c132 : Ac := (cd 121 (so F33o134 F33c135) (so F33o137 F33c138))
def F33c126 : Ac := (cd 114 (so F33o128 F33c129) (so F33o131 F33c132))
def F33c120 : Ac := (cd 110 (so F33o122 F33c123) (so F33o125 F33c126))
def F33c114 : Ac := (cd 105 (so F33o116 F33c117) (so F33o119 F33c120))
def F33c108 : Ac := (cd 96 (so F33o110 F33c111) (so F33o113 F33c114))
def F33c102 : Ac := (cd 87 (so F33o104 F33c105) (so F33o107 F33c108))
def F33c96 : Ac := (cd 77 (so F33o98 F33c99) (so F33o101 F33c102))
def F33b82 : Ac := (cd 65 (.seq (so F33o85 F33c86) F33c91) (so F33o95 F33c96))
def F33c82 : Ac := (.seq (.gh []) (.seq (.keep [1, 2, 5, 6, 18, 65] [[2]]) F33b82))
def F33b72 : Ac := (cd 60 (so F33o74 F33c75) (.seq (so F33o78 F33c79) F33c82))
def F33c72 : Ac := (.seq (.gh []) (.seq (.keep [1, 2, 5, 6, 18, 60] [[2]]) F33b72))
def F33c62 : Ac := (cd 56 (so F33o64 F33c65) (.seq (so F33o68 F33c69) F33c72))
def F33c56 : Ac := (cd 51 (so F33o58 F33c59) (so F33o61 F33c62))
def F33c50 : Ac := (cd 46 (so F33o52 F33c53) (so F33o55 F33c56))
def F33c44 : Ac := (cd 41 (so F33o46 F33c47) (so F33o49 F33c50))
def F33c30 : Ac := (cd 30 (.seq (so F33o33 F33c34) F33c39) (so F33o43 F33c44))
def F33c16 : Ac := (cd 19 (.seq (so F33o19 F33c20) F33c25) (so F33o29 F33c30))
def F33c13 : Ac := (.block 0 (so F33o15 F33c16))
def F33o144 := [
 o3 136 (.bslice (.str []) 5 [0, 1, 2, 3, 4]) [.c (.d (.str [65, 76])), .c (.d (.str [67, 76])), .c (.d (.str [65, 88])), .c (.d (.str [68, 88])), .c (.d (.str [49]))],
 om 137 1,
 o3 138 (.bin .sub) [.t 137, .i 14],
 o3 139 (.callf 22) [.t 136, .t 138],
 om 4 139]
def F33c145 : Ac := .ret
def F33c143 : Ac := (so F33o144 F33c145)
def F33b10 : Ac := (.seq (so F33o12 F33c13) F33c143)
def F33c10 : Ac := (.seq (.gh []) (.seq (.keep [1, 2, 5, 6] [[2]]) F33b10))
def F33c4 : Ac := (.seq (so F33o6 F33c7) F33c10)
def F33c2 : Ac := (so F33o3 F33c4)
def F33c0 : Ac := (so F33o1 F33c2)
/-- hansom/hansomref17.operand -/
def F33 : Fn := { np := 2, pb := [], rs := [.t 4], body := F33c0 }
def F36o1 := [
 o3 2 .mv [.b false]]
def F36o3 := [
 om 3 0,
 o3 4 (.bin .eql) [.t 3, .y 38],
 om 5 4,
 og 6 .mv [.t 0] 5 false,
 og 7 (.bin .eql) [.t 6, .y 46] 5 false,
 o3 8 .pick [.t 5, .b true, .t 7],
 om 9 8,
 og 10 .mv [.t 0] 9 false,
 og 11 (.bin .eql) [.t 10, .y 54] 9 false,
 o3 12 .pick [.t 9, .b true, .t 11],
 om 13 12,
 og 14 .mv [.t 0] 13 false,
 og 15 (.bin .eql) [.t 14, .y 62] 13 false,
 o3 16 .pick [.t 13, .b true, .t 15],
 om 17 16,
 og 18 .mv [.t 0] 17 false,
 og 19 (.bin .eql) [.t 18, .y 240] 17 false,
 o3 20 .pick [.t 17, .b true, .t 19],
 om 21 20,
 og 22 .mv [.t 0] 21 false,
 og 23 (.bin .eql) [.t 22, .y 242] 21 false,
 o3 24 .pick [.t 21, .b true, .t 23],
 om 25 24,
 og 26 .mv [.t 0] 25 false,
 og 27 (.bin .eql) [.t 26, .y 243] 25 false,
 o3 28 .pick [.t 25, .b true, .t 27],
 om 2 28]
def F36c4 : Ac := .ret
def F36c2 : Ac := (so F36o3 F36c4)
def F36c0 : Ac := (so F36o1 F36c2)
/-- hansom/hansomref05.prefix -/
def F36 : Fn := { np := 1, pb := [], rs := [.t 2], body := F36c0 }
def F37o1 := [
 o3 4 (.alloc [.d (.int .i64 0), .d (.int .i64 0), .d (.int .i64 0), .d (.bool false)]) [],
 o3 5 .mv [.b false]]
def F37o3 := [
 om 8 0,
 om 9 1,
 o3 10 (.callf 50) [.t 8, .t 9],
 om 6 10]
def F37o6 := [
 om 11 6,
 o3 12 (.bin .eql) [.t 11, .c (.d (.str [45]))],
 om 13 12,
 og 14 .mv [.t 6] 13 false,
 og 15 (.bin .eql) [.t 14, .c (.d (.str []))] 13 false,
 o3 16 .pick [.t 13, .b true, .t 15]]
def F37o9 := [
 o3 17 (.build [.d (.int .i64 0), .d (.int .i64 0), .d (.int .i64 0), .d (.bool false)] []) [],
 o0 (.store 4) [.t 4, .t 17],
 o3 5 .mv [.b false]]
def F37c10 : Ac := .ret
def F37c7 : Ac := (cd 16 (so F37o9 F37c10) .skip)
def F37o13 := [
 om 18 6,
 o3 19 (.callf 51) [.t 18, .y 58, .i 0],
 o3 20 (.callf 15) [.t 19],
 om 21 6,
 o3 22 (.callf 51) [.t 21, .y 58, .i 1],
 o3 23 (.callf 23) [.c (.d (.str [69, 98, 32, 69, 118, 32, 71, 98, 32, 71, 118, 32, 83, 119, 32, 73, 98, 32, 73, 118, 32, 73, 115, 32, 74, 98, 32, 74, 118, 32, 65, 112, 32, 79, 98, 32, 79, 118, 32, 65, 76, 32, 67, 76, 32, 65, 88, 32, 68, 88, 32, 79, 110, 101, 32, 77, 112, 32, 77, 32, 90, 98, 32, 90, 118, 32, 90, 115, 32, 84, 104, 114, 101, 101, 32])), .t 22],
 om 24 6,
 o3 25 (.callf 51) [.t 24, .y 58, .i 2],
 o3 26 (.callf 23) [.c (.d (.str [69, 98, 32, 69, 118, 32, 71, 98, 32, 71, 118, 32, 83, 119, 32, 73, 98, 32, 73, 118, 32, 73, 115, 32, 74, 98, 32, 74, 118, 32, 65, 112, 32, 79, 98, 32, 79, 118, 32, 65, 76, 32, 67, 76, 32, 65, 88, 32, 68, 88, 32, 79, 110, 101, 32, 77, 112, 32, 77, 32, 90, 98, 32, 90, 118, 32, 90, 115, 32, 84, 104, 114, 101, 101, 32])), .t 25],
 o3 27 (.build [.d (.int .i64 0), .d (.int .i64 0), .d (.int .i64 0), .d (.bool false)] [(0, 1), (1, 1), (2, 1)]) [.t 20, .t 23, .t 26],
 o3 7 (.alloc [.d (.int .i64 0), .d (.int .i64 0), .d (.int .i64 0), .d (.bool false)]) [],
 o0 (.store 4) [.t 7, .t 27]]
def F37o15 := [
 o3 28 (.faddr 1) [.t 7],
 o3 29 (.load none) [.t 28],
 o3 30 (.callf 52) [.t 29],
 om 31 30,
 og 32 (.faddr 2) [.t 7] 31 false,
 og 33 (.load none) [.t 32] 31 false,
 og 34 (.callf 52) [.t 33] 31 false,
 o3 35 .pick [.t 31, .b true, .t 34],
 o3 36 (.faddr 3) [.t 7],
 o0 (.store 1) [.t 36, .t 35]]
def F37o17 := [
 o3 37 (.load (some 4)) [.t 7],
 o0 (.store 4) [.t 4, .t 37],
 o3 5 .mv [.b true]]
def F37c18 : Ac := .ret
def F37c16 : Ac := (so F37o17 F37c18)
def F37c14 : Ac := (so F37o15 F37c16)
def F37c12 : Ac := (so F37o13 F37c14)
def F37c4 : Ac := (.seq (so F37o6 F37c7) F37c12)
def F37c2 : Ac := (so F37o3 F37c4)
def F37c0 : Ac := (so F37o1 F37c2)
/-- hansom/hansomref04.Row -/
def F37 : Fn := { np := 2, pb := [], rs := [.c 4 (some 4), .t 5], body := F37c0 }
def F38o1 := [
 o3 2 .mv [.b false]]
def F38o3 := [
 om 3 0,
 o3 4 (.bin .lss) [.t 3, .w 128],
 om 5 4,
 og 6 .mv [.t 0] 5 false,
 og 7 (.bin .geq) [.t 6, .w 65408] 5 false,
 o3 8 .pick [.t 5, .b true, .t 7],
 om 2 8]
def F38c4 : Ac := .ret
def F38c2 : Ac := (so F38o3 F38c4)
def F38c0 : Ac := (so F38o1 F38c2)
/-- hansom/hansomref01.Fits -/
def F38 : Fn := { np := 1, pb := [], rs := [.t 2], body := F38c0 }
def F39o1 := [
 o3 2 (.box 10) [.t 0],
 o3 3 (.box 4) [.t 1],
 o3 4 .mv [.b false]]
def F39o4 := [
 o3 5 (.faddr 3) [.t 3],
 o3 6 (.load none) [.t 5],
 o3 7 (.un .not) [.t 6]]
def F39o7 := [
 o3 8 (.faddr 4) [.t 2],
 o3 9 (.load none) [.t 8],
 o3 10 (.bin .eql) [.t 9, .i 0],
 om 11 10,
 og 12 (.faddr 5) [.t 2] 11 true,
 og 13 (.load none) [.t 12] 11 true,
 og 14 (.bin .eql) [.t 13, .i 0] 11 true,
 o3 15 .pick [.t 11, .t 14, .b false],
 om 16 15,
 og 17 (.faddr 6) [.t 2] 16 true,
 og 18 (.load none) [.t 17] 16 true,
 og 19 (.bin .eql) [.t 18, .i 0] 16 true,
 o3 20 .pick [.t 16, .t 19, .b false],
 om 21 20,
 og 22 (.faddr 7) [.t 2] 21 true,
 og 23 (.load none) [.t 22] 21 true,
 og 24 (.bin .eql) [.t 23, .w 0] 21 true,
 o3 25 .pick [.t 21, .t 24, .b false],
 om 4 25]
def F39c8 : Ac := .ret
def F39c5 : Ac := (cd 7 (so F39o7 F39c8) .skip)
def F39o12 := [
 o3 26 (.faddr 4) [.t 2],
 o3 27 (.load none) [.t 26],
 o3 28 (.bin .lss) [.t 27, .i 0],
 om 29 28,
 og 30 (.faddr 4) [.t 2] 29 false,
 og 31 (.load none) [.t 30] 29 false,
 og 32 (.bin .gtr) [.t 31, .i 3] 29 false,
 o3 33 .pick [.t 29, .b true, .t 32],
 om 34 33,
 og 35 (.faddr 5) [.t 2] 34 false,
 og 36 (.load none) [.t 35] 34 false,
 og 37 (.bin .lss) [.t 36, .i 0] 34 false,
 o3 38 .pick [.t 34, .b true, .t 37],
 om 39 38,
 og 40 (.faddr 5) [.t 2] 39 false,
 og 41 (.load none) [.t 40] 39 false,
 og 42 (.bin .gtr) [.t 41, .i 7] 39 false,
 o3 43 .pick [.t 39, .b true, .t 42],
 om 44 43,
 og 45 (.faddr 6) [.t 2] 44 false,
 og 46 (.load none) [.t 45] 44 false,
 og 47 (.bin .lss) [.t 46, .i 0] 44 false,
 o3 48 .pick [.t 44, .b true, .t 47],
 om 49 48,
 og 50 (.faddr 6) [.t 2] 49 false,
 og 51 (.load none) [.t 50] 49 false,
 og 52 (.bin .gtr) [.t 51, .i 7] 49 false,
 o3 53 .pick [.t 49, .b true, .t 52]]
def F39o15 := [
 o3 4 .mv [.b false]]
def F39c16 : Ac := .ret
def F39c13 : Ac := (cd 53 (so F39o15 F39c16) .skip)
def F39o20 := [
 o3 54 (.faddr 4) [.t 2],
 o3 55 (.load none) [.t 54],
 o3 56 (.bin .eql) [.t 55, .i 3],
 om 57 56,
 og 58 (.faddr 1) [.t 3] 57 true,
 og 59 (.load none) [.t 58] 57 true,
 og 60 (.bin .eql) [.t 59, .i 19] 57 true,
 og 61 .mv [.t 60] 57 true,
 og 62 (.faddr 2) [.t 3] 61 false,
 og 63 (.load none) [.t 62] 61 false,
 og 64 (.bin .eql) [.t 63, .i 19] 61 false,
 og 65 .pick [.t 61, .b true, .t 64] 57 true,
 og 66 .mv [.t 65] 57 true,
 og 67 (.faddr 2) [.t 3] 66 false,
 og 68 (.load none) [.t 67] 66 false,
 og 69 (.bin .eql) [.t 68, .i 20] 66 false,
 og 70 .pick [.t 66, .b true, .t 69] 57 true,
 o3 71 .pick [.t 57, .t 70, .b false]]
def F39o23 := [
 o3 4 .mv [.b false]]
def F39c24 : Ac := .ret
def F39c21 : Ac := (cd 71 (so F39o23 F39c24) .skip)
def F39o28 := [
 o3 72 (.faddr 4) [.t 2],
 o3 73 (.load none) [.t 72],
 o3 74 (.faddr 6) [.t 2],
 o3 75 (.load none) [.t 74],
 o3 76 (.callf 53) [.t 73, .t 75]]
def F39o31 := [
 o3 78 (.bin .eql) [.t 76, .i 0],
 om 77 78]
def F39o34 := [
 o3 79 (.faddr 7) [.t 2],
 o3 80 (.load none) [.t 79],
 o3 81 (.bin .eql) [.t 80, .w 0],
 om 4 81]
def F39c35 : Ac := .ret
def F39o37 := [
 o3 83 (.bin .eql) [.t 76, .i 1],
 om 82 83]
def F39o40 := [
 o3 84 (.faddr 7) [.t 2],
 o3 85 (.load none) [.t 84],
 o3 86 (.callf 54) [.t 85],
 om 4 86]
def F39c41 : Ac := .ret
def F39c38 : Ac := (cd 82 (so F39o40 F39c41) .skip)
def F39c32 : Ac := (cd 77 (so F39o34 F39c35) (so F39o37 F39c38))
def F39c29 : Ac := (.block 0 (so F39o31 F39c32))
def F39o44 := [
 o3 4 .mv [.b true]]
def F39c45 : Ac := .ret
def F39c43 : Ac := (so F39o44 F39c45)
def F39b26 : Ac := (.seq (so F39o28 F39c29) F39c43)
def F39c26 : Ac := (.seq (.gh []) (.seq (.keep [2] [[2]]) F39b26))
def F39c18 : Ac := (.seq (so F39o20 F39c21) F39c26)
def F39c10 : Ac := (.seq (so F39o12 F39c13) F39c18)
def F39c2 : Ac := (.seq (so F39o4 F39c5) F39c10)
def F39c0 : Ac := (so F39o1 F39c2)
/-- hansom/inst.second -/
def F39 : Fn := { np := 2, pb := [], rs := [.t 4], body := F39c0 }
def F40o1 := [
 o3 2 (.box 10) [.t 0],
 o3 3 (.box 4) [.t 1],
 o3 4 .mv [.b false]]
def F40o4 := [
 o3 7 (.faddr 1) [.t 3],
 o3 8 (.load none) [.t 7],
 o3 9 (.faddr 2) [.t 3],
 o3 10 (.load none) [.t 9],
 o3 11 (.build [.d (.int .i64 0), .d (.int .i64 0)] [(0, 1), (1, 1)]) [.t 8, .t 10],
 o3 12 .mv [.i 0]]
def F40o8 := [
 o3 13 (.bin .lss) [.t 12, .i 2]]
def F40o16 := [
 o3 14 (.indexA 2 1 none) [.t 11, .t 12],
 om 6 14]
def F40o18 := [
 om 15 6]
def F40o21 := [
 o3 17 (.bin .eql) [.t 15, .i 6],
 om 16 17]
def F40o24 := [
 o3 18 (.faddr 8) [.t 2],
 o3 19 (.load none) [.t 18],
 o3 20 (.bin .lss) [.t 19, .w 256],
 om 21 20,
 og 22 (.faddr 9) [.t 2] 21 true,
 og 23 (.load none) [.t 22] 21 true,
 og 24 (.bin .eql) [.t 23, .w 0] 21 true,
 o3 25 .pick [.t 21, .t 24, .b false],
 om 26 25,
 og 27 (.faddr 0) [.t 3] 26 true,
 og 28 (.load none) [.t 27] 26 true,
 og 29 (.bin .neq) [.t 28, .i 70] 26 true,
 og 30 .mv [.t 29] 26 true,
 og 31 (.faddr 0) [.t 3] 30 true,
 og 32 (.load none) [.t 31] 30 true,
 og 33 (.bin .neq) [.t 32, .i 71] 30 true,
 og 34 .pick [.t 30, .t 33, .b false] 26 true,
 og 35 .mv [.t 34] 26 true,
 og 36 (.faddr 8) [.t 2] 35 false,
 og 37 (.load none) [.t 36] 35 false,
 og 38 (.bin .eql) [.t 37, .w 10] 35 false,
 og 39 .pick [.t 35, .b true, .t 38] 26 true,
 o3 40 .pick [.t 26, .t 39, .b false],
 om 4 40]
def F40c25 : Ac := .ret
def F40o28 := [
 o3 42 (.bin .eql) [.t 15, .i 8],
 om 41 42]
def F40o31 := [
 o3 43 (.bin .eql) [.t 15, .i 9],
 om 41 43]
def F40c29 : Ac := (cd 41 .skip (.ops F40o31))
def F40o34 := [
 o3 44 (.faddr 8) [.t 2],
 o3 45 (.load none) [.t 44],
 o3 46 (.callf 54) [.t 45],
 om 47 46,
 og 48 (.faddr 9) [.t 2] 47 true,
 og 49 (.load none) [.t 48] 47 true,
 og 50 (.bin .eql) [.t 49, .w 0] 47 true,
 o3 51 .pick [.t 47, .t 50, .b false],
 om 4 51]
def F40c35 : Ac := .ret
def F40o38 := [
 o3 53 (.bin .eql) [.t 15, .i 7],
 om 52 53]
def F40o42 := [
 o3 54 (.bin .eql) [.t 15, .i 10],
 om 52 54]
def F40o46 := [
 o3 55 (.bin .eql) [.t 15, .i 12],
 om 52 55]
def F40o49 := [
 o3 56 (.bin .eql) [.t 15, .i 13],
 om 52 56]
def F40c47 : Ac := (cd 52 .skip (.ops F40o49))
def F40c43 : Ac := (cd 52 .skip (so F40o46 F40c47))
def F40c39 : Ac := (cd 52 .skip (so F40o42 F40c43))
def F40o52 := [
 o3 57 (.faddr 9) [.t 2],
 o3 58 (.load none) [.t 57],
 o3 59 (.bin .eql) [.t 58, .w 0],
 om 4 59]
def F40c53 : Ac := .ret
def F40o55 := [
 o3 61 (.bin .eql) [.t 15, .i 11],
 om 60 61]
def F40o58 := [
 o3 4 .mv [.b true]]
def F40c59 : Ac := .ret
def F40c56 : Ac := (cd 60 (so F40o58 F40c59) .skip)
def F40c50 : Ac := (cd 52 (so F40o52 F40c53) (so F40o55 F40c56))
def F40b32 : Ac := (cd 41 (so F40o34 F40c35) (.seq (so F40o38 F40c39) F40c50))
def F40c32 : Ac := (.seq (.gh []) (.seq (.keep [2, 3, 11, 12, 15, 41] [[2], [3]]) F40b32))
def F40c22 : Ac := (cd 16 (so F40o24 F40c25) (.seq (so F40o28 F40c29) F40c32))
def F40c19 : Ac := (.block 2 (so F40o21 F40c22))
def F40c17 : Ac := (so F40o18 F40c19)
def F40o61 := [
 o3 62 (.bin .add) [.t 12, .i 1],
 om 12 62]
def F40c61 : Ac := (.ops F40o61)
def F40c13 : Ac := (.seq (.block 1 (so F40o16 F40c17)) F40c61)
def F40c9 : Ac := (.seq (cd 13 .skip (.exit 0)) F40c13)
def F40l6 : Ac := (so F40o8 F40c9)
def F40c5 : Ac := (.block 0 (.loop (.seq (.gh []) (.seq (.keep [2, 3, 11, 12] [[2], [3]]) F40l6))))
def F40o63 := [
 o3 63 (.faddr 8) [.t 2],
 o3 64 (.load none) [.t 63],
 o3 65 (.bin .eql) [.t 64, .w 0],
 om 66 65,
 og 67 (.faddr 9) [.t 2] 66 true,
 og 68 (.load none) [.t 67] 66 true,
 og 69 (.bin .eql) [.t 68, .w 0] 66 true,
 o3 70 .pick [.t 66, .t 69, .b false],
 om 4 70]
def F40c64 : Ac := .ret
def F40b62 : Ac := (so F40o63 F40c64)
def F40c62 : Ac := (.seq (.gh []) (.seq (.keep [2] [[2]]) F40b62))
def F40c2 : Ac := (.seq (so F40o4 F40c5) F40c62)
def F40c0 : Ac := (so F40o1 F40c2)
/-- hansom/inst.behind -/
def F40 : Fn := { np := 2, pb := [], rs := [.t 4], body := F40c0 }
def F41o1 := [
 o3 2 (.box 10) [.t 0],
 o3 3 (.box 4) [.t 1],
 o3 4 .mv [.b false]]
def F41o3 := [
 o3 6 (.faddr 0) [.t 3],
 o3 7 (.load none) [.t 6],
 o3 8 (.callf 55) [.t 7],
 om 5 8]
def F41o6 := [
 o3 9 (.faddr 1) [.t 2],
 o3 10 (.load none) [.t 9]]
def F41o9 := [
 o3 12 (.bin .eql) [.t 10, .i 0],
 om 11 12]
def F41o13 := [
 o3 14 (.bin .eql) [.t 10, .i 1],
 om 13 14]
def F41o16 := [
 om 15 5,
 o3 16 (.bin .lss) [.t 15, .i 2]]
def F41o19 := [
 o3 4 .mv [.b false]]
def F41c20 : Ac := .ret
def F41c17 : Ac := (cd 16 (so F41o19 F41c20) .skip)
def F41o23 := [
 o3 18 (.bin .eql) [.t 10, .i 2],
 om 17 18]
def F41o26 := [
 om 19 5,
 o3 20 (.bin .lss) [.t 19, .i 1]]
def F41o29 := [
 o3 4 .mv [.b false]]
def F41c30 : Ac := .ret
def F41c27 : Ac := (cd 20 (so F41o29 F41c30) .skip)
def F41o33 := [
 o3 4 .mv [.b false]]
def F41c34 : Ac := .ret
def F41c24 : Ac := (cd 17 (so F41o26 F41c27) (so F41o33 F41c34))
def F41c14 : Ac := (cd 13 (so F41o16 F41c17) (so F41o23 F41c24))
def F41c10 : Ac := (cd 11 .skip (so F41o13 F41c14))
def F41c7 : Ac := (.block 0 (so F41o9 F41c10))
def F41o36 := [
 o3 21 (.faddr 2) [.t 2],
 o3 22 (.load none) [.t 21],
 o3 23 (.bin .geq) [.t 22, .i 0],
 om 24 23,
 og 25 (.faddr 2) [.t 2] 24 true,
 og 26 (.load none) [.t 25] 24 true,
 og 27 (.bin .leq) [.t 26, .i 4] 24 true,
 o3 28 .pick [.t 24, .t 27, .b false],
 om 4 28]
def F41c37 : Ac := .ret
def F41c35 : Ac := (so F41o36 F41c37)
def F41c4 : Ac := (.seq (so F41o6 F41c7) F41c35)
def F41c2 : Ac := (so F41o3 F41c4)
def F41c0 : Ac := (so F41o1 F41c2)
/-- hansom/inst.prefixes -/
def F41 : Fn := { np := 2, pb := [], rs := [.t 4], body := F41c0 }
def F42o1 := [
 o3 2 .mv [.b false]]
def F42o4 := [
 om 3 0]
def F42o8 := [
 o3 5 (.bin .eql) [.t 3, .y 38],
 om 4 5]
def F42o12 := [
 o3 6 (.bin .eql) [.t 3, .y 46],
 om 4 6]
def F42o16 := [
 o3 7 (.bin .eql) [.t 3, .y 54],
 om 4 7]
def F42o20 := [
 o3 8 (.bin .eql) [.t 3, .y 62],
 om 4 8]
def F42o24 := [
 o3 9 (.bin .eql) [.t 3, .y 240],
 om 4 9]
def F42o28 := [
 o3 10 (.bin .eql) [.t 3, .y 242],
 om 4 10]
def F42o31 := [
 o3 11 (.bin .eql) [.t 3, .y 243],
 om 4 11]
def F42c29 : Ac := (cd 4 .skip (.ops F42o31))
def F42c25 : Ac := (cd 4 .skip (so F42o28 F42c29))
def F42c21 : Ac := (cd 4 .skip (so F42o24 F42c25))
def F42c17 : Ac := (cd 4 .skip (so F42o20 F42c21))
def F42c13 : Ac := (cd 4 .skip (so F42o16 F42c17))
def F42c9 : Ac := (cd 4 .skip (so F42o12 F42c13))
def F42o34 := [
 o3 2 .mv [.b true]]
def F42c35 : Ac := .ret
def F42c32 : Ac := (cd 4 (so F42o34 F42c35) .skip)
def F42c5 : Ac := (.block 0 (.seq (so F42o8 F42c9) F42c32))
def F42o38 := [
 o3 2 .mv [.b false]]
def F42c39 : Ac := .ret
def F42c37 : Ac := (so F42o38 F42c39)
def F42c2 : Ac := (.seq (so F42o4 F42c5) F42c37)
def F42c0 : Ac := (so F42o1 F42c2)
/-- hansom/isa.Prefix -/
def F42 : Fn := { np := 1, pb := [], rs := [.t 2], body := F42c0 }
def F43o1 := [
 o3 4 (.alloc [.d (.int .i64 0), .d (.int .i64 0), .d (.int .i64 0), .d (.bool false)]) [],
 o3 5 .mv [.b false]]
def F43o3 := [
 om 7 1,
 o3 8 (.bin .and) [.t 7, .i 7],
 om 1 8]
def F43o7 := [
 om 10 0,
 o3 11 (.bin .lss) [.t 10, .y 64],
 om 9 11]
def F43o10 := [
 om 12 0,
 o3 13 (.callf 56) [.t 12],
 oe 14 0 13,
 oe 15 1 13,
 o0 (.store 4) [.t 4, .t 14],
 om 5 15]
def F43c11 : Ac := .ret
def F43o13 := [
 om 17 0,
 o3 18 (.bin .lss) [.t 17, .y 96],
 om 16 18]
def F43o16 := [
 o3 19 (.bslice (.int .i64 0) 4 [0, 1, 2, 3]) [.i 15, .i 16, .i 9, .i 10],
 om 20 0,
 o3 21 (.bin .sub) [.t 20, .y 64],
 o3 22 (.bin .shr) [.t 21, .c (.d (.int .u64 3))],
 o3 23 (.iaddrS 1) [.t 19, .t 22],
 o3 24 (.load none) [.t 23],
 om 6 24]
def F43o18 := [
 om 25 6,
 o3 26 (.callf 57) [.t 25, .i 22, .i 0],
 oe 27 0 26,
 oe 28 1 26,
 o0 (.store 4) [.t 4, .t 27],
 om 5 28]
def F43c19 : Ac := .ret
def F43c17 : Ac := (so F43o18 F43c19)
def F43o21 := [
 om 30 0,
 o3 31 (.bin .lss) [.t 30, .y 112],
 om 29 31]
def F43o24 := [
 o3 32 (.callf 58) [],
 oe 33 0 32,
 oe 34 1 32,
 o0 (.store 4) [.t 4, .t 33],
 om 5 34]
def F43c25 : Ac := .ret
def F43o27 := [
 om 36 0,
 o3 37 (.bin .lss) [.t 36, .y 128],
 om 35 37]
def F43o30 := [
 om 38 0,
 o3 39 (.bin .sub) [.t 38, .y 112],
 o3 40 (.toInt .i64) [.t 39],
 o3 41 (.bin .add) [.i 17, .t 40],
 o3 42 (.callf 57) [.t 41, .i 9, .i 0],
 oe 43 0 42,
 oe 44 1 42,
 o0 (.store 4) [.t 4, .t 43],
 om 5 44]
def F43c31 : Ac := .ret
def F43o33 := [
 om 46 0,
 o3 47 (.bin .lss) [.t 46, .y 144],
 om 45 47]
def F43o36 := [
 om 48 0,
 om 49 1,
 o3 50 (.callf 59) [.t 48, .t 49],
 oe 51 0 50,
 oe 52 1 50,
 o0 (.store 4) [.t 4, .t 51],
 om 5 52]
def F43c37 : Ac := .ret
def F43o39 := [
 om 54 0,
 o3 55 (.bin .lss) [.t 54, .y 160],
 om 53 55]
def F43o42 := [
 om 56 0,
 o3 57 (.callf 60) [.t 56],
 oe 58 0 57,
 oe 59 1 57,
 o0 (.store 4) [.t 4, .t 58],
 om 5 59]
def F43c43 : Ac := .ret
def F43o45 := [
 om 61 0,
 o3 62 (.bin .lss) [.t 61, .y 176],
 om 60 62]
def F43o48 := [
 om 63 0,
 o3 64 (.callf 61) [.t 63],
 oe 65 0 64,
 oe 66 1 64,
 o0 (.store 4) [.t 4, .t 65],
 om 5 66]
def F43c49 : Ac := .ret
def F43o51 := [
 om 68 0,
 o3 69 (.bin .lss) [.t 68, .y 184],
 om 67 69]
def F43o54 := [
 o3 70 (.callf 57) [.i 35, .i 21, .i 6],
 oe 71 0 70,
 oe 72 1 70,
 o0 (.store 4) [.t 4, .t 71],
 om 5 72]
def F43c55 : Ac := .ret
def F43o57 := [
 om 74 0,
 o3 75 (.bin .lss) [.t 74, .y 192],
 om 73 75]
def F43o60 := [
 o3 76 (.callf 57) [.i 35, .i 22, .i 7],
 oe 77 0 76,
 oe 78 1 76,
 o0 (.store 4) [.t 4, .t 77],
 om 5 78]
def F43c61 : Ac := .ret
def F43o63 := [
 om 80 0,
 o3 81 (.bin .lss) [.t 80, .y 208],
 om 79 81]
def F43o66 := [
 om 82 0,
 om 83 1,
 o3 84 (.callf 62) [.t 82, .t 83],
 oe 85 0 84,
 oe 86 1 84,
 o0 (.store 4) [.t 4, .t 85],
 om 5 86]
def F43c67 : Ac := .ret
def F43o69 := [
 om 88 0,
 o3 89 (.bin .lss) [.t 88, .y 224],
 om 87 89]
def F43o72 := [
 om 90 0,
 om 91 1,
 o3 92 (.callf 63) [.t 90, .t 91],
 oe 93 0 92,
 oe 94 1 92,
 o0 (.store 4) [.t 4, .t 93],
 om 5 94]
def F43c73 : Ac := .ret
def F43o75 := [
 om 96 0,
 o3 97 (.bin .lss) [.t 96, .y 240],
 om 95 97]
def F43o78 := [
 om 98 0,
 o3 99 (.callf 64) [.t 98],
 oe 100 0 99,
 oe 101 1 99,
 o0 (.store 4) [.t 4, .t 100],
 om 5 101]
def F43c79 : Ac := .ret
def F43c76 : Ac := (cd 95 (so F43o78 F43c79) .skip)
def F43c70 : Ac := (cd 87 (so F43o72 F43c73) (so F43o75 F43c76))
def F43c64 : Ac := (cd 79 (so F43o66 F43c67) (so F43o69 F43c70))
def F43c58 : Ac := (cd 73 (so F43o60 F43c61) (so F43o63 F43c64))
def F43c52 : Ac := (cd 67 (so F43o54 F43c55) (so F43o57 F43c58))
def F43c46 : Ac := (cd 60 (so F43o48 F43c49) (so F43o51 F43c52))
def F43c40 : Ac := (cd 53 (so F43o42 F43c43) (so F43o45 F43c46))
def F43c34 : Ac := (cd 45 (so F43o36 F43c37) (so F43o39 F43c40))
def F43c28 : Ac := (cd 35 (so F43o30 F43c31) (so F43o33 F43c34))
def F43c22 : Ac := (cd 29 (so F43o24 F43c25) (so F43o27 F43c28))
def F43c14 : Ac := (cd 16 (so F43o16 F43c17) (so F43o21 F43c22))
def F43c8 : Ac := (cd 9 (so F43o10 F43c11) (so F43o13 F43c14))
def F43o82 := [
 om 102 0,
 om 103 1,
 o3 104 (.callf 65) [.t 102, .t 103],
 oe 105 0 104,
 oe 106 1 104,
 o0 (.store 4) [.t 4, .t 105],
 om 5 106]
def F43c83 : Ac := .ret
def F43c81 : Ac := (so F43o82 F43c83)
def F43c4 : Ac := (.seq (.block 0 (so F43o7 F43c8)) F43c81)
def F43c2 : Ac := (so F43o3 F43c4)
def F43c0 : Ac := (so F43o1 F43c2)
/-- hansom/isa.Of -/
def F43 : Fn := { np := 2, pb := [], rs := [.c 4 (some 4), .t 5], body := F43c0 }
def F44o1 := [
 o3 1 (.box 10) [.t 0],
 o3 2 .mv [.c (.d (.str []))]]
def F44o3 := [
 o3 3 .mv [.c (.d (.str []))]]
def F44o6 := [
 o3 6 (.faddr 2) [.t 1],
 o3 7 (.load none) [.t 6],
 o3 8 (.bin .gtr) [.t 7, .i 0]]
def F44o8 := [
 o3 9 (.faddr 2) [.t 1],
 o3 10 (.load none) [.t 9],
 o3 11 (.bin .sub) [.t 10, .i 1],
 o3 12 (.callf 13) [.t 11],
 o3 13 (.bin .add) [.t 12, .c (.d (.str [58]))],
 om 3 13]
def F44c7 : Ac := (cd 8 (.ops F44o8) .skip)
def F44o12 := [
 o3 14 (.faddr 4) [.t 1],
 o3 15 (.load none) [.t 14],
 o3 16 (.faddr 6) [.t 1],
 o3 17 (.load none) [.t 16],
 o3 18 (.callf 53) [.t 15, .t 17]]
def F44o15 := [
 o3 20 (.bin .eql) [.t 18, .i 0],
 om 19 20]
def F44o18 := [
 om 21 3,
 o3 22 (.bin .add) [.t 21, .c (.d (.str [91]))],
 o3 23 (.faddr 6) [.t 1],
 o3 24 (.load none) [.t 23],
 o3 25 (.callf 66) [.t 24],
 o3 26 (.bin .add) [.t 22, .t 25],
 o3 27 (.bin .add) [.t 26, .c (.d (.str [93]))],
 om 2 27]
def F44c19 : Ac := .ret
def F44o21 := [
 o3 29 (.bin .eql) [.t 18, .i 1],
 om 28 29]
def F44o24 := [
 o3 30 (.faddr 7) [.t 1],
 o3 31 (.load none) [.t 30],
 o3 4 .mv [.c (.d (.str [43]))],
 om 5 31]
def F44o27 := [
 om 32 5,
 o3 33 (.bin .geq) [.t 32, .w 32768]]
def F44o29 := [
 om 34 5,
 o3 35 (.un .neg) [.t 34],
 o3 4 .mv [.c (.d (.str [45]))],
 om 5 35]
def F44c28 : Ac := (cd 33 (.ops F44o29) .skip)
def F44o32 := [
 om 36 3,
 o3 37 (.bin .add) [.t 36, .c (.d (.str [91]))],
 o3 38 (.faddr 6) [.t 1],
 o3 39 (.load none) [.t 38],
 o3 40 (.callf 66) [.t 39],
 o3 41 (.bin .add) [.t 37, .t 40],
 om 42 4,
 o3 43 (.bin .add) [.t 41, .t 42],
 om 44 5,
 o3 45 (.toInt .u32) [.t 44],
 o3 46 (.callf 45) [.t 45, .i 2],
 o3 47 (.bin .add) [.t 43, .t 46],
 o3 48 (.bin .add) [.t 47, .c (.d (.str [93]))],
 om 2 48]
def F44c33 : Ac := .ret
def F44c31 : Ac := (so F44o32 F44c33)
def F44c25 : Ac := (.seq (so F44o27 F44c28) F44c31)
def F44c22 : Ac := (cd 28 (so F44o24 F44c25) .skip)
def F44c16 : Ac := (cd 19 (so F44o18 F44c19) (so F44o21 F44c22))
def F44c13 : Ac := (.block 0 (so F44o15 F44c16))
def F44o37 := [
 o3 49 (.faddr 4) [.t 1],
 o3 50 (.load none) [.t 49],
 o3 51 (.bin .eql) [.t 50, .i 0]]
def F44o40 := [
 om 52 3,
 o3 53 (.bin .add) [.t 52, .c (.d (.str [91]))],
 o3 54 (.faddr 7) [.t 1],
 o3 55 (.load none) [.t 54],
 o3 56 (.toInt .u32) [.t 55],
 o3 57 (.callf 45) [.t 56, .i 4],
 o3 58 (.bin .add) [.t 53, .t 57],
 o3 59 (.bin .add) [.t 58, .c (.d (.str [93]))],
 om 2 59]
def F44c41 : Ac := .ret
def F44c38 : Ac := (cd 51 (so F44o40 F44c41) .skip)
def F44o44 := [
 om 60 3,
 o3 61 (.bin .add) [.t 60, .c (.d (.str [91]))],
 o3 62 (.faddr 6) [.t 1],
 o3 63 (.load none) [.t 62],
  { dst := some 64, k := (.callf 66), xs := [.t 63], al := some [] },
 o3 65 (.bin .add) [.t 61, .t 64],
 o3 66 (.bin .add) [.t 65, .c (.d (.str [43]))],
 o3 67 (.faddr 7) [.t 1],
  { dst := some 68, k := (.load none), xs := [.t 67], av := [[64]] },
 o3 69 (.toInt .u32) [.t 68],
 o3 70 (.callf 45) [.t 69, .i 4],
 o3 71 (.bin .add) [.t 66, .t 70],
 o3 72 (.bin .add) [.t 71, .c (.d (.str [93]))],
 om 2 72]
def F44c45 : Ac := .ret
def F44c43 : Ac := (so F44o44 F44c45)
def F44c35 : Ac := (.seq (so F44o37 F44c38) F44c43)
def F44b10 : Ac := (.seq (so F44o12 F44c13) F44c35)
def F44c10 : Ac := (.seq (.gh []) (.seq (.keep [1, 3] [[1]]) F44b10))
def F44c4 : Ac := (.seq (so F44o6 F44c7) F44c10)
def F44c2 : Ac := (so F44o3 F44c4)
def F44c0 : Ac := (so F44o1 F44c2)
/-- hansom/disp.place -/
def F44 : Fn := { np := 1, pb := [], rs := [.t 2], body := F44c0 }
def F45o1 := [
 o3 4 .mv [.c (.d (.str []))]]
def F45o3 := [
 om 7 1,
 o3 8 .mx [.t 7, .i 1],
 o3 9 .mn [.t 8, .i 8],
 om 1 9]
def F45o5 := [
 om 10 1,
 o3 11 (.mkslice (.int .u8 0) 1) [.t 10, .t 10],
 om 5 11]
def F45o8 := [
 om 12 5,
 o3 13 .lenL [.t 12],
 o3 14 .mv [.i 0]]
def F45o12 := [
 o3 15 (.bin .lss) [.t 14, .t 13]]
def F45o20 := [
 om 16 14,
 om 6 16]
def F45o22 := [
 om 17 5,
 om 18 1,
 o3 19 (.bin .sub) [.t 18, .i 1],
 om 20 6,
 o3 21 (.bin .sub) [.t 19, .t 20],
 om 22 0,
 o3 23 (.bin .and) [.t 22, .u 15],
 o3 24 .indexS [.c (.d (.str [48, 49, 50, 51, 52, 53, 54, 55, 56, 57, 65, 66, 67, 68, 69, 70])), .t 23],
 o3 25 (.iaddrS 1) [.t 17, .t 21],
 o0 (.store 1) [.t 25, .t 24]]
def F45o23 := [
 om 26 0,
 o3 27 (.bin .shr) [.t 26, .c (.d (.int .u64 4))],
 om 0 27]
def F45c23 : Ac := (.ops F45o23)
def F45c21 : Ac := (so F45o22 F45c23)
def F45o24 := [
 o3 28 (.bin .add) [.t 14, .i 1],
 om 14 28]
def F45c24 : Ac := (.ops F45o24)
def F45c17 : Ac := (.seq (.block 1 (so F45o20 F45c21)) F45c24)
def F45c13 : Ac := (.seq (cd 15 .skip (.exit 0)) F45c17)
def F45l10 : Ac := (so F45o12 F45c13)
def F45c9 : Ac := (.block 0 (.loop (.seq (.gh []) (.seq (.keep [0, 1, 5, 13, 14] [[11]]) F45l10))))
def F45o26 := [
 om 29 5,
 o3 30 .bytesStr [.t 29],
 om 4 30]
def F45c27 : Ac := .ret
def F45b25 : Ac := (so F45o26 F45c27)
def F45c25 : Ac := (.seq (.gh []) (.seq (.keep [5] [[11]]) F45b25))
def F45c6 : Ac := (.seq (so F45o8 F45c9) F45c25)
def F45c4 : Ac := (so F45o5 F45c6)
def F45c2 : Ac := (so F45o3 F45c4)
def F45c0 : Ac := (so F45o1 F45c2)
/-- hansom/bits.Digits -/
def F45 : Fn := { np := 2, pb := [], rs := [.t 4], body := F45c0 }
def F46o1 := [
 o3 2 (.box 10) [.t 0],
 o3 4 .mv [.c (.d (.str []))]]
def F46o3 := [
 o3 5 .mv [.c (.d (.str []))]]
def F46o6 := [
 o3 6 (.faddr 2) [.t 2],
 o3 7 (.load none) [.t 6],
 o3 8 (.bin .gtr) [.t 7, .i 0]]
def F46o8 := [
 o3 9 (.faddr 2) [.t 2],
 o3 10 (.load none) [.t 9],
 o3 11 (.bin .sub) [.t 10, .i 1],
 o3 12 (.callf 13) [.t 11],
 o3 13 (.bin .add) [.t 12, .c (.d (.str [58]))],
 om 5 13]
def F46c7 : Ac := (cd 8 (.ops F46o8) .skip)
def F46o12 := [
 om 14 1]
def F46o16 := [
 o3 16 (.bin .eql) [.t 14, .i 9],
 om 15 16]
def F46o19 := [
 o3 17 (.bin .eql) [.t 14, .i 10],
 om 15 17]
def F46c17 : Ac := (cd 15 .skip (.ops F46o19))
def F46o23 := [
 o3 18 (.faddr 8) [.t 2],
 o3 19 (.load none) [.t 18],
 o3 20 (.bin .geq) [.t 19, .w 32768]]
def F46o26 := [
 o3 21 (.faddr 8) [.t 2],
 o3 22 (.load none) [.t 21],
 o3 23 (.un .neg) [.t 22],
 o3 24 (.toInt .u32) [.t 23],
 o3 25 (.callf 45) [.t 24, .i 4],
 o3 26 (.bin .add) [.c (.d (.str [45])), .t 25],
 om 4 26]
def F46c27 : Ac := .ret
def F46c24 : Ac := (cd 20 (so F46o26 F46c27) .skip)
def F46o30 := [
 o3 27 (.faddr 8) [.t 2],
 o3 28 (.load none) [.t 27],
 o3 29 (.toInt .u32) [.t 28],
 o3 30 (.callf 45) [.t 29, .i 4],
 o3 31 (.bin .add) [.c (.d (.str [43])), .t 30],
 om 4 31]
def F46c31 : Ac := .ret
def F46c29 : Ac := (so F46o30 F46c31)
def F46o33 := [
 o3 33 (.bin .eql) [.t 14, .i 11],
 om 32 33]
def F46o36 := [
 o3 34 (.faddr 9) [.t 2],
 o3 35 (.load none) [.t 34],
 o3 36 (.toInt .u32) [.t 35],
  { dst := some 37, k := (.callf 45), xs := [.t 36, .i 4], al := some [] },
 o3 38 (.bin .add) [.t 37, .c (.d (.str [58]))],
 o3 39 (.faddr 8) [.t 2],
  { dst := some 40, k := (.load none), xs := [.t 39], av := [[37]] },
 o3 41 (.toInt .u32) [.t 40],
 o3 42 (.callf 45) [.t 41, .i 4],
 o3 43 (.bin .add) [.t 38, .t 42],
 om 4 43]
def F46c37 : Ac := .ret
def F46o39 := [
 o3 45 (.bin .eql) [.t 14, .i 12],
 om 44 45]
def F46o42 := [
 om 46 5,
 o3 47 (.bin .add) [.c (.d (.str [66, 89, 84, 69, 32])), .t 46],
 o3 48 (.bin .add) [.t 47, .c (.d (.str [91]))],
 o3 49 (.faddr 8) [.t 2],
 o3 50 (.load none) [.t 49],
 o3 51 (.toInt .u32) [.t 50],
 o3 52 (.callf 45) [.t 51, .i 4],
 o3 53 (.bin .add) [.t 48, .t 52],
 o3 54 (.bin .add) [.t 53, .c (.d (.str [93]))],
 om 4 54]
def F46c43 : Ac := .ret
def F46o45 := [
 o3 56 (.bin .eql) [.t 14, .i 13],
 om 55 56]
def F46o48 := [
 om 57 5,
 o3 58 (.bin .add) [.c (.d (.str [87, 79, 82, 68, 32])), .t 57],
 o3 59 (.bin .add) [.t 58, .c (.d (.str [91]))],
 o3 60 (.faddr 8) [.t 2],
 o3 61 (.load none) [.t 60],
 o3 62 (.toInt .u32) [.t 61],
 o3 63 (.callf 45) [.t 62, .i 4],
 o3 64 (.bin .add) [.t 59, .t 63],
 o3 65 (.bin .add) [.t 64, .c (.d (.str [93]))],
 om 4 65]
def F46c49 : Ac := .ret
def F46o51 := [
 o3 67 (.bin .eql) [.t 14, .i 14],
 om 66 67]
def F46o54 := [
 o3 4 .mv [.c (.d (.str [65, 76]))]]
def F46c55 : Ac := .ret
def F46o57 := [
 o3 69 (.bin .eql) [.t 14, .i 15],
 om 68 69]
def F46o60 := [
 o3 4 .mv [.c (.d (.str [67, 76]))]]
def F46c61 : Ac := .ret
def F46o63 := [
 o3 71 (.bin .eql) [.t 14, .i 16],
 om 70 71]
def F46o66 := [
 o3 4 .mv [.c (.d (.str [65, 88]))]]
def F46c67 : Ac := .ret
def F46o69 := [
 o3 73 (.bin .eql) [.t 14, .i 17],
 om 72 73]
def F46o72 := [
 o3 4 .mv [.c (.d (.str [68, 88]))]]
def F46c73 : Ac := .ret
def F46o75 := [
 o3 75 (.bin .eql) [.t 14, .i 18],
 om 74 75]
def F46o78 := [
 o3 4 .mv [.c (.d (.str [49]))]]
def F46c79 : Ac := .ret
def F46o81 := [
 o3 77 (.bin .eql) [.t 14, .i 24],
 om 76 77]
def F46o84 := [
 o3 4 .mv [.c (.d (.str [51]))]]
def F46c85 : Ac := .ret
def F46o87 := [
 o3 79 (.bin .eql) [.t 14, .i 21],
 om 78 79]
def F46o90 := [
 o3 80 (.faddr 3) [.t 2],
 o3 81 (.load none) [.t 80],
 o3 82 (.bin .and) [.t 81, .y 7],
 o3 83 (.toInt .i64) [.t 82],
 o3 84 (.callf 11) [.t 83],
 om 4 84]
def F46c91 : Ac := .ret
def F46o93 := [
 o3 86 (.bin .eql) [.t 14, .i 22],
 om 85 86]
def F46o96 := [
 o3 87 (.faddr 3) [.t 2],
 o3 88 (.load none) [.t 87],
 o3 89 (.bin .and) [.t 88, .y 7],
 o3 90 (.toInt .i64) [.t 89],
 o3 91 (.callf 9) [.t 90],
 om 4 91]
def F46c97 : Ac := .ret
def F46o99 := [
 o3 93 (.bin .eql) [.t 14, .i 23],
 om 92 93]
def F46o102 := [
 o3 94 (.faddr 3) [.t 2],
 o3 95 (.load none) [.t 94],
 o3 96 (.bin .shr) [.t 95, .c (.d (.int .u64 3))],
 o3 97 (.bin .and) [.t 96, .y 3],
 o3 98 (.toInt .i64) [.t 97],
 o3 99 (.callf 13) [.t 98],
 om 4 99]
def F46c103 : Ac := .ret
def F46c100 : Ac := (cd 92 (so F46o102 F46c103) .skip)
def F46c94 : Ac := (cd 85 (so F46o96 F46c97) (so F46o99 F46c100))
def F46c88 : Ac := (cd 78 (so F46o90 F46c91) (so F46o93 F46c94))
def F46c82 : Ac := (cd 76 (so F46o84 F46c85) (so F46o87 F46c88))
def F46c76 : Ac := (cd 74 (so F46o78 F46c79) (so F46o81 F46c82))
def F46c70 : Ac := (cd 72 (so F46o72 F46c73) (so F46o75 F46c76))
def F46c64 : Ac := (cd 70 (so F46o66 F46c67) (so F46o69 F46c70))
def F46c58 : Ac := (cd 68 (so F46o60 F46c61) (so F46o63 F46c64))
def F46c52 : Ac := (cd 66 (so F46o54 F46c55) (so F46o57 F46c58))
def F46c46 : Ac := (cd 55 (so F46o48 F46c49) (so F46o51 F46c52))
def F46c40 : Ac := (cd 44 (so F46o42 F46c43) (so F46o45 F46c46))
def F46c34 : Ac := (cd 32 (so F46o36 F46c37) (so F46o39 F46c40))
def F46b20 : Ac := (cd 15 (.seq (so F46o23 F46c24) F46c29) (so F46o33 F46c34))
def F46c20 : Ac := (.seq (.gh []) (.seq (.keep [2, 5, 14, 15] [[2]]) F46b20))
def F46c13 : Ac := (.block 0 (.seq (so F46o16 F46c17) F46c20))
def F46o106 := [
 o3 4 .mv [.c (.d (.str []))]]
def F46c107 : Ac := .ret
def F46c105 : Ac := (so F46o106 F46c107)
def F46b10 : Ac := (.seq (so F46o12 F46c13) F46c105)
def F46c10 : Ac := (.seq (.gh []) (.seq (.keep [1, 2, 5] [[2]]) F46b10))
def F46c4 : Ac := (.seq (so F46o6 F46c7) F46c10)
def F46c2 : Ac := (so F46o3 F46c4)
def F46c0 : Ac := (so F46o1 F46c2)
/-- hansom/disp.other -/
def F46 : Fn := { np := 2, pb := [], rs := [.t 4], body := F46c0 }
def F47o1 := [
 o3 1 (.box 10) [.t 0],
 o3 2 .mv [.c (.d (.str []))]]
def F47o3 := [
 o3 3 .mv [.c (.d (.str []))]]
def F47o6 := [
 o3 6 (.faddr 2) [.t 1],
 o3 7 (.load none) [.t 6],
 o3 8 (.bin .gtr) [.t 7, .i 0]]
def F47o8 := [
 o3 9 (.faddr 2) [.t 1],
 o3 10 (.load none) [.t 9],
 o3 11 (.bin .sub) [.t 10, .i 1],
 o3 12 (.callf 14) [.t 11],
 o3 13 (.bin .add) [.t 12, .c (.d (.str [58]))],
 om 3 13]
def F47c7 : Ac := (cd 8 (.ops F47o8) .skip)
def F47o11 := [
 o3 14 (.bslice (.str []) 8 [0, 1, 2, 3, 4, 5, 6, 7]) [.c (.d (.str [66, 88, 43, 83, 73])), .c (.d (.str [66, 88, 43, 68, 73])), .c (.d (.str [66, 80, 43, 83, 73])), .c (.d (.str [66, 80, 43, 68, 73])), .c (.d (.str [83, 73])), .c (.d (.str [68, 73])), .c (.d (.str [66, 80])), .c (.d (.str [66, 88]))],
 o3 15 (.faddr 6) [.t 1],
 o3 16 (.load none) [.t 15],
 o3 17 (.callf 22) [.t 14, .t 16],
 om 4 17]
def F47o13 := [
 o3 18 (.faddr 7) [.t 1],
 o3 19 (.load none) [.t 18],
 o3 20 (.toInt .u32) [.t 19],
 om 5 20]
def F47o16 := [
 o3 21 (.faddr 4) [.t 1],
 o3 22 (.load none) [.t 21],
 o3 23 (.faddr 6) [.t 1],
 o3 24 (.load none) [.t 23],
 o3 25 (.callf 25) [.t 22, .t 24]]
def F47o19 := [
 o3 27 (.bin .eql) [.t 25, .i 0],
 om 26 27]
def F47o22 := [
 om 28 3,
 o3 29 (.bin .add) [.t 28, .c (.d (.str [91]))],
 om 30 4,
 o3 31 (.bin .add) [.t 29, .t 30],
 o3 32 (.bin .add) [.t 31, .c (.d (.str [93]))],
 om 2 32]
def F47c23 : Ac := .ret
def F47o25 := [
 o3 34 (.bin .eql) [.t 25, .i 1],
 om 33 34]
def F47o29 := [
 om 35 5,
 o3 36 (.bin .gtr) [.t 35, .u 32767]]
def F47o32 := [
 om 37 3,
 o3 38 (.bin .add) [.t 37, .c (.d (.str [91]))],
 om 39 4,
 o3 40 (.bin .add) [.t 38, .t 39],
 o3 41 (.bin .add) [.t 40, .c (.d (.str [45]))],
 om 42 5,
 o3 43 (.bin .sub) [.u 65536, .t 42],
 o3 44 (.callf 48) [.t 43, .i 2],
 o3 45 (.bin .add) [.t 41, .t 44],
 o3 46 (.bin .add) [.t 45, .c (.d (.str [93]))],
 om 2 46]
def F47c33 : Ac := .ret
def F47c30 : Ac := (cd 36 (so F47o32 F47c33) .skip)
def F47o36 := [
 om 47 3,
 o3 48 (.bin .add) [.t 47, .c (.d (.str [91]))],
 om 49 4,
 o3 50 (.bin .add) [.t 48, .t 49],
 o3 51 (.bin .add) [.t 50, .c (.d (.str [43]))],
 om 52 5,
 o3 53 (.callf 48) [.t 52, .i 2],
 o3 54 (.bin .add) [.t 51, .t 53],
 o3 55 (.bin .add) [.t 54, .c (.d (.str [93]))],
 om 2 55]
def F47c37 : Ac := .ret
def F47c35 : Ac := (so F47o36 F47c37)
def F47c26 : Ac := (cd 33 (.seq (so F47o29 F47c30) F47c35) .skip)
def F47c20 : Ac := (cd 26 (so F47o22 F47c23) (so F47o25 F47c26))
def F47c17 : Ac := (.block 0 (so F47o19 F47c20))
def F47o41 := [
 o3 56 (.faddr 4) [.t 1],
 o3 57 (.load none) [.t 56],
 o3 58 (.bin .eql) [.t 57, .i 0]]
def F47o44 := [
 om 59 3,
 o3 60 (.bin .add) [.t 59, .c (.d (.str [91]))],
 om 61 5,
 o3 62 (.callf 48) [.t 61, .i 4],
 o3 63 (.bin .add) [.t 60, .t 62],
 o3 64 (.bin .add) [.t 63, .c (.d (.str [93]))],
 om 2 64]
def F47c45 : Ac := .ret
def F47c42 : Ac := (cd 58 (so F47o44 F47c45) .skip)
def F47o48 := [
 om 65 3,
 o3 66 (.bin .add) [.t 65, .c (.d (.str [91]))],
 om 67 4,
 o3 68 (.bin .add) [.t 66, .t 67],
 o3 69 (.bin .add) [.t 68, .c (.d (.str [43]))],
 om 70 5,
 o3 71 (.callf 48) [.t 70, .i 4],
 o3 72 (.bin .add) [.t 69, .t 71],
 o3 73 (.bin .add) [.t 72, .c (.d (.str [93]))],
 om 2 73]
def F47c49 : Ac := .ret
def F47c47 : Ac := (so F47o48 F47c49)
def F47c39 : Ac := (.seq (so F47o41 F47c42) F47c47)
def F47c14 : Ac := (.seq (so F47o16 F47c17) F47c39)
def F47c12 : Ac := (so F47o13 F47c14)
def F47b10 : Ac := (so F47o11 F47c12)
def F47c10 : Ac := (.seq (.gh []) (.seq (.keep [1, 3] [[1]]) F47b10))
def F47c4 : Ac := (.seq (so F47o6 F47c7) F47c10)
def F47c2 : Ac := (so F47o3 F47c4)
def F47c0 : Ac := (so F47o1 F47c2)
/-- hansom/hansomref17.place -/
def F47 : Fn := { np := 1, pb := [], rs := [.t 2], body := F47c0 }
def F48o1 := [
 o3 4 .mv [.c (.d (.str []))]]
def F48o3 := [
 o3 5 .mv [.c (.d (.str []))]]
def F48o6 := [
 o3 6 .mv [.i 0]]
def F48o11 := [
 om 8 6,
 om 9 1,
 o3 10 (.bin .lss) [.t 8, .t 9]]
def F48c12 : Ac := (cd 10 .skip (.exit 0))
def F48o18 := [
 om 13 0,
 o3 14 (.bin .rem) [.t 13, .u 16],
 om 7 14]
def F48o21 := [
 om 15 7,
 o3 16 (.bin .lss) [.t 15, .u 10]]
def F48o23 := [
 om 17 7,
 o3 18 (.bin .add) [.u 48, .t 17],
 o3 19 (.toInt .u8) [.t 18],
 o3 20 (.bslice (.int .u8 0) 1 [0]) [.t 19],
 o3 21 .bytesStr [.t 20],
 om 22 5,
 o3 23 (.bin .add) [.t 21, .t 22],
 om 5 23]
def F48o24 := [
 om 24 7,
 o3 25 (.bin .add) [.u 65, .t 24],
 o3 26 (.bin .sub) [.t 25, .u 10],
 o3 27 (.toInt .u8) [.t 26],
 o3 28 (.bslice (.int .u8 0) 1 [0]) [.t 27],
 o3 29 .bytesStr [.t 28],
 om 30 5,
 o3 31 (.bin .add) [.t 29, .t 30],
 om 5 31]
def F48c22 : Ac := (cd 16 (.ops F48o23) (.ops F48o24))
def F48o25 := [
 om 32 0,
 o3 33 (.bin .quo) [.t 32, .u 16],
 om 0 33]
def F48c25 : Ac := (.ops F48o25)
def F48c19 : Ac := (.seq (so F48o21 F48c22) F48c25)
def F48o26 := [
 om 11 6,
 o3 12 (.bin .add) [.t 11, .i 1],
 om 6 12]
def F48c26 : Ac := (.ops F48o26)
def F48c15 : Ac := (.seq (.block 1 (so F48o18 F48c19)) F48c26)
def F48l8 : Ac := (.seq (so F48o11 F48c12) F48c15)
def F48c7 : Ac := (.block 0 (.loop (.seq (.gh []) (.seq (.keep [0, 1, 5, 6] []) F48l8))))
def F48o28 := [
 om 34 5,
 om 4 34]
def F48c29 : Ac := .ret
def F48b27 : Ac := (so F48o28 F48c29)
def F48c27 : Ac := (.seq (.gh []) (.seq (.keep [5] []) F48b27))
def F48c4 : Ac := (.seq (so F48o6 F48c7) F48c27)
def F48c2 : Ac := (so F48o3 F48c4)
def F48c0 : Ac := (so F48o1 F48c2)
/-- hansom/hansomref01.Hex -/
def F48 : Fn := { np := 2, pb := [], rs := [.t 4], body := F48c0 }
def F50o1 := [
 o3 4 .mv [.c (.d (.str []))]]
def F50o3 := [
 om 6 0,
 o3 7 (.toInt .i64) [.t 6],
 o3 8 (.callf 21) [.c (.d (.str [65, 68, 68, 58, 69, 98, 58, 71, 98, 32, 65, 68, 68, 58, 69, 118, 58, 71, 118, 32, 65, 68, 68, 58, 71, 98, 58, 69, 98, 32, 65, 68, 68, 58, 71, 118, 58, 69, 118, 32, 65, 68, 68, 58, 65, 76, 58, 73, 98, 32, 65, 68, 68, 58, 65, 88, 58, 73, 118, 32, 80, 85, 83, 72, 58, 90, 115, 32, 80, 79, 80, 58, 90, 115, 32, 79, 82, 58, 69, 98, 58, 71, 98, 32, 79, 82, 58, 69, 118, 58, 71, 118, 32, 79, 82, 58, 71, 98, 58, 69, 98, 32, 79, 82, 58, 71, 118, 58, 69, 118, 32, 79, 82, 58, 65, 76, 58, 73, 98, 32, 79, 82, 58, 65, 88, 58, 73, 118, 32, 80, 85, 83, 72, 58, 90, 115, 32, 45, 32, 65, 68, 67, 58, 69, 98, 58, 71, 98, 32, 65, 68, 67, 58, 69, 118, 58, 71, 118, 32, 65, 68, 67, 58, 71, 98, 58, 69, 98, 32, 65, 68, 67, 58, 71, 118, 58, 69, 118, 32, 65, 68, 67, 58, 65, 76, 58, 73, 98, 32, 65, 68, 67, 58, 65, 88, 58, 73, 118, 32, 80, 85, 83, 72, 58, 90, 115, 32, 80, 79, 80, 58, 90, 115, 32, 83, 66, 66, 58, 69, 98, 58, 71, 98, 32, 83, 66, 66, 58, 69, 118, 58, 71, 118, 32, 83, 66, 66, 58, 71, 98, 58, 69, 98, 32, 83, 66, 66, 58, 71, 118, 58, 69, 118, 32, 83, 66, 66, 58, 65, 76, 58, 73, 98, 32, 83, 66, 66, 58, 65, 88, 58, 73, 118, 32, 80, 85, 83, 72, 58, 90, 115, 32, 80, 79, 80, 58, 90, 115, 32, 65, 78, 68, 58, 69, 98, 58, 71, 98, 32, 65, 78, 68, 58, 69, 118, 58, 71, 118, 32, 65, 78, 68, 58, 71, 98, 58, 69, 98, 32, 65, 78, 68, 58, 71, 118, 58, 69, 118, 32, 65, 78, 68, 58, 65, 76, 58, 73, 98, 32, 65, 78, 68, 58, 65, 88, 58, 73, 118, 32, 45, 32, 68, 65, 65, 32, 83, 85, 66, 58, 69, 98, 58, 71, 98, 32, 83, 85, 66, 58, 69, 118, 58, 71, 118, 32, 83, 85, 66, 58, 71, 98, 58, 69, 98, 32, 83, 85, 66, 58, 71, 118, 58, 69, 118, 32, 83, 85, 66, 58, 65, 76, 58, 73, 98, 32, 83, 85, 66, 58, 65, 88, 58, 73, 118, 32, 45, 32, 68, 65, 83, 32, 88, 79, 82, 58, 69, 98, 58, 71, 98, 32, 88, 79, 82, 58, 69, 118, 58, 71, 118, 32, 88, 79, 82, 58, 71, 98, 58, 69, 98, 32, 88, 79, 82, 58, 71, 118, 58, 69, 118, 32, 88, 79, 82, 58, 65, 76, 58, 73, 98, 32, 88, 79, 82, 58, 65, 88, 58, 73, 118, 32, 45, 32, 65, 65, 65, 32, 67, 77, 80, 58, 69, 98, 58, 71, 98, 32, 67, 77, 80, 58, 69, 118, 58, 71, 118, 32, 67, 77, 80, 58, 71, 98, 58, 69, 98, 32, 67, 77, 80, 58, 71, 118, 58, 69, 118, 32, 67, 77, 80, 58, 65, 76, 58, 73, 98, 32, 67, 77, 80, 58, 65, 88, 58, 73, 118, 32, 45, 32, 65, 65, 83, 32, 73, 78, 67, 58, 90, 118, 32, 73, 78, 67, 58, 90, 118, 32, 73, 78, 67, 58, 90, 118, 32, 73, 78, 67, 58, 90, 118, 32, 73, 78, 67, 58, 90, 118, 32, 73, 78, 67, 58, 90, 118, 32, 73, 78, 67, 58, 90, 118, 32, 73, 78, 67, 58, 90, 118, 32, 68, 69, 67, 58, 90, 118, 32, 68, 69, 67, 58, 90, 118, 32, 68, 69, 67, 58, 90, 118, 32, 68, 69, 67, 58, 90, 118, 32, 68, 69, 67, 58, 90, 118, 32, 68, 69, 67, 58, 90, 118, 32, 68, 69, 67, 58, 90, 118, 32, 68, 69, 67, 58, 90, 118, 32, 80, 85, 83, 72, 58, 90, 118, 32, 80, 85, 83, 72, 58, 90, 118, 32, 80, 85, 83, 72, 58, 90, 118, 32, 80, 85, 83, 72, 58, 90, 118, 32, 80, 85, 83, 72, 58, 90, 118, 32, 80, 85, 83, 72, 58, 90, 118, 32, 80, 85, 83, 72, 58, 90, 118, 32, 80, 85, 83, 72, 58, 90, 118, 32, 80, 79, 80, 58, 90, 118, 32, 80, 79, 80, 58, 90, 118, 32, 80, 79, 80, 58, 90, 118, 32, 80, 79, 80, 58, 90, 118, 32, 80, 79, 80, 58, 90, 118, 32, 80, 79, 80, 58, 90, 118, 32, 80, 79, 80, 58, 90, 118, 32, 80, 79, 80, 58, 90, 118, 32, 45, 32, 45, 32, 45, 32, 45, 32, 45, 32, 45, 32, 45, 32, 45, 32, 45, 32, 45, 32, 45, 32, 45, 32, 45, 32, 45, 32, 45, 32, 45, 32, 74, 79, 58, 74, 98, 32, 74, 78, 79, 58, 74, 98, 32, 74, 66, 58, 74, 98, 32, 74, 78, 66, 58, 74, 98, 32, 74, 90, 58, 74, 98, 32, 74, 78, 90, 58, 74, 98, 32, 74, 66, 69, 58, 74, 98, 32, 74, 65, 58, 74, 98, 32, 74, 83, 58, 74, 98, 32, 74, 78, 83, 58, 74, 98, 32, 74, 80, 58, 74, 98, 32, 74, 78, 80, 58, 74, 98, 32, 74, 76, 58, 74, 98, 32, 74, 71, 69, 58, 74, 98, 32, 74, 76, 69, 58, 74, 98, 32, 74, 71, 58, 74, 98, 32, 47, 65, 68, 68, 58, 69, 98, 58, 73, 98, 47, 79, 82, 58, 69, 98, 58, 73, 98, 47, 65, 68, 67, 58, 69, 98, 58, 73, 98, 47, 83, 66, 66, 58, 69, 98, 58, 73, 98, 47, 65, 78, 68, 58, 69, 98, 58, 73, 98, 47, 83, 85, 66, 58, 69, 98, 58, 73, 98, 47, 88, 79, 82, 58, 69, 98, 58, 73, 98, 47, 67, 77, 80, 58, 69, 98, 58, 73, 98, 32, 47, 65, 68, 68, 58, 69, 118, 58, 73, 118, 47, 79, 82, 58, 69, 118, 58, 73, 118, 47, 65, 68, 67, 58, 69, 118, 58, 73, 118, 47, 83, 66, 66, 58, 69, 118, 58, 73, 118, 47, 65, 78, 68, 58, 69, 118, 58, 73, 118, 47, 83, 85, 66, 58, 69, 118, 58, 73, 118, 47, 88, 79, 82, 58, 69, 118, 58, 73, 118, 47, 67, 77, 80, 58, 69, 118, 58, 73, 118, 32, 45, 32, 47, 65, 68, 68, 58, 69, 118, 58, 73, 115, 47, 45, 47, 65, 68, 67, 58, 69, 118, 58, 73, 115, 47, 83, 66, 66, 58, 69, 118, 58, 73, 115, 47, 45, 47, 83, 85, 66, 58, 69, 118, 58, 73, 115, 47, 45, 47, 67, 77, 80, 58, 69, 118, 58, 73, 115, 32, 84, 69, 83, 84, 58, 69, 98, 58, 71, 98, 32, 84, 69, 83, 84, 58, 69, 118, 58, 71, 118, 32, 88, 67, 72, 71, 58, 69, 98, 58, 71, 98, 32, 88, 67, 72, 71, 58, 69, 118, 58, 71, 118, 32, 77, 79, 86, 58, 69, 98, 58, 71, 98, 32, 77, 79, 86, 58, 69, 118, 58, 71, 118, 32, 77, 79, 86, 58, 71, 98, 58, 69, 98, 32, 77, 79, 86, 58, 71, 118, 58, 69, 118, 32, 47, 77, 79, 86, 58, 69, 118, 58, 83, 119, 47, 77, 79, 86, 58, 69, 118, 58, 83, 119, 47, 77, 79, 86, 58, 69, 118, 58, 83, 119, 47, 77, 79, 86, 58, 69, 118, 58, 83, 119, 47, 45, 47, 45, 47, 45, 47, 45, 32, 76, 69, 65, 58, 71, 118, 58, 77, 32, 47, 77, 79, 86, 58, 83, 119, 58, 69, 118, 47, 45, 47, 77, 79, 86, 58, 83, 119, 58, 69, 118, 47, 77, 79, 86, 58, 83, 119, 58, 69, 118, 47, 45, 47, 45, 47, 45, 47, 45, 32, 47, 80, 79, 80, 58, 69, 118, 47, 45, 47, 45, 47, 45, 47, 45, 47, 45, 47, 45, 47, 45, 32, 88, 67, 72, 71, 58, 65, 88, 58, 90, 118, 32, 88, 67, 72, 71, 58, 65, 88, 58, 90, 118, 32, 88, 67, 72, 71, 58, 65, 88, 58, 90, 118, 32, 88, 67, 72, 71, 58, 65, 88, 58, 90, 118, 32, 88, 67, 72, 71, 58, 65, 88, 58, 90, 118, 32, 88, 67, 72, 71, 58, 65, 88, 58, 90, 118, 32, 88, 67, 72, 71, 58, 65, 88, 58, 90, 118, 32, 88, 67, 72, 71, 58, 65, 88, 58, 90, 118, 32, 67, 66, 87, 32, 67, 87, 68, 32, 67, 65, 76, 76, 70, 58, 65, 112, 32, 87, 65, 73, 84, 32, 80, 85, 83, 72, 70, 32, 80, 79, 80, 70, 32, 83, 65, 72, 70, 32, 76, 65, 72, 70, 32, 77, 79, 86, 58, 65, 76, 58, 79, 98, 32, 77, 79, 86, 58, 65, 88, 58, 79, 118, 32, 77, 79, 86, 58, 79, 98, 58, 65, 76, 32, 77, 79, 86, 58, 79, 118, 58, 65, 88, 32, 77, 79, 86, 83, 66, 32, 77, 79, 86, 83, 87, 32, 67, 77, 80, 83, 66, 32, 67, 77, 80, 83, 87, 32, 84, 69, 83, 84, 58, 65, 76, 58, 73, 98, 32, 84, 69, 83, 84, 58, 65, 88, 58, 73, 118, 32, 83, 84, 79, 83, 66, 32, 83, 84, 79, 83, 87, 32, 76, 79, 68, 83, 66, 32, 76, 79, 68, 83, 87, 32, 83, 67, 65, 83, 66, 32, 83, 67, 65, 83, 87, 32, 77, 79, 86, 58, 90, 98, 58, 73, 98, 32, 77, 79, 86, 58, 90, 98, 58, 73, 98, 32, 77, 79, 86, 58, 90, 98, 58, 73, 98, 32, 77, 79, 86, 58, 90, 98, 58, 73, 98, 32, 77, 79, 86, 58, 90, 98, 58, 73, 98, 32, 77, 79, 86, 58, 90, 98, 58, 73, 98, 32, 77, 79, 86, 58, 90, 98, 58, 73, 98, 32, 77, 79, 86, 58, 90, 98, 58, 73, 98, 32, 77, 79, 86, 58, 90, 118, 58, 73, 118, 32, 77, 79, 86, 58, 90, 118, 58, 73, 118, 32, 77, 79, 86, 58, 90, 118, 58, 73, 118, 32, 77, 79, 86, 58, 90, 118, 58, 73, 118, 32, 77, 79, 86, 58, 90, 118, 58, 73, 118, 32, 77, 79, 86, 58, 90, 118, 58, 73, 118, 32, 77, 79, 86, 58, 90, 118, 58, 73, 118, 32, 77, 79, 86, 58, 90, 118, 58, 73, 118, 32, 45, 32, 45, 32, 82, 69, 84, 58, 73, 118, 32, 82, 69, 84, 32, 76, 69, 83, 58, 71, 118, 58, 77, 112, 32, 76, 68, 83, 58, 71, 118, 58, 77, 112, 32, 47, 77, 79, 86, 58, 69, 98, 58, 73, 98, 47, 45, 47, 45, 47, 45, 47, 45, 47, 45, 47, 45, 47, 45, 32, 47, 77, 79, 86, 58, 69, 118, 58, 73, 118, 47, 45, 47, 45, 47, 45, 47, 45, 47, 45, 47, 45, 47, 45, 32, 45, 32, 45, 32, 82, 69, 84, 70, 58, 73, 118, 32, 82, 69, 84, 70, 32, 73, 78, 84, 58, 84, 104, 114, 101, 101, 32, 73, 78, 84, 58, 73, 98, 32, 73, 78, 84, 79, 32, 73, 82, 69, 84, 32, 47, 82, 79, 76, 58, 69, 98, 58, 79, 110, 101, 47, 82, 79, 82, 58, 69, 98, 58, 79, 110, 101, 47, 82, 67, 76, 58, 69, 98, 58, 79, 110, 101, 47, 82, 67, 82, 58, 69, 98, 58, 79, 110, 101, 47, 83, 72, 76, 58, 69, 98, 58, 79, 110, 101, 47, 83, 72, 82, 58, 69, 98, 58, 79, 110, 101, 47, 45, 47, 83, 65, 82, 58, 69, 98, 58, 79, 110, 101, 32, 47, 82, 79, 76, 58, 69, 118, 58, 79, 110, 101, 47, 82, 79, 82, 58, 69, 118, 58, 79, 110, 101, 47, 82, 67, 76, 58, 69, 118, 58, 79, 110, 101, 47, 82, 67, 82, 58, 69, 118, 58, 79, 110, 101, 47, 83, 72, 76, 58, 69, 118, 58, 79, 110, 101, 47, 83, 72, 82, 58, 69, 118, 58, 79, 110, 101, 47, 45, 47, 83, 65, 82, 58, 69, 118, 58, 79, 110, 101, 32, 47, 82, 79, 76, 58, 69, 98, 58, 67, 76, 47, 82, 79, 82, 58, 69, 98, 58, 67, 76, 47, 82, 67, 76, 58, 69, 98, 58, 67, 76, 47, 82, 67, 82, 58, 69, 98, 58, 67, 76, 47, 83, 72, 76, 58, 69, 98, 58, 67, 76, 47, 83, 72, 82, 58, 69, 98, 58, 67, 76, 47, 45, 47, 83, 65, 82, 58, 69, 98, 58, 67, 76, 32, 47, 82, 79, 76, 58, 69, 118, 58, 67, 76, 47, 82, 79, 82, 58, 69, 118, 58, 67, 76, 47, 82, 67, 76, 58, 69, 118, 58, 67, 76, 47, 82, 67, 82, 58, 69, 118, 58, 67, 76, 47, 83, 72, 76, 58, 69, 118, 58, 67, 76, 47, 83, 72, 82, 58, 69, 118, 58, 67, 76, 47, 45, 47, 83, 65, 82, 58, 69, 118, 58, 67, 76, 32, 65, 65, 77, 58, 73, 98, 32, 65, 65, 68, 58, 73, 98, 32, 45, 32, 88, 76, 65, 84, 32, 69, 83, 67, 58, 69, 118, 32, 69, 83, 67, 58, 69, 118, 32, 69, 83, 67, 58, 69, 118, 32, 69, 83, 67, 58, 69, 118, 32, 69, 83, 67, 58, 69, 118, 32, 69, 83, 67, 58, 69, 118, 32, 69, 83, 67, 58, 69, 118, 32, 69, 83, 67, 58, 69, 118, 32, 76, 79, 79, 80, 78, 90, 58, 74, 98, 32, 76, 79, 79, 80, 90, 58, 74, 98, 32, 76, 79, 79, 80, 58, 74, 98, 32, 74, 67, 88, 90, 58, 74, 98, 32, 73, 78, 58, 65, 76, 58, 73, 98, 32, 73, 78, 58, 65, 88, 58, 73, 98, 32, 79, 85, 84, 58, 73, 98, 58, 65, 76, 32, 79, 85, 84, 58, 73, 98, 58, 65, 88, 32, 67, 65, 76, 76, 58, 74, 118, 32, 74, 77, 80, 58, 74, 118, 32, 74, 77, 80, 70, 58, 65, 112, 32, 74, 77, 80, 58, 74, 98, 32, 73, 78, 58, 65, 76, 58, 68, 88, 32, 73, 78, 58, 65, 88, 58, 68, 88, 32, 79, 85, 84, 58, 68, 88, 58, 65, 76, 32, 79, 85, 84, 58, 68, 88, 58, 65, 88, 32, 45, 32, 45, 32, 45, 32, 45, 32, 72, 76, 84, 32, 67, 77, 67, 32, 47, 84, 69, 83, 84, 58, 69, 98, 58, 73, 98, 47, 45, 47, 78, 79, 84, 58, 69, 98, 47, 78, 69, 71, 58, 69, 98, 47, 77, 85, 76, 58, 69, 98, 47, 73, 77, 85, 76, 58, 69, 98, 47, 68, 73, 86, 58, 69, 98, 47, 73, 68, 73, 86, 58, 69, 98, 32, 47, 84, 69, 83, 84, 58, 69, 118, 58, 73, 118, 47, 45, 47, 78, 79, 84, 58, 69, 118, 47, 78, 69, 71, 58, 69, 118, 47, 77, 85, 76, 58, 69, 118, 47, 73, 77, 85, 76, 58, 69, 118, 47, 68, 73, 86, 58, 69, 118, 47, 73, 68, 73, 86, 58, 69, 118, 32, 67, 76, 67, 32, 83, 84, 67, 32, 67, 76, 73, 32, 83, 84, 73, 32, 67, 76, 68, 32, 83, 84, 68, 32, 47, 73, 78, 67, 58, 69, 98, 47, 68, 69, 67, 58, 69, 98, 47, 45, 47, 45, 47, 45, 47, 45, 47, 45, 47, 45, 32, 47, 73, 78, 67, 58, 69, 118, 47, 68, 69, 67, 58, 69, 118, 47, 67, 65, 76, 76, 58, 69, 118, 47, 67, 65, 76, 76, 70, 58, 77, 112, 47, 74, 77, 80, 58, 69, 118, 47, 74, 77, 80, 70, 58, 77, 112, 47, 80, 85, 83, 72, 58, 69, 118, 47, 45, 32])), .t 7],
 om 5 8]
def F50o6 := [
 om 9 5,
 o3 10 .lenS [.t 9],
 o3 11 (.bin .gtr) [.t 10, .i 0],
 om 12 11,
 og 13 .mv [.t 5] 12 true,
 og 14 .indexS [.t 13, .i 0] 12 true,
 og 15 (.bin .eql) [.t 14, .y 47] 12 true,
 o3 16 .pick [.t 12, .t 15, .b false]]
def F50o9 := [
 om 17 5,
 om 18 1,
 o3 19 (.bin .and) [.t 18, .i 7],
 o3 20 (.bin .add) [.t 19, .i 1],
 o3 21 (.callf 51) [.t 17, .y 47, .t 20],
 om 4 21]
def F50c10 : Ac := .ret
def F50c7 : Ac := (cd 16 (so F50o9 F50c10) .skip)
def F50o13 := [
 om 22 5,
 om 4 22]
def F50c14 : Ac := .ret
def F50c12 : Ac := (so F50o13 F50c14)
def F50c4 : Ac := (.seq (so F50o6 F50c7) F50c12)
def F50c2 : Ac := (so F50o3 F50c4)
def F50c0 : Ac := (so F50o1 F50c2)
/-- hansom/hansomref04.Entry -/
def F50 : Fn := { np := 2, pb := [], rs := [.t 4], body := F50c0 }
def F51o1 := [
 o3 6 .mv [.c (.d (.str []))]]
def F51o3 := [
 o3 7 .mv [.i 0]]
def F51o6 := [
 o3 8 .mv [.i 0]]
def F51o11 := [
 om 9 8,
 om 10 0,
 o3 11 .lenS [.t 10],
 o3 12 (.bin .leq) [.t 9, .t 11]]
def F51c12 : Ac := (cd 12 .skip (.exit 0))
def F51o19 := [
 om 15 8,
 om 16 0,
 o3 17 .lenS [.t 16],
 o3 18 (.bin .lss) [.t 15, .t 17],
 om 19 18,
 og 20 .mv [.t 0] 19 true,
 og 21 .mv [.t 8] 19 true,
 og 22 .indexS [.t 20, .t 21] 19 true,
 og 23 .mv [.t 1] 19 true,
 og 24 (.bin .neq) [.t 22, .t 23] 19 true,
 o3 25 .pick [.t 19, .t 24, .b false]]
def F51c20 : Ac := (cd 25 (.exit 1) .skip)
def F51o25 := [
 om 26 2,
 o3 27 (.bin .eql) [.t 26, .i 0]]
def F51o28 := [
 om 28 0,
 om 29 7,
 om 30 8,
 o3 31 (.substr true true) [.t 28, .t 29, .t 30],
 om 6 31]
def F51c29 : Ac := .ret
def F51c26 : Ac := (cd 27 (so F51o28 F51c29) .skip)
def F51o32 := [
 om 32 2,
 o3 33 (.bin .sub) [.t 32, .i 1],
 om 2 33]
def F51o33 := [
 om 34 8,
 o3 35 (.bin .add) [.t 34, .i 1],
 om 7 35]
def F51c33 : Ac := (.ops F51o33)
def F51c31 : Ac := (so F51o32 F51c33)
def F51c23 : Ac := (.seq (so F51o25 F51c26) F51c31)
def F51o34 := [
 om 13 8,
 o3 14 (.bin .add) [.t 13, .i 1],
 om 8 14]
def F51c34 : Ac := (.ops F51o34)
def F51c15 : Ac := (.seq (.block 1 (.seq (so F51o19 F51c20) F51c23)) F51c34)
def F51l8 : Ac := (.seq (so F51o11 F51c12) F51c15)
def F51c7 : Ac := (.block 0 (.loop (.seq (.gh []) (.seq (.keep [0, 1, 2, 7, 8] []) F51l8))))
def F51o36 := [
 o3 6 .mv [.c (.d (.str []))]]
def F51c37 : Ac := .ret
def F51b35 : Ac := (so F51o36 F51c37)
def F51c35 : Ac := (.seq (.gh []) (.seq (.keep [] []) F51b35))
def F51c4 : Ac := (.seq (so F51o6 F51c7) F51c35)
def F51c2 : Ac := (so F51o3 F51c4)
def F51c0 : Ac := (so F51o1 F51c2)
/-- hansom/hansomref04.part -/
def F51 : Fn := { np := 3, pb := [], rs := [.t 6], body := F51c0 }
def F52o1 := [
 o3 2 .mv [.b false]]
def F52o3 := [
 om 3 0,
 o3 4 (.bin .geq) [.t 3, .i 1],
 om 5 4,
 og 6 .mv [.t 0] 5 true,
 og 7 (.bin .leq) [.t 6, .i 5] 5 true,
 o3 8 .pick [.t 5, .t 7, .b false],
 om 9 8,
 og 10 .mv [.t 0] 9 false,
 og 11 (.bin .eql) [.t 10, .i 19] 9 false,
 o3 12 .pick [.t 9, .b true, .t 11],
 om 13 12,
 og 14 .mv [.t 0] 13 false,
 og 15 (.bin .eql) [.t 14, .i 20] 13 false,
 o3 16 .pick [.t 13, .b true, .t 15],
 om 2 16]
def F52c4 : Ac := .ret
def F52c2 : Ac := (so F52o3 F52c4)
def F52c0 : Ac := (so F52o1 F52c2)
/-- hansom/hansomref04.second -/
def F52 : Fn := { np := 1, pb := [], rs := [.t 2], body := F52c0 }
def F53o1 := [
 o3 4 .mv [.i 0]]
def F53o5 := [
 om 6 0,
 o3 7 (.bin .eql) [.t 6, .i 1],
 om 5 7]
def F53o8 := [
 o3 4 .mv [.i 1]]
def F53c9 : Ac := .ret
def F53o12 := [
 om 9 0,
 o3 10 (.bin .eql) [.t 9, .i 2],
 om 8 10]
def F53o15 := [
 om 11 0,
 o3 12 (.bin .eql) [.t 11, .i 0],
 om 13 12,
 og 14 .mv [.t 1] 13 true,
 og 15 (.bin .eql) [.t 14, .i 6] 13 true,
 o3 16 .pick [.t 13, .t 15, .b false],
 om 8 16]
def F53c13 : Ac := (cd 8 .skip (.ops F53o15))
def F53o18 := [
 o3 4 .mv [.i 2]]
def F53c19 : Ac := .ret
def F53c16 : Ac := (cd 8 (so F53o18 F53c19) .skip)
def F53c6 : Ac := (cd 5 (so F53o8 F53c9) (.seq (so F53o12 F53c13) F53c16))
def F53o22 := [
 o3 4 .mv [.i 0]]
def F53c23 : Ac := .ret
def F53c21 : Ac := (so F53o22 F53c23)
def F53c2 : Ac := (.seq (.block 0 (so F53o5 F53c6)) F53c21)
def F53c0 : Ac := (so F53o1 F53c2)
/-- hansom/inst.Disps -/
def F53 : Fn := { np := 2, pb := [], rs := [.t 4], body := F53c0 }
def F54o1 := [
 o3 2 .mv [.b false]]
def F54o3 := [
 om 3 0,
 o3 4 (.callf 70) [.t 3],
 o3 5 (.callf 69) [.t 4],
 om 6 0,
 o3 7 (.bin .eql) [.t 5, .t 6],
 om 2 7]
def F54c4 : Ac := .ret
def F54c2 : Ac := (so F54o3 F54c4)
def F54c0 : Ac := (so F54o1 F54c2)
/-- hansom/bits.Fits -/
def F54 : Fn := { np := 1, pb := [], rs := [.t 2], body := F54c0 }
def F55o1 := [
 o3 2 .mv [.i 0]]
def F55o4 := [
 om 3 0]
def F55o8 := [
 o3 5 (.bin .eql) [.t 3, .i 46],
 om 4 5]
def F55o12 := [
 o3 6 (.bin .eql) [.t 3, .i 47],
 om 4 6]
def F55o16 := [
 o3 7 (.bin .eql) [.t 3, .i 50],
 om 4 7]
def F55o20 := [
 o3 8 (.bin .eql) [.t 3, .i 51],
 om 4 8]
def F55o24 := [
 o3 9 (.bin .eql) [.t 3, .i 52],
 om 4 9]
def F55o27 := [
 o3 10 (.bin .eql) [.t 3, .i 53],
 om 4 10]
def F55c25 : Ac := (cd 4 .skip (.ops F55o27))
def F55c21 : Ac := (cd 4 .skip (so F55o24 F55c25))
def F55c17 : Ac := (cd 4 .skip (so F55o20 F55c21))
def F55c13 : Ac := (cd 4 .skip (so F55o16 F55c17))
def F55c9 : Ac := (cd 4 .skip (so F55o12 F55c13))
def F55o30 := [
 o3 2 .mv [.i 1]]
def F55c31 : Ac := .ret
def F55o34 := [
 o3 12 (.bin .eql) [.t 3, .i 48],
 om 11 12]
def F55o38 := [
 o3 13 (.bin .eql) [.t 3, .i 49],
 om 11 13]
def F55o42 := [
 o3 14 (.bin .eql) [.t 3, .i 54],
 om 11 14]
def F55o45 := [
 o3 15 (.bin .eql) [.t 3, .i 55],
 om 11 15]
def F55c43 : Ac := (cd 11 .skip (.ops F55o45))
def F55c39 : Ac := (cd 11 .skip (so F55o42 F55c43))
def F55c35 : Ac := (cd 11 .skip (so F55o38 F55c39))
def F55o48 := [
 o3 2 .mv [.i 2]]
def F55c49 : Ac := .ret
def F55c46 : Ac := (cd 11 (so F55o48 F55c49) .skip)
def F55b28 : Ac := (cd 4 (so F55o30 F55c31) (.seq (so F55o34 F55c35) F55c46))
def F55c28 : Ac := (.seq (.gh []) (.seq (.keep [3, 4] []) F55b28))
def F55c5 : Ac := (.block 0 (.seq (so F55o8 F55c9) F55c28))
def F55o52 := [
 o3 2 .mv [.i 0]]
def F55c53 : Ac := .ret
def F55c51 : Ac := (so F55o52 F55c53)
def F55c2 : Ac := (.seq (so F55o4 F55c5) F55c51)
def F55c0 : Ac := (so F55o1 F55c2)
/-- hansom/isa.Repeats -/
def F55 : Fn := { np := 1, pb := [], rs := [.t 2], body := F55c0 }
def F56o1 := [
 o3 2 (.alloc [.d (.int .i64 0), .d (.int .i64 0), .d (.int .i64 0), .d (.bool false)]) [],
 o3 3 .mv [.b false]]
def F56o3 := [
 om 5 0,
 o3 6 (.bin .shr) [.t 5, .c (.d (.int .u64 3))],
 o3 7 (.toInt .i64) [.t 6],
 o3 8 (.bin .add) [.i 1, .t 7],
 om 4 8]
def F56o6 := [
 om 9 0,
 o3 10 (.bin .and) [.t 9, .y 7]]
def F56o9 := [
 o3 12 (.bin .eql) [.t 10, .y 0],
 om 11 12]
def F56o12 := [
 om 13 4,
 o3 14 (.callf 71) [.t 13, .i 1, .i 3],
 oe 15 0 14,
 oe 16 1 14,
 o0 (.store 4) [.t 2, .t 15],
 om 3 16]
def F56c13 : Ac := .ret
def F56o15 := [
 o3 18 (.bin .eql) [.t 10, .y 1],
 om 17 18]
def F56o18 := [
 om 19 4,
 o3 20 (.callf 71) [.t 19, .i 2, .i 4],
 oe 21 0 20,
 oe 22 1 20,
 o0 (.store 4) [.t 2, .t 21],
 om 3 22]
def F56c19 : Ac := .ret
def F56o21 := [
 o3 24 (.bin .eql) [.t 10, .y 2],
 om 23 24]
def F56o24 := [
 om 25 4,
 o3 26 (.callf 71) [.t 25, .i 3, .i 1],
 oe 27 0 26,
 oe 28 1 26,
 o0 (.store 4) [.t 2, .t 27],
 om 3 28]
def F56c25 : Ac := .ret
def F56o27 := [
 o3 30 (.bin .eql) [.t 10, .y 3],
 om 29 30]
def F56o30 := [
 om 31 4,
 o3 32 (.callf 71) [.t 31, .i 4, .i 2],
 oe 33 0 32,
 oe 34 1 32,
 o0 (.store 4) [.t 2, .t 33],
 om 3 34]
def F56c31 : Ac := .ret
def F56o33 := [
 o3 36 (.bin .eql) [.t 10, .y 4],
 om 35 36]
def F56o36 := [
 om 37 4,
 o3 38 (.callf 57) [.t 37, .i 14, .i 6],
 oe 39 0 38,
 oe 40 1 38,
 o0 (.store 4) [.t 2, .t 39],
 om 3 40]
def F56c37 : Ac := .ret
def F56o39 := [
 o3 42 (.bin .eql) [.t 10, .y 5],
 om 41 42]
def F56o42 := [
 om 43 4,
 o3 44 (.callf 57) [.t 43, .i 16, .i 7],
 oe 45 0 44,
 oe 46 1 44,
 o0 (.store 4) [.t 2, .t 45],
 om 3 46]
def F56c43 : Ac := .ret
def F56c40 : Ac := (cd 41 (so F56o42 F56c43) .skip)
def F56c34 : Ac := (cd 35 (so F56o36 F56c37) (so F56o39 F56c40))
def F56c28 : Ac := (cd 29 (so F56o30 F56c31) (so F56o33 F56c34))
def F56c22 : Ac := (cd 23 (so F56o24 F56c25) (so F56o27 F56c28))
def F56c16 : Ac := (cd 17 (so F56o18 F56c19) (so F56o21 F56c22))
def F56c10 : Ac := (cd 11 (so F56o12 F56c13) (so F56o15 F56c16))
def F56c7 : Ac := (.block 0 (so F56o9 F56c10))
def F56o47 := [
 om 47 0]
def F56o51 := [
 o3 49 (.bin .eql) [.t 47, .y 6],
 om 48 49]
def F56o55 := [
 o3 50 (.bin .eql) [.t 47, .y 14],
 om 48 50]
def F56o59 := [
 o3 51 (.bin .eql) [.t 47, .y 22],
 om 48 51]
def F56o62 := [
 o3 52 (.bin .eql) [.t 47, .y 30],
 om 48 52]
def F56c60 : Ac := (cd 48 .skip (.ops F56o62))
def F56c56 : Ac := (cd 48 .skip (so F56o59 F56c60))
def F56c52 : Ac := (cd 48 .skip (so F56o55 F56c56))
def F56o65 := [
 o3 53 (.callf 57) [.i 9, .i 23, .i 0],
 oe 54 0 53,
 oe 55 1 53,
 o0 (.store 4) [.t 2, .t 54],
 om 3 55]
def F56c66 : Ac := .ret
def F56o69 := [
 o3 57 (.bin .eql) [.t 47, .y 7],
 om 56 57]
def F56o73 := [
 o3 58 (.bin .eql) [.t 47, .y 23],
 om 56 58]
def F56o76 := [
 o3 59 (.bin .eql) [.t 47, .y 31],
 om 56 59]
def F56c74 : Ac := (cd 56 .skip (.ops F56o76))
def F56c70 : Ac := (cd 56 .skip (so F56o73 F56c74))
def F56o79 := [
 o3 60 (.callf 57) [.i 10, .i 23, .i 0],
 oe 61 0 60,
 oe 62 1 60,
 o0 (.store 4) [.t 2, .t 61],
 om 3 62]
def F56c80 : Ac := .ret
def F56o82 := [
 o3 64 (.bin .eql) [.t 47, .y 39],
 om 63 64]
def F56o85 := [
 o3 65 (.callf 57) [.i 11, .i 0, .i 0],
 oe 66 0 65,
 oe 67 1 65,
 o0 (.store 4) [.t 2, .t 66],
 om 3 67]
def F56c86 : Ac := .ret
def F56o88 := [
 o3 69 (.bin .eql) [.t 47, .y 47],
 om 68 69]
def F56o91 := [
 o3 70 (.callf 57) [.i 12, .i 0, .i 0],
 oe 71 0 70,
 oe 72 1 70,
 o0 (.store 4) [.t 2, .t 71],
 om 3 72]
def F56c92 : Ac := .ret
def F56o94 := [
 o3 74 (.bin .eql) [.t 47, .y 55],
 om 73 74]
def F56o97 := [
 o3 75 (.callf 57) [.i 13, .i 0, .i 0],
 oe 76 0 75,
 oe 77 1 75,
 o0 (.store 4) [.t 2, .t 76],
 om 3 77]
def F56c98 : Ac := .ret
def F56o100 := [
 o3 79 (.bin .eql) [.t 47, .y 63],
 om 78 79]
def F56o103 := [
 o3 80 (.callf 57) [.i 14, .i 0, .i 0],
 oe 81 0 80,
 oe 82 1 80,
 o0 (.store 4) [.t 2, .t 81],
 om 3 82]
def F56c104 : Ac := .ret
def F56c101 : Ac := (cd 78 (so F56o103 F56c104) .skip)
def F56c95 : Ac := (cd 73 (so F56o97 F56c98) (so F56o100 F56c101))
def F56c89 : Ac := (cd 68 (so F56o91 F56c92) (so F56o94 F56c95))
def F56c83 : Ac := (cd 63 (so F56o85 F56c86) (so F56o88 F56c89))
def F56b77 : Ac := (cd 56 (so F56o79 F56c80) (so F56o82 F56c83))
def F56c77 : Ac := (.seq (.gh []) (.seq (.keep [2, 47, 56] [[2]]) F56b77))
def F56b63 : Ac := (cd 48 (so F56o65 F56c66) (.seq (so F56o69 F56c70) F56c77))
def F56c63 : Ac := (.seq (.gh []) (.seq (.keep [2, 47, 48] [[2]]) F56b63))
def F56c48 : Ac := (.block 1 (.seq (so F56o51 F56c52) F56c63))
def F56o107 := [
 o3 83 (.callf 58) [],
 oe 84 0 83,
 oe 85 1 83,
 o0 (.store 4) [.t 2, .t 84],
 om 3 85]
def F56c108 : Ac := .ret
def F56c106 : Ac := (so F56o107 F56c108)
def F56c45 : Ac := (.seq (so F56o47 F56c48) F56c106)
def F56c4 : Ac := (.seq (so F56o6 F56c7) F56c45)
def F56c2 : Ac := (so F56o3 F56c4)
def F56c0 : Ac := (so F56o1 F56c2)
/-- hansom/isa.sums -/
def F56 : Fn := { np := 1, pb := [], rs := [.c 2 (some 4), .t 3], body := F56c0 }
def F57o1 := [
 o3 6 (.alloc [.d (.int .i64 0), .d (.int .i64 0), .d (.int .i64 0), .d (.bool false)]) [],
 o3 7 .mv [.b false]]
def F57o3 := [
 om 8 0,
 om 9 1,
 om 10 2,
 o3 11 (.build [.d (.int .i64 0), .d (.int .i64 0), .d (.int .i64 0), .d (.bool false)] [(0, 1), (1, 1), (2, 1)]) [.t 8, .t 9, .t 10],
 o0 (.store 4) [.t 6, .t 11],
 o3 7 .mv [.b true]]
def F57c4 : Ac := .ret
def F57c2 : Ac := (so F57o3 F57c4)
def F57c0 : Ac := (so F57o1 F57c2)
/-- hansom/isa.row -/
def F57 : Fn := { np := 3, pb := [], rs := [.c 6 (some 4), .t 7], body := F57c0 }
def F58o1 := [
 o3 0 (.alloc [.d (.int .i64 0), .d (.int .i64 0), .d (.int .i64 0), .d (.bool false)]) [],
 o3 1 .mv [.b false]]
def F58o3 := [
 o3 2 (.build [.d (.int .i64 0), .d (.int .i64 0), .d (.int .i64 0), .d (.bool false)] []) [],
 o0 (.store 4) [.t 0, .t 2],
 o3 1 .mv [.b false]]
def F58c4 : Ac := .ret
def F58c2 : Ac := (so F58o3 F58c4)
def F58c0 : Ac := (so F58o1 F58c2)
/-- hansom/isa.bad -/
def F58 : Fn := { np := 0, pb := [], rs := [.c 0 (some 4), .t 1], body := F58c0 }
def F59o1 := [
 o3 4 (.alloc [.d (.int .i64 0), .d (.int .i64 0), .d (.int .i64 0), .d (.bool false)]) [],
 o3 5 .mv [.b false]]
def F59o4 := [
 om 6 0]
def F59o7 := [
 o3 8 (.bin .eql) [.t 6, .y 128],
 om 7 8]
def F59o10 := [
 om 9 1,
 o3 10 (.bin .add) [.i 1, .t 9],
 o3 11 (.callf 71) [.t 10, .i 1, .i 6],
 oe 12 0 11,
 oe 13 1 11,
 o0 (.store 4) [.t 4, .t 12],
 om 5 13]
def F59c11 : Ac := .ret
def F59o13 := [
 o3 15 (.bin .eql) [.t 6, .y 129],
 om 14 15]
def F59o16 := [
 om 16 1,
 o3 17 (.bin .add) [.i 1, .t 16],
 o3 18 (.callf 71) [.t 17, .i 2, .i 7],
 oe 19 0 18,
 oe 20 1 18,
 o0 (.store 4) [.t 4, .t 19],
 om 5 20]
def F59c17 : Ac := .ret
def F59o19 := [
 o3 22 (.bin .eql) [.t 6, .y 131],
 om 21 22]
def F59o23 := [
 om 23 1,
 o3 24 (.bin .eql) [.t 23, .i 1],
 om 25 24,
 og 26 .mv [.t 1] 25 false,
 og 27 (.bin .eql) [.t 26, .i 4] 25 false,
 o3 28 .pick [.t 25, .b true, .t 27],
 om 29 28,
 og 30 .mv [.t 1] 29 false,
 og 31 (.bin .eql) [.t 30, .i 6] 29 false,
 o3 32 .pick [.t 29, .b true, .t 31]]
def F59o26 := [
 o3 33 (.callf 58) [],
 oe 34 0 33,
 oe 35 1 33,
 o0 (.store 4) [.t 4, .t 34],
 om 5 35]
def F59c27 : Ac := .ret
def F59c24 : Ac := (cd 32 (so F59o26 F59c27) .skip)
def F59o30 := [
 om 36 1,
 o3 37 (.bin .add) [.i 1, .t 36],
 o3 38 (.callf 71) [.t 37, .i 2, .i 8],
 oe 39 0 38,
 oe 40 1 38,
 o0 (.store 4) [.t 4, .t 39],
 om 5 40]
def F59c31 : Ac := .ret
def F59c29 : Ac := (so F59o30 F59c31)
def F59o33 := [
 o3 42 (.bin .eql) [.t 6, .y 132],
 om 41 42]
def F59o36 := [
 o3 43 (.callf 71) [.i 33, .i 1, .i 3],
 oe 44 0 43,
 oe 45 1 43,
 o0 (.store 4) [.t 4, .t 44],
 om 5 45]
def F59c37 : Ac := .ret
def F59o39 := [
 o3 47 (.bin .eql) [.t 6, .y 133],
 om 46 47]
def F59o42 := [
 o3 48 (.callf 71) [.i 33, .i 2, .i 4],
 oe 49 0 48,
 oe 50 1 48,
 o0 (.store 4) [.t 4, .t 49],
 om 5 50]
def F59c43 : Ac := .ret
def F59o45 := [
 o3 52 (.bin .eql) [.t 6, .y 134],
 om 51 52]
def F59o48 := [
 o3 53 (.callf 71) [.i 34, .i 1, .i 3],
 oe 54 0 53,
 oe 55 1 53,
 o0 (.store 4) [.t 4, .t 54],
 om 5 55]
def F59c49 : Ac := .ret
def F59o51 := [
 o3 57 (.bin .eql) [.t 6, .y 135],
 om 56 57]
def F59o54 := [
 o3 58 (.callf 71) [.i 34, .i 2, .i 4],
 oe 59 0 58,
 oe 60 1 58,
 o0 (.store 4) [.t 4, .t 59],
 om 5 60]
def F59c55 : Ac := .ret
def F59o57 := [
 o3 62 (.bin .eql) [.t 6, .y 136],
 om 61 62]
def F59o60 := [
 o3 63 (.callf 71) [.i 35, .i 1, .i 3],
 oe 64 0 63,
 oe 65 1 63,
 o0 (.store 4) [.t 4, .t 64],
 om 5 65]
def F59c61 : Ac := .ret
def F59o63 := [
 o3 67 (.bin .eql) [.t 6, .y 137],
 om 66 67]
def F59o66 := [
 o3 68 (.callf 71) [.i 35, .i 2, .i 4],
 oe 69 0 68,
 oe 70 1 68,
 o0 (.store 4) [.t 4, .t 69],
 om 5 70]
def F59c67 : Ac := .ret
def F59o69 := [
 o3 72 (.bin .eql) [.t 6, .y 138],
 om 71 72]
def F59o72 := [
 o3 73 (.callf 71) [.i 35, .i 3, .i 1],
 oe 74 0 73,
 oe 75 1 73,
 o0 (.store 4) [.t 4, .t 74],
 om 5 75]
def F59c73 : Ac := .ret
def F59o75 := [
 o3 77 (.bin .eql) [.t 6, .y 139],
 om 76 77]
def F59o78 := [
 o3 78 (.callf 71) [.i 35, .i 4, .i 2],
 oe 79 0 78,
 oe 80 1 78,
 o0 (.store 4) [.t 4, .t 79],
 om 5 80]
def F59c79 : Ac := .ret
def F59o81 := [
 o3 82 (.bin .eql) [.t 6, .y 140],
 om 81 82]
def F59o84 := [
 om 83 1,
 o3 84 (.bin .lss) [.t 83, .i 4]]
def F59o87 := [
 o3 85 (.callf 71) [.i 35, .i 2, .i 5],
 oe 86 0 85,
 oe 87 1 85,
 o0 (.store 4) [.t 4, .t 86],
 om 5 87]
def F59c88 : Ac := .ret
def F59c85 : Ac := (cd 84 (so F59o87 F59c88) .skip)
def F59o91 := [
 o3 89 (.bin .eql) [.t 6, .y 141],
 om 88 89]
def F59o94 := [
 o3 90 (.callf 71) [.i 36, .i 4, .i 20],
 oe 91 0 90,
 oe 92 1 90,
 o0 (.store 4) [.t 4, .t 91],
 om 5 92]
def F59c95 : Ac := .ret
def F59o97 := [
 o3 94 (.bin .eql) [.t 6, .y 142],
 om 93 94]
def F59o100 := [
 om 95 1,
 o3 96 (.bin .lss) [.t 95, .i 4],
 om 97 96,
 og 98 .mv [.t 1] 97 true,
 og 99 (.bin .neq) [.t 98, .i 1] 97 true,
 o3 100 .pick [.t 97, .t 99, .b false]]
def F59o103 := [
 o3 101 (.callf 71) [.i 35, .i 5, .i 2],
 oe 102 0 101,
 oe 103 1 101,
 o0 (.store 4) [.t 4, .t 102],
 om 5 103]
def F59c104 : Ac := .ret
def F59c101 : Ac := (cd 100 (so F59o103 F59c104) .skip)
def F59o107 := [
 o3 105 (.bin .eql) [.t 6, .y 143],
 om 104 105]
def F59o110 := [
 om 106 1,
 o3 107 (.bin .eql) [.t 106, .i 0]]
def F59o113 := [
 o3 108 (.callf 71) [.i 10, .i 2, .i 0],
 oe 109 0 108,
 oe 110 1 108,
 o0 (.store 4) [.t 4, .t 109],
 om 5 110]
def F59c114 : Ac := .ret
def F59c111 : Ac := (cd 107 (so F59o113 F59c114) .skip)
def F59c108 : Ac := (cd 104 (so F59o110 F59c111) .skip)
def F59c98 : Ac := (cd 93 (so F59o100 F59c101) (so F59o107 F59c108))
def F59c92 : Ac := (cd 88 (so F59o94 F59c95) (so F59o97 F59c98))
def F59c82 : Ac := (cd 81 (so F59o84 F59c85) (so F59o91 F59c92))
def F59c76 : Ac := (cd 76 (so F59o78 F59c79) (so F59o81 F59c82))
def F59c70 : Ac := (cd 71 (so F59o72 F59c73) (so F59o75 F59c76))
def F59c64 : Ac := (cd 66 (so F59o66 F59c67) (so F59o69 F59c70))
def F59c58 : Ac := (cd 61 (so F59o60 F59c61) (so F59o63 F59c64))
def F59c52 : Ac := (cd 56 (so F59o54 F59c55) (so F59o57 F59c58))
def F59c46 : Ac := (cd 51 (so F59o48 F59c49) (so F59o51 F59c52))
def F59c40 : Ac := (cd 46 (so F59o42 F59c43) (so F59o45 F59c46))
def F59c34 : Ac := (cd 41 (so F59o36 F59c37) (so F59o39 F59c40))
def F59c20 : Ac := (cd 21 (.seq (so F59o23 F59c24) F59c29) (so F59o33 F59c34))
def F59c14 : Ac := (cd 14 (so F59o16 F59c17) (so F59o19 F59c20))
def F59c8 : Ac := (cd 7 (so F59o10 F59c11) (so F59o13 F59c14))
def F59c5 : Ac := (.block 0 (so F59o7 F59c8))
def F59o118 := [
 o3 111 (.callf 58) [],
 oe 112 0 111,
 oe 113 1 111,
 o0 (.store 4) [.t 4, .t 112],
 om 5 113]
def F59c119 : Ac := .ret
def F59c117 : Ac := (so F59o118 F59c119)
def F59c2 : Ac := (.seq (so F59o4 F59c5) F59c117)
def F59c0 : Ac := (so F59o1 F59c2)
/-- hansom/isa.moves -/
def F59 : Fn := { np := 2, pb := [], rs := [.c 4 (some 4), .t 5], body := F59c0 }
def F60o1 := [
 o3 2 (.alloc [.d (.int .i64 0), .d (.int .i64 0), .d (.int .i64 0), .d (.bool false)]) [],
 o3 3 .mv [.b false]]
def F60o4 := [
 om 5 0,
 o3 6 (.bin .lss) [.t 5, .y 152]]
def F60o7 := [
 o3 7 (.callf 57) [.i 34, .i 16, .i 22],
 oe 8 0 7,
 oe 9 1 7,
 o0 (.store 4) [.t 2, .t 8],
 om 3 9]
def F60c8 : Ac := .ret
def F60c5 : Ac := (cd 6 (so F60o7 F60c8) .skip)
def F60o12 := [
 om 10 0,
 o3 11 (.bin .eql) [.t 10, .y 154]]
def F60o15 := [
 o3 12 (.callf 57) [.i 40, .i 11, .i 0],
 oe 13 0 12,
 oe 14 1 12,
 o0 (.store 4) [.t 2, .t 13],
 om 3 14]
def F60c16 : Ac := .ret
def F60c13 : Ac := (cd 11 (so F60o15 F60c16) .skip)
def F60o19 := [
 o3 15 (.bslice (.int .i64 0) 8 [0, 1, 2, 3, 4, 5, 6, 7]) [.i 37, .i 38, .i 0, .i 41, .i 42, .i 43, .i 44, .i 45],
 om 16 0,
 o3 17 (.bin .sub) [.t 16, .y 152],
 o3 18 (.iaddrS 1) [.t 15, .t 17],
 o3 19 (.load none) [.t 18],
 om 4 19]
def F60o21 := [
 om 20 4,
 o3 21 (.callf 57) [.t 20, .i 0, .i 0],
 oe 22 0 21,
 oe 23 1 21,
 o0 (.store 4) [.t 2, .t 22],
 om 3 23]
def F60c22 : Ac := .ret
def F60c20 : Ac := (so F60o21 F60c22)
def F60c18 : Ac := (so F60o19 F60c20)
def F60c10 : Ac := (.seq (so F60o12 F60c13) F60c18)
def F60c2 : Ac := (.seq (so F60o4 F60c5) F60c10)
def F60c0 : Ac := (so F60o1 F60c2)
/-- hansom/isa.words -/
def F60 : Fn := { np := 1, pb := [], rs := [.c 2 (some 4), .t 3], body := F60c0 }
def F61o1 := [
 o3 2 (.alloc [.d (.int .i64 0), .d (.int .i64 0), .d (.int .i64 0), .d (.bool false)]) [],
 o3 3 .mv [.b false]]
def F61o4 := [
 om 4 0]
def F61o7 := [
 o3 6 (.bin .eql) [.t 4, .y 160],
 om 5 6]
def F61o10 := [
 o3 7 (.callf 57) [.i 35, .i 14, .i 12],
 oe 8 0 7,
 oe 9 1 7,
 o0 (.store 4) [.t 2, .t 8],
 om 3 9]
def F61c11 : Ac := .ret
def F61o13 := [
 o3 11 (.bin .eql) [.t 4, .y 161],
 om 10 11]
def F61o16 := [
 o3 12 (.callf 57) [.i 35, .i 16, .i 13],
 oe 13 0 12,
 oe 14 1 12,
 o0 (.store 4) [.t 2, .t 13],
 om 3 14]
def F61c17 : Ac := .ret
def F61o19 := [
 o3 16 (.bin .eql) [.t 4, .y 162],
 om 15 16]
def F61o22 := [
 o3 17 (.callf 57) [.i 35, .i 12, .i 14],
 oe 18 0 17,
 oe 19 1 17,
 o0 (.store 4) [.t 2, .t 18],
 om 3 19]
def F61c23 : Ac := .ret
def F61o25 := [
 o3 21 (.bin .eql) [.t 4, .y 163],
 om 20 21]
def F61o28 := [
 o3 22 (.callf 57) [.i 35, .i 13, .i 16],
 oe 23 0 22,
 oe 24 1 22,
 o0 (.store 4) [.t 2, .t 23],
 om 3 24]
def F61c29 : Ac := .ret
def F61o31 := [
 o3 26 (.bin .eql) [.t 4, .y 168],
 om 25 26]
def F61o34 := [
 o3 27 (.callf 57) [.i 33, .i 14, .i 6],
 oe 28 0 27,
 oe 29 1 27,
 o0 (.store 4) [.t 2, .t 28],
 om 3 29]
def F61c35 : Ac := .ret
def F61o37 := [
 o3 31 (.bin .eql) [.t 4, .y 169],
 om 30 31]
def F61o40 := [
 o3 32 (.callf 57) [.i 33, .i 16, .i 7],
 oe 33 0 32,
 oe 34 1 32,
 o0 (.store 4) [.t 2, .t 33],
 om 3 34]
def F61c41 : Ac := .ret
def F61c38 : Ac := (cd 30 (so F61o40 F61c41) .skip)
def F61c32 : Ac := (cd 25 (so F61o34 F61c35) (so F61o37 F61c38))
def F61c26 : Ac := (cd 20 (so F61o28 F61c29) (so F61o31 F61c32))
def F61c20 : Ac := (cd 15 (so F61o22 F61c23) (so F61o25 F61c26))
def F61c14 : Ac := (cd 10 (so F61o16 F61c17) (so F61o19 F61c20))
def F61c8 : Ac := (cd 5 (so F61o10 F61c11) (so F61o13 F61c14))
def F61c5 : Ac := (.block 0 (so F61o7 F61c8))
def F61o45 := [
 om 35 0,
 o3 36 (.bin .lss) [.t 35, .y 168]]
def F61o48 := [
 om 37 0,
 o3 38 (.bin .sub) [.t 37, .y 164],
 o3 39 (.toInt .i64) [.t 38],
 o3 40 (.bin .add) [.i 46, .t 39],
 o3 41 (.callf 57) [.t 40, .i 0, .i 0],
 oe 42 0 41,
 oe 43 1 41,
 o0 (.store 4) [.t 2, .t 42],
 om 3 43]
def F61c49 : Ac := .ret
def F61c46 : Ac := (cd 36 (so F61o48 F61c49) .skip)
def F61o52 := [
 om 44 0,
 o3 45 (.bin .sub) [.t 44, .y 170],
 o3 46 (.toInt .i64) [.t 45],
 o3 47 (.bin .add) [.i 50, .t 46],
 o3 48 (.callf 57) [.t 47, .i 0, .i 0],
 oe 49 0 48,
 oe 50 1 48,
 o0 (.store 4) [.t 2, .t 49],
 om 3 50]
def F61c53 : Ac := .ret
def F61c51 : Ac := (so F61o52 F61c53)
def F61c43 : Ac := (.seq (so F61o45 F61c46) F61c51)
def F61c2 : Ac := (.seq (so F61o4 F61c5) F61c43)
def F61c0 : Ac := (so F61o1 F61c2)
/-- hansom/isa.texts -/
def F61 : Fn := { np := 1, pb := [], rs := [.c 2 (some 4), .t 3], body := F61c0 }
def F62o1 := [
 o3 4 (.alloc [.d (.int .i64 0), .d (.int .i64 0), .d (.int .i64 0), .d (.bool false)]) [],
 o3 5 .mv [.b false]]
def F62o4 := [
 om 6 0]
def F62o7 := [
 o3 8 (.bin .eql) [.t 6, .y 194],
 om 7 8]
def F62o10 := [
 o3 9 (.callf 57) [.i 56, .i 7, .i 0],
 oe 10 0 9,
 oe 11 1 9,
 o0 (.store 4) [.t 4, .t 10],
 om 5 11]
def F62c11 : Ac := .ret
def F62o13 := [
 o3 13 (.bin .eql) [.t 6, .y 195],
 om 12 13]
def F62o16 := [
 o3 14 (.callf 57) [.i 56, .i 0, .i 0],
 oe 15 0 14,
 oe 16 1 14,
 o0 (.store 4) [.t 4, .t 15],
 om 5 16]
def F62c17 : Ac := .ret
def F62o19 := [
 o3 18 (.bin .eql) [.t 6, .y 196],
 om 17 18]
def F62o22 := [
 o3 19 (.callf 71) [.i 58, .i 4, .i 19],
 oe 20 0 19,
 oe 21 1 19,
 o0 (.store 4) [.t 4, .t 20],
 om 5 21]
def F62c23 : Ac := .ret
def F62o25 := [
 o3 23 (.bin .eql) [.t 6, .y 197],
 om 22 23]
def F62o28 := [
 o3 24 (.callf 71) [.i 59, .i 4, .i 19],
 oe 25 0 24,
 oe 26 1 24,
 o0 (.store 4) [.t 4, .t 25],
 om 5 26]
def F62c29 : Ac := .ret
def F62o31 := [
 o3 28 (.bin .eql) [.t 6, .y 198],
 om 27 28]
def F62o34 := [
 om 29 1,
 o3 30 (.bin .eql) [.t 29, .i 0]]
def F62o37 := [
 o3 31 (.callf 71) [.i 35, .i 1, .i 6],
 oe 32 0 31,
 oe 33 1 31,
 o0 (.store 4) [.t 4, .t 32],
 om 5 33]
def F62c38 : Ac := .ret
def F62c35 : Ac := (cd 30 (so F62o37 F62c38) .skip)
def F62o41 := [
 o3 35 (.bin .eql) [.t 6, .y 199],
 om 34 35]
def F62o44 := [
 om 36 1,
 o3 37 (.bin .eql) [.t 36, .i 0]]
def F62o47 := [
 o3 38 (.callf 71) [.i 35, .i 2, .i 7],
 oe 39 0 38,
 oe 40 1 38,
 o0 (.store 4) [.t 4, .t 39],
 om 5 40]
def F62c48 : Ac := .ret
def F62c45 : Ac := (cd 37 (so F62o47 F62c48) .skip)
def F62o51 := [
 o3 42 (.bin .eql) [.t 6, .y 202],
 om 41 42]
def F62o54 := [
 o3 43 (.callf 57) [.i 57, .i 7, .i 0],
 oe 44 0 43,
 oe 45 1 43,
 o0 (.store 4) [.t 4, .t 44],
 om 5 45]
def F62c55 : Ac := .ret
def F62o57 := [
 o3 47 (.bin .eql) [.t 6, .y 203],
 om 46 47]
def F62o60 := [
 o3 48 (.callf 57) [.i 57, .i 0, .i 0],
 oe 49 0 48,
 oe 50 1 48,
 o0 (.store 4) [.t 4, .t 49],
 om 5 50]
def F62c61 : Ac := .ret
def F62o63 := [
 o3 52 (.bin .eql) [.t 6, .y 204],
 om 51 52]
def F62o66 := [
 o3 53 (.callf 57) [.i 60, .i 24, .i 0],
 oe 54 0 53,
 oe 55 1 53,
 o0 (.store 4) [.t 4, .t 54],
 om 5 55]
def F62c67 : Ac := .ret
def F62o69 := [
 o3 57 (.bin .eql) [.t 6, .y 205],
 om 56 57]
def F62o72 := [
 o3 58 (.callf 57) [.i 60, .i 6, .i 0],
 oe 59 0 58,
 oe 60 1 58,
 o0 (.store 4) [.t 4, .t 59],
 om 5 60]
def F62c73 : Ac := .ret
def F62o75 := [
 o3 62 (.bin .eql) [.t 6, .y 206],
 om 61 62]
def F62o78 := [
 o3 63 (.callf 57) [.i 61, .i 0, .i 0],
 oe 64 0 63,
 oe 65 1 63,
 o0 (.store 4) [.t 4, .t 64],
 om 5 65]
def F62c79 : Ac := .ret
def F62o81 := [
 o3 67 (.bin .eql) [.t 6, .y 207],
 om 66 67]
def F62o84 := [
 o3 68 (.callf 57) [.i 62, .i 0, .i 0],
 oe 69 0 68,
 oe 70 1 68,
 o0 (.store 4) [.t 4, .t 69],
 om 5 70]
def F62c85 : Ac := .ret
def F62c82 : Ac := (cd 66 (so F62o84 F62c85) .skip)
def F62c76 : Ac := (cd 61 (so F62o78 F62c79) (so F62o81 F62c82))
def F62c70 : Ac := (cd 56 (so F62o72 F62c73) (so F62o75 F62c76))
def F62c64 : Ac := (cd 51 (so F62o66 F62c67) (so F62o69 F62c70))
def F62c58 : Ac := (cd 46 (so F62o60 F62c61) (so F62o63 F62c64))
def F62c52 : Ac := (cd 41 (so F62o54 F62c55) (so F62o57 F62c58))
def F62c42 : Ac := (cd 34 (so F62o44 F62c45) (so F62o51 F62c52))
def F62c32 : Ac := (cd 27 (so F62o34 F62c35) (so F62o41 F62c42))
def F62c26 : Ac := (cd 22 (so F62o28 F62c29) (so F62o31 F62c32))
def F62c20 : Ac := (cd 17 (so F62o22 F62c23) (so F62o25 F62c26))
def F62c14 : Ac := (cd 12 (so F62o16 F62c17) (so F62o19 F62c20))
def F62c8 : Ac := (cd 7 (so F62o10 F62c11) (so F62o13 F62c14))
def F62c5 : Ac := (.block 0 (so F62o7 F62c8))
def F62o88 := [
 o3 71 (.callf 58) [],
 oe 72 0 71,
 oe 73 1 71,
 o0 (.store 4) [.t 4, .t 72],
 om 5 73]
def F62c89 : Ac := .ret
def F62c87 : Ac := (so F62o88 F62c89)
def F62c2 : Ac := (.seq (so F62o4 F62c5) F62c87)
def F62c0 : Ac := (so F62o1 F62c2)
/-- hansom/isa.backs -/
def F62 : Fn := { np := 2, pb := [], rs := [.c 4 (some 4), .t 5], body := F62c0 }
def F63o1 := [
 o3 4 (.alloc [.d (.int .i64 0), .d (.int .i64 0), .d (.int .i64 0), .d (.bool false)]) [],
 o3 5 .mv [.b false]]
def F63o4 := [
 om 9 0,
 o3 10 (.bin .lss) [.t 9, .y 212]]
def F63o8 := [
 om 11 1,
 o3 12 (.bin .eql) [.t 11, .i 6]]
def F63o11 := [
 o3 13 (.callf 58) [],
 oe 14 0 13,
 oe 15 1 13,
 o0 (.store 4) [.t 4, .t 14],
 om 5 15]
def F63c12 : Ac := .ret
def F63c9 : Ac := (cd 12 (so F63o11 F63c12) .skip)
def F63o15 := [
 o3 16 (.bslice (.int .i64 0) 8 [0, 1, 2, 3, 4, 5, 6, 7]) [.i 63, .i 64, .i 65, .i 66, .i 67, .i 68, .i 0, .i 69],
 om 17 1,
 o3 18 (.iaddrS 1) [.t 16, .t 17],
 o3 19 (.load none) [.t 18],
 om 6 19]
def F63o17 := [
 o3 7 .mv [.i 1],
 o3 8 .mv [.i 18]]
def F63o20 := [
 om 20 0,
 o3 21 (.bin .and) [.t 20, .y 1],
 o3 22 (.bin .eql) [.t 21, .y 1]]
def F63o22 := [
 o3 7 .mv [.i 2]]
def F63c21 : Ac := (cd 22 (.ops F63o22) .skip)
def F63o26 := [
 om 23 0,
 o3 24 (.bin .and) [.t 23, .y 2],
 o3 25 (.bin .neq) [.t 24, .y 0]]
def F63o28 := [
 o3 8 .mv [.i 15]]
def F63c27 : Ac := (cd 25 (.ops F63o28) .skip)
def F63o31 := [
 om 26 6,
 om 27 7,
 om 28 8,
 o3 29 (.callf 71) [.t 26, .t 27, .t 28],
 oe 30 0 29,
 oe 31 1 29,
 o0 (.store 4) [.t 4, .t 30],
 om 5 31]
def F63c32 : Ac := .ret
def F63c30 : Ac := (so F63o31 F63c32)
def F63c24 : Ac := (.seq (so F63o26 F63c27) F63c30)
def F63c18 : Ac := (.seq (so F63o20 F63c21) F63c24)
def F63c16 : Ac := (so F63o17 F63c18)
def F63c14 : Ac := (so F63o15 F63c16)
def F63c5 : Ac := (cd 10 (.seq (so F63o8 F63c9) F63c14) .skip)
def F63o37 := [
 om 33 0,
 o3 34 (.bin .eql) [.t 33, .y 212],
 om 32 34]
def F63o40 := [
 o3 35 (.callf 57) [.i 70, .i 6, .i 0],
 oe 36 0 35,
 oe 37 1 35,
 o0 (.store 4) [.t 4, .t 36],
 om 5 37]
def F63c41 : Ac := .ret
def F63o43 := [
 om 39 0,
 o3 40 (.bin .eql) [.t 39, .y 213],
 om 38 40]
def F63o46 := [
 o3 41 (.callf 57) [.i 71, .i 6, .i 0],
 oe 42 0 41,
 oe 43 1 41,
 o0 (.store 4) [.t 4, .t 42],
 om 5 43]
def F63c47 : Ac := .ret
def F63o49 := [
 om 45 0,
 o3 46 (.bin .eql) [.t 45, .y 215],
 om 44 46]
def F63o52 := [
 o3 47 (.callf 57) [.i 72, .i 0, .i 0],
 oe 48 0 47,
 oe 49 1 47,
 o0 (.store 4) [.t 4, .t 48],
 om 5 49]
def F63c53 : Ac := .ret
def F63o55 := [
 om 51 0,
 o3 52 (.bin .geq) [.t 51, .y 216],
 om 50 52]
def F63o58 := [
 o3 53 (.callf 71) [.i 73, .i 2, .i 0],
 oe 54 0 53,
 oe 55 1 53,
 o0 (.store 4) [.t 4, .t 54],
 om 5 55]
def F63c59 : Ac := .ret
def F63c56 : Ac := (cd 50 (so F63o58 F63c59) .skip)
def F63c50 : Ac := (cd 44 (so F63o52 F63c53) (so F63o55 F63c56))
def F63c44 : Ac := (cd 38 (so F63o46 F63c47) (so F63o49 F63c50))
def F63c38 : Ac := (cd 32 (so F63o40 F63c41) (so F63o43 F63c44))
def F63o62 := [
 o3 56 (.callf 58) [],
 oe 57 0 56,
 oe 58 1 56,
 o0 (.store 4) [.t 4, .t 57],
 om 5 58]
def F63c63 : Ac := .ret
def F63c61 : Ac := (so F63o62 F63c63)
def F63c34 : Ac := (.seq (.block 0 (so F63o37 F63c38)) F63c61)
def F63c2 : Ac := (.seq (so F63o4 F63c5) F63c34)
def F63c0 : Ac := (so F63o1 F63c2)
/-- hansom/isa.turns -/
def F63 : Fn := { np := 2, pb := [], rs := [.c 4 (some 4), .t 5], body := F63c0 }
def F64o1 := [
 o3 2 (.alloc [.d (.int .i64 0), .d (.int .i64 0), .d (.int .i64 0), .d (.bool false)]) [],
 o3 3 .mv [.b false]]
def F64o4 := [
 om 4 0]
def F64o8 := [
 o3 6 (.bin .eql) [.t 4, .y 224],
 om 5 6]
def F64o12 := [
 o3 7 (.bin .eql) [.t 4, .y 225],
 om 5 7]
def F64o16 := [
 o3 8 (.bin .eql) [.t 4, .y 226],
 om 5 8]
def F64o19 := [
 o3 9 (.bin .eql) [.t 4, .y 227],
 om 5 9]
def F64c17 : Ac := (cd 5 .skip (.ops F64o19))
def F64c13 : Ac := (cd 5 .skip (so F64o16 F64c17))
def F64c9 : Ac := (cd 5 .skip (so F64o12 F64c13))
def F64o22 := [
 om 10 0,
 o3 11 (.bin .sub) [.t 10, .y 224],
 o3 12 (.toInt .i64) [.t 11],
 o3 13 (.bin .add) [.i 74, .t 12],
 o3 14 (.callf 57) [.t 13, .i 9, .i 0],
 oe 15 0 14,
 oe 16 1 14,
 o0 (.store 4) [.t 2, .t 15],
 om 3 16]
def F64c23 : Ac := .ret
def F64o25 := [
 o3 18 (.bin .eql) [.t 4, .y 228],
 om 17 18]
def F64o28 := [
 o3 19 (.callf 57) [.i 78, .i 14, .i 6],
 oe 20 0 19,
 oe 21 1 19,
 o0 (.store 4) [.t 2, .t 20],
 om 3 21]
def F64c29 : Ac := .ret
def F64o31 := [
 o3 23 (.bin .eql) [.t 4, .y 229],
 om 22 23]
def F64o34 := [
 o3 24 (.callf 57) [.i 78, .i 16, .i 6],
 oe 25 0 24,
 oe 26 1 24,
 o0 (.store 4) [.t 2, .t 25],
 om 3 26]
def F64c35 : Ac := .ret
def F64o37 := [
 o3 28 (.bin .eql) [.t 4, .y 230],
 om 27 28]
def F64o40 := [
 o3 29 (.callf 57) [.i 79, .i 6, .i 14],
 oe 30 0 29,
 oe 31 1 29,
 o0 (.store 4) [.t 2, .t 30],
 om 3 31]
def F64c41 : Ac := .ret
def F64o43 := [
 o3 33 (.bin .eql) [.t 4, .y 231],
 om 32 33]
def F64o46 := [
 o3 34 (.callf 57) [.i 79, .i 6, .i 16],
 oe 35 0 34,
 oe 36 1 34,
 o0 (.store 4) [.t 2, .t 35],
 om 3 36]
def F64c47 : Ac := .ret
def F64o49 := [
 o3 38 (.bin .eql) [.t 4, .y 232],
 om 37 38]
def F64o52 := [
 o3 39 (.callf 57) [.i 39, .i 10, .i 0],
 oe 40 0 39,
 oe 41 1 39,
 o0 (.store 4) [.t 2, .t 40],
 om 3 41]
def F64c53 : Ac := .ret
def F64o55 := [
 o3 43 (.bin .eql) [.t 4, .y 233],
 om 42 43]
def F64o58 := [
 o3 44 (.callf 57) [.i 80, .i 10, .i 0],
 oe 45 0 44,
 oe 46 1 44,
 o0 (.store 4) [.t 2, .t 45],
 om 3 46]
def F64c59 : Ac := .ret
def F64o61 := [
 o3 48 (.bin .eql) [.t 4, .y 234],
 om 47 48]
def F64o64 := [
 o3 49 (.callf 57) [.i 81, .i 11, .i 0],
 oe 50 0 49,
 oe 51 1 49,
 o0 (.store 4) [.t 2, .t 50],
 om 3 51]
def F64c65 : Ac := .ret
def F64o67 := [
 o3 53 (.bin .eql) [.t 4, .y 235],
 om 52 53]
def F64o70 := [
 o3 54 (.callf 57) [.i 80, .i 9, .i 0],
 oe 55 0 54,
 oe 56 1 54,
 o0 (.store 4) [.t 2, .t 55],
 om 3 56]
def F64c71 : Ac := .ret
def F64o73 := [
 o3 58 (.bin .eql) [.t 4, .y 236],
 om 57 58]
def F64o76 := [
 o3 59 (.callf 57) [.i 78, .i 14, .i 17],
 oe 60 0 59,
 oe 61 1 59,
 o0 (.store 4) [.t 2, .t 60],
 om 3 61]
def F64c77 : Ac := .ret
def F64o79 := [
 o3 63 (.bin .eql) [.t 4, .y 237],
 om 62 63]
def F64o82 := [
 o3 64 (.callf 57) [.i 78, .i 16, .i 17],
 oe 65 0 64,
 oe 66 1 64,
 o0 (.store 4) [.t 2, .t 65],
 om 3 66]
def F64c83 : Ac := .ret
def F64o85 := [
 o3 68 (.bin .eql) [.t 4, .y 238],
 om 67 68]
def F64o88 := [
 o3 69 (.callf 57) [.i 79, .i 17, .i 14],
 oe 70 0 69,
 oe 71 1 69,
 o0 (.store 4) [.t 2, .t 70],
 om 3 71]
def F64c89 : Ac := .ret
def F64c86 : Ac := (cd 67 (so F64o88 F64c89) .skip)
def F64c80 : Ac := (cd 62 (so F64o82 F64c83) (so F64o85 F64c86))
def F64c74 : Ac := (cd 57 (so F64o76 F64c77) (so F64o79 F64c80))
def F64c68 : Ac := (cd 52 (so F64o70 F64c71) (so F64o73 F64c74))
def F64c62 : Ac := (cd 47 (so F64o64 F64c65) (so F64o67 F64c68))
def F64c56 : Ac := (cd 42 (so F64o58 F64c59) (so F64o61 F64c62))
def F64c50 : Ac := (cd 37 (so F64o52 F64c53) (so F64o55 F64c56))
def F64c44 : Ac := (cd 32 (so F64o46 F64c47) (so F64o49 F64c50))
def F64c38 : Ac := (cd 27 (so F64o40 F64c41) (so F64o43 F64c44))
def F64c32 : Ac := (cd 22 (so F64o34 F64c35) (so F64o37 F64c38))
def F64c26 : Ac := (cd 17 (so F64o28 F64c29) (so F64o31 F64c32))
def F64b20 : Ac := (cd 5 (so F64o22 F64c23) (so F64o25 F64c26))
def F64c20 : Ac := (.seq (.gh []) (.seq (.keep [0, 2, 4, 5] [[2]]) F64b20))
def F64c5 : Ac := (.block 0 (.seq (so F64o8 F64c9) F64c20))
def F64o92 := [
 o3 72 (.callf 57) [.i 79, .i 17, .i 16],
 oe 73 0 72,
 oe 74 1 72,
 o0 (.store 4) [.t 2, .t 73],
 om 3 74]
def F64c93 : Ac := .ret
def F64c91 : Ac := (so F64o92 F64c93)
def F64c2 : Ac := (.seq (so F64o4 F64c5) F64c91)
def F64c0 : Ac := (so F64o1 F64c2)
/-- hansom/isa.goes -/
def F64 : Fn := { np := 1, pb := [], rs := [.c 2 (some 4), .t 3], body := F64c0 }
def F65o1 := [
 o3 4 (.alloc [.d (.int .i64 0), .d (.int .i64 0), .d (.int .i64 0), .d (.bool false)]) [],
 o3 5 .mv [.b false]]
def F65o5 := [
 om 10 0,
 o3 11 (.bin .eql) [.t 10, .y 244],
 om 9 11]
def F65o8 := [
 o3 12 (.callf 57) [.i 82, .i 0, .i 0],
 oe 13 0 12,
 oe 14 1 12,
 o0 (.store 4) [.t 4, .t 13],
 om 5 14]
def F65c9 : Ac := .ret
def F65o11 := [
 om 16 0,
 o3 17 (.bin .eql) [.t 16, .y 245],
 om 15 17]
def F65o14 := [
 o3 18 (.callf 57) [.i 83, .i 0, .i 0],
 oe 19 0 18,
 oe 20 1 18,
 o0 (.store 4) [.t 4, .t 19],
 om 5 20]
def F65c15 : Ac := .ret
def F65o17 := [
 om 22 0,
 o3 23 (.bin .geq) [.t 22, .y 248],
 om 24 23,
 og 25 .mv [.t 0] 24 true,
 og 26 (.bin .lss) [.t 25, .y 254] 24 true,
 o3 27 .pick [.t 24, .t 26, .b false],
 om 21 27]
def F65o20 := [
 om 28 0,
 o3 29 (.bin .sub) [.t 28, .y 248],
 o3 30 (.toInt .i64) [.t 29],
 o3 31 (.bin .add) [.i 90, .t 30],
 o3 32 (.callf 57) [.t 31, .i 0, .i 0],
 oe 33 0 32,
 oe 34 1 32,
 o0 (.store 4) [.t 4, .t 33],
 om 5 34]
def F65c21 : Ac := .ret
def F65o23 := [
 om 36 0,
 o3 37 (.bin .lss) [.t 36, .y 246],
 om 35 37]
def F65o26 := [
 o3 38 (.callf 58) [],
 oe 39 0 38,
 oe 40 1 38,
 o0 (.store 4) [.t 4, .t 39],
 om 5 40]
def F65c27 : Ac := .ret
def F65c24 : Ac := (cd 35 (so F65o26 F65c27) .skip)
def F65b18 : Ac := (cd 21 (so F65o20 F65c21) (so F65o23 F65c24))
def F65c18 : Ac := (.seq (.gh []) (.seq (.keep [0, 1, 4, 21] [[4]]) F65b18))
def F65c12 : Ac := (cd 15 (so F65o14 F65c15) (so F65o17 F65c18))
def F65c6 : Ac := (cd 9 (so F65o8 F65c9) (so F65o11 F65c12))
def F65o30 := [
 o3 6 .mv [.i 1],
 o3 7 .mv [.i 6]]
def F65o33 := [
 om 41 0,
 o3 42 (.bin .and) [.t 41, .y 1],
 o3 43 (.bin .eql) [.t 42, .y 1]]
def F65o35 := [
 o3 6 .mv [.i 2],
 o3 7 .mv [.i 7]]
def F65c34 : Ac := (cd 43 (.ops F65o35) .skip)
def F65o39 := [
 om 44 0,
 o3 45 (.bin .lss) [.t 44, .y 248]]
def F65o43 := [
 om 46 1]
def F65o46 := [
 o3 48 (.bin .eql) [.t 46, .i 0],
 om 47 48]
def F65o49 := [
 om 49 6,
 om 50 7,
 o3 51 (.callf 71) [.i 33, .t 49, .t 50],
 oe 52 0 51,
 oe 53 1 51,
 o0 (.store 4) [.t 4, .t 52],
 om 5 53]
def F65c50 : Ac := .ret
def F65o52 := [
 o3 55 (.bin .eql) [.t 46, .i 1],
 om 54 55]
def F65o55 := [
 o3 56 (.callf 58) [],
 oe 57 0 56,
 oe 58 1 56,
 o0 (.store 4) [.t 4, .t 57],
 om 5 58]
def F65c56 : Ac := .ret
def F65c53 : Ac := (cd 54 (so F65o55 F65c56) .skip)
def F65c47 : Ac := (cd 47 (so F65o49 F65c50) (so F65o52 F65c53))
def F65c44 : Ac := (.block 1 (so F65o46 F65c47))
def F65o59 := [
 om 59 1,
 o3 60 (.bin .add) [.i 84, .t 59],
 o3 61 (.bin .sub) [.t 60, .i 2],
 om 62 6,
 o3 63 (.callf 71) [.t 61, .t 62, .i 0],
 oe 64 0 63,
 oe 65 1 63,
 o0 (.store 4) [.t 4, .t 64],
 om 5 65]
def F65c60 : Ac := .ret
def F65c58 : Ac := (so F65o59 F65c60)
def F65c40 : Ac := (cd 45 (.seq (so F65o43 F65c44) F65c58) .skip)
def F65o65 := [
 om 67 1,
 o3 68 (.bin .lss) [.t 67, .i 2],
 om 66 68]
def F65o68 := [
 om 69 1,
 o3 70 (.bin .add) [.i 15, .t 69],
 om 71 6,
 o3 72 (.callf 71) [.t 70, .t 71, .i 0],
 oe 73 0 72,
 oe 74 1 72,
 o0 (.store 4) [.t 4, .t 73],
 om 5 74]
def F65c69 : Ac := .ret
def F65o71 := [
 om 76 0,
 o3 77 (.bin .eql) [.t 76, .y 254],
 om 78 77,
 og 79 .mv [.t 1] 78 false,
 og 80 (.bin .eql) [.t 79, .i 7] 78 false,
 o3 81 .pick [.t 78, .b true, .t 80],
 om 75 81]
def F65o74 := [
 o3 82 (.callf 58) [],
 oe 83 0 82,
 oe 84 1 82,
 o0 (.store 4) [.t 4, .t 83],
 om 5 84]
def F65c75 : Ac := .ret
def F65c72 : Ac := (cd 75 (so F65o74 F65c75) .skip)
def F65c66 : Ac := (cd 66 (so F65o68 F65c69) (so F65o71 F65c72))
def F65o78 := [
 o3 85 (.bslice (.int .i64 0) 5 [0, 1, 2, 3, 4]) [.i 39, .i 40, .i 80, .i 81, .i 9],
 om 86 1,
 o3 87 (.bin .sub) [.t 86, .i 2],
 o3 88 (.iaddrS 1) [.t 85, .t 87],
 o3 89 (.load none) [.t 88],
 om 8 89]
def F65o81 := [
 om 90 1,
 o3 91 (.bin .eql) [.t 90, .i 3],
 om 92 91,
 og 93 .mv [.t 1] 92 false,
 og 94 (.bin .eql) [.t 93, .i 5] 92 false,
 o3 95 .pick [.t 92, .b true, .t 94]]
def F65o83 := [
 o3 6 .mv [.i 19]]
def F65c82 : Ac := (cd 95 (.ops F65o83) .skip)
def F65o86 := [
 om 96 8,
 om 97 6,
 o3 98 (.callf 71) [.t 96, .t 97, .i 0],
 oe 99 0 98,
 oe 100 1 98,
 o0 (.store 4) [.t 4, .t 99],
 om 5 100]
def F65c87 : Ac := .ret
def F65c85 : Ac := (so F65o86 F65c87)
def F65c79 : Ac := (.seq (so F65o81 F65c82) F65c85)
def F65c77 : Ac := (so F65o78 F65c79)
def F65c62 : Ac := (.seq (.block 2 (so F65o65 F65c66)) F65c77)
def F65b37 : Ac := (.seq (so F65o39 F65c40) F65c62)
def F65c37 : Ac := (.seq (.gh []) (.seq (.keep [0, 1, 4, 6, 7] [[4]]) F65b37))
def F65c31 : Ac := (.seq (so F65o33 F65c34) F65c37)
def F65c29 : Ac := (so F65o30 F65c31)
def F65c2 : Ac := (.seq (.block 0 (so F65o5 F65c6)) F65c29)
def F65c0 : Ac := (so F65o1 F65c2)
/-- hansom/isa.rest -/
def F65 : Fn := { np := 2, pb := [], rs := [.c 4 (some 4), .t 5], body := F65c0 }
def F66o1 := [
 o3 2 .mv [.c (.d (.str []))]]
def F66o3 := [
 om 3 0,
 o3 4 (.callf 20) [.c (.d (.str [66, 88, 43, 83, 73, 32, 66, 88, 43, 68, 73, 32, 66, 80, 43, 83, 73, 32, 66, 80, 43, 68, 73, 32, 83, 73, 32, 68, 73, 32, 66, 80, 32, 66, 88])), .t 3],
 om 2 4]
def F66c4 : Ac := .ret
def F66c2 : Ac := (so F66o3 F66c4)
def F66c0 : Ac := (so F66o1 F66c2)
/-- hansom/disp.base -/
def F66 : Fn := { np := 1, pb := [], rs := [.t 2], body := F66c0 }
def F69o1 := [
 o3 2 .mv [.w 0]]
def F69o3 := [
 om 3 0,
 o3 4 (.toInt .i8) [.t 3],
 o3 5 (.toInt .i16) [.t 4],
 o3 6 (.toInt .u16) [.t 5],
 om 2 6]
def F69c4 : Ac := .ret
def F69c2 : Ac := (so F69o3 F69c4)
def F69c0 : Ac := (so F69o1 F69c2)
/-- hansom/bits.Sign -/
def F69 : Fn := { np := 1, pb := [], rs := [.t 2], body := F69c0 }
def F70o1 := [
 o3 2 .mv [.y 0]]
def F70o3 := [
 om 3 0,
 o3 4 (.toInt .u8) [.t 3],
 om 2 4]
def F70c4 : Ac := .ret
def F70c2 : Ac := (so F70o3 F70c4)
def F70c0 : Ac := (so F70o1 F70c2)
/-- hansom/bits.Low -/
def F70 : Fn := { np := 1, pb := [], rs := [.t 2], body := F70c0 }
def F71o1 := [
 o3 6 (.alloc [.d (.int .i64 0), .d (.int .i64 0), .d (.int .i64 0), .d (.bool false)]) [],
 o3 7 .mv [.b false]]
def F71o3 := [
 om 8 0,
 om 9 1,
 om 10 2,
 o3 11 (.build [.d (.int .i64 0), .d (.int .i64 0), .d (.int .i64 0), .d (.bool false)] [(0, 1), (1, 1), (2, 1), (3, 1)]) [.t 8, .t 9, .t 10, .b true],
 o0 (.store 4) [.t 6, .t 11],
 o3 7 .mv [.b true]]
def F71c4 : Ac := .ret
def F71c2 : Ac := (so F71o3 F71c4)
def F71c0 : Ac := (so F71o1 F71c2)
/-- hansom/isa.mod -/
def F71 : Fn := { np := 3, pb := [], rs := [.c 6 (some 4), .t 7], body := F71c0 }
/-- What stands in the package-level variables, as tables of numbers. -/
def mg1 : Mm := fun b o => match b with
  | 0 => (([0, 0, 0, 0, 0, 0, 0, 0, 0, 1, 1, 1, 1, 1, 0, 0, 0, 0, 0, 0, 0, 0, 0, 0, 0, 0, 0, 0, 0, 0, 0, 0, 1, 0, 0, 0, 0, 0, 0, 0, 0, 0, 0, 0, 0, 0, 0, 0, 0, 0, 0, 0, 0, 0, 0, 0, 0, 0, 0, 0, 0, 0, 0, 0, 0, 0, 0, 0, 0, 0, 0, 0, 0, 0, 0, 0, 0, 0, 0, 0, 0, 0, 0, 0, 0, 0, 0, 0, 0, 0, 0, 0, 0, 0, 0, 0, 0, 0, 0, 0, 0, 0, 0, 0, 0, 0, 0, 0, 0, 0, 0, 0, 0, 0, 0, 0, 0, 0, 0, 0, 0, 0, 0, 0, 0, 0, 0, 0, 0, 0, 0, 0, 0, 0, 0, 0, 0, 0, 0, 0, 0, 0, 0, 0, 0, 0, 0, 0, 0, 0, 0, 0, 0, 0, 0, 0, 0, 0, 0, 0, 0, 0, 0, 0, 0, 0, 0, 0, 0, 0, 0, 0, 0, 0, 0, 0, 0, 0, 0, 0, 0, 0, 0, 0, 0, 0, 0, 0, 0, 0, 0, 0, 0, 0, 0, 0, 0, 0, 0, 0, 0, 0, 0, 0, 0, 0, 0, 0, 0, 0, 0, 0, 0, 0, 0, 0, 0, 0, 0, 0, 0, 0, 0, 0, 0, 0, 0, 0, 0, 0, 0, 0, 0, 0, 0, 0, 0, 0, 0, 0, 0, 0, 0, 0, 0, 0, 0, 0, 0, 0, 0, 0, 0, 0, 0, 0] : List Int)[o]?).map (Value.int .u8)
  | _ => none
def G1 : Nat → Option A
  | 0 => some (.elt (.agg [.int .u8 0, .int .u8 0, .int .u8 0, .int .u8 0, .int .u8 0, .int .u8 0, .int .u8 0, .int .u8 0, .int .u8 0, .int .u8 1, .int .u8 1, .int .u8 1, .int .u8 1, .int .u8 1, .int .u8 0, .int .u8 0, .int .u8 0, .int .u8 0, .int .u8 0, .int .u8 0, .int .u8 0, .int .u8 0, .int .u8 0, .int .u8 0, .int .u8 0, .int .u8 0, .int .u8 0, .int .u8 0, .int .u8 0, .int .u8 0, .int .u8 0, .int .u8 0, .int .u8 1, .int .u8 0, .int .u8 0, .int .u8 0, .int .u8 0, .int .u8 0, .int .u8 0, .int .u8 0, .int .u8 0, .int .u8 0, .int .u8 0, .int .u8 0, .int .u8 0, .int .u8 0, .int .u8 0, .int .u8 0, .int .u8 0, .int .u8 0, .int .u8 0, .int .u8 0, .int .u8 0, .int .u8 0, .int .u8 0, .int .u8 0, .int .u8 0, .int .u8 0, .int .u8 0, .int .u8 0, .int .u8 0, .int .u8 0, .int .u8 0, .int .u8 0, .int .u8 0, .int .u8 0, .int .u8 0, .int .u8 0, .int .u8 0, .int .u8 0, .int .u8 0, .int .u8 0, .int .u8 0, .int .u8 0, .int .u8 0, .int .u8 0, .int .u8 0, .int .u8 0, .int .u8 0, .int .u8 0, .int .u8 0, .int .u8 0, .int .u8 0, .int .u8 0, .int .u8 0, .int .u8 0, .int .u8 0, .int .u8 0, .int .u8 0, .int .u8 0, .int .u8 0, .int .u8 0, .int .u8 0, .int .u8 0, .int .u8 0, .int .u8 0, .int .u8 0, .int .u8 0, .int .u8 0, .int .u8 0, .int .u8 0, .int .u8 0, .int .u8 0, .int .u8 0, .int .u8 0, .int .u8 0, .int .u8 0, .int .u8 0, .int .u8 0, .int .u8 0, .int .u8 0, .int .u8 0, .int .u8 0, .int .u8 0, .int .u8 0, .int .u8 0, .int .u8 0, .int .u8 0, .int .u8 0, .int .u8 0, .int .u8 0, .int .u8 0, .int .u8 0, .int .u8 0, .int .u8 0, .int .u8 0, .int .u8 0, .int .u8 0, .int .u8 0, .int .u8 0, .int .u8 0, .int .u8 0, .int .u8 0, .int .u8 0, .int .u8 0, .int .u8 0, .int .u8 0, .int .u8 0, .int .u8 0, .int .u8 0, .int .u8 0, .int .u8 0, .int .u8 0, .int .u8 0, .int .u8 0, .int .u8 0, .int .u8 0, .int .u8 0, .int .u8 0, .int .u8 0, .int .u8 0, .int .u8 0, .int .u8 0, .int .u8 0, .int .u8 0, .int .u8 0, .int .u8 0, .int .u8 0, .int .u8 0, .int .u8 0, .int .u8 0, .int .u8 0, .int .u8 0, .int .u8 0, .int .u8 0, .int .u8 0, .int .u8 0, .int .u8 0, .int .u8 0, .int .u8 0, .int .u8 0, .int .u8 0, .int .u8 0, .int .u8 0, .int .u8 0, .int .u8 0, .int .u8 0, .int .u8 0, .int .u8 0, .int .u8 0, .int .u8 0, .int .u8 0, .int .u8 0, .int .u8 0, .int .u8 0, .int .u8 0, .int .u8 0, .int .u8 0, .int .u8 0, .int .u8 0, .int .u8 0, .int .u8 0, .int .u8 0, .int .u8 0, .int .u8 0, .int .u8 0, .int .u8 0, .int .u8 0, .int .u8 0, .int .u8 0, .int .u8 0, .int .u8 0, .int .u8 0, .int .u8 0, .int .u8 0, .int .u8 0, .int .u8 0, .int .u8 0, .int .u8 0, .int .u8 0, .int .u8 0, .int .u8 0, .int .u8 0, .int .u8 0, .int .u8 0, .int .u8 0, .int .u8 0, .int .u8 0, .int .u8 0, .int .u8 0, .int .u8 0, .int .u8 0, .int .u8 0, .int .u8 0, .int .u8 0, .int .u8 0, .int .u8 0, .int .u8 0, .int .u8 0, .int .u8 0, .int .u8 0, .int .u8 0, .int .u8 0, .int .u8 0, .int .u8 0, .int .u8 0, .int .u8 0, .int .u8 0, .int .u8 0, .int .u8 0, .int .u8 0, .int .u8 0, .int .u8 0, .int .u8 0, .int .u8 0, .int .u8 0, .int .u8 0, .int .u8 0, .int .u8 0, .int .u8 0, .int .u8 0, .int .u8 0, .int .u8 0, .int .u8 0, .int .u8 0, .int .u8 0]) 0)
  | _ => none
theorem globals_ok : GOk mg1 G1 := by
  intro n a h g bx hle
  unfold G1 at h
  split at h
  · cases h
    exact tab_elt (l := [0, 0, 0, 0, 0, 0, 0, 0, 0, 1, 1, 1, 1, 1, 0, 0, 0, 0, 0, 0, 0, 0, 0, 0, 0, 0, 0, 0, 0, 0, 0, 0, 1, 0, 0, 0, 0, 0, 0, 0, 0, 0, 0, 0, 0, 0, 0, 0, 0, 0, 0, 0, 0, 0, 0, 0, 0, 0, 0, 0, 0, 0, 0, 0, 0, 0, 0, 0, 0, 0, 0, 0, 0, 0, 0, 0, 0, 0, 0, 0, 0, 0, 0, 0, 0, 0, 0, 0, 0, 0, 0, 0, 0, 0, 0, 0, 0, 0, 0, 0, 0, 0, 0, 0, 0, 0, 0, 0, 0, 0, 0, 0, 0, 0, 0, 0, 0, 0, 0, 0, 0, 0, 0, 0, 0, 0, 0, 0, 0, 0, 0, 0, 0, 0, 0, 0, 0, 0, 0, 0, 0, 0, 0, 0, 0, 0, 0, 0, 0, 0, 0, 0, 0, 0, 0, 0, 0, 0, 0, 0, 0, 0, 0, 0, 0, 0, 0, 0, 0, 0, 0, 0, 0, 0, 0, 0, 0, 0, 0, 0, 0, 0, 0, 0, 0, 0, 0, 0, 0, 0, 0, 0, 0, 0, 0, 0, 0, 0, 0, 0, 0, 0, 0, 0, 0, 0, 0, 0, 0, 0, 0, 0, 0, 0, 0, 0, 0, 0, 0, 0, 0, 0, 0, 0, 0, 0, 0, 0, 0, 0, 0, 0, 0, 0, 0, 0, 0, 0, 0, 0, 0, 0, 0, 0, 0, 0, 0, 0, 0, 0, 0, 0, 0, 0, 0, 0]) (k := .u8) (fun j hj => hle 0 j _ (by simp only [mg1]; rw [List.getElem?_eq_getElem hj]; rfl))
  · cases h
def hints : Nat → Nat → Hint
  | _, _ => []
def keepf : Nat → Keeps
  | 19, 5 => some ([0, 3, 4, 5, 6], [[39], [41]])
  | 19, 18 => some ([0, 9, 10, 12], [[39], [41]])
  | 19, 21 => some ([0, 9, 10, 11, 12], [[39], [41]])
  | 19, 27 => some ([0, 9, 10, 12], [[39], [41]])
  | 34, 4 => some ([0, 1, 5, 6, 14], [[11], [12], [28], [29], [42], [43], [46]])
  | 34, 16 => some ([0, 1, 9, 47, 48, 49], [[11], [12], [28], [29], [42], [43], [46]])
  | 67, 3 => some ([0, 1, 19, 20], [])
  | 67, 14 => some ([0, 1, 7, 8], [])
  | 68, 3 => some ([0, 1, 15, 16], [[10]])
  | 68, 14 => some ([0, 1, 7, 8], [[10]])
  | _, _ => none
def spf : Nat → Bool := fun n => [1000004, 1000005, 1000006, 1000007, 1000008, 1000009, 1000010, 1000011, 1000012, 1000013, 1000014, 1000015, 1000016, 1000017, 1000018, 1000020, 1000021, 1000022, 1000023, 1000024, 1000025, 1000026, 1000027, 1000028, 1000029, 1000030, 1000031, 1000032, 1000033, 1000036, 1000037, 1000038, 1000039, 1000040, 1000041, 1000042, 1000043, 1000044, 1000045, 1000046, 1000047, 1000048, 1000050, 1000051, 1000052, 1000053, 1000054, 1000055, 1000056, 1000057, 1000058, 1000059, 1000060, 1000061, 1000062, 1000063, 1000064, 1000065, 1000066, 1000069, 1000070, 1000071].contains n
noncomputable def tab1 : Nat → Option Fn
  | 4 => some F4
  | 5 => some F5
  | 6 => some F6
  | 7 => some F7
  | 8 => some F8
  | 9 => some F9
  | 10 => some F10
  | 11 => some F11
  | 12 => some F12
  | 13 => some F13
  | 14 => some F14
  | 15 => some F15
  | 16 => some F16
  | 17 => some F17
  | 18 => some F18
  | 20 => some F20
  | 21 => some F21
  | 22 => some F22
  | 23 => some F23
  | 24 => some F24
  | 25 => some F25
  | 26 => some F26
  | 27 => some F27
  | 28 => some F28
  | 29 => some F29
  | 30 => some F30
  | 31 => some F31
  | 32 => some F32
  | 33 => some F33
  | 36 => some F36
  | 37 => some F37
  | 38 => some F38
  | 39 => some F39
  | 40 => some F40
  | 41 => some F41
  | 42 => some F42
  | 43 => some F43
  | 44 => some F44
  | 45 => some F45
  | 46 => some F46
  | 47 => some F47
  | 48 => some F48
  | 50 => some F50
  | 51 => some F51
  | 52 => some F52
  | 53 => some F53
  | 54 => some F54
  | 55 => some F55
  | 56 => some F56
  | 57 => some F57
  | 58 => some F58
  | 59 => some F59
  | 60 => some F60
  | 61 => some F61
  | 62 => some F62
  | 63 => some F63
  | 64 => some F64
  | 65 => some F65
  | 66 => some F66
  | 69 => some F69
  | 70 => some F70
  | 71 => some F71
  | n => autoK Tryd.prog G1 spf hints keepf n
noncomputable def L : Cs := lim tab1 (fun _ _ => none)

theorem ok4 : FnOk mg1 Tryd.prog 4 F4 := compF_spec globals_ok Tryd.func4 (by kernel_rfl)
theorem ok5 : FnOk mg1 Tryd.prog 5 F5 := compF_spec globals_ok Tryd.func5 (by kernel_rfl)
theorem ok6 : FnOk mg1 Tryd.prog 6 F6 := compF_spec globals_ok Tryd.func6 (by kernel_rfl)
theorem ok7 : FnOk mg1 Tryd.prog 7 F7 := compF_spec globals_ok Tryd.func7 (by kernel_rfl)
theorem ok8 : FnOk mg1 Tryd.prog 8 F8 := compF_spec globals_ok Tryd.func8 (by kernel_rfl)
theorem ok9 : FnOk mg1 Tryd.prog 9 F9 := compF_spec globals_ok Tryd.func9 (by kernel_rfl)
theorem ok10 : FnOk mg1 Tryd.prog 10 F10 := compF_spec globals_ok Tryd.func10 (by kernel_rfl)
theorem ok11 : FnOk mg1 Tryd.prog 11 F11 := compF_spec globals_ok Tryd.func11 (by kernel_rfl)
theorem ok12 : FnOk mg1 Tryd.prog 12 F12 := compF_spec globals_ok Tryd.func12 (by kernel_rfl)
theorem ok13 : FnOk mg1 Tryd.prog 13 F13 := compF_spec globals_ok Tryd.func13 (by kernel_rfl)
theorem ok14 : FnOk mg1 Tryd.prog 14 F14 := compF_spec globals_ok Tryd.func14 (by kernel_rfl)
theorem ok15 : FnOk mg1 Tryd.prog 15 F15 := compF_spec globals_ok Tryd.func15 (by kernel_rfl)
theorem ok16 : FnOk mg1 Tryd.prog 16 F16 := compF_spec globals_ok Tryd.func16 (by kernel_rfl)
theorem ok17 : FnOk mg1 Tryd.prog 17 F17 := compF_spec globals_ok Tryd.func17 (by kernel_rfl)
theorem ok18 : FnOk mg1 Tryd.prog 18 F18 := compF_spec globals_ok Tryd.func18 (by kernel_rfl)
theorem ok20 : FnOk mg1 Tryd.prog 20 F20 := compF_spec globals_ok Tryd.func20 (by kernel_rfl)
theorem ok21 : FnOk mg1 Tryd.prog 21 F21 := compF_spec globals_ok Tryd.func21 (by kernel_rfl)
theorem ok22 : FnOk mg1 Tryd.prog 22 F22 := compF_spec globals_ok Tryd.func22 (by kernel_rfl)
theorem ok23 : FnOk mg1 Tryd.prog 23 F23 := compF_spec globals_ok Tryd.func23 (by kernel_rfl)
theorem ok24 : FnOk mg1 Tryd.prog 24 F24 := compF_spec globals_ok Tryd.func24 (by kernel_rfl)
theorem ok25 : FnOk mg1 Tryd.prog 25 F25 := compF_spec globals_ok Tryd.func25 (by kernel_rfl)
theorem ok26 : FnOk mg1 Tryd.prog 26 F26 := compF_spec globals_ok Tryd.func26 (by kernel_rfl)
theorem ok27 : FnOk mg1 Tryd.prog 27 F27 := compF_spec globals_ok Tryd.func27 (by kernel_rfl)
theorem ok28 : FnOk mg1 Tryd.prog 28 F28 := compF_spec globals_ok Tryd.func28 (by kernel_rfl)
theorem ok29 : FnOk mg1 Tryd.prog 29 F29 := compF_spec globals_ok Tryd.func29 (by kernel_rfl)
theorem ok30 : FnOk mg1 Tryd.prog 30 F30 := compF_spec globals_ok Tryd.func30 (by kernel_rfl)
theorem ok31 : FnOk mg1 Tryd.prog 31 F31 := compF_spec globals_ok Tryd.func31 (by kernel_rfl)
theorem ok32 : FnOk mg1 Tryd.prog 32 F32 := compF_spec globals_ok Tryd.func32 (by kernel_rfl)
theorem ok33 : FnOk mg1 Tryd.prog 33 F33 := compF_spec globals_ok Tryd.func33 (by kernel_rfl)
theorem ok36 : FnOk mg1 Tryd.prog 36 F36 := compF_spec globals_ok Tryd.func36 (by kernel_rfl)
theorem ok37 : FnOk mg1 Tryd.prog 37 F37 := compF_spec globals_ok Tryd.func37 (by kernel_rfl)
theorem ok38 : FnOk mg1 Tryd.prog 38 F38 := compF_spec globals_ok Tryd.func38 (by kernel_rfl)
theorem ok39 : FnOk mg1 Tryd.prog 39 F39 := compF_spec globals_ok Tryd.func39 (by kernel_rfl)
theorem ok40 : FnOk mg1 Tryd.prog 40 F40 := compF_spec globals_ok Tryd.func40 (by kernel_rfl)
theorem ok41 : FnOk mg1 Tryd.prog 41 F41 := compF_spec globals_ok Tryd.func41 (by kernel_rfl)
theorem ok42 : FnOk mg1 Tryd.prog 42 F42 := compF_spec globals_ok Tryd.func42 (by kernel_rfl)
theorem ok43 : FnOk mg1 Tryd.prog 43 F43 := compF_spec globals_ok Tryd.func43 (by kernel_rfl)
theorem ok44 : FnOk mg1 Tryd.prog 44 F44 := compF_spec globals_ok Tryd.func44 (by kernel_rfl)
theorem ok45 : FnOk mg1 Tryd.prog 45 F45 := compF_spec globals_ok Tryd.func45 (by kernel_rfl)
theorem ok46 : FnOk mg1 Tryd.prog 46 F46 := compF_spec globals_ok Tryd.func46 (by kernel_rfl)
theorem ok47 : FnOk mg1 Tryd.prog 47 F47 := compF_spec globals_ok Tryd.func47 (by kernel_rfl)
theorem ok48 : FnOk mg1 Tryd.prog 48 F48 := compF_spec globals_ok Tryd.func48 (by kernel_rfl)
theorem ok50 : FnOk mg1 Tryd.prog 50 F50 := compF_spec globals_ok Tryd.func50 (by kernel_rfl)
theorem ok51 : FnOk mg1 Tryd.prog 51 F51 := compF_spec globals_ok Tryd.func51 (by kernel_rfl)
theorem ok52 : FnOk mg1 Tryd.prog 52 F52 := compF_spec globals_ok Tryd.func52 (by kernel_rfl)
theorem ok53 : FnOk mg1 Tryd.prog 53 F53 := compF_spec globals_ok Tryd.func53 (by kernel_rfl)
theorem ok54 : FnOk mg1 Tryd.prog 54 F54 := compF_spec globals_ok Tryd.func54 (by kernel_rfl)
theorem ok55 : FnOk mg1 Tryd.prog 55 F55 := compF_spec globals_ok Tryd.func55 (by kernel_rfl)
theorem ok56 : FnOk mg1 Tryd.prog 56 F56 := compF_spec globals_ok Tryd.func56 (by kernel_rfl)
theorem ok57 : FnOk mg1 Tryd.prog 57 F57 := compF_spec globals_ok Tryd.func57 (by kernel_rfl)
theorem ok58 : FnOk mg1 Tryd.prog 58 F58 := compF_spec globals_ok Tryd.func58 (by kernel_rfl)
theorem ok59 : FnOk mg1 Tryd.prog 59 F59 := compF_spec globals_ok Tryd.func59 (by kernel_rfl)
theorem ok60 : FnOk mg1 Tryd.prog 60 F60 := compF_spec globals_ok Tryd.func60 (by kernel_rfl)
theorem ok61 : FnOk mg1 Tryd.prog 61 F61 := compF_spec globals_ok Tryd.func61 (by kernel_rfl)
theorem ok62 : FnOk mg1 Tryd.prog 62 F62 := compF_spec globals_ok Tryd.func62 (by kernel_rfl)
theorem ok63 : FnOk mg1 Tryd.prog 63 F63 := compF_spec globals_ok Tryd.func63 (by kernel_rfl)
theorem ok64 : FnOk mg1 Tryd.prog 64 F64 := compF_spec globals_ok Tryd.func64 (by kernel_rfl)
theorem ok65 : FnOk mg1 Tryd.prog 65 F65 := compF_spec globals_ok Tryd.func65 (by kernel_rfl)
theorem ok66 : FnOk mg1 Tryd.prog 66 F66 := compF_spec globals_ok Tryd.func66 (by kernel_rfl)
theorem ok69 : FnOk mg1 Tryd.prog 69 F69 := compF_spec globals_ok Tryd.func69 (by kernel_rfl)
theorem ok70 : FnOk mg1 Tryd.prog 70 F70 := compF_spec globals_ok Tryd.func70 (by kernel_rfl)
theorem ok71 : FnOk mg1 Tryd.prog 71 F71 := compF_spec globals_ok Tryd.func71 (by kernel_rfl)
theorem tab1_ok : ∀ f fn, tab1 f = some fn → FnOk mg1 Tryd.prog f fn := by
  intro f fn h
  unfold tab1 at h
  split at h
  · cases h; exact ok4
  · cases h; exact ok5
  · cases h; exact ok6
  · cases h; exact ok7
  · cases h; exact ok8
  · cases h; exact ok9
  · cases h; exact ok10
  · cases h; exact ok11
  · cases h; exact ok12
  · cases h; exact ok13
  · cases h; exact ok14
  · cases h; exact ok15
  · cases h; exact ok16
  · cases h; exact ok17
  · cases h; exact ok18
  · cases h; exact ok20
  · cases h; exact ok21
  · cases h; exact ok22
  · cases h; exact ok23
  · cases h; exact ok24
  · cases h; exact ok25
  · cases h; exact ok26
  · cases h; exact ok27
  · cases h; exact ok28
  · cases h; exact ok29
  · cases h; exact ok30
  · cases h; exact ok31
  · cases h; exact ok32
  · cases h; exact ok33
  · cases h; exact ok36
  · cases h; exact ok37
  · cases h; exact ok38
  · cases h; exact ok39
  · cases h; exact ok40
  · cases h; exact ok41
  · cases h; exact ok42
  · cases h; exact ok43
  · cases h; exact ok44
  · cases h; exact ok45
  · cases h; exact ok46
  · cases h; exact ok47
  · cases h; exact ok48
  · cases h; exact ok50
  · cases h; exact ok51
  · cases h; exact ok52
  · cases h; exact ok53
  · cases h; exact ok54
  · cases h; exact ok55
  · cases h; exact ok56
  · cases h; exact ok57
  · cases h; exact ok58
  · cases h; exact ok59
  · cases h; exact ok60
  · cases h; exact ok61
  · cases h; exact ok62
  · cases h; exact ok63
  · cases h; exact ok64
  · cases h; exact ok65
  · cases h; exact ok66
  · cases h; exact ok69
  · cases h; exact ok70
  · cases h; exact ok71
  · exact autoK_spec globals_ok h
theorem meets1 (f : Nat) : Meets mg1 Tryd.prog f (L f) := lim_meets tab1_ok (fun f _ m w args vs bs _ _ _ _ _ r a h => by cases h) f

end Go.Es.Dso
