/- The code of the functions that the statement DispNames reaches, as the interpreter reads it. No condition. -/
import Derived.Test.YtikbjljifgadmaaDoorEsD
import Derived.Test.YtikbjljifgadmaaDoorChecked
import Derived.KernelRfl
set_option linter.unusedVariables false
set_option linter.unusedSimpArgs false
set_option maxRecDepth 100000
set_option maxHeartbeats 4000000
namespace Go.Es.Dsn
open Go.Proofs
def F3o1 := [
 o3 4 .mv [.b false]]
def F3o3 := [
 om 7 1,
 om 8 1,
 o3 9 .lenS [.t 8],
 o3 10 .mn [.t 9, .i 8],
 o3 11 (.substr false true) [.t 7, .t 10],
 om 5 11]
def F3o5 := [
 om 12 5,
 o3 13 (.callf 5) [.t 12],
 om 6 13]
def F3o7 := [
 o3 14 (.callf 6) [],
 om 15 14,
 og 16 .mv [.t 0] 15 true,
 og 17 (.callf 7) [.t 16] 15 true,
 og 18 .mv [.t 0] 15 true,
 og 19 (.callf 8) [.t 18] 15 true,
 og 20 (.bin .eql) [.t 17, .t 19] 15 true,
 o3 21 .pick [.t 15, .t 20, .b false],
 om 22 21,
 og 23 .mv [.t 0] 22 true,
 og 24 (.callf 9) [.t 23] 22 true,
 og 25 .mv [.t 0] 22 true,
 og 26 (.callf 10) [.t 25] 22 true,
 og 27 (.bin .eql) [.t 24, .t 26] 22 true,
 o3 28 .pick [.t 22, .t 27, .b false],
 om 29 28,
 og 30 .mv [.t 0] 29 true,
 og 31 (.callf 11) [.t 30] 29 true,
 og 32 .mv [.t 0] 29 true,
 og 33 (.callf 12) [.t 32] 29 true,
 og 34 (.bin .eql) [.t 31, .t 33] 29 true,
 o3 35 .pick [.t 29, .t 34, .b false],
 om 36 35,
 og 37 .mv [.t 0] 36 true,
 og 38 (.callf 13) [.t 37] 36 true,
 og 39 .mv [.t 0] 36 true,
 og 40 (.callf 14) [.t 39] 36 true,
 og 41 (.bin .eql) [.t 38, .t 40] 36 true,
 o3 42 .pick [.t 36, .t 41, .b false],
 om 43 42,
 og 44 .mv [.t 0] 43 true,
 og 45 (.bin .lss) [.t 44, .i 1] 43 true,
 og 46 .mv [.t 45] 43 true,
 og 47 .mv [.t 0] 46 false,
 og 48 (.bin .gtr) [.t 47, .i 95] 46 false,
 og 49 .pick [.t 46, .b true, .t 48] 43 true,
 og 50 .mv [.t 49] 43 true,
 og 51 .mv [.t 0] 50 false,
 og 52 (.callf 7) [.t 51] 50 false,
 og 53 (.callf 5) [.t 52] 50 false,
 og 54 .mv [.t 0] 50 false,
 og 55 (.bin .eql) [.t 53, .t 54] 50 false,
 og 56 .pick [.t 50, .b true, .t 55] 43 true,
 o3 57 .pick [.t 43, .t 56, .b false],
 om 58 57,
 og 59 .mv [.t 6] 58 true,
 og 60 (.bin .eql) [.t 59, .i 0] 58 true,
 og 61 .mv [.t 60] 58 true,
 og 62 .mv [.t 6] 61 false,
 og 63 (.callf 7) [.t 62] 61 false,
 og 64 .mv [.t 5] 61 false,
 og 65 (.bin .eql) [.t 63, .t 64] 61 false,
 og 66 .pick [.t 61, .b true, .t 65] 58 true,
 o3 67 .pick [.t 58, .t 66, .b false],
 om 68 67,
 og 69 .mv [.t 6] 68 true,
 og 70 .mv [.t 5] 68 true,
 og 71 (.callf 15) [.t 70] 68 true,
 og 72 (.bin .eql) [.t 69, .t 71] 68 true,
 o3 73 .pick [.t 68, .t 72, .b false],
 om 4 73]
def F3c8 : Ac := .ret
def F3c6 : Ac := (so F3o7 F3c8)
def F3c4 : Ac := (so F3o5 F3c6)
def F3c2 : Ac := (so F3o3 F3c4)
def F3c0 : Ac := (so F3o1 F3c2)
/-- hansom/hansomlaw17.DispNames -/
def F3 : Fn := { np := 2, pb := [], rs := [.t 4], body := F3c0 }
def F5o1 := [
 o3 2 .mv [.i 0]]
def F5o4 := [
 o3 5 (.callf 19) [.c (.d (.str [65, 68, 68, 32, 79, 82, 32, 65, 68, 67, 32, 83, 66, 66, 32, 65, 78, 68, 32, 83, 85, 66, 32, 88, 79, 82, 32, 67, 77, 80, 32, 80, 85, 83, 72, 32, 80, 79, 80, 32, 68, 65, 65, 32, 68, 65, 83, 32, 65, 65, 65, 32, 65, 65, 83, 32, 73, 78, 67, 32, 68, 69, 67, 32, 74, 79, 32, 74, 78, 79, 32, 74, 66, 32, 74, 78, 66, 32, 74, 90, 32, 74, 78, 90, 32, 74, 66, 69, 32, 74, 65, 32, 74, 83, 32, 74, 78, 83, 32, 74, 80, 32, 74, 78, 80, 32, 74, 76, 32, 74, 71, 69, 32, 74, 76, 69, 32, 74, 71, 32, 84, 69, 83, 84, 32, 88, 67, 72, 71, 32, 77, 79, 86, 32, 76, 69, 65, 32, 67, 66, 87, 32, 67, 87, 68, 32, 67, 65, 76, 76, 32, 67, 65, 76, 76, 70, 32, 87, 65, 73, 84, 32, 80, 85, 83, 72, 70, 32, 80, 79, 80, 70, 32, 83, 65, 72, 70, 32, 76, 65, 72, 70, 32, 77, 79, 86, 83, 66, 32, 77, 79, 86, 83, 87, 32, 67, 77, 80, 83, 66, 32, 67, 77, 80, 83, 87, 32, 83, 84, 79, 83, 66, 32, 83, 84, 79, 83, 87, 32, 76, 79, 68, 83, 66, 32, 76, 79, 68, 83, 87, 32, 83, 67, 65, 83, 66, 32, 83, 67, 65, 83, 87, 32, 82, 69, 84, 32, 82, 69, 84, 70, 32, 76, 69, 83, 32, 76, 68, 83, 32, 73, 78, 84, 32, 73, 78, 84, 79, 32, 73, 82, 69, 84, 32, 82, 79, 76, 32, 82, 79, 82, 32, 82, 67, 76, 32, 82, 67, 82, 32, 83, 72, 76, 32, 83, 72, 82, 32, 83, 65, 82, 32, 65, 65, 77, 32, 65, 65, 68, 32, 88, 76, 65, 84, 32, 69, 83, 67, 32, 76, 79, 79, 80, 78, 90, 32, 76, 79, 79, 80, 90, 32, 76, 79, 79, 80, 32, 74, 67, 88, 90, 32, 73, 78, 32, 79, 85, 84, 32, 74, 77, 80, 32, 74, 77, 80, 70, 32, 72, 76, 84, 32, 67, 77, 67, 32, 78, 79, 84, 32, 78, 69, 71, 32, 77, 85, 76, 32, 73, 77, 85, 76, 32, 68, 73, 86, 32, 73, 68, 73, 86, 32, 67, 76, 67, 32, 83, 84, 67, 32, 67, 76, 73, 32, 83, 84, 73, 32, 67, 76, 68, 32, 83, 84, 68]))],
 o3 6 .lenL [.t 5],
 o3 7 .mv [.i 0]]
def F5o8 := [
 o3 8 (.bin .lss) [.t 7, .t 6]]
def F5o16 := [
 om 9 7,
 o3 10 (.iaddrS 1) [.t 5, .t 7],
 o3 11 (.load none) [.t 10],
 om 3 9,
 om 4 11]
def F5o18 := [
 om 12 4,
 om 13 0,
 o3 14 (.bin .eql) [.t 12, .t 13]]
def F5o21 := [
 om 15 3,
 o3 16 (.bin .add) [.t 15, .i 1],
 om 2 16]
def F5c22 : Ac := .ret
def F5c19 : Ac := (cd 14 (so F5o21 F5c22) .skip)
def F5c17 : Ac := (so F5o18 F5c19)
def F5o24 := [
 o3 17 (.bin .add) [.t 7, .i 1],
 om 7 17]
def F5c24 : Ac := (.ops F5o24)
def F5c13 : Ac := (.seq (.block 1 (so F5o16 F5c17)) F5c24)
def F5c9 : Ac := (.seq (cd 8 .skip (.exit 0)) F5c13)
def F5l6 : Ac := (so F5o8 F5c9)
def F5c5 : Ac := (.block 0 (.loop (.seq (.gh [.frz 5]) (.seq (.keep [0, 5, 6, 7] []) F5l6))))
def F5o26 := [
 o3 2 .mv [.i 0]]
def F5c27 : Ac := .ret
def F5b25 : Ac := (so F5o26 F5c27)
def F5c25 : Ac := (.seq (.gh []) (.seq (.keep [] []) F5b25))
def F5c2 : Ac := (.seq (so F5o4 F5c5) F5c25)
def F5c0 : Ac := (so F5o1 F5c2)
/-- hansom/disp.Find -/
def F5 : Fn := { np := 1, pb := [], rs := [.t 2], body := F5c0 }
def F6o1 := [
 o3 0 .mv [.b false]]
def F6o3 := [
 o3 1 (.build [.d (.bool false), .d (.int .i64 0), .d (.int .i64 0), .d (.int .u8 0), .d (.int .i64 0), .d (.int .i64 0), .d (.int .i64 0), .d (.int .u16 0), .d (.int .u16 0), .d (.int .u16 0)] [(3, 1)]) [.y 144],
 o3 2 (.callf 17) [.t 1],
 o3 3 (.bin .eql) [.t 2, .c (.d (.str [88, 67, 72, 71, 32, 65, 88, 44, 65, 88]))],
 om 4 3,
 og 5 (.callf 5) [.c (.d (.str [83, 84, 68]))] 4 true,
 og 6 (.bin .eql) [.t 5, .i 95] 4 true,
 o3 7 .pick [.t 4, .t 6, .b false],
 om 8 7,
 og 9 (.callf 7) [.i 32] 8 true,
 og 10 (.bin .eql) [.t 9, .c (.d (.str [74, 71]))] 8 true,
 o3 11 .pick [.t 8, .t 10, .b false],
 om 0 11]
def F6c4 : Ac := .ret
def F6c2 : Ac := (so F6o3 F6c4)
def F6c0 : Ac := (so F6o1 F6c2)
/-- hansom/hansomlaw17.awake -/
def F6 : Fn := { np := 0, pb := [], rs := [.t 0], body := F6c0 }
def F7o1 := [
 o3 2 .mv [.c (.d (.str []))]]
def F7o3 := [
 om 3 0,
 o3 4 (.bin .sub) [.t 3, .i 1],
 o3 5 (.callf 20) [.c (.d (.str [65, 68, 68, 32, 79, 82, 32, 65, 68, 67, 32, 83, 66, 66, 32, 65, 78, 68, 32, 83, 85, 66, 32, 88, 79, 82, 32, 67, 77, 80, 32, 80, 85, 83, 72, 32, 80, 79, 80, 32, 68, 65, 65, 32, 68, 65, 83, 32, 65, 65, 65, 32, 65, 65, 83, 32, 73, 78, 67, 32, 68, 69, 67, 32, 74, 79, 32, 74, 78, 79, 32, 74, 66, 32, 74, 78, 66, 32, 74, 90, 32, 74, 78, 90, 32, 74, 66, 69, 32, 74, 65, 32, 74, 83, 32, 74, 78, 83, 32, 74, 80, 32, 74, 78, 80, 32, 74, 76, 32, 74, 71, 69, 32, 74, 76, 69, 32, 74, 71, 32, 84, 69, 83, 84, 32, 88, 67, 72, 71, 32, 77, 79, 86, 32, 76, 69, 65, 32, 67, 66, 87, 32, 67, 87, 68, 32, 67, 65, 76, 76, 32, 67, 65, 76, 76, 70, 32, 87, 65, 73, 84, 32, 80, 85, 83, 72, 70, 32, 80, 79, 80, 70, 32, 83, 65, 72, 70, 32, 76, 65, 72, 70, 32, 77, 79, 86, 83, 66, 32, 77, 79, 86, 83, 87, 32, 67, 77, 80, 83, 66, 32, 67, 77, 80, 83, 87, 32, 83, 84, 79, 83, 66, 32, 83, 84, 79, 83, 87, 32, 76, 79, 68, 83, 66, 32, 76, 79, 68, 83, 87, 32, 83, 67, 65, 83, 66, 32, 83, 67, 65, 83, 87, 32, 82, 69, 84, 32, 82, 69, 84, 70, 32, 76, 69, 83, 32, 76, 68, 83, 32, 73, 78, 84, 32, 73, 78, 84, 79, 32, 73, 82, 69, 84, 32, 82, 79, 76, 32, 82, 79, 82, 32, 82, 67, 76, 32, 82, 67, 82, 32, 83, 72, 76, 32, 83, 72, 82, 32, 83, 65, 82, 32, 65, 65, 77, 32, 65, 65, 68, 32, 88, 76, 65, 84, 32, 69, 83, 67, 32, 76, 79, 79, 80, 78, 90, 32, 76, 79, 79, 80, 90, 32, 76, 79, 79, 80, 32, 74, 67, 88, 90, 32, 73, 78, 32, 79, 85, 84, 32, 74, 77, 80, 32, 74, 77, 80, 70, 32, 72, 76, 84, 32, 67, 77, 67, 32, 78, 79, 84, 32, 78, 69, 71, 32, 77, 85, 76, 32, 73, 77, 85, 76, 32, 68, 73, 86, 32, 73, 68, 73, 86, 32, 67, 76, 67, 32, 83, 84, 67, 32, 67, 76, 73, 32, 83, 84, 73, 32, 67, 76, 68, 32, 83, 84, 68])), .t 4],
 om 2 5]
def F7c4 : Ac := .ret
def F7c2 : Ac := (so F7o3 F7c4)
def F7c0 : Ac := (so F7o1 F7c2)
/-- hansom/disp.Name -/
def F7 : Fn := { np := 1, pb := [], rs := [.t 2], body := F7c0 }
def F8o1 := [
 o3 2 .mv [.c (.d (.str []))]]
def F8o4 := [
 om 3 0,
 o3 4 (.bin .lss) [.t 3, .i 1],
 om 5 4,
 og 6 .mv [.t 0] 5 false,
 og 7 (.bin .gtr) [.t 6, .i 95] 5 false,
 o3 8 .pick [.t 5, .b true, .t 7]]
def F8o7 := [
 o3 2 .mv [.c (.d (.str [63]))]]
def F8c8 : Ac := .ret
def F8c5 : Ac := (cd 8 (so F8o7 F8c8) .skip)
def F8o11 := [
 om 9 0,
 o3 10 (.bin .sub) [.t 9, .i 1],
 o3 11 (.callf 21) [.c (.d (.str [65, 68, 68, 32, 79, 82, 32, 65, 68, 67, 32, 83, 66, 66, 32, 65, 78, 68, 32, 83, 85, 66, 32, 88, 79, 82, 32, 67, 77, 80, 32, 80, 85, 83, 72, 32, 80, 79, 80, 32, 68, 65, 65, 32, 68, 65, 83, 32, 65, 65, 65, 32, 65, 65, 83, 32, 73, 78, 67, 32, 68, 69, 67, 32, 74, 79, 32, 74, 78, 79, 32, 74, 66, 32, 74, 78, 66, 32, 74, 90, 32, 74, 78, 90, 32, 74, 66, 69, 32, 74, 65, 32, 74, 83, 32, 74, 78, 83, 32, 74, 80, 32, 74, 78, 80, 32, 74, 76, 32, 74, 71, 69, 32, 74, 76, 69, 32, 74, 71, 32, 84, 69, 83, 84, 32, 88, 67, 72, 71, 32, 77, 79, 86, 32, 76, 69, 65, 32, 67, 66, 87, 32, 67, 87, 68, 32, 67, 65, 76, 76, 32, 67, 65, 76, 76, 70, 32, 87, 65, 73, 84, 32, 80, 85, 83, 72, 70, 32, 80, 79, 80, 70, 32, 83, 65, 72, 70, 32, 76, 65, 72, 70, 32, 77, 79, 86, 83, 66, 32, 77, 79, 86, 83, 87, 32, 67, 77, 80, 83, 66, 32, 67, 77, 80, 83, 87, 32, 83, 84, 79, 83, 66, 32, 83, 84, 79, 83, 87, 32, 76, 79, 68, 83, 66, 32, 76, 79, 68, 83, 87, 32, 83, 67, 65, 83, 66, 32, 83, 67, 65, 83, 87, 32, 82, 69, 84, 32, 82, 69, 84, 70, 32, 76, 69, 83, 32, 76, 68, 83, 32, 73, 78, 84, 32, 73, 78, 84, 79, 32, 73, 82, 69, 84, 32, 82, 79, 76, 32, 82, 79, 82, 32, 82, 67, 76, 32, 82, 67, 82, 32, 83, 72, 76, 32, 83, 72, 82, 32, 83, 65, 82, 32, 65, 65, 77, 32, 65, 65, 68, 32, 88, 76, 65, 84, 32, 69, 83, 67, 32, 76, 79, 79, 80, 78, 90, 32, 76, 79, 79, 80, 90, 32, 76, 79, 79, 80, 32, 74, 67, 88, 90, 32, 73, 78, 32, 79, 85, 84, 32, 74, 77, 80, 32, 74, 77, 80, 70, 32, 72, 76, 84, 32, 67, 77, 67, 32, 78, 79, 84, 32, 78, 69, 71, 32, 77, 85, 76, 32, 73, 77, 85, 76, 32, 68, 73, 86, 32, 73, 68, 73, 86, 32, 67, 76, 67, 32, 83, 84, 67, 32, 67, 76, 73, 32, 83, 84, 73, 32, 67, 76, 68, 32, 83, 84, 68, 32])), .t 10],
 om 2 11]
def F8c12 : Ac := .ret
def F8c10 : Ac := (so F8o11 F8c12)
def F8c2 : Ac := (.seq (so F8o4 F8c5) F8c10)
def F8c0 : Ac := (so F8o1 F8c2)
/-- hansom/hansomref04.Name -/
def F8 : Fn := { np := 1, pb := [], rs := [.t 2], body := F8c0 }
def F9o1 := [
 o3 2 .mv [.c (.d (.str []))]]
def F9o3 := [
 om 3 0,
 o3 4 (.callf 20) [.c (.d (.str [65, 88, 32, 67, 88, 32, 68, 88, 32, 66, 88, 32, 83, 80, 32, 66, 80, 32, 83, 73, 32, 68, 73])), .t 3],
 om 2 4]
def F9c4 : Ac := .ret
def F9c2 : Ac := (so F9o3 F9c4)
def F9c0 : Ac := (so F9o1 F9c2)
/-- hansom/disp.Reg -/
def F9 : Fn := { np := 1, pb := [], rs := [.t 2], body := F9c0 }
def F10o1 := [
 o3 2 .mv [.c (.d (.str []))]]
def F10o3 := [
 o3 3 (.bslice (.str []) 8 [0, 1, 2, 3, 4, 5, 6, 7]) [.c (.d (.str [65, 88])), .c (.d (.str [67, 88])), .c (.d (.str [68, 88])), .c (.d (.str [66, 88])), .c (.d (.str [83, 80])), .c (.d (.str [66, 80])), .c (.d (.str [83, 73])), .c (.d (.str [68, 73]))],
 om 4 0,
 o3 5 (.callf 22) [.t 3, .t 4],
 om 2 5]
def F10c4 : Ac := .ret
def F10c2 : Ac := (so F10o3 F10c4)
def F10c0 : Ac := (so F10o1 F10c2)
/-- hansom/hansomref17.Reg -/
def F10 : Fn := { np := 1, pb := [], rs := [.t 2], body := F10c0 }
def F11o1 := [
 o3 2 .mv [.c (.d (.str []))]]
def F11o3 := [
 om 3 0,
 o3 4 (.callf 20) [.c (.d (.str [65, 76, 32, 67, 76, 32, 68, 76, 32, 66, 76, 32, 65, 72, 32, 67, 72, 32, 68, 72, 32, 66, 72])), .t 3],
 om 2 4]
def F11c4 : Ac := .ret
def F11c2 : Ac := (so F11o3 F11c4)
def F11c0 : Ac := (so F11o1 F11c2)
/-- hansom/disp.Byte -/
def F11 : Fn := { np := 1, pb := [], rs := [.t 2], body := F11c0 }
def F12o1 := [
 o3 2 .mv [.c (.d (.str []))]]
def F12o3 := [
 o3 3 (.bslice (.str []) 8 [0, 1, 2, 3, 4, 5, 6, 7]) [.c (.d (.str [65, 76])), .c (.d (.str [67, 76])), .c (.d (.str [68, 76])), .c (.d (.str [66, 76])), .c (.d (.str [65, 72])), .c (.d (.str [67, 72])), .c (.d (.str [68, 72])), .c (.d (.str [66, 72]))],
 om 4 0,
 o3 5 (.callf 22) [.t 3, .t 4],
 om 2 5]
def F12c4 : Ac := .ret
def F12c2 : Ac := (so F12o3 F12c4)
def F12c0 : Ac := (so F12o1 F12c2)
/-- hansom/hansomref17.Byte -/
def F12 : Fn := { np := 1, pb := [], rs := [.t 2], body := F12c0 }
def F13o1 := [
 o3 2 .mv [.c (.d (.str []))]]
def F13o3 := [
 om 3 0,
 o3 4 (.callf 20) [.c (.d (.str [69, 83, 32, 67, 83, 32, 83, 83, 32, 68, 83])), .t 3],
 om 2 4]
def F13c4 : Ac := .ret
def F13c2 : Ac := (so F13o3 F13c4)
def F13c0 : Ac := (so F13o1 F13c2)
/-- hansom/disp.Seg -/
def F13 : Fn := { np := 1, pb := [], rs := [.t 2], body := F13c0 }
def F14o1 := [
 o3 2 .mv [.c (.d (.str []))]]
def F14o3 := [
 o3 3 (.bslice (.str []) 4 [0, 1, 2, 3]) [.c (.d (.str [69, 83])), .c (.d (.str [67, 83])), .c (.d (.str [83, 83])), .c (.d (.str [68, 83]))],
 om 4 0,
 o3 5 (.callf 22) [.t 3, .t 4],
 om 2 5]
def F14c4 : Ac := .ret
def F14c2 : Ac := (so F14o3 F14c4)
def F14c0 : Ac := (so F14o1 F14c2)
/-- hansom/hansomref17.Seg -/
def F14 : Fn := { np := 1, pb := [], rs := [.t 2], body := F14c0 }
def F15o1 := [
 o3 2 .mv [.i 0]]
def F15o3 := [
 om 3 0,
 o3 4 (.callf 23) [.c (.d (.str [65, 68, 68, 32, 79, 82, 32, 65, 68, 67, 32, 83, 66, 66, 32, 65, 78, 68, 32, 83, 85, 66, 32, 88, 79, 82, 32, 67, 77, 80, 32, 80, 85, 83, 72, 32, 80, 79, 80, 32, 68, 65, 65, 32, 68, 65, 83, 32, 65, 65, 65, 32, 65, 65, 83, 32, 73, 78, 67, 32, 68, 69, 67, 32, 74, 79, 32, 74, 78, 79, 32, 74, 66, 32, 74, 78, 66, 32, 74, 90, 32, 74, 78, 90, 32, 74, 66, 69, 32, 74, 65, 32, 74, 83, 32, 74, 78, 83, 32, 74, 80, 32, 74, 78, 80, 32, 74, 76, 32, 74, 71, 69, 32, 74, 76, 69, 32, 74, 71, 32, 84, 69, 83, 84, 32, 88, 67, 72, 71, 32, 77, 79, 86, 32, 76, 69, 65, 32, 67, 66, 87, 32, 67, 87, 68, 32, 67, 65, 76, 76, 32, 67, 65, 76, 76, 70, 32, 87, 65, 73, 84, 32, 80, 85, 83, 72, 70, 32, 80, 79, 80, 70, 32, 83, 65, 72, 70, 32, 76, 65, 72, 70, 32, 77, 79, 86, 83, 66, 32, 77, 79, 86, 83, 87, 32, 67, 77, 80, 83, 66, 32, 67, 77, 80, 83, 87, 32, 83, 84, 79, 83, 66, 32, 83, 84, 79, 83, 87, 32, 76, 79, 68, 83, 66, 32, 76, 79, 68, 83, 87, 32, 83, 67, 65, 83, 66, 32, 83, 67, 65, 83, 87, 32, 82, 69, 84, 32, 82, 69, 84, 70, 32, 76, 69, 83, 32, 76, 68, 83, 32, 73, 78, 84, 32, 73, 78, 84, 79, 32, 73, 82, 69, 84, 32, 82, 79, 76, 32, 82, 79, 82, 32, 82, 67, 76, 32, 82, 67, 82, 32, 83, 72, 76, 32, 83, 72, 82, 32, 83, 65, 82, 32, 65, 65, 77, 32, 65, 65, 68, 32, 88, 76, 65, 84, 32, 69, 83, 67, 32, 76, 79, 79, 80, 78, 90, 32, 76, 79, 79, 80, 90, 32, 76, 79, 79, 80, 32, 74, 67, 88, 90, 32, 73, 78, 32, 79, 85, 84, 32, 74, 77, 80, 32, 74, 77, 80, 70, 32, 72, 76, 84, 32, 67, 77, 67, 32, 78, 79, 84, 32, 78, 69, 71, 32, 77, 85, 76, 32, 73, 77, 85, 76, 32, 68, 73, 86, 32, 73, 68, 73, 86, 32, 67, 76, 67, 32, 83, 84, 67, 32, 67, 76, 73, 32, 83, 84, 73, 32, 67, 76, 68, 32, 83, 84, 68, 32])), .t 3],
 om 2 4]
def F15c4 : Ac := .ret
def F15c2 : Ac := (so F15o3 F15c4)
def F15c0 : Ac := (so F15o1 F15c2)
/-- hansom/hansomref04.Find -/
def F15 : Fn := { np := 1, pb := [], rs := [.t 2], body := F15c0 }
def F20o1 := [
 o3 4 .mv [.c (.d (.str []))]]
def F20o3 := [
 om 6 0,
 o3 7 (.callf 19) [.t 6],
 om 5 7]
def F20o6 := [
 om 8 1,
 o3 9 (.bin .lss) [.t 8, .i 0],
 om 10 9,
 og 11 .mv [.t 1] 10 false,
 og 12 .mv [.t 5] 10 false,
 og 13 .lenL [.t 12] 10 false,
 og 14 (.bin .geq) [.t 11, .t 13] 10 false,
 o3 15 .pick [.t 10, .b true, .t 14]]
def F20o9 := [
 o3 4 .mv [.c (.d (.str [63]))]]
def F20c10 : Ac := .ret
def F20c7 : Ac := (cd 15 (so F20o9 F20c10) .skip)
def F20o13 := [
 om 16 5,
 om 17 1,
 o3 18 (.iaddrS 1) [.t 16, .t 17],
 o3 19 (.load none) [.t 18],
 om 4 19]
def F20c14 : Ac := .ret
def F20c12 : Ac := (so F20o13 F20c14)
def F20c4 : Ac := (.seq (so F20o6 F20c7) F20c12)
def F20c2 : Ac := (so F20o3 F20c4)
def F20c0 : Ac := (so F20o1 F20c2)
/-- hansom/disp.nth -/
def F20 : Fn := { np := 2, pb := [], rs := [.t 4], body := F20c0 }
def F21o1 := [
 o3 4 .mv [.c (.d (.str []))]]
def F21o3 := [
 o3 5 .mv [.i 0]]
def F21o6 := [
 o3 6 .mv [.i 0]]
def F21o11 := [
 om 8 6,
 om 9 1,
 o3 10 (.bin .lss) [.t 8, .t 9],
 om 11 10,
 og 12 .mv [.t 5] 11 true,
 og 13 .mv [.t 0] 11 true,
 og 14 .lenS [.t 13] 11 true,
 og 15 (.bin .lss) [.t 12, .t 14] 11 true,
 o3 16 .pick [.t 11, .t 15, .b false]]
def F21c12 : Ac := (cd 16 .skip (.exit 0))
def F21o22 := [
 om 19 5,
 om 20 0,
 o3 21 .lenS [.t 20],
 o3 22 (.bin .lss) [.t 19, .t 21],
 om 23 22,
 og 24 .mv [.t 0] 23 true,
 og 25 .mv [.t 5] 23 true,
 og 26 .indexS [.t 24, .t 25] 23 true,
 og 27 (.bin .neq) [.t 26, .y 32] 23 true,
 o3 28 .pick [.t 23, .t 27, .b false]]
def F21c23 : Ac := (cd 28 .skip (.exit 2))
def F21o27 := [
 om 29 5,
 o3 30 (.bin .add) [.t 29, .i 1],
 om 5 30]
def F21c26 : Ac := (.block 3 (.ops F21o27))
def F21l19 : Ac := (.seq (so F21o22 F21c23) F21c26)
def F21o28 := [
 om 31 5,
 o3 32 (.bin .add) [.t 31, .i 1],
 om 5 32]
def F21b28 : Ac := (.ops F21o28)
def F21c28 : Ac := (.seq (.gh []) (.seq (.keep [0, 1, 5, 6] []) F21b28))
def F21o29 := [
 om 17 6,
 o3 18 (.bin .add) [.t 17, .i 1],
 om 6 18]
def F21c29 : Ac := (.ops F21o29)
def F21c15 : Ac := (.seq (.block 1 (.seq (.block 2 (.loop (.seq (.gh []) (.seq (.keep [0, 1, 5, 6] []) F21l19)))) F21c28)) F21c29)
def F21l8 : Ac := (.seq (so F21o11 F21c12) F21c15)
def F21c7 : Ac := (.block 0 (.loop (.seq (.gh []) (.seq (.keep [0, 1, 5, 6] []) F21l8))))
def F21o31 := [
 om 33 5,
 om 7 33]
def F21o37 := [
 om 34 7,
 om 35 0,
 o3 36 .lenS [.t 35],
 o3 37 (.bin .lss) [.t 34, .t 36],
 om 38 37,
 og 39 .mv [.t 0] 38 true,
 og 40 .mv [.t 7] 38 true,
 og 41 .indexS [.t 39, .t 40] 38 true,
 og 42 (.bin .neq) [.t 41, .y 32] 38 true,
 o3 43 .pick [.t 38, .t 42, .b false]]
def F21c38 : Ac := (cd 43 .skip (.exit 4))
def F21o42 := [
 om 44 7,
 o3 45 (.bin .add) [.t 44, .i 1],
 om 7 45]
def F21c41 : Ac := (.block 5 (.ops F21o42))
def F21l34 : Ac := (.seq (so F21o37 F21c38) F21c41)
def F21o45 := [
 om 46 5,
 om 47 0,
 o3 48 .lenS [.t 47],
 o3 49 (.bin .geq) [.t 46, .t 48]]
def F21o48 := [
 o3 4 .mv [.c (.d (.str []))]]
def F21c49 : Ac := .ret
def F21c46 : Ac := (cd 49 (so F21o48 F21c49) .skip)
def F21o52 := [
 om 50 0,
 om 51 5,
 om 52 7,
 o3 53 (.substr true true) [.t 50, .t 51, .t 52],
 om 4 53]
def F21c53 : Ac := .ret
def F21c51 : Ac := (so F21o52 F21c53)
def F21b43 : Ac := (.seq (so F21o45 F21c46) F21c51)
def F21c43 : Ac := (.seq (.gh []) (.seq (.keep [0, 5, 7] []) F21b43))
def F21c32 : Ac := (.seq (.block 4 (.loop (.seq (.gh []) (.seq (.keep [0, 5, 7] []) F21l34)))) F21c43)
def F21b30 : Ac := (so F21o31 F21c32)
def F21c30 : Ac := (.seq (.gh []) (.seq (.keep [0, 5] []) F21b30))
def F21c4 : Ac := (.seq (so F21o6 F21c7) F21c30)
def F21c2 : Ac := (so F21o3 F21c4)
def F21c0 : Ac := (so F21o1 F21c2)
/-- hansom/hansomref04.word -/
def F21 : Fn := { np := 2, pb := [], rs := [.t 4], body := F21c0 }
def F22o1 := [
 o3 4 .mv [.c (.d (.str []))]]
def F22o4 := [
 om 5 1,
 o3 6 (.bin .lss) [.t 5, .i 0],
 om 7 6,
 og 8 .mv [.t 1] 7 false,
 og 9 .mv [.t 0] 7 false,
 og 10 .lenL [.t 9] 7 false,
 og 11 (.bin .geq) [.t 8, .t 10] 7 false,
 o3 12 .pick [.t 7, .b true, .t 11]]
def F22o7 := [
 o3 4 .mv [.c (.d (.str [63]))]]
def F22c8 : Ac := .ret
def F22c5 : Ac := (cd 12 (so F22o7 F22c8) .skip)
def F22o11 := [
 om 13 0,
 om 14 1,
 o3 15 (.iaddrS 1) [.t 13, .t 14],
 o3 16 (.load none) [.t 15],
 om 4 16]
def F22c12 : Ac := .ret
def F22c10 : Ac := (so F22o11 F22c12)
def F22c2 : Ac := (.seq (so F22o4 F22c5) F22c10)
def F22c0 : Ac := (so F22o1 F22c2)
/-- hansom/hansomref17.of -/
def F22 : Fn := { np := 2, pb := [], rs := [.t 4], body := F22c0 }
def F23o1 := [
 o3 4 .mv [.i 0]]
def F23o3 := [
 o3 5 .mv [.i 1],
 o3 6 .mv [.i 0]]
def F23o6 := [
 o3 7 .mv [.i 0]]
def F23o11 := [
 om 8 7,
 om 9 0,
 o3 10 .lenS [.t 9],
 o3 11 (.bin .lss) [.t 8, .t 10]]
def F23c12 : Ac := (cd 11 .skip (.exit 0))
def F23o19 := [
 om 14 0,
 om 15 7,
 o3 16 .indexS [.t 14, .t 15],
 o3 17 (.bin .neq) [.t 16, .y 32]]
def F23c20 : Ac := (cd 17 (.exit 1) .skip)
def F23o25 := [
 om 18 0,
 om 19 6,
 om 20 7,
 o3 21 (.substr true true) [.t 18, .t 19, .t 20],
 om 22 1,
 o3 23 (.bin .eql) [.t 21, .t 22]]
def F23o28 := [
 om 24 5,
 om 4 24]
def F23c29 : Ac := .ret
def F23c26 : Ac := (cd 23 (so F23o28 F23c29) .skip)
def F23o32 := [
 om 25 5,
 o3 26 (.bin .add) [.t 25, .i 1],
 om 5 26]
def F23o33 := [
 om 27 7,
 o3 28 (.bin .add) [.t 27, .i 1],
 om 6 28]
def F23c33 : Ac := (.ops F23o33)
def F23c31 : Ac := (so F23o32 F23c33)
def F23c23 : Ac := (.seq (so F23o25 F23c26) F23c31)
def F23o34 := [
 om 12 7,
 o3 13 (.bin .add) [.t 12, .i 1],
 om 7 13]
def F23c34 : Ac := (.ops F23o34)
def F23c15 : Ac := (.seq (.block 1 (.seq (so F23o19 F23c20) F23c23)) F23c34)
def F23l8 : Ac := (.seq (so F23o11 F23c12) F23c15)
def F23c7 : Ac := (.block 0 (.loop (.seq (.gh []) (.seq (.keep [0, 1, 5, 6, 7] []) F23l8))))
def F23o36 := [
 o3 4 .mv [.i 0]]
def F23c37 : Ac := .ret
def F23b35 : Ac := (so F23o36 F23c37)
def F23c35 : Ac := (.seq (.gh []) (.seq (.keep [] []) F23b35))
def F23c4 : Ac := (.seq (so F23o6 F23c7) F23c35)
def F23c2 : Ac := (so F23o3 F23c4)
def F23c0 : Ac := (so F23o1 F23c2)
/-- hansom/hansomref04.find -/
def F23 : Fn := { np := 2, pb := [], rs := [.t 4], body := F23c0 }
/-- What stands in the package-level variables, as tables of numbers. -/
def mg1 : Mm := fun b o => match b with
  | 0 => (([0, 0, 0, 0, 0, 0, 0, 0, 0, 1, 1, 1, 1, 1, 0, 0, 0, 0, 0, 0, 0, 0, 0, 0, 0, 0, 0, 0, 0, 0, 0, 0, 1, 0, 0, 0, 0, 0, 0, 0, 0, 0, 0, 0, 0, 0, 0, 0, 0, 0, 0, 0, 0, 0, 0, 0, 0, 0, 0, 0, 0, 0, 0, 0, 0, 0, 0, 0, 0, 0, 0, 0, 0, 0, 0, 0, 0, 0, 0, 0, 0, 0, 0, 0, 0, 0, 0, 0, 0, 0, 0, 0, 0, 0, 0, 0, 0, 0, 0, 0, 0, 0, 0, 0, 0, 0, 0, 0, 0, 0, 0, 0, 0, 0, 0, 0, 0, 0, 0, 0, 0, 0, 0, 0, 0, 0, 0, 0, 0, 0, 0, 0, 0, 0, 0, 0, 0, 0, 0, 0, 0, 0, 0, 0, 0, 0, 0, 0, 0, 0, 0, 0, 0, 0, 0, 0, 0, 0, 0, 0, 0, 0, 0, 0, 0, 0, 0, 0, 0, 0, 0, 0, 0, 0, 0, 0, 0, 0, 0, 0, 0, 0, 0, 0, 0, 0, 0, 0, 0, 0, 0, 0, 0, 0, 0, 0, 0, 0, 0, 0, 0, 0, 0, 0, 0, 0, 0, 0, 0, 0, 0, 0, 0, 0, 0, 0, 0, 0, 0, 0, 0, 0, 0, 0, 0, 0, 0, 0, 0, 0, 0, 0, 0, 0, 0, 0, 0, 0, 0, 0, 0, 0, 0, 0, 0, 0, 0, 0, 0, 0, 0, 0, 0, 0, 0, 0] : List Int)[o]?).map (Value.int .u8)
  | _ => none
def G1 : Nat → Option A
  | 0 => some (.elt (.agg [.int .u8 0, .int .u8 0, .int .u8 0, .int .u8 0, .int .u8 0, .int .u8 0, .int .u8 0, .int .u8 0, .int .u8 0, .int .u8 1, .int .u8 1, .int .u8 1, .int .u8 1, .int .u8 1, .int .u8 0, .int .u8 0, .int .u8 0, .int .u8 0, .int .u8 0, .int .u8 0, .int .u8 0, .int .u8 0, .int .u8 0, .int .u8 0, .int .u8 0, .int .u8 0, .int .u8 0, .int .u8 0, .int .u8 0, .int .u8 0, .int .u8 0, .int .u8 0, .int .u8 1, .int .u8 0, .int .u8 0, .int .u8 0, .int .u8 0, .int .u8 0, .int .u8 0, .int .u8 0, .int .u8 0, .int .u8 0, .int .u8 0, .int .u8 0, .int .u8 0, .int .u8 0, .int .u8 0, .int .u8 0, .int .u8 0, .int .u8 0, .int .u8 0, .int .u8 0, .int .u8 0, .int .u8 0, .int .u8 0, .int .u8 0, .int .u8 0, .int .u8 0, .int .u8 0, .int .u8 0, .int .u8 0, .int .u8 0, .int .u8 0, .int .u8 0, .int .u8 0, .int .u8 0, .int .u8 0, .int .u8 0, .int .u8 0, .int .u8 0, .int .u8 0, .int .u8 0, .int .u8 0, .int .u8 0, .int .u8 0, .int .u8 0, .int .u8 0, .int .u8 0, .int .u8 0, .int .u8 0, .int .u8 0, .int .u8 0, .int .u8 0, .int .u8 0, .int .u8 0, .int .u8 0, .int .u8 0, .int .u8 0, .int .u8 0, .int .u8 0, .int .u8 0, .int .u8 0, .int .u8 0, .int .u8 0, .int .u8 0, .int .u8 0, .int .u8 0, .int .u8 0, .int .u8 0, .int .u8 0, .int .u8 0, .int .u8 0, .int .u8 0, .int .u8 0, .int .u8 0, .int .u8 0, .int .u8 0, .int .u8 0, .int .u8 0, .int .u8 0, .int .u8 0, .int .u8 0, .int .u8 0, .int .u8 0, .int .u8 0, .int .u8 0, .int .u8 0, .int .u8 0, .int .u8 0, .int .u8 0, .int .u8 0, .int .u8 0, .int .u8 0, .int .u8 0, .int .u8 0, .int .u8 0, .int .u8 0, .int .u8 0, .int .u8 0, .int .u8 0, .int .u8 0, .int .u8 0, .int .u8 0, .int .u8 0, .int .u8 0, .int .u8 0, .int .u8 0, .int .u8 0, .int .u8 0, .int .u8 0, .int .u8 0, .int .u8 0, .int .u8 0, .int .u8 0, .int .u8 0, .int .u8 0, .int .u8 0, .int .u8 0, .int .u8 0, .int .u8 0, .int .u8 0, .int .u8 0, .int .u8 0, .int .u8 0, .int .u8 0, .int .u8 0, .int .u8 0, .int .u8 0, .int .u8 0, .int .u8 0, .int .u8 0, .int .u8 0, .int .u8 0, .int .u8 0, .int .u8 0, .int .u8 0, .int .u8 0, .int .u8 0, .int .u8 0, .int .u8 0, .int .u8 0, .int .u8 0, .int .u8 0, .int .u8 0, .int .u8 0, .int .u8 0, .int .u8 0, .int .u8 0, .int .u8 0, .int .u8 0, .int .u8 0, .int .u8 0, .int .u8 0, .int .u8 0, .int .u8 0, .int .u8 0, .int .u8 0, .int .u8 0, .int .u8 0, .int .u8 0, .int .u8 0, .int .u8 0, .int .u8 0, .int .u8 0, .int .u8 0, .int .u8 0, .int .u8 0, .int .u8 0, .int .u8 0, .int .u8 0, .int .u8 0, .int .u8 0, .int .u8 0, .int .u8 0, .int .u8 0, .int .u8 0, .int .u8 0, .int .u8 0, .int .u8 0, .int .u8 0, .int .u8 0, .int .u8 0, .int .u8 0, .int .u8 0, .int .u8 0, .int .u8 0, .int .u8 0, .int .u8 0, .int .u8 0, .int .u8 0, .int .u8 0, .int .u8 0, .int .u8 0, .int .u8 0, .int .u8 0, .int .u8 0, .int .u8 0, .int .u8 0, .int .u8 0, .int .u8 0, .int .u8 0, .int .u8 0, .int .u8 0, .int .u8 0, .int .u8 0, .int .u8 0, .int .u8 0, .int .u8 0, .int .u8 0, .int .u8 0, .int .u8 0, .int .u8 0, .int .u8 0, .int .u8 0, .int .u8 0, .int .u8 0, .int .u8 0, .int .u8 0, .int .u8 0, .int .u8 0, .int .u8 0, .int .u8 0, .int .u8 0, .int .u8 0, .int .u8 0, .int .u8 0]) 0)
  | _ => none
theorem globals_ok : GOk mg1 G1 := by
  intro n a h g bx hle
  unfold G1 at h
  split at h
  · cases h
    exact tab_elt (l := [0, 0, 0, 0, 0, 0, 0, 0, 0, 1, 1, 1, 1, 1, 0, 0, 0, 0, 0, 0, 0, 0, 0, 0, 0, 0, 0, 0, 0, 0, 0, 0, 1, 0, 0, 0, 0, 0, 0, 0, 0, 0, 0, 0, 0, 0, 0, 0, 0, 0, 0, 0, 0, 0, 0, 0, 0, 0, 0, 0, 0, 0, 0, 0, 0, 0, 0, 0, 0, 0, 0, 0, 0, 0, 0, 0, 0, 0, 0, 0, 0, 0, 0, 0, 0, 0, 0, 0, 0, 0, 0, 0, 0, 0, 0, 0, 0, 0, 0, 0, 0, 0, 0, 0, 0, 0, 0, 0, 0, 0, 0, 0, 0, 0, 0, 0, 0, 0, 0, 0, 0, 0, 0, 0, 0, 0, 0, 0, 0, 0, 0, 0, 0, 0, 0, 0, 0, 0, 0, 0, 0, 0, 0, 0, 0, 0, 0, 0, 0, 0, 0, 0, 0, 0, 0, 0, 0, 0, 0, 0, 0, 0, 0, 0, 0, 0, 0, 0, 0, 0, 0, 0, 0, 0, 0, 0, 0, 0, 0, 0, 0, 0, 0, 0, 0, 0, 0, 0, 0, 0, 0, 0, 0, 0, 0, 0, 0, 0, 0, 0, 0, 0, 0, 0, 0, 0, 0, 0, 0, 0, 0, 0, 0, 0, 0, 0, 0, 0, 0, 0, 0, 0, 0, 0, 0, 0, 0, 0, 0, 0, 0, 0, 0, 0, 0, 0, 0, 0, 0, 0, 0, 0, 0, 0, 0, 0, 0, 0, 0, 0, 0, 0, 0, 0, 0, 0]) (k := .u8) (fun j hj => hle 0 j _ (by simp only [mg1]; rw [List.getElem?_eq_getElem hj]; rfl))
  · cases h
def hints : Nat → Nat → Hint
  | 17, 4 => [(2, [[22]], none), (6, [], some [])]
  | 44, 14 => [(4, [], some []), (8, [[64]], none)]
  | 46, 11 => [(3, [], some []), (6, [[37]], none)]
  | _, _ => []
def keepf : Nat → Keeps
  | 19, 5 => some ([0, 3, 4, 5, 6], [[39], [41]])
  | 19, 18 => some ([0, 9, 10, 12], [[39], [41]])
  | 19, 21 => some ([0, 9, 10, 11, 12], [[39], [41]])
  | 19, 27 => some ([0, 9, 10, 12], [[39], [41]])
  | 34, 4 => some ([0, 1, 5, 6, 14], [[11], [12], [28], [29], [42], [43], [46]])
  | 34, 16 => some ([0, 1, 9, 47, 48, 49], [[11], [12], [28], [29], [42], [43], [46]])
  | 40, 2 => some ([0, 1, 2, 3, 11, 12], [[2], [3]])
  | 45, 4 => some ([0, 1, 5, 13, 14], [[11]])
  | 67, 3 => some ([0, 1, 19, 20], [])
  | 67, 14 => some ([0, 1, 7, 8], [])
  | 68, 3 => some ([0, 1, 15, 16], [[10]])
  | 68, 14 => some ([0, 1, 7, 8], [[10]])
  | _, _ => none
def spf : Nat → Bool := fun n => [1000003, 1000005, 1000006, 1000007, 1000008, 1000009, 1000010, 1000011, 1000012, 1000013, 1000014, 1000015, 1000020, 1000021, 1000022, 1000023].contains n
noncomputable def tab1 : Nat → Option Fn
  | 3 => some F3
  | 5 => some F5
  | 6 => some F6
  | 7 => some F7
  | 8 => some F8
  | 9 => some F9
  | 10 => some F10
  | 11 => some F11
  | 12 => some F12
  | 13 => some F13
  | 14 => some F14
  | 15 => some F15
  | 20 => some F20
  | 21 => some F21
  | 22 => some F22
  | 23 => some F23
  | n => autoK Tryd.prog G1 spf hints keepf n
noncomputable def L : Cs := lim tab1 (fun _ _ => none)

theorem ok3 : FnOk mg1 Tryd.prog 3 F3 := compF_spec globals_ok Tryd.func3 (by kernel_rfl)
theorem ok5 : FnOk mg1 Tryd.prog 5 F5 := compF_spec globals_ok Tryd.func5 (by kernel_rfl)
theorem ok6 : FnOk mg1 Tryd.prog 6 F6 := compF_spec globals_ok Tryd.func6 (by kernel_rfl)
theorem ok7 : FnOk mg1 Tryd.prog 7 F7 := compF_spec globals_ok Tryd.func7 (by kernel_rfl)
theorem ok8 : FnOk mg1 Tryd.prog 8 F8 := compF_spec globals_ok Tryd.func8 (by kernel_rfl)
theorem ok9 : FnOk mg1 Tryd.prog 9 F9 := compF_spec globals_ok Tryd.func9 (by kernel_rfl)
theorem ok10 : FnOk mg1 Tryd.prog 10 F10 := compF_spec globals_ok Tryd.func10 (by kernel_rfl)
theorem ok11 : FnOk mg1 Tryd.prog 11 F11 := compF_spec globals_ok Tryd.func11 (by kernel_rfl)
theorem ok12 : FnOk mg1 Tryd.prog 12 F12 := compF_spec globals_ok Tryd.func12 (by kernel_rfl)
theorem ok13 : FnOk mg1 Tryd.prog 13 F13 := compF_spec globals_ok Tryd.func13 (by kernel_rfl)
theorem ok14 : FnOk mg1 Tryd.prog 14 F14 := compF_spec globals_ok Tryd.func14 (by kernel_rfl)
theorem ok15 : FnOk mg1 Tryd.prog 15 F15 := compF_spec globals_ok Tryd.func15 (by kernel_rfl)
theorem ok20 : FnOk mg1 Tryd.prog 20 F20 := compF_spec globals_ok Tryd.func20 (by kernel_rfl)
theorem ok21 : FnOk mg1 Tryd.prog 21 F21 := compF_spec globals_ok Tryd.func21 (by kernel_rfl)
theorem ok22 : FnOk mg1 Tryd.prog 22 F22 := compF_spec globals_ok Tryd.func22 (by kernel_rfl)
theorem ok23 : FnOk mg1 Tryd.prog 23 F23 := compF_spec globals_ok Tryd.func23 (by kernel_rfl)
theorem tab1_ok : ∀ f fn, tab1 f = some fn → FnOk mg1 Tryd.prog f fn := by
  intro f fn h
  unfold tab1 at h
  split at h
  · cases h; exact ok3
  · cases h; exact ok5
  · cases h; exact ok6
  · cases h; exact ok7
  · cases h; exact ok8
  · cases h; exact ok9
  · cases h; exact ok10
  · cases h; exact ok11
  · cases h; exact ok12
  · cases h; exact ok13
  · cases h; exact ok14
  · cases h; exact ok15
  · cases h; exact ok20
  · cases h; exact ok21
  · cases h; exact ok22
  · cases h; exact ok23
  · exact autoK_spec globals_ok h
theorem meets1 (f : Nat) : Meets mg1 Tryd.prog f (L f) := lim_meets tab1_ok (fun f _ m w args vs bs _ _ _ _ _ r a h => by cases h) f

end Go.Es.Dsn
