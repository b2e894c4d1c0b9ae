/- The code of the functions that the statement LibHash reaches, as the interpreter reads it. No condition. -/
import Derived.Test.YteikhdaaofiefaaGreatEsD
import Derived.Test.YteikhdaaofiefaaGreatChecked
import Derived.KernelRfl
set_option linter.unusedVariables false
set_option linter.unusedSimpArgs false
set_option maxRecDepth 100000
set_option maxHeartbeats 4000000
namespace Go.Es.Lbh
open Go.Proofs
def F3o1 := [
 o3 4 .mv [.b false]]
def F3o3 := [
 om 12 0,
 om 13 0,
 o3 14 .lenS [.t 13],
 o3 15 .mn [.t 14, .i 255],
 o3 16 (.substr false true) [.t 12, .t 15],
 om 5 16]
def F3o5 := [
 om 17 1,
 o3 18 (.bin .and) [.t 17, .i 1023],
 o3 19 (.bin .add) [.t 18, .i 1],
 om 6 19]
def F3o7 := [
 om 20 5,
 o3 21 (.callf 4) [.t 20],
 om 7 21]
def F3o9 := [
 o3 22 (.build [.d (.int .i64 0), .d (.int .i64 0), .d (.int .i64 0), .d (.int .i64 0)] []) [],
 o3 8 (.alloc [.d (.int .i64 0), .d (.int .i64 0), .d (.int .i64 0), .d (.int .i64 0)]) [],
 o0 (.store 4) [.t 8, .t 22]]
def F3o12 := [
 o3 9 .mv [.i 0]]
def F3o17 := [
 om 23 9,
 om 24 5,
 o3 25 .lenS [.t 24],
 o3 26 (.bin .lss) [.t 23, .t 25]]
def F3c18 : Ac := (cd 26 .skip (.exit 0))
def F3o24 := [
 om 29 7,
 om 30 9,
 o3 31 .indexS [.t 29, .t 30],
 o3 32 (.toInt .i64) [.t 31],
 om 33 7,
 om 34 7,
 o3 35 .lenS [.t 34],
 o3 36 (.bin .sub) [.t 35, .i 1],
 om 37 9,
 o3 38 (.bin .sub) [.t 36, .t 37],
 o3 39 .indexS [.t 33, .t 38],
 o3 40 (.toInt .i64) [.t 39],
 om 10 32,
 om 11 40]
def F3o27 := [
 om 41 10,
 o3 42 (.bin .quo) [.t 41, .i 32],
 o3 43 (.bin .rem) [.t 42, .i 2],
 o3 44 (.bin .eql) [.t 43, .i 0]]
def F3o29 := [
 om 45 10,
 o3 46 (.bin .add) [.t 45, .i 32],
 om 10 46]
def F3c28 : Ac := (cd 44 (.ops F3o29) .skip)
def F3o33 := [
 om 47 11,
 o3 48 (.bin .quo) [.t 47, .i 32],
 o3 49 (.bin .rem) [.t 48, .i 2],
 o3 50 (.bin .eql) [.t 49, .i 0]]
def F3o35 := [
 om 51 11,
 o3 52 (.bin .add) [.t 51, .i 32],
 om 11 52]
def F3c34 : Ac := (cd 50 (.ops F3o35) .skip)
def F3o38 := [
 o3 53 (.iaddrA 4 1) [.t 8, .i 0],
 o3 54 (.load none) [.t 53],
 o3 55 (.bin .mul) [.t 54, .i 4],
 o3 56 (.bin .rem) [.t 55, .i 65536],
 o3 57 (.iaddrA 4 1) [.t 8, .i 0],
 o3 58 (.load none) [.t 57],
 o3 59 (.bin .quo) [.t 58, .i 16384],
 o3 60 (.bin .add) [.t 56, .t 59],
 om 61 10,
 o3 62 (.bin .xor) [.t 60, .t 61],
 o3 63 (.iaddrA 4 1) [.t 8, .i 0],
 o0 (.store 1) [.t 63, .t 62]]
def F3o40 := [
 o3 64 (.iaddrA 4 1) [.t 8, .i 1],
 o3 65 (.load none) [.t 64],
 o3 66 (.bin .quo) [.t 65, .i 4],
 o3 67 (.iaddrA 4 1) [.t 8, .i 1],
 o3 68 (.load none) [.t 67],
 o3 69 (.bin .rem) [.t 68, .i 4],
 o3 70 (.bin .mul) [.t 69, .i 16384],
 o3 71 (.bin .add) [.t 66, .t 70],
 om 72 11,
 o3 73 (.bin .xor) [.t 71, .t 72],
 o3 74 (.iaddrA 4 1) [.t 8, .i 1],
 o0 (.store 1) [.t 74, .t 73]]
def F3o42 := [
 o3 75 (.iaddrA 4 1) [.t 8, .i 2],
 o3 76 (.load none) [.t 75],
 o3 77 (.bin .mul) [.t 76, .i 4],
 o3 78 (.bin .rem) [.t 77, .i 65536],
 o3 79 (.iaddrA 4 1) [.t 8, .i 2],
 o3 80 (.load none) [.t 79],
 o3 81 (.bin .quo) [.t 80, .i 16384],
 o3 82 (.bin .add) [.t 78, .t 81],
 om 83 11,
 o3 84 (.bin .xor) [.t 82, .t 83],
 o3 85 (.iaddrA 4 1) [.t 8, .i 2],
 o0 (.store 1) [.t 85, .t 84]]
def F3o43 := [
 o3 86 (.iaddrA 4 1) [.t 8, .i 3],
 o3 87 (.load none) [.t 86],
 o3 88 (.bin .quo) [.t 87, .i 4],
 o3 89 (.iaddrA 4 1) [.t 8, .i 3],
 o3 90 (.load none) [.t 89],
 o3 91 (.bin .rem) [.t 90, .i 4],
 o3 92 (.bin .mul) [.t 91, .i 16384],
 o3 93 (.bin .add) [.t 88, .t 92],
 om 94 10,
 o3 95 (.bin .xor) [.t 93, .t 94],
 o3 96 (.iaddrA 4 1) [.t 8, .i 3],
 o0 (.store 1) [.t 96, .t 95]]
def F3c43 : Ac := (.ops F3o43)
def F3c41 : Ac := (so F3o42 F3c43)
def F3c39 : Ac := (so F3o40 F3c41)
def F3b37 : Ac := (so F3o38 F3c39)
def F3c37 : Ac := (.seq (.gh []) (.seq (.keep [5, 6, 7, 8, 9, 10, 11] [[8]]) F3b37))
def F3b31 : Ac := (.seq (so F3o33 F3c34) F3c37)
def F3c31 : Ac := (.seq (.gh []) (.seq (.keep [5, 6, 7, 8, 9, 10, 11] [[8]]) F3b31))
def F3c25 : Ac := (.seq (so F3o27 F3c28) F3c31)
def F3o44 := [
 om 27 9,
 o3 28 (.bin .add) [.t 27, .i 1],
 om 9 28]
def F3c44 : Ac := (.ops F3o44)
def F3c21 : Ac := (.seq (.block 1 (so F3o24 F3c25)) F3c44)
def F3l14 : Ac := (.seq (so F3o17 F3c18) F3c21)
def F3c13 : Ac := (.block 0 (.loop (.seq (.gh []) (.seq (.keep [5, 6, 7, 8, 9] [[8]]) F3l14))))
def F3o46 := [
 o3 97 (.callf 5) [],
 om 98 97,
 og 99 .mv [.t 5] 98 true,
 og 100 .mv [.t 6] 98 true,
  { dst := some 101, k := (.callf 6), xs := [.t 99, .t 100], g := some (98, true), al := some [] },
 og 102 (.iaddrA 4 1) [.t 8, .i 0] 98 true,
  { dst := some 103, k := (.load none), xs := [.t 102], g := some (98, true), av := [[101]] },
 og 104 .mv [.t 6] 98 true,
 og 105 (.bin .rem) [.t 103, .t 104] 98 true,
 og 106 (.iaddrA 4 1) [.t 8, .i 1] 98 true,
  { dst := some 107, k := (.load none), xs := [.t 106], g := some (98, true), av := [[101]] },
 og 108 (.bin .rem) [.t 107, .i 37] 98 true,
 og 109 (.iaddrA 4 1) [.t 8, .i 2] 98 true,
  { dst := some 110, k := (.load none), xs := [.t 109], g := some (98, true), av := [[101]] },
 og 111 .mv [.t 6] 98 true,
 og 112 (.bin .rem) [.t 110, .t 111] 98 true,
 og 113 .mx [.t 112, .i 1] 98 true,
 og 114 (.iaddrA 4 1) [.t 8, .i 3] 98 true,
  { dst := some 115, k := (.load none), xs := [.t 114], g := some (98, true), av := [[101]] },
 og 116 (.bin .rem) [.t 115, .i 37] 98 true,
 og 117 .mx [.t 116, .i 1] 98 true,
 og 118 (.build [.d (.int .i64 0), .d (.int .i64 0), .d (.int .i64 0), .d (.int .i64 0)] [(0, 1), (1, 1), (2, 1), (3, 1)]) [.t 105, .t 108, .t 113, .t 117] 98 true,
 og 119 (.eqa false [.i, .i, .i, .i]) [.t 101, .t 118] 98 true,
 o3 120 .pick [.t 98, .t 119, .b false],
 om 121 120,
 og 122 .mv [.t 5] 121 true,
 og 123 .mv [.t 6] 121 true,
 og 124 (.un .neg) [.t 123] 121 true,
 og 125 (.callf 6) [.t 122, .t 124] 121 true,
 og 126 .mv [.t 5] 121 true,
 og 127 (.callf 6) [.t 126, .i 1] 121 true,
 og 128 (.eqa false [.i, .i, .i, .i]) [.t 125, .t 127] 121 true,
 o3 129 .pick [.t 121, .t 128, .b false],
 om 4 129]
def F3c47 : Ac := .ret
def F3b45 : Ac := (so F3o46 F3c47)
def F3c45 : Ac := (.seq (.gh []) (.seq (.keep [5, 6, 8] [[8]]) F3b45))
def F3c10 : Ac := (.seq (so F3o12 F3c13) F3c45)
def F3c8 : Ac := (so F3o9 F3c10)
def F3c6 : Ac := (so F3o7 F3c8)
def F3c4 : Ac := (so F3o5 F3c6)
def F3c2 : Ac := (so F3o3 F3c4)
def F3c0 : Ac := (so F3o1 F3c2)
/-- hansom/hansomlaw27.LibHash -/
def F3 : Fn := { np := 2, pb := [], rs := [.t 4], body := F3c0 }
def F4o1 := [
 o3 2 .mv [.c (.d (.str []))]]
def F4o4 := [
 om 3 0,
 o3 4 .lenS [.t 3],
 o3 5 (.bin .gtr) [.t 4, .i 255]]
def F4o6 := [
 om 6 0,
 o3 7 (.substr false true) [.t 6, .i 255],
 om 0 7]
def F4c5 : Ac := (cd 5 (.ops F4o6) .skip)
def F4o9 := [
 om 8 0,
 o3 9 .lenS [.t 8],
 o3 10 (.toInt .u8) [.t 9],
 o3 11 (.bslice (.int .u8 0) 1 [0]) [.t 10],
 o3 12 .bytesStr [.t 11],
 om 13 0,
 o3 14 (.bin .add) [.t 12, .t 13],
 om 2 14]
def F4c10 : Ac := .ret
def F4c8 : Ac := (so F4o9 F4c10)
def F4c2 : Ac := (.seq (so F4o4 F4c5) F4c8)
def F4c0 : Ac := (so F4o1 F4c2)
/-- hansom/hansomref18.Name -/
def F4 : Fn := { np := 1, pb := [], rs := [.t 2], body := F4c0 }
def F6o1 := [
 o3 4 (.alloc [.d (.int .i64 0), .d (.int .i64 0), .d (.int .i64 0), .d (.int .i64 0)]) []]
def F6o3 := [
 om 13 1,
 o3 14 .mx [.t 13, .i 1],
 om 1 14]
def F6o5 := [
 om 15 0,
 o3 16 (.callf 12) [.t 15],
 om 5 16]
def F6o7 := [
 o3 6 .mv [.w 0],
 o3 7 .mv [.w 0],
 o3 8 .mv [.w 0],
 o3 9 .mv [.w 0]]
def F6o10 := [
 om 17 5,
 o3 18 .lenL [.t 17],
 o3 19 (.bin .sub) [.t 18, .i 1],
 o3 20 .mv [.i 0]]
def F6o14 := [
 o3 21 (.bin .lss) [.t 20, .t 19]]
def F6o22 := [
 om 22 20,
 om 10 22]
def F6o24 := [
 om 23 5,
 om 24 10,
 o3 25 (.iaddrS 1) [.t 23, .t 24],
 o3 26 (.load none) [.t 25],
 o3 27 (.bin .or) [.t 26, .y 32],
 o3 28 (.toInt .u16) [.t 27],
 om 29 5,
 om 30 5,
 o3 31 .lenL [.t 30],
 o3 32 (.bin .sub) [.t 31, .i 1],
 om 33 10,
 o3 34 (.bin .sub) [.t 32, .t 33],
 o3 35 (.iaddrS 1) [.t 29, .t 34],
 o3 36 (.load none) [.t 35],
 o3 37 (.bin .or) [.t 36, .y 32],
 o3 38 (.toInt .u16) [.t 37],
 om 11 28,
 om 12 38]
def F6o26 := [
 om 39 6,
 o3 40 (.callf 13) [.t 39, .i 2],
 om 41 11,
 o3 42 (.bin .xor) [.t 40, .t 41],
 om 6 42]
def F6o28 := [
 om 43 9,
 o3 44 (.callf 13) [.t 43, .i (-2)],
 om 45 11,
 o3 46 (.bin .xor) [.t 44, .t 45],
 om 9 46]
def F6o30 := [
 om 47 8,
 o3 48 (.callf 13) [.t 47, .i (-2)],
 om 49 12,
 o3 50 (.bin .xor) [.t 48, .t 49],
 om 8 50]
def F6o31 := [
 om 51 7,
 o3 52 (.callf 13) [.t 51, .i 2],
 om 53 12,
 o3 54 (.bin .xor) [.t 52, .t 53],
 om 7 54]
def F6c31 : Ac := (.ops F6o31)
def F6c29 : Ac := (so F6o30 F6c31)
def F6c27 : Ac := (so F6o28 F6c29)
def F6c25 : Ac := (so F6o26 F6c27)
def F6c23 : Ac := (so F6o24 F6c25)
def F6o32 := [
 o3 55 (.bin .add) [.t 20, .i 1],
 om 20 55]
def F6c32 : Ac := (.ops F6o32)
def F6c19 : Ac := (.seq (.block 1 (so F6o22 F6c23)) F6c32)
def F6c15 : Ac := (.seq (cd 21 .skip (.exit 0)) F6c19)
def F6l12 : Ac := (so F6o14 F6c15)
def F6c11 : Ac := (.block 0 (.loop (.seq (.gh []) (.seq (.keep [1, 4, 5, 6, 7, 8, 9, 19, 20] [[4]]) F6l12))))
def F6o34 := [
 om 56 6,
 o3 57 (.toInt .i64) [.t 56],
 om 58 1,
 o3 59 (.bin .rem) [.t 57, .t 58],
 om 60 8,
 o3 61 (.toInt .i64) [.t 60],
 o3 62 (.bin .rem) [.t 61, .i 37],
 om 63 7,
 o3 64 (.toInt .i64) [.t 63],
 om 65 1,
 o3 66 (.bin .rem) [.t 64, .t 65],
 o3 67 .mx [.t 66, .i 1],
 om 68 9,
 o3 69 (.toInt .i64) [.t 68],
 o3 70 (.bin .rem) [.t 69, .i 37],
 o3 71 .mx [.t 70, .i 1],
 o3 72 (.build [.d (.int .i64 0), .d (.int .i64 0), .d (.int .i64 0), .d (.int .i64 0)] [(0, 1), (1, 1), (2, 1), (3, 1)]) [.t 59, .t 62, .t 67, .t 71],
 o0 (.store 4) [.t 4, .t 72]]
def F6c35 : Ac := .ret
def F6b33 : Ac := (so F6o34 F6c35)
def F6c33 : Ac := (.seq (.gh []) (.seq (.keep [1, 4, 6, 7, 8, 9] [[4]]) F6b33))
def F6c8 : Ac := (.seq (so F6o10 F6c11) F6c33)
def F6c6 : Ac := (so F6o7 F6c8)
def F6c4 : Ac := (so F6o5 F6c6)
def F6c2 : Ac := (so F6o3 F6c4)
def F6c0 : Ac := (so F6o1 F6c2)
/-- hansom/lib.Hash -/
def F6 : Fn := { np := 2, pb := [], rs := [.c 4 (some 4)], body := F6c0 }
def F12o1 := [
 o3 2 .mv [.c (.nils)]]
def F12o3 := [
 om 3 0,
 om 4 0,
 o3 5 .lenS [.t 4],
 o3 6 .mn [.t 5, .i 255],
 o3 7 (.substr false true) [.t 3, .t 6],
 om 0 7]
def F12o5 := [
 om 8 0,
 o3 9 .lenS [.t 8],
 o3 10 (.toInt .u8) [.t 9],
 o3 11 (.bslice (.int .u8 0) 1 [0]) [.t 10],
 om 12 0,
 o3 13 (.append 1 1 true) [.t 11, .t 12],
 om 2 13]
def F12c6 : Ac := (.seq (.gh [.frz 2]) .ret)
def F12c4 : Ac := (so F12o5 F12c6)
def F12c2 : Ac := (so F12o3 F12c4)
def F12c0 : Ac := (so F12o1 F12c2)
/-- hansom/index.Name -/
def F12 : Fn := { np := 1, pb := [], rs := [.t 2], body := F12c0 }
def F13o1 := [
 o3 4 .mv [.w 0]]
def F13o3 := [
 om 6 1,
 o3 7 (.toInt .u64) [.t 6],
 o3 8 (.bin .and) [.t 7, .c (.d (.int .u64 15))],
 om 5 8]
def F13o5 := [
 om 9 0,
 om 10 5,
 o3 11 (.bin .shl) [.t 9, .t 10],
 om 12 0,
 om 13 5,
 o3 14 (.bin .sub) [.c (.d (.int .u64 16)), .t 13],
 o3 15 (.bin .shr) [.t 12, .t 14],
 o3 16 (.bin .or) [.t 11, .t 15],
 om 4 16]
def F13c6 : Ac := .ret
def F13c4 : Ac := (so F13o5 F13c6)
def F13c2 : Ac := (so F13o3 F13c4)
def F13c0 : Ac := (so F13o1 F13c2)
/-- math/bits.RotateLeft16 -/
def F13 : Fn := { np := 2, pb := [], rs := [.t 4], body := F13c0 }
def tab1 : Nat → Option Fn
  | 3 => some F3
  | 4 => some F4
  | 6 => some F6
  | 12 => some F12
  | 13 => some F13
  | n => none

theorem no_globals : GOk (fun _ _ => none) (fun _ => none) := fun n a h => by cases h
theorem ok3 : FnOk (fun _ _ => none) Tryz.prog 3 F3 := compF_spec no_globals Tryz.func3 (by kernel_rfl)
theorem ok4 : FnOk (fun _ _ => none) Tryz.prog 4 F4 := compF_spec no_globals Tryz.func4 (by kernel_rfl)
theorem ok6 : FnOk (fun _ _ => none) Tryz.prog 6 F6 := compF_spec no_globals Tryz.func6 (by kernel_rfl)
theorem ok12 : FnOk (fun _ _ => none) Tryz.prog 12 F12 := compF_spec no_globals Tryz.func12 (by kernel_rfl)
theorem ok13 : FnOk (fun _ _ => none) Tryz.prog 13 F13 := compF_spec no_globals Tryz.func13 (by kernel_rfl)
theorem tab1_ok : ∀ f fn, tab1 f = some fn → FnOk (fun _ _ => none) Tryz.prog f fn := by
  intro f fn h
  unfold tab1 at h
  split at h
  · cases h; exact ok3
  · cases h; exact ok4
  · cases h; exact ok6
  · cases h; exact ok12
  · cases h; exact ok13
  · cases h

end Go.Es.Lbh
