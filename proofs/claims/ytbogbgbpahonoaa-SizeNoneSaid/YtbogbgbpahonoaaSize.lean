/- The law SizeNone, and what the functions behind it answer. No condition. -/
import Derived.Test.YtbogbgbpahonoaaEsC
import Derived.Test.YtbogbgbpahonoaaRows
import Derived.KernelRfl
import Derived.ProofKit
import Derived.WalkKit
import Derived.OpenShut
import Derived.ChangeOld
import Derived.SizedLaws
set_option linter.unusedVariables false
set_option linter.unusedSimpArgs false
set_option maxRecDepth 100000
namespace Go.Es.S1
/-- hansom/size.New -/
def F15 : Fn := { np := 1, pb := [], rs := [.t 2], body :=
  (.seq
    (.ops [
      { dst := some 2, k := .mv, xs := [.c (.nilp)] }])
    (.seq
      (.ops [
        { dst := some 3, k := .mv, xs := [.t 0] },
        { dst := some 4, k := .mx, xs := [.t 3, .c (.d (.int .i64 0))] },
        { dst := some 5, k := .mn, xs := [.t 4, .c (.d (.int .i64 600))] },
        { dst := some 6, k := (.mkslice (.bool false) 1), xs := [.t 5, .t 5] },
        { dst := some 7, k := (.build [.nils, .d (.bool false), .d (.int .i64 0)] [(0, 1)]), xs := [.t 6] },
        { dst := some 8, k := (.box 3), xs := [.t 7] },
        { dst := some 2, k := .mv, xs := [.t 8] }])
      .ret)) }

/-- (*hansom/size.Sizes).Next -/
def F16 : Fn := { np := 1, pb := [[0]], rs := [.t 2, .t 3], body :=
  (.seq
    (.ops [
      { dst := some 2, k := .mv, xs := [.c (.d (.bool false))] },
      { dst := some 3, k := .mv, xs := [.c (.d (.int .i64 0))] }])
    (.seq
      (.seq
        (.ops [
          { dst := some 5, k := .mv, xs := [.t 0] },
          { dst := some 6, k := (.eqp false), xs := [.t 5, .c (.nilp)] },
          { dst := some 7, k := .mv, xs := [.t 6] },
          { dst := some 8, k := .mv, xs := [.t 0], g := some (7, false) },
          { dst := some 9, k := .nilchk, xs := [.t 8], g := some (7, false) },
          { dst := some 10, k := (.faddr 2), xs := [.t 9], g := some (7, false) },
          { dst := some 11, k := (.load none), xs := [.t 10], g := some (7, false) },
          { dst := some 12, k := (.bin .geq), xs := [.t 11, .c (.d (.int .i64 30))], g := some (7, false) },
          { dst := some 13, k := .pick, xs := [.t 7, .c (.d (.bool true)), .t 12] }])
        (.cond (.t 13)
          (.seq
            (.ops [
              { dst := some 2, k := .mv, xs := [.c (.d (.bool false))] },
              { dst := some 3, k := .mv, xs := [.c (.d (.int .i64 360))] }])
            .ret)
          .skip))
      (.seq
        (.ops [
          { dst := some 14, k := .mv, xs := [.t 0] },
          { dst := some 15, k := .nilchk, xs := [.t 14] },
          { dst := some 16, k := (.faddr 1), xs := [.t 15] },
          { dst := some 17, k := (.load none), xs := [.t 16] },
          { dst := some 4, k := .mv, xs := [.t 17] }])
        (.seq
          (.ops [
            { dst := some 18, k := .mv, xs := [.t 0] },
            { dst := some 19, k := .nilchk, xs := [.t 18] },
            { dst := some 20, k := (.faddr 1), xs := [.t 19] },
            { dst := none, k := (.store 1), xs := [.t 20, .c (.d (.bool false))] }])
          (.seq
            (.ops [
              { dst := some 21, k := .mv, xs := [.t 0] },
              { dst := some 22, k := .nilchk, xs := [.t 21] },
              { dst := some 23, k := (.faddr 2), xs := [.t 22] },
              { dst := some 24, k := (.load none), xs := [.t 23] },
              { dst := some 25, k := (.bin .add), xs := [.t 24, .c (.d (.int .i64 1))] },
              { dst := some 26, k := .nilchk, xs := [.t 21] },
              { dst := some 27, k := (.faddr 2), xs := [.t 26] },
              { dst := none, k := (.store 1), xs := [.t 27, .t 25] }])
            (.seq
              (.ops [
                { dst := some 28, k := .mv, xs := [.t 4] },
                { dst := some 2, k := .mv, xs := [.t 28] },
                { dst := some 3, k := .mv, xs := [.c (.d (.int .i64 0))] }])
              .ret)))))) }

/-- (*hansom/size.Sizes).Grow -/
def F17 : Fn := { np := 2, pb := [[0]], rs := [.t 4], body :=
  (.seq
    (.ops [
      { dst := some 4, k := .mv, xs := [.c (.d (.bool false))] }])
    (.seq
      (.seq
        (.ops [
          { dst := some 5, k := .mv, xs := [.t 0] },
          { dst := some 6, k := (.eqp false), xs := [.t 5, .c (.nilp)] },
          { dst := some 7, k := .mv, xs := [.t 6] },
          { dst := some 8, k := .mv, xs := [.t 1], g := some (7, false) },
          { dst := some 9, k := (.bin .lss), xs := [.t 8, .c (.d (.int .i64 0))], g := some (7, false) },
          { dst := some 10, k := .pick, xs := [.t 7, .c (.d (.bool true)), .t 9] },
          { dst := some 11, k := .mv, xs := [.t 10] },
          { dst := some 12, k := .mv, xs := [.t 1], g := some (11, false) },
          { dst := some 13, k := .mv, xs := [.t 0], g := some (11, false) },
          { dst := some 14, k := .nilchk, xs := [.t 13], g := some (11, false) },
          { dst := some 15, k := (.faddr 0), xs := [.t 14], g := some (11, false) },
          { dst := some 16, k := (.load none), xs := [.t 15], g := some (11, false) },
          { dst := some 17, k := .lenL, xs := [.t 16], g := some (11, false) },
          { dst := some 18, k := (.bin .geq), xs := [.t 12, .t 17], g := some (11, false) },
          { dst := some 19, k := .pick, xs := [.t 11, .c (.d (.bool true)), .t 18] },
          { dst := some 20, k := .mv, xs := [.t 19] },
          { dst := some 21, k := .mv, xs := [.t 0], g := some (20, false) },
          { dst := some 22, k := .nilchk, xs := [.t 21], g := some (20, false) },
          { dst := some 23, k := (.faddr 0), xs := [.t 22], g := some (20, false) },
          { dst := some 24, k := (.load none), xs := [.t 23], g := some (20, false) },
          { dst := some 25, k := .mv, xs := [.t 1], g := some (20, false) },
          { dst := some 26, k := (.iaddrS 1), xs := [.t 24, .t 25], g := some (20, false) },
          { dst := some 27, k := (.load none), xs := [.t 26], g := some (20, false) },
          { dst := some 28, k := .pick, xs := [.t 20, .c (.d (.bool true)), .t 27] }])
        (.cond (.t 28)
          (.seq
            (.ops [
              { dst := some 4, k := .mv, xs := [.c (.d (.bool false))] }])
            .ret)
          .skip))
      (.seq
        (.ops [
          { dst := some 29, k := .mv, xs := [.t 0] },
          { dst := some 30, k := .nilchk, xs := [.t 29] },
          { dst := some 31, k := (.faddr 0), xs := [.t 30] },
          { dst := some 32, k := (.load none), xs := [.t 31] },
          { dst := some 33, k := .mv, xs := [.t 1] },
          { dst := some 34, k := .mv, xs := [.t 0] },
          { dst := some 35, k := (.iaddrS 1), xs := [.t 32, .t 33] },
          { dst := none, k := (.store 1), xs := [.t 35, .c (.d (.bool true))] },
          { dst := some 36, k := .nilchk, xs := [.t 34] },
          { dst := some 37, k := (.faddr 1), xs := [.t 36] },
          { dst := none, k := (.store 1), xs := [.t 37, .c (.d (.bool true))] }])
        (.seq
          (.ops [
            { dst := some 4, k := .mv, xs := [.c (.d (.bool true))] }])
          .ret)))) }

/-- (*hansom/size.Sizes).Long -/
def F18 : Fn := { np := 2, pb := [[0]], rs := [.t 4], body :=
  (.seq
    (.ops [
      { dst := some 4, k := .mv, xs := [.c (.d (.bool false))] }])
    (.seq
      (.ops [
        { dst := some 5, k := .mv, xs := [.t 0] },
        { dst := some 6, k := (.eqp true), xs := [.t 5, .c (.nilp)] },
        { dst := some 7, k := .mv, xs := [.t 6] },
        { dst := some 8, k := .mv, xs := [.t 1], g := some (7, true) },
        { dst := some 9, k := (.bin .geq), xs := [.t 8, .c (.d (.int .i64 0))], g := some (7, true) },
        { dst := some 10, k := .pick, xs := [.t 7, .t 9, .c (.d (.bool false))] },
        { dst := some 11, k := .mv, xs := [.t 10] },
        { dst := some 12, k := .mv, xs := [.t 1], g := some (11, true) },
        { dst := some 13, k := .mv, xs := [.t 0], g := some (11, true) },
        { dst := some 14, k := .nilchk, xs := [.t 13], g := some (11, true) },
        { dst := some 15, k := (.faddr 0), xs := [.t 14], g := some (11, true) },
        { dst := some 16, k := (.load none), xs := [.t 15], g := some (11, true) },
        { dst := some 17, k := .lenL, xs := [.t 16], g := some (11, true) },
        { dst := some 18, k := (.bin .lss), xs := [.t 12, .t 17], g := some (11, true) },
        { dst := some 19, k := .pick, xs := [.t 11, .t 18, .c (.d (.bool false))] },
        { dst := some 20, k := .mv, xs := [.t 19] },
        { dst := some 21, k := .mv, xs := [.t 0], g := some (20, true) },
        { dst := some 22, k := .nilchk, xs := [.t 21], g := some (20, true) },
        { dst := some 23, k := (.faddr 0), xs := [.t 22], g := some (20, true) },
        { dst := some 24, k := (.load none), xs := [.t 23], g := some (20, true) },
        { dst := some 25, k := .mv, xs := [.t 1], g := some (20, true) },
        { dst := some 26, k := (.iaddrS 1), xs := [.t 24, .t 25], g := some (20, true) },
        { dst := some 27, k := (.load none), xs := [.t 26], g := some (20, true) },
        { dst := some 28, k := .pick, xs := [.t 20, .t 27, .c (.d (.bool false))] },
        { dst := some 4, k := .mv, xs := [.t 28] }])
      .ret)) }

/-- (*hansom/size.Sizes).Count -/
def F19 : Fn := { np := 1, pb := [[0]], rs := [.t 2], body :=
  (.seq
    (.ops [
      { dst := some 2, k := .mv, xs := [.c (.d (.int .i64 0))] }])
    (.seq
      (.ops [
        { dst := some 3, k := .mv, xs := [.c (.d (.int .i64 0))] }])
      (.seq
        (.seq
          (.ops [
            { dst := some 4, k := .mv, xs := [.c (.d (.int .i64 0))] }])
          (.block 0
            (.loop (.seq (.keep [0, 3, 4] [[0], [0, 0]])
              (.seq
                (.seq
                  (.ops [
                    { dst := some 5, k := .mv, xs := [.t 0] },
                    { dst := some 6, k := (.eqp true), xs := [.t 5, .c (.nilp)] },
                    { dst := some 7, k := .mv, xs := [.t 6] },
                    { dst := some 8, k := .mv, xs := [.t 4], g := some (7, true) },
                    { dst := some 9, k := .mv, xs := [.t 0], g := some (7, true) },
                    { dst := some 10, k := .nilchk, xs := [.t 9], g := some (7, true) },
                    { dst := some 11, k := (.faddr 0), xs := [.t 10], g := some (7, true) },
                    { dst := some 12, k := (.load none), xs := [.t 11], g := some (7, true) },
                    { dst := some 13, k := .lenL, xs := [.t 12], g := some (7, true) },
                    { dst := some 14, k := (.bin .lss), xs := [.t 8, .t 13], g := some (7, true) },
                    { dst := some 15, k := .pick, xs := [.t 7, .t 14, .c (.d (.bool false))] }])
                  (.cond (.t 15)
                    .skip
                    (.exit 0)))
                (.seq
                  (.block 1
                    (.seq
                      (.ops [
                        { dst := some 18, k := .mv, xs := [.t 0] },
                        { dst := some 19, k := .nilchk, xs := [.t 18] },
                        { dst := some 20, k := (.faddr 0), xs := [.t 19] },
                        { dst := some 21, k := (.load none), xs := [.t 20] },
                        { dst := some 22, k := .mv, xs := [.t 4] },
                        { dst := some 23, k := (.iaddrS 1), xs := [.t 21, .t 22] },
                        { dst := some 24, k := (.load none), xs := [.t 23] }])
                      (.cond (.t 24)
                        (.ops [
                          { dst := some 25, k := .mv, xs := [.t 3] },
                          { dst := some 26, k := (.bin .add), xs := [.t 25, .c (.d (.int .i64 1))] },
                          { dst := some 3, k := .mv, xs := [.t 26] }])
                        .skip)))
                  (.ops [
                    { dst := some 16, k := .mv, xs := [.t 4] },
                    { dst := some 17, k := (.bin .add), xs := [.t 16, .c (.d (.int .i64 1))] },
                    { dst := some 4, k := .mv, xs := [.t 17] }])))))))
        (.seq
          (.ops [
            { dst := some 27, k := .mv, xs := [.t 3] },
            { dst := some 2, k := .mv, xs := [.t 27] }])
          .ret)))) }

/-- (*hansom/size.Sizes).Pass -/
def F20 : Fn := { np := 1, pb := [[0]], rs := [.t 2], body :=
  (.seq
    (.ops [
      { dst := some 2, k := .mv, xs := [.c (.d (.int .i64 0))] }])
    (.seq
      (.seq
        (.ops [
          { dst := some 3, k := .mv, xs := [.t 0] },
          { dst := some 4, k := (.eqp false), xs := [.t 3, .c (.nilp)] }])
        (.cond (.t 4)
          (.seq
            (.ops [
              { dst := some 2, k := .mv, xs := [.c (.d (.int .i64 0))] }])
            .ret)
          .skip))
      (.seq
        (.ops [
          { dst := some 5, k := .mv, xs := [.t 0] },
          { dst := some 6, k := .nilchk, xs := [.t 5] },
          { dst := some 7, k := (.faddr 2), xs := [.t 6] },
          { dst := some 8, k := (.load none), xs := [.t 7] },
          { dst := some 2, k := .mv, xs := [.t 8] }])
        .ret))) }

/-- hansom/hansomlaw36.awake -/
def F21 : Fn := { np := 0, pb := [], rs := [.t 0], body :=
  (.seq
    (.ops [
      { dst := some 0, k := .mv, xs := [.c (.d (.bool false))] }])
    (.seq
      (.ops [
        { dst := some 4, k := (.callf 15), xs := [.c (.d (.int .i64 2))] },
        { dst := some 1, k := .mv, xs := [.t 4] }])
      (.seq
        (.ops [
          { dst := some 6, k := .mv, xs := [.t 1] },
          { dst := some 7, k := (.callf 16), xs := [.t 6] },
          { dst := some 5, k := .mv, xs := [.t 7] },
          { dst := some 8, k := (.extract 0), xs := [.t 5] },
          { dst := some 9, k := (.extract 1), xs := [.t 5] },
          { dst := some 2, k := .mv, xs := [.t 8] },
          { dst := some 3, k := .mv, xs := [.t 9] }])
        (.seq
          (.ops [
            { dst := some 10, k := .mv, xs := [.t 1] },
            { dst := some 11, k := (.callf 17), xs := [.t 10, .c (.d (.int .i64 1))] },
            { dst := some 12, k := .mv, xs := [.t 11] },
            { dst := some 13, k := .mv, xs := [.t 1], g := some (12, true) },
            { dst := some 14, k := (.callf 17), xs := [.t 13, .c (.d (.int .i64 1))], g := some (12, true) },
            { dst := some 15, k := (.un .not), xs := [.t 14], g := some (12, true) },
            { dst := some 16, k := .pick, xs := [.t 12, .t 15, .c (.d (.bool false))] },
            { dst := some 17, k := .mv, xs := [.t 16] },
            { dst := some 18, k := .mv, xs := [.t 1], g := some (17, true) },
            { dst := some 19, k := (.callf 18), xs := [.t 18, .c (.d (.int .i64 1))], g := some (17, true) },
            { dst := some 20, k := .pick, xs := [.t 17, .t 19, .c (.d (.bool false))] },
            { dst := some 21, k := .mv, xs := [.t 20] },
            { dst := some 22, k := .mv, xs := [.t 1], g := some (21, true) },
            { dst := some 23, k := (.callf 18), xs := [.t 22, .c (.d (.int .i64 0))], g := some (21, true) },
            { dst := some 24, k := (.un .not), xs := [.t 23], g := some (21, true) },
            { dst := some 25, k := .pick, xs := [.t 21, .t 24, .c (.d (.bool false))] },
            { dst := some 26, k := .mv, xs := [.t 25] },
            { dst := some 27, k := .mv, xs := [.t 1], g := some (26, true) },
            { dst := some 28, k := (.callf 19), xs := [.t 27], g := some (26, true) },
            { dst := some 29, k := (.bin .eql), xs := [.t 28, .c (.d (.int .i64 1))], g := some (26, true) },
            { dst := some 30, k := .pick, xs := [.t 26, .t 29, .c (.d (.bool false))] },
            { dst := some 31, k := .mv, xs := [.t 30] },
            { dst := some 32, k := .mv, xs := [.t 2], g := some (31, true) },
            { dst := some 33, k := (.un .not), xs := [.t 32], g := some (31, true) },
            { dst := some 34, k := .pick, xs := [.t 31, .t 33, .c (.d (.bool false))] },
            { dst := some 35, k := .mv, xs := [.t 34] },
            { dst := some 36, k := .mv, xs := [.t 3], g := some (35, true) },
            { dst := some 37, k := (.bin .eql), xs := [.t 36, .c (.d (.int .i64 0))], g := some (35, true) },
            { dst := some 38, k := .pick, xs := [.t 35, .t 37, .c (.d (.bool false))] },
            { dst := some 39, k := .mv, xs := [.t 38] },
            { dst := some 40, k := .mv, xs := [.t 1], g := some (39, true) },
            { dst := some 41, k := (.callf 20), xs := [.t 40], g := some (39, true) },
            { dst := some 42, k := (.bin .eql), xs := [.t 41, .c (.d (.int .i64 1))], g := some (39, true) },
            { dst := some 43, k := .pick, xs := [.t 39, .t 42, .c (.d (.bool false))] },
            { dst := some 0, k := .mv, xs := [.t 43] }])
          .ret)))) }

/-- hansom/hansomlaw36.SizeNone -/
def F4 : Fn := { np := 1, pb := [], rs := [.t 2], body :=
  (.seq
    (.ops [
      { dst := some 2, k := .mv, xs := [.c (.d (.bool false))] }])
    (.seq
      (.ops [
        { dst := some 3, k := .mv, xs := [.c (.nilp)] }])
      (.seq
        (.ops [
          { dst := some 9, k := .mv, xs := [.t 3] },
          { dst := some 10, k := (.callf 16), xs := [.t 9] },
          { dst := some 8, k := .mv, xs := [.t 10] },
          { dst := some 11, k := (.extract 0), xs := [.t 8] },
          { dst := some 12, k := (.extract 1), xs := [.t 8] },
          { dst := some 4, k := .mv, xs := [.t 11] },
          { dst := some 5, k := .mv, xs := [.t 12] }])
        (.seq
          (.ops [
            { dst := some 13, k := .mv, xs := [.t 0] },
            { dst := some 14, k := (.callf 15), xs := [.t 13] },
            { dst := some 6, k := .mv, xs := [.t 14] }])
          (.seq
            (.ops [
              { dst := some 15, k := .mv, xs := [.t 0] },
              { dst := some 16, k := .mx, xs := [.t 15, .c (.d (.int .i64 0))] },
              { dst := some 17, k := .mn, xs := [.t 16, .c (.d (.int .i64 600))] },
              { dst := some 7, k := .mv, xs := [.t 17] }])
            (.seq
              (.ops [
                { dst := some 18, k := (.callf 21), xs := [] },
                { dst := some 19, k := .mv, xs := [.t 18] },
                { dst := some 20, k := .mv, xs := [.t 3], g := some (19, true) },
                { dst := some 21, k := .mv, xs := [.t 0], g := some (19, true) },
                { dst := some 22, k := (.callf 18), xs := [.t 20, .t 21], g := some (19, true) },
                { dst := some 23, k := (.un .not), xs := [.t 22], g := some (19, true) },
                { dst := some 24, k := .pick, xs := [.t 19, .t 23, .c (.d (.bool false))] },
                { dst := some 25, k := .mv, xs := [.t 24] },
                { dst := some 26, k := .mv, xs := [.t 3], g := some (25, true) },
                { dst := some 27, k := .mv, xs := [.t 0], g := some (25, true) },
                { dst := some 28, k := (.callf 17), xs := [.t 26, .t 27], g := some (25, true) },
                { dst := some 29, k := (.un .not), xs := [.t 28], g := some (25, true) },
                { dst := some 30, k := .pick, xs := [.t 25, .t 29, .c (.d (.bool false))] },
                { dst := some 31, k := .mv, xs := [.t 30] },
                { dst := some 32, k := .mv, xs := [.t 5], g := some (31, true) },
                { dst := some 33, k := (.bin .eql), xs := [.t 32, .c (.d (.int .i64 360))], g := some (31, true) },
                { dst := some 34, k := .pick, xs := [.t 31, .t 33, .c (.d (.bool false))] },
                { dst := some 35, k := .mv, xs := [.t 34] },
                { dst := some 36, k := .mv, xs := [.t 3], g := some (35, true) },
                { dst := some 37, k := (.callf 19), xs := [.t 36], g := some (35, true) },
                { dst := some 38, k := .mv, xs := [.t 3], g := some (35, true) },
                { dst := some 39, k := (.callf 20), xs := [.t 38], g := some (35, true) },
                { dst := some 40, k := (.bin .add), xs := [.t 37, .t 39], g := some (35, true) },
                { dst := some 41, k := (.bin .eql), xs := [.t 40, .c (.d (.int .i64 0))], g := some (35, true) },
                { dst := some 42, k := .pick, xs := [.t 35, .t 41, .c (.d (.bool false))] },
                { dst := some 43, k := .mv, xs := [.t 42] },
                { dst := some 44, k := .mv, xs := [.t 6], g := some (43, true) },
                { dst := some 45, k := .mv, xs := [.t 7], g := some (43, true) },
                { dst := some 46, k := (.callf 17), xs := [.t 44, .t 45], g := some (43, true) },
                { dst := some 47, k := (.un .not), xs := [.t 46], g := some (43, true) },
                { dst := some 48, k := .pick, xs := [.t 43, .t 47, .c (.d (.bool false))] },
                { dst := some 49, k := .mv, xs := [.t 48] },
                { dst := some 50, k := .mv, xs := [.t 6], g := some (49, true) },
                { dst := some 51, k := (.callf 17), xs := [.t 50, .c (.d (.int .i64 (-1)))], g := some (49, true) },
                { dst := some 52, k := (.un .not), xs := [.t 51], g := some (49, true) },
                { dst := some 53, k := .pick, xs := [.t 49, .t 52, .c (.d (.bool false))] },
                { dst := some 54, k := .mv, xs := [.t 53] },
                { dst := some 55, k := .mv, xs := [.t 7], g := some (54, true) },
                { dst := some 56, k := (.bin .eql), xs := [.t 55, .c (.d (.int .i64 0))], g := some (54, true) },
                { dst := some 57, k := .mv, xs := [.t 56], g := some (54, true) },
                { dst := some 58, k := .mv, xs := [.t 6], g := some (57, false) },
                { dst := some 59, k := .mv, xs := [.t 7], g := some (57, false) },
                { dst := some 60, k := (.bin .sub), xs := [.t 59, .c (.d (.int .i64 1))], g := some (57, false) },
                { dst := some 61, k := (.callf 17), xs := [.t 58, .t 60], g := some (57, false) },
                { dst := some 62, k := .pick, xs := [.t 57, .c (.d (.bool true)), .t 61], g := some (54, true) },
                { dst := some 63, k := .pick, xs := [.t 54, .t 62, .c (.d (.bool false))] },
                { dst := some 2, k := .mv, xs := [.t 63] }])
              .ret)))))) }


attribute [local simp] run takesP take take1 takeCell takeCells takes1 loadA_p storeA_p asB asI asS isNil okId alOk partD setD nextVer Box.ver tmOf A.cells D.cells ress resA outs1 out1 outCell giveCell giveCells one callA gives give give1 gives1 snap snap1 snaps snapRef backs back back1 fillA sub put mkAgg allD ptrIds ptrIds1 apartIds inB inB.go wanted goI aggC partA husk frz binD binI

/-- the sizes, as a tree -/
def sz (b : List Bool) (g : Bool) (p : Int) : T := .ptr [.arr false 1 (b.map D.bool), .d (.bool g), .d (.int .i64 p)]

theorem New_run (C : Cs) (k : Nat) (n : Int) : run C k F15 [.d (.int .i64 n)] = some (sz (List.replicate (min (max n 0) 600).toNat false) false 0, [.d (.int .i64 n)]) := by
  have e : (if (600 : Int) < if n < 0 then 0 else n then 600 else if n < 0 then 0 else n) = min (max n 0) 600 := by split <;> (try split) <;> omega
  have h0 : 0 ≤ min (max n 0) 600 := by omega
  have h1 : min (max n 0) 600 ≤ 1099511627776 := by omega
  generalize hm : min (max n 0) 600 = m at *
  simp -implicitDefEqProofs [F15, sz, e, h0, h1]

def can (b : List Bool) (n : Int) : Bool := decide (0 ≤ n) && (b[n.toNat]? == some false)
def isL (b : List Bool) (n : Int) : Bool := decide (0 ≤ n) && (b[n.toNat]? == some true)

theorem Grow_nil (C : Cs) (k : Nat) (n : Int) : run C k F17 [.nilp, .d (.int .i64 n)] = some (.d (.bool false), [.nilp, .d (.int .i64 n)]) := by
  simp -implicitDefEqProofs [F17]
theorem Grow_run (C : Cs) (k : Nat) (b : List Bool) (g : Bool) (p n : Int) : run C k F17 [sz b g p, .d (.int .i64 n)] =
    some (.d (.bool (can b n)), [if can b n then sz (b.set n.toNat true) true p else sz b g p, .d (.int .i64 n)]) := by
  by_cases h0 : n < 0
  · have : ¬ 0 ≤ n := by omega
    simp -implicitDefEqProofs [F17, sz, h0, this, can]
  · have h0' : 0 ≤ n := by omega
    by_cases h1 : (b.length : Int) ≤ n
    · have h2 : b[n.toNat]? = none := List.getElem?_eq_none (by omega)
      simp -implicitDefEqProofs [F17, sz, h0, h0', h1, h2, can]
    · have hlt : n.toNat < b.length := by omega
      have h1' : n < (b.length : Int) := by omega
      cases hb : b[n.toNat]'hlt with
      | true => simp -implicitDefEqProofs [F17, sz, h0, h0', h1, h1', hlt, hb, can]
      | false => simp -implicitDefEqProofs [F17, sz, h0, h0', h1, h1', hlt, hb, can]

theorem Long_nil (C : Cs) (k : Nat) (n : Int) : run C k F18 [.nilp, .d (.int .i64 n)] = some (.d (.bool false), [.nilp, .d (.int .i64 n)]) := by
  simp -implicitDefEqProofs [F18]
theorem Long_run (C : Cs) (k : Nat) (b : List Bool) (g : Bool) (p n : Int) : run C k F18 [sz b g p, .d (.int .i64 n)] = some (.d (.bool (isL b n)), [sz b g p, .d (.int .i64 n)]) := by
  by_cases h0 : n < 0
  · have : ¬ 0 ≤ n := by omega
    simp -implicitDefEqProofs [F18, sz, h0, this, isL]
  · have h0' : 0 ≤ n := by omega
    by_cases h1 : (b.length : Int) ≤ n
    · have h2 : b[n.toNat]? = none := List.getElem?_eq_none (by omega)
      have h1' : ¬ n < (b.length : Int) := by omega
      simp -implicitDefEqProofs [F18, sz, h0, h0', h1, h1', h2, isL]
    · have hlt : n.toNat < b.length := by omega
      have h1' : n < (b.length : Int) := by omega
      cases hb : b[n.toNat]'hlt with
      | true => simp -implicitDefEqProofs [F18, sz, h0, h0', h1, h1', hlt, hb, isL]
      | false => simp -implicitDefEqProofs [F18, sz, h0, h0', h1, h1', hlt, hb, isL]
theorem Next_nil (C : Cs) (k : Nat) : run C k F16 [.nilp] = some (.tup [.d (.bool false), .d (.int .i64 360)], [.nilp]) := by
  simp -implicitDefEqProofs [F16]
theorem Next_run (C : Cs) (k : Nat) (b : List Bool) (g : Bool) (p : Int) (hp : 0 ≤ p) : run C k F16 [sz b g p] =
    some (if 30 ≤ p then (.tup [.d (.bool false), .d (.int .i64 360)], [sz b g p]) else (.tup [.d (.bool g), .d (.int .i64 0)], [sz b false (p + 1)])) := by
  by_cases h : 30 ≤ p
  · simp -implicitDefEqProofs [F16, sz, h]
  · have hw : IntKind.i64.wrap (p + 1) = p + 1 := by rw [IntKind.wrap_i64]; omega
    simp -implicitDefEqProofs [F16, sz, h, hw]
theorem Pass_nil (C : Cs) (k : Nat) : run C k F20 [.nilp] = some (.d (.int .i64 0), [.nilp]) := by
  simp -implicitDefEqProofs [F20]
theorem Pass_run (C : Cs) (k : Nat) (b : List Bool) (g : Bool) (p : Int) : run C k F20 [sz b g p] = some (.d (.int .i64 p), [sz b g p]) := by
  simp -implicitDefEqProofs [F20, sz]
theorem Count_nil (C : Cs) (k : Nat) : run C (k + 1) F19 [.nilp] = some (.d (.int .i64 0), [.nilp]) := by
  simp -implicitDefEqProofs [F19, exec, iter, keepA, tab, tabB, boxIn]

def tab1 : Nat → Option Fn
  | 4 => some F4 | 15 => some F15 | 16 => some F16 | 17 => some F17 | 18 => some F18 | 19 => some F19 | 20 => some F20 | 21 => some F21
  | _ => none
noncomputable def L : Cs := lim tab1 (fun _ _ => none)
theorem L_new (n : Int) : L 15 [.d (.int .i64 n)] = some (sz (List.replicate (min (max n 0) 600).toNat false) false 0, [.d (.int .i64 n)]) := lim_run (k := 0) rfl (New_run _ _ n)
theorem L_grow (b g p n) (h : can b n = false) : L 17 [.ptr [.arr false 1 (b.map D.bool), .d (.bool g), .d (.int .i64 p)], .d (.int .i64 n)] = some (.d (.bool false), [.ptr [.arr false 1 (b.map D.bool), .d (.bool g), .d (.int .i64 p)], .d (.int .i64 n)]) := by
  have := lim_run (F := tab1) (X := fun _ _ => none) (f := 17) (k := 0) rfl (Grow_run _ _ b g p n)
  change L 17 _ = _ at this
  simpa [h, sz] using this
theorem L_grow1 (b g p n) (h : can b n = true) : ∃ r, L 17 [.ptr [.arr false 1 (b.map D.bool), .d (.bool g), .d (.int .i64 p)], .d (.int .i64 n)] = some (.d (.bool true), [.ptr [.arr false 1 ((b.set n.toNat true).map D.bool), .d (.bool true), .d (.int .i64 p)], r]) := by
  have := lim_run (F := tab1) (X := fun _ _ => none) (f := 17) (k := 0) rfl (Grow_run _ _ b g p n)
  change L 17 _ = _ at this
  exact ⟨.d (.int .i64 n), by simpa only [h, sz, if_true] using this⟩
theorem L_grow0 (n) : L 17 [.nilp, .d (.int .i64 n)] = some (.d (.bool false), [.nilp, .d (.int .i64 n)]) := lim_run (k := 0) rfl (Grow_nil _ _ n)
theorem L_long0 (n) : L 18 [.nilp, .d (.int .i64 n)] = some (.d (.bool false), [.nilp, .d (.int .i64 n)]) := lim_run (k := 0) rfl (Long_nil _ _ n)
theorem L_next0 : L 16 [.nilp] = some (.tup [.d (.bool false), .d (.int .i64 360)], [.nilp]) := lim_run (k := 0) rfl (Next_nil _ _)
theorem L_pass0 : L 20 [.nilp] = some (.d (.int .i64 0), [.nilp]) := lim_run (k := 0) rfl (Pass_nil _ _)
theorem L_count0 : L 19 [.nilp] = some (.d (.int .i64 0), [.nilp]) := lim_run (k := 1) rfl (Count_nil _ 0)
set_option maxRecDepth 100000 in
theorem L_awake : L 21 [] = some (.d (.bool true), []) := lim_iff.2 ⟨10, by kernel_rfl⟩
set_option maxHeartbeats 4000000 in
theorem SizeNone_run (n : Int) : ∃ a, run L 0 F4 [.d (.int .i64 n)] = some (.d (.bool true), a) := by
  have e0 := L_next0
  have e1 := L_awake
  have e2 := L_long0 n
  have e3 := L_grow0 n
  have e4 := L_pass0
  have e5 := L_count0
  have e6 := L_new n
  have em : (if (600 : Int) < if n < 0 then 0 else n then 600 else if n < 0 then 0 else n) = min (max n 0) 600 := by split <;> (try split) <;> omega
  have h0 : 0 ≤ min (max n 0) 600 := by omega
  have h1 : min (max n 0) 600 ≤ 600 := by omega
  generalize hm : min (max n 0) 600 = m at *
  have c1 : can (List.replicate m.toNat false) m = false := by simp [can]
  have c2 : can (List.replicate m.toNat false) (-1) = false := by simp [can]
  have g1 := L_grow _ false 0 m c1
  have g2 := L_grow _ false 0 (-1) c2
  have w0 : IntKind.i64.wrap 0 = 0 := rfl
  by_cases hz : m = 0
  · subst hz
    simp only [Int.toNat_zero, List.replicate_zero, List.map_nil] at g1 g2
    simp -implicitDefEqProofs [F4, e0, e1, e2, e3, e4, e5, e6, em, g1, g2, sz, unD, w0]
  · have c3 : can (List.replicate m.toNat false) (m - 1) = true := by
      simp only [can, List.getElem?_replicate]
      rw [if_pos (by omega)]
      simp; omega
    obtain ⟨r, g3⟩ := L_grow1 _ false 0 (m - 1) c3
    have hw : IntKind.i64.wrap (m - 1) = m - 1 := by rw [IntKind.wrap_i64]; omega
    have hl : (m.toNat : Int) = m := by omega
    simp -implicitDefEqProofs [-List.map_replicate, F4, e0, e1, e2, e3, e4, e5, e6, em, g1, g2, g3, sz, unD, w0, hz, hw]
end Go.Es.S1

namespace Go.Proofs.Ytbogbgbpahonoaa
open Go.Es Go.Es.S1

theorem no_globals : GOk (fun _ _ => none) (fun _ => none) := fun n a h => by cases h

theorem tab1_ok : ∀ f fn, tab1 f = some fn → FnOk (fun _ _ => none) Try.prog f fn := by
  intro f fn h
  unfold tab1 at h
  split at h <;> cases h
  · exact compF_spec no_globals Try.func4 (by kernel_rfl)
  · exact compF_spec no_globals Try.func15 (by kernel_rfl)
  · exact compF_spec no_globals Try.func16 (by kernel_rfl)
  · exact compF_spec no_globals Try.func17 (by kernel_rfl)
  · exact compF_spec no_globals Try.func18 (by kernel_rfl)
  · exact compF_spec no_globals Try.func19 (by kernel_rfl)
  · exact compF_spec no_globals Try.func20 (by kernel_rfl)
  · exact compF_spec no_globals Try.func21 (by kernel_rfl)

theorem meets1 (f : Nat) : Meets (fun _ _ => none) Try.prog f (L f) :=
  lim_meets tab1_ok (fun f _ m w args vs bs _ _ _ _ _ r a h => by cases h) f
end Go.Proofs.Ytbogbgbpahonoaa

namespace Go.Proofs.Ytbogbgbpahonoaa.sizeNone
open Go.Es Go.Es.S1
theorem own : ownKnob Try.prog.godebug = none := by kernel_rfl
theorem rows : (Try.f4.params.toList.all fun t => Try.prog.readableRec t && decide (t < Try.prog.types.size) && plainT Try.prog 10 t) = true := by kernel_rfl
theorem int_datum {P : Program} {t : TypeId} {k : IntKind} {x : D} (hu : P.underlying t = some (.int k)) (h : DatumOf P t x) : ∃ n, x = .int k n ∧ (Lit.int k n).wf = true := by
  obtain ⟨hc, hs⟩ := h
  unfold aggShape at hs
  rw [hu] at hs
  obtain ⟨y, rfl, hf⟩ := hs
  generalize hcs : x.cells = cs at hc
  cases hc with
  | int _ k' n h hw =>
    rw [hu] at h; cases h
    cases x <;> simp only [D.cells, List.cons.injEq, and_true] at hcs <;> first | (cases hcs; exact ⟨n, rfl, hw⟩) | (simp [D.flat] at hf; done) | cases hcs
  | bool _ _ h => rw [hu] at h; cases h
  | str _ _ h _ => rw [hu] at h; cases h
  | slice _ _ _ h => rw [hu] at h; cases h
  | struct _ _ _ h => rw [hu] at h; cases h
  | array _ _ _ _ h => rw [hu] at h; cases h

theorem answer (xs : List D) (h : DataOf Try.prog Try.f4.params.toList xs) : ∃ a, L 4 (xs.map T.d) = some (.d (.bool true), a) := by
  cases h with
  | cons h k =>
    cases k
    obtain ⟨n, rfl, _⟩ := int_datum (k := .i64) (by kernel_rfl) h
    obtain ⟨a, ha⟩ := SizeNone_run n
    exact ⟨a, lim_run (k := 0) rfl ha⟩

theorem lifted (os : Os) (started : os.Started) (H : Type) (enc : TypeId × Value → H) :
    ReturnsInHanded {} Try.checked os 4 .any (Rows.sizeNoneSpec.pre6 enc Try.prog Try.f4 Rows.sizeNoneRow.domain false) (Rows.sizeNoneSpec.post enc Try.prog Try.f4 false true false false) := by
  refine returnsInHanded_of_change_sized (C := Try.checked) own started (by kernel_rfl) Try.func4
    (ChangeSpec.witness6 (enc := enc) (C := Try.checked) false ⟨#[], #[.int .i64 0], []⟩ 8 (by kernel_rfl) (by kernel_rfl) (by kernel_rfl) (by kernel_rfl)) ?_
  intro W base args ds gs before hval hW _ _ _
  have hr := rows
  simp only [List.all_eq_true, Bool.and_eq_true, decide_eq_true_eq] at hr
  refine law_calls (P := Try.prog) (tb := 4) Try.func4 (by kernel_rfl) (by kernel_rfl) (by kernel_rfl) (fun t ht => (hr t ht).1) (fun t ht => (hr t ht).2) rfl (by kernel_rfl) (meets1 4) answer rfl ?_ hval hW
  intro ds hds
  match ds, hds with
  | [d], _ => rfl
theorem over : Rows.sizeNoneRow.holds Try.pinned (OpenSpec.ofChange Rows.sizeNoneSpec) :=
  OpenClaim.holds_of_wide 4 Try.f4 rfl rfl rfl rfl rfl rfl rfl ⟨rfl, rfl, rfl, rfl, rfl⟩ rfl rfl rfl rfl rfl (by kernel_rfl) Try.func4 (by kernel_rfl)
    (of_decide_eq_true (by kernel_rfl)) (by unfold Func.isWrapper; first | (rw [if_pos (by decide +kernel)]; kernel_rfl) | (rw [if_neg (by decide +kernel)]; exact ⟨rfl, rfl⟩))
    (fun os started H enc _ => lifted os started H enc)
theorem proved : Rows.SizeNoneSaid := over
#print axioms proved
end Go.Proofs.Ytbogbgbpahonoaa.sizeNone
namespace Go.Proofs.Ytbogbgbpahonoaa
theorem sizeNone_holds : Rows.SizeNoneSaid := sizeNone.proved
end Go.Proofs.Ytbogbgbpahonoaa
