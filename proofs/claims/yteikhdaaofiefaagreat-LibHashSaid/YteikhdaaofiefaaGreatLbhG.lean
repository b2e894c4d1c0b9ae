/- The law's own look at a library: it is evaluated. No condition. -/
import Derived.Test.YteikhdaaofiefaaGreatLbhF
import Derived.Test.YteikhdaaofiefaaGreatLbhP
import Derived.Test.YteikhdaaofiefaaGreatCxC
import Derived.KernelRfl
set_option linter.unusedVariables false
set_option linter.unusedSimpArgs false
set_option maxRecDepth 100000
set_option maxHeartbeats 4000000
namespace Go.Es.Lbh
open Go.Proofs
def masksT : Cx.Tr Nat := .nd 0 (.nd 0 (.nd 4083 (.nd 3848408391155 (.nd 19 (.nd 283971065677787016424367550541503 (.nd 31 (.nd 1 (.lf) (.lf)) (.lf)) (.nd 125 (.lf) (.lf))) (.nd 292733975779869179 (.nd 15 (.lf) (.lf)) (.nd 7215 (.lf) (.lf)))) (.nd 5 (.nd 19 (.nd 125 (.nd 1 (.lf) (.lf)) (.lf)) (.nd 14680543 (.lf) (.lf))) (.nd 61 (.nd 7 (.lf) (.lf)) (.nd 487 (.lf) (.lf))))) (.nd 19 (.nd 115187 (.nd 5 (.nd 493 (.nd 1 (.lf) (.lf)) (.lf)) (.nd 138646913533 (.lf) (.lf))) (.nd 30793842688687 (.nd 979 (.lf) (.lf)) (.nd 1871 (.lf) (.lf)))) (.nd 5 (.nd 51 (.nd 3458764513820540951 (.nd 1 (.lf) (.lf)) (.lf)) (.nd 23 (.lf) (.lf))) (.nd 957 (.nd 941 (.lf) (.lf)) (.nd 59 (.lf) (.lf)))))) (.nd 127 (.nd 3626778035304785856434173 (.nd 19 (.nd 435 (.nd 5 (.nd 1 (.lf) (.lf)) (.lf)) (.nd 125 (.lf) (.lf))) (.nd 33057574432694652339543 (.nd 7 (.lf) (.lf)) (.nd 123145302310999 (.lf) (.lf)))) (.nd 13 (.nd 5 (.nd 1011 (.nd 1 (.lf) (.lf)) (.lf)) (.nd 8167 (.lf) (.lf))) (.nd 7215 (.nd 2061 (.lf) (.lf)) (.nd 115 (.lf) (.lf))))) (.nd 51 (.nd 234884973 (.nd 125 (.nd 5 (.nd 1 (.lf) (.lf)) (.lf)) (.nd 29 (.lf) (.lf))) (.nd 5 (.nd 7 (.lf) (.lf)) (.nd 157 (.lf) (.lf)))) (.nd 8189 (.nd 554696957 (.nd 19 (.lf) (.lf)) (.nd 5 (.lf) (.lf))) (.nd 941 (.nd 5 (.lf) (.lf)) (.nd 1 (.lf) (.lf))))))) (.nd 0 (.nd 5 (.nd 29 (.nd 63 (.nd 2013 (.nd 1807 (.nd 1 (.lf) (.lf)) (.lf)) (.nd 253 (.lf) (.lf))) (.nd 7 (.nd 979 (.lf) (.lf)) (.nd 499 (.lf) (.lf)))) (.nd 13 (.nd 4095 (.nd 69793219581 (.nd 1 (.lf) (.lf)) (.lf)) (.nd 7 (.lf) (.lf))) (.nd 6755399441055935 (.nd 941 (.lf) (.lf)) (.nd 231 (.lf) (.lf))))) (.nd 5 (.nd 5 (.nd 29 (.nd 5 (.nd 1 (.lf) (.lf)) (.lf)) (.nd 509 (.lf) (.lf))) (.nd 15 (.nd 979 (.lf) (.lf)) (.nd 4227535 (.lf) (.lf)))) (.nd 5 (.nd 19 (.nd 23 (.nd 1 (.lf) (.lf)) (.lf)) (.nd 131597 (.lf) (.lf))) (.nd 31 (.nd 63 (.lf) (.lf)) (.nd 1 (.lf) (.lf)))))) (.nd 1581043 (.nd 499 (.nd 5 (.nd 5 (.nd 3 (.nd 1 (.lf) (.lf)) (.lf)) (.nd 125 (.lf) (.lf))) (.nd 243 (.nd 7 (.lf) (.lf)) (.nd 487 (.lf) (.lf)))) (.nd 13 (.nd 111 (.nd 3063 (.nd 1 (.lf) (.lf)) (.lf)) (.nd 983 (.lf) (.lf))) (.nd 493 (.nd 941 (.lf) (.lf)) (.nd 16371 (.lf) (.lf))))) (.nd 5 (.nd 16383 (.nd 4588487 (.nd 10889056510697079089174601620421571887099 (.nd 1 (.lf) (.lf)) (.lf)) (.nd 100663411 (.lf) (.lf))) (.nd 7 (.nd 979 (.lf) (.lf)) (.nd 1011 (.lf) (.lf)))) (.nd 146804723 (.nd 125 (.nd 1218961425097770078832471 (.lf) (.lf)) (.nd 470302973 (.lf) (.lf))) (.nd 15 (.nd 125 (.lf) (.lf)) (.nd 1 (.lf) (.lf)))))))
noncomputable def masks : Nat → Nat := fun n => Cx.Tr.get 0 masksT n
theorem pok : Cx.POk Tryz.prog := Cx.pokB_spec (by kernel_rfl)
theorem awake_ev : (match Cx.callFF Tryz.prog [] [] [] masks 100000 60 5 [] ⟨.lf, 0⟩ with | .ok (.bool b) _ => b == true | _ => false) = true := by kernel_rfl
/-- what is told of the law's own look -/
def X1 : Cs := fun f args => if f = 5 then match args with
  | [] => some (.d (.bool true), [])
  | _ => none else none
theorem X1_meets (f : Nat) : Meets (fun _ _ => none) Tryz.prog f (X1 f) := by
  intro m w args vs bs hmg hc hr hn ho r args' hs
  unfold X1 at hs
  split at hs
  · rename_i hf
    subst hf
    split at hs
    · cases hs
      cases hr
      exact Cx.meets_bool pok awake_ev hc
    · cases hs
  · cases hs
noncomputable def L : Cs := lim tab1 X1
theorem meets1 (f : Nat) : Meets (fun _ _ => none) Tryz.prog f (L f) := lim_meets tab1_ok (fun f _ => X1_meets f) f
theorem hansomlaw27_awake_L (r : Bool) (h : hansomlaw27_awake = some r) : L 5 [] = some (.d (.bool r), []) := by
  cases h
  exact lim_ext rfl rfl
end Go.Es.Lbh
