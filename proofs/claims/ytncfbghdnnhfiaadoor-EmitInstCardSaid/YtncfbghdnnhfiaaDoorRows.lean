/-
  NARROWER THAN 'FOR EVERY INPUT', by the rows' own cells (each row's printed sentence says how): CodePuts: laid · CodeOwn: laid · CodeAll: laid · EmitInst: laid.
  DERIVED. THE GIVEN ROWS OF THIS SEAT. 4 by the template 'for every input the law returns true; each argument reads behind the call as it read before'; 0 by the template 'total and deterministic' (their statements: YtncfbghdnnhfiaaDoorTotals.lean).
  GIVEN WITH THE SEED: the statements are not yours to turn. If you find one false, say at which input.
  Laid BY PROGRAM, IN A SANDBOX (cutbox-rows.mjs): the forced cells as the released guide's own fill.sh prints them over the translation 341bb7540fc6ec7e… (all of the seat's roots in one cut). By AI agents, Wed Nov 11 2026. No macro, syntax, notation, axiom, sorry.
-/
import Derived.Test.YtncfbghdnnhfiaaDoorChecked
import GoSem.Claim
import GoSem.ClaimJoined
import GoSem.ClaimMapViews
import Derived.JoinedTies
import Derived.KernelRfl
namespace Go.Proofs.YtncfbghdnnhfiaaDoor
/- THE CELL 'sum', in the pinned program and in every row, IS THE sha256 OF THE DUMP (.gsa) THAT YtncfbghdnnhfiaaDoorProg.lean LOADS. Nothing in Lean hashes anything: it is a label: what it is worth is what the hold of that sum in a sandbox is worth. -/
noncomputable def Tryd.pinned : Pinned := { name := "ytncfbghdnnhfiaadoor", sum := "341bb7540fc6ec7eca768432b65608eac5050ea37c091ad3a9f096b5bafcbd40", checked := Tryd.checked }
namespace Rows
def none {H : Type} : Left H := { results := [], args := [] }

/- WHAT THE LISTED PACKAGE-LEVEL VARIABLES READ AS WHEN THE CALL BEGINS. Each datum BY PROGRAM (the guide's laid-datum.mjs) off the statement by which the dump's own 'gosem.cut.vars' lays the variable. In a bare row this is a premise. The card (YtncfbghdnnhfiaaDoorCards.lean) ties it to the program's text. -/
def laid_hansom_code_segs {H : Type} : DataW H := .agg [.lit (.int .u8 0), .lit (.int .u8 38), .lit (.int .u8 46), .lit (.int .u8 54), .lit (.int .u8 62)]

/-- 'hansomlaw06.CodePuts': WHATEVER THE INPUT: true; the input reads as it did. -/
def codePutsSpec : ChangeSpec := { name := "codePuts", fn := fun _ => fun
  | [d1, d2] => { results := [.lit (.bool true)], args := [d1, d2] }
  | _ => none }
def codePutsRow : OpenClaim := { program := "ytncfbghdnnhfiaadoor", sum := "341bb7540fc6ec7eca768432b65608eac5050ea37c091ad3a9f096b5bafcbd40", func := "hansom/hansomlaw06.CodePuts", spec := "codePuts", named := ["hansom/code.segs"], apart := false, laid := [("hansom/code.segs", laid_hansom_code_segs)] }
def CodePutsSaid : Prop := codePutsRow.holds Tryd.pinned (OpenSpec.ofChange codePutsSpec)

/-- ITS FALSE NEIGHBOUR: 'it returns false'. Refute it at one input. -/
def codePutsWrong : ChangeSpec := { name := "codePuts", fn := fun _ => fun
  | [d1, d2] => { results := [.lit (.bool false)], args := [d1, d2] }
  | _ => none }
def CodePutsWrongFalsely : Prop := codePutsRow.holds Tryd.pinned (OpenSpec.ofChange codePutsWrong)

/-- 'hansomlaw06.CodeOwn': WHATEVER THE INPUT: true; the input reads as it did. -/
def codeOwnSpec : ChangeSpec := { name := "codeOwn", fn := fun _ => fun
  | [d1, d2] => { results := [.lit (.bool true)], args := [d1, d2] }
  | _ => none }
def codeOwnRow : OpenClaim := { program := "ytncfbghdnnhfiaadoor", sum := "341bb7540fc6ec7eca768432b65608eac5050ea37c091ad3a9f096b5bafcbd40", func := "hansom/hansomlaw06.CodeOwn", spec := "codeOwn", named := ["hansom/code.segs"], apart := false, laid := [("hansom/code.segs", laid_hansom_code_segs)] }
def CodeOwnSaid : Prop := codeOwnRow.holds Tryd.pinned (OpenSpec.ofChange codeOwnSpec)

/-- ITS FALSE NEIGHBOUR: 'it returns false'. Refute it at one input. -/
def codeOwnWrong : ChangeSpec := { name := "codeOwn", fn := fun _ => fun
  | [d1, d2] => { results := [.lit (.bool false)], args := [d1, d2] }
  | _ => none }
def CodeOwnWrongFalsely : Prop := codeOwnRow.holds Tryd.pinned (OpenSpec.ofChange codeOwnWrong)

/-- 'hansomlaw06.CodeAll': WHATEVER THE INPUT: true; the input reads as it did. -/
def codeAllSpec : ChangeSpec := { name := "codeAll", fn := fun _ => fun
  | [d1, d2] => { results := [.lit (.bool true)], args := [d1, d2] }
  | _ => none }
def codeAllRow : OpenClaim := { program := "ytncfbghdnnhfiaadoor", sum := "341bb7540fc6ec7eca768432b65608eac5050ea37c091ad3a9f096b5bafcbd40", func := "hansom/hansomlaw06.CodeAll", spec := "codeAll", named := ["hansom/code.segs"], apart := false, laid := [("hansom/code.segs", laid_hansom_code_segs)] }
def CodeAllSaid : Prop := codeAllRow.holds Tryd.pinned (OpenSpec.ofChange codeAllSpec)

/-- ITS FALSE NEIGHBOUR: 'it returns false'. Refute it at one input. -/
def codeAllWrong : ChangeSpec := { name := "codeAll", fn := fun _ => fun
  | [d1, d2] => { results := [.lit (.bool false)], args := [d1, d2] }
  | _ => none }
def CodeAllWrongFalsely : Prop := codeAllRow.holds Tryd.pinned (OpenSpec.ofChange codeAllWrong)

/-- 'hansomlaw37.EmitInst': WHATEVER THE INPUT: true; the input reads as it did. -/
def emitInstSpec : ChangeSpec := { name := "emitInst", fn := fun _ => fun
  | [d1, d2, d3] => { results := [.lit (.bool true)], args := [d1, d2, d3] }
  | _ => none }
def emitInstRow : OpenClaim := { program := "ytncfbghdnnhfiaadoor", sum := "341bb7540fc6ec7eca768432b65608eac5050ea37c091ad3a9f096b5bafcbd40", func := "hansom/hansomlaw37.EmitInst", spec := "emitInst", named := ["hansom/code.segs"], apart := false, laid := [("hansom/code.segs", laid_hansom_code_segs)] }
def EmitInstSaid : Prop := emitInstRow.holds Tryd.pinned (OpenSpec.ofChange emitInstSpec)

/-- ITS FALSE NEIGHBOUR: 'it returns false'. Refute it at one input. -/
def emitInstWrong : ChangeSpec := { name := "emitInst", fn := fun _ => fun
  | [d1, d2, d3] => { results := [.lit (.bool false)], args := [d1, d2, d3] }
  | _ => none }
def EmitInstWrongFalsely : Prop := emitInstRow.holds Tryd.pinned (OpenSpec.ofChange emitInstWrong)

/- THE SECOND FORM. 'bulk': how many values and letters a reading holds, each counted each time it is reached (what is shared counts as often as it is met; a slice's spare places count too). A statement '..UptoSaid' is the law's where the arguments, and the package variables that the reading takes, are together of bulk at most 1048576: NARROWER than '..Said'. Prove '..Said' where nothing that the law and all that it calls make is longer than what came in: it says more and counts as full. Else prove '..UptoSaid'. A law counts once. -/
mutual
def uptoBulk {H : Type} : DataW H → Nat
  | .lit (.string bytes) => bytes.length + 1
  | .lit _ => 1
  | .nil => 1
  | .ptr d => uptoBulk d + 1
  | .slice elems spare => uptoBulkAll elems + uptoBulkAll spare + 1
  | .agg parts => uptoBulkAll parts + 1
  | .iface _ d => uptoBulk d + 1
  | .map entries => uptoBulkEntries entries + 1
  | .held _ => 1
def uptoBulkAll {H : Type} : List (DataW H) → Nat
  | [] => 0
  | d :: r => uptoBulk d + uptoBulkAll r
def uptoBulkEntries {H : Type} : List (Lit × DataW H) → Nat
  | [] => 0
  | x :: r => uptoBulkEntry x + uptoBulkEntries r
def uptoBulkEntry {H : Type} : Lit × DataW H → Nat
  | (.string bytes, d) => bytes.length + uptoBulk d + 1
  | (_, d) => uptoBulk d + 1
 end
def uptoSmall : (H : Type) → List (DataW H) → Bool := fun _ ds => decide (uptoBulkAll ds ≤ 1048576)
def OpenSpec.upto (s : _root_.Go.ChangeSpec) : _root_.Go.OpenSpec := { _root_.Go.OpenSpec.ofChange s with cond := some uptoSmall }

/-- 'hansomlaw06.CodePuts', WHERE WHAT IT READS IS OF BULK AT MOST 1048576: true; the input reads as it did. -/
def codePutsUptoRow : OpenClaim := { program := "ytncfbghdnnhfiaadoor", sum := "341bb7540fc6ec7eca768432b65608eac5050ea37c091ad3a9f096b5bafcbd40", func := "hansom/hansomlaw06.CodePuts", spec := "codePuts", named := ["hansom/code.segs"], apart := false, laid := [("hansom/code.segs", laid_hansom_code_segs)], narrowed := true }
def CodePutsUptoSaid : Prop := codePutsUptoRow.holds Tryd.pinned (OpenSpec.upto codePutsSpec)

/-- 'hansomlaw06.CodeOwn', WHERE WHAT IT READS IS OF BULK AT MOST 1048576: true; the input reads as it did. -/
def codeOwnUptoRow : OpenClaim := { program := "ytncfbghdnnhfiaadoor", sum := "341bb7540fc6ec7eca768432b65608eac5050ea37c091ad3a9f096b5bafcbd40", func := "hansom/hansomlaw06.CodeOwn", spec := "codeOwn", named := ["hansom/code.segs"], apart := false, laid := [("hansom/code.segs", laid_hansom_code_segs)], narrowed := true }
def CodeOwnUptoSaid : Prop := codeOwnUptoRow.holds Tryd.pinned (OpenSpec.upto codeOwnSpec)

/-- 'hansomlaw06.CodeAll', WHERE WHAT IT READS IS OF BULK AT MOST 1048576: true; the input reads as it did. -/
def codeAllUptoRow : OpenClaim := { program := "ytncfbghdnnhfiaadoor", sum := "341bb7540fc6ec7eca768432b65608eac5050ea37c091ad3a9f096b5bafcbd40", func := "hansom/hansomlaw06.CodeAll", spec := "codeAll", named := ["hansom/code.segs"], apart := false, laid := [("hansom/code.segs", laid_hansom_code_segs)], narrowed := true }
def CodeAllUptoSaid : Prop := codeAllUptoRow.holds Tryd.pinned (OpenSpec.upto codeAllSpec)

/-- 'hansomlaw37.EmitInst', WHERE WHAT IT READS IS OF BULK AT MOST 1048576: true; the input reads as it did. -/
def emitInstUptoRow : OpenClaim := { program := "ytncfbghdnnhfiaadoor", sum := "341bb7540fc6ec7eca768432b65608eac5050ea37c091ad3a9f096b5bafcbd40", func := "hansom/hansomlaw37.EmitInst", spec := "emitInst", named := ["hansom/code.segs"], apart := false, laid := [("hansom/code.segs", laid_hansom_code_segs)], narrowed := true }
def EmitInstUptoSaid : Prop := emitInstUptoRow.holds Tryd.pinned (OpenSpec.upto emitInstSpec)

end Rows
end Go.Proofs.YtncfbghdnnhfiaaDoor
