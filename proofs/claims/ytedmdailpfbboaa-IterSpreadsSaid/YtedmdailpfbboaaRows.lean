/-
  NARROWER THAN 'FOR EVERY INPUT', by the rows' own cells (each row's printed sentence says how): IterSpreads: loops.
  DERIVED. THE GIVEN ROWS OF THIS SEAT. 12 by the template 'for every input the law returns true; each argument reads behind the call as it read before'; 0 by the template 'total and deterministic' (their statements: YtedmdailpfbboaaTotals.lean).
  GIVEN WITH THE SEED: the statements are not yours to turn. If you find one false, say at which input.
  Laid BY PROGRAM, IN A SANDBOX (cutbox-rows.mjs): the forced cells as the released guide's own fill.sh prints them over the translation 5ff0cf0e66ff4fc1… (all of the seat's roots in one cut). By AI agents, Wed Nov 11 2026. No macro, syntax, notation, axiom, sorry.
-/
import Derived.Test.YtedmdailpfbboaaChecked
import GoSem.Claim
import GoSem.ClaimJoined
import GoSem.ClaimMapViews
import Derived.JoinedTies
import Derived.KernelRfl
namespace Go.Proofs.Ytedmdailpfbboaa
/- THE CELL 'sum', in the pinned program and in every row, IS THE sha256 OF THE DUMP (.gsa) THAT YtedmdailpfbboaaProg.lean LOADS. Nothing in Lean hashes anything: it is a label: what it is worth is what the hold of that sum in a sandbox is worth. -/
noncomputable def Try.pinned : Pinned := { name := "ytedmdailpfbboaa", sum := "5ff0cf0e66ff4fc14a9df62a6df58463c81d40228642d69f92365a1f3b7ce7e5", checked := Try.checked }
namespace Rows
def none {H : Type} : Left H := { results := [], args := [] }

/-- 'hansomlaw19.IndexPuts': WHATEVER THE INPUT: true; the input reads as it did. -/
def indexPutsSpec : ChangeSpec := { name := "indexPuts", fn := fun _ => fun
  | [d1, d2, d3] => { results := [.lit (.bool true)], args := [d1, d2, d3] }
  | _ => none }
def indexPutsRow : OpenClaim := { program := "ytedmdailpfbboaa", sum := "5ff0cf0e66ff4fc14a9df62a6df58463c81d40228642d69f92365a1f3b7ce7e5", func := "hansom/hansomlaw19.IndexPuts", spec := "indexPuts", apart := false }
def IndexPutsSaid : Prop := indexPutsRow.holds Try.pinned (OpenSpec.ofChange indexPutsSpec)

/-- ITS FALSE NEIGHBOUR: 'it returns false'. Refute it at one input. -/
def indexPutsWrong : ChangeSpec := { name := "indexPuts", fn := fun _ => fun
  | [d1, d2, d3] => { results := [.lit (.bool false)], args := [d1, d2, d3] }
  | _ => none }
def IndexPutsWrongFalsely : Prop := indexPutsRow.holds Try.pinned (OpenSpec.ofChange indexPutsWrong)

/-- 'hansomlaw19.IndexShort': WHATEVER THE INPUT: true; the input reads as it did. -/
def indexShortSpec : ChangeSpec := { name := "indexShort", fn := fun _ => fun
  | [d1, d2, d3] => { results := [.lit (.bool true)], args := [d1, d2, d3] }
  | _ => none }
def indexShortRow : OpenClaim := { program := "ytedmdailpfbboaa", sum := "5ff0cf0e66ff4fc14a9df62a6df58463c81d40228642d69f92365a1f3b7ce7e5", func := "hansom/hansomlaw19.IndexShort", spec := "indexShort", apart := false }
def IndexShortSaid : Prop := indexShortRow.holds Try.pinned (OpenSpec.ofChange indexShortSpec)

/-- ITS FALSE NEIGHBOUR: 'it returns false'. Refute it at one input. -/
def indexShortWrong : ChangeSpec := { name := "indexShort", fn := fun _ => fun
  | [d1, d2, d3] => { results := [.lit (.bool false)], args := [d1, d2, d3] }
  | _ => none }
def IndexShortWrongFalsely : Prop := indexShortRow.holds Try.pinned (OpenSpec.ofChange indexShortWrong)

/-- 'hansomlaw19.IndexBack': WHATEVER THE INPUT: true; the input reads as it did. -/
def indexBackSpec : ChangeSpec := { name := "indexBack", fn := fun _ => fun
  | [d1, d2] => { results := [.lit (.bool true)], args := [d1, d2] }
  | _ => none }
def indexBackRow : OpenClaim := { program := "ytedmdailpfbboaa", sum := "5ff0cf0e66ff4fc14a9df62a6df58463c81d40228642d69f92365a1f3b7ce7e5", func := "hansom/hansomlaw19.IndexBack", spec := "indexBack", apart := false }
def IndexBackSaid : Prop := indexBackRow.holds Try.pinned (OpenSpec.ofChange indexBackSpec)

/-- ITS FALSE NEIGHBOUR: 'it returns false'. Refute it at one input. -/
def indexBackWrong : ChangeSpec := { name := "indexBack", fn := fun _ => fun
  | [d1, d2] => { results := [.lit (.bool false)], args := [d1, d2] }
  | _ => none }
def IndexBackWrongFalsely : Prop := indexBackRow.holds Try.pinned (OpenSpec.ofChange indexBackWrong)

/-- 'hansomlaw22.PubsGiven': WHATEVER THE INPUT: true; the input reads as it did. -/
def pubsGivenSpec : ChangeSpec := { name := "pubsGiven", fn := fun _ => fun
  | [d1, d2] => { results := [.lit (.bool true)], args := [d1, d2] }
  | _ => none }
def pubsGivenRow : OpenClaim := { program := "ytedmdailpfbboaa", sum := "5ff0cf0e66ff4fc14a9df62a6df58463c81d40228642d69f92365a1f3b7ce7e5", func := "hansom/hansomlaw22.PubsGiven", spec := "pubsGiven", apart := false }
def PubsGivenSaid : Prop := pubsGivenRow.holds Try.pinned (OpenSpec.ofChange pubsGivenSpec)

/-- ITS FALSE NEIGHBOUR: 'it returns false'. Refute it at one input. -/
def pubsGivenWrong : ChangeSpec := { name := "pubsGiven", fn := fun _ => fun
  | [d1, d2] => { results := [.lit (.bool false)], args := [d1, d2] }
  | _ => none }
def PubsGivenWrongFalsely : Prop := pubsGivenRow.holds Try.pinned (OpenSpec.ofChange pubsGivenWrong)

/-- 'hansomlaw23.DataBack': WHATEVER THE INPUT: true; the input reads as it did. -/
def dataBackSpec : ChangeSpec := { name := "dataBack", fn := fun _ => fun
  | [d1, d2] => { results := [.lit (.bool true)], args := [d1, d2] }
  | _ => none }
def dataBackRow : OpenClaim := { program := "ytedmdailpfbboaa", sum := "5ff0cf0e66ff4fc14a9df62a6df58463c81d40228642d69f92365a1f3b7ce7e5", func := "hansom/hansomlaw23.DataBack", spec := "dataBack", apart := false }
def DataBackSaid : Prop := dataBackRow.holds Try.pinned (OpenSpec.ofChange dataBackSpec)

/-- ITS FALSE NEIGHBOUR: 'it returns false'. Refute it at one input. -/
def dataBackWrong : ChangeSpec := { name := "dataBack", fn := fun _ => fun
  | [d1, d2] => { results := [.lit (.bool false)], args := [d1, d2] }
  | _ => none }
def DataBackWrongFalsely : Prop := dataBackRow.holds Try.pinned (OpenSpec.ofChange dataBackWrong)

/-- 'hansomlaw23.DataAny': WHATEVER THE INPUT: true; the input reads as it did. -/
def dataAnySpec : ChangeSpec := { name := "dataAny", fn := fun _ => fun
  | [d] => { results := [.lit (.bool true)], args := [d] }
  | _ => none }
def dataAnyRow : OpenClaim := { program := "ytedmdailpfbboaa", sum := "5ff0cf0e66ff4fc14a9df62a6df58463c81d40228642d69f92365a1f3b7ce7e5", func := "hansom/hansomlaw23.DataAny", spec := "dataAny", apart := false }
def DataAnySaid : Prop := dataAnyRow.holds Try.pinned (OpenSpec.ofChange dataAnySpec)

/-- ITS FALSE NEIGHBOUR: 'it returns false'. Refute it at one input. -/
def dataAnyWrong : ChangeSpec := { name := "dataAny", fn := fun _ => fun
  | [d] => { results := [.lit (.bool false)], args := [d] }
  | _ => none }
def DataAnyWrongFalsely : Prop := dataAnyRow.holds Try.pinned (OpenSpec.ofChange dataAnyWrong)

/-- 'hansomlaw24.IterSpreads': WHATEVER THE INPUT: true; the input reads as it did. -/
def iterSpreadsSpec : ChangeSpec := { name := "iterSpreads", fn := fun _ => fun
  | [d1, d2] => { results := [.lit (.bool true)], args := [d1, d2] }
  | _ => none }
def iterSpreadsRow : OpenClaim := { program := "ytedmdailpfbboaa", sum := "5ff0cf0e66ff4fc14a9df62a6df58463c81d40228642d69f92365a1f3b7ce7e5", func := "hansom/hansomlaw24.IterSpreads", spec := "iterSpreads", recurses := true, loops := true, apart := false }
def IterSpreadsSaid : Prop := iterSpreadsRow.holds Try.pinned (OpenSpec.ofChange iterSpreadsSpec)

/-- ITS FALSE NEIGHBOUR: 'it returns false'. Refute it at one input. -/
def iterSpreadsWrong : ChangeSpec := { name := "iterSpreads", fn := fun _ => fun
  | [d1, d2] => { results := [.lit (.bool false)], args := [d1, d2] }
  | _ => none }
def IterSpreadsWrongFalsely : Prop := iterSpreadsRow.holds Try.pinned (OpenSpec.ofChange iterSpreadsWrong)

/-- 'hansomlaw23.DataCut': WHATEVER THE INPUT: true; the input reads as it did. -/
def dataCutSpec : ChangeSpec := { name := "dataCut", fn := fun _ => fun
  | [d1, d2, d3] => { results := [.lit (.bool true)], args := [d1, d2, d3] }
  | _ => none }
def dataCutRow : OpenClaim := { program := "ytedmdailpfbboaa", sum := "5ff0cf0e66ff4fc14a9df62a6df58463c81d40228642d69f92365a1f3b7ce7e5", func := "hansom/hansomlaw23.DataCut", spec := "dataCut", apart := false }
def DataCutSaid : Prop := dataCutRow.holds Try.pinned (OpenSpec.ofChange dataCutSpec)

/-- ITS FALSE NEIGHBOUR: 'it returns false'. Refute it at one input. -/
def dataCutWrong : ChangeSpec := { name := "dataCut", fn := fun _ => fun
  | [d1, d2, d3] => { results := [.lit (.bool false)], args := [d1, d2, d3] }
  | _ => none }
def DataCutWrongFalsely : Prop := dataCutRow.holds Try.pinned (OpenSpec.ofChange dataCutWrong)

/-- 'hansomlaw22.PubsTaken': WHATEVER THE INPUT: true; the input reads as it did. -/
def pubsTakenSpec : ChangeSpec := { name := "pubsTaken", fn := fun _ => fun
  | [d1, d2] => { results := [.lit (.bool true)], args := [d1, d2] }
  | _ => none }
def pubsTakenRow : OpenClaim := { program := "ytedmdailpfbboaa", sum := "5ff0cf0e66ff4fc14a9df62a6df58463c81d40228642d69f92365a1f3b7ce7e5", func := "hansom/hansomlaw22.PubsTaken", spec := "pubsTaken", apart := false }
def PubsTakenSaid : Prop := pubsTakenRow.holds Try.pinned (OpenSpec.ofChange pubsTakenSpec)

/-- ITS FALSE NEIGHBOUR: 'it returns false'. Refute it at one input. -/
def pubsTakenWrong : ChangeSpec := { name := "pubsTaken", fn := fun _ => fun
  | [d1, d2] => { results := [.lit (.bool false)], args := [d1, d2] }
  | _ => none }
def PubsTakenWrongFalsely : Prop := pubsTakenRow.holds Try.pinned (OpenSpec.ofChange pubsTakenWrong)

/-- 'hansomlaw21.SegsDef': WHATEVER THE INPUT: true; the input reads as it did. -/
def segsDefSpec : ChangeSpec := { name := "segsDef", fn := fun _ => fun
  | [d1, d2] => { results := [.lit (.bool true)], args := [d1, d2] }
  | _ => none }
def segsDefRow : OpenClaim := { program := "ytedmdailpfbboaa", sum := "5ff0cf0e66ff4fc14a9df62a6df58463c81d40228642d69f92365a1f3b7ce7e5", func := "hansom/hansomlaw21.SegsDef", spec := "segsDef", apart := false }
def SegsDefSaid : Prop := segsDefRow.holds Try.pinned (OpenSpec.ofChange segsDefSpec)

/-- ITS FALSE NEIGHBOUR: 'it returns false'. Refute it at one input. -/
def segsDefWrong : ChangeSpec := { name := "segsDef", fn := fun _ => fun
  | [d1, d2] => { results := [.lit (.bool false)], args := [d1, d2] }
  | _ => none }
def SegsDefWrongFalsely : Prop := segsDefRow.holds Try.pinned (OpenSpec.ofChange segsDefWrong)

/-- 'hansomlaw21.SegsAny': WHATEVER THE INPUT: true; the input reads as it did. -/
def segsAnySpec : ChangeSpec := { name := "segsAny", fn := fun _ => fun
  | [d1, d2, d3] => { results := [.lit (.bool true)], args := [d1, d2, d3] }
  | _ => none }
def segsAnyRow : OpenClaim := { program := "ytedmdailpfbboaa", sum := "5ff0cf0e66ff4fc14a9df62a6df58463c81d40228642d69f92365a1f3b7ce7e5", func := "hansom/hansomlaw21.SegsAny", spec := "segsAny", apart := false }
def SegsAnySaid : Prop := segsAnyRow.holds Try.pinned (OpenSpec.ofChange segsAnySpec)

/-- ITS FALSE NEIGHBOUR: 'it returns false'. Refute it at one input. -/
def segsAnyWrong : ChangeSpec := { name := "segsAny", fn := fun _ => fun
  | [d1, d2, d3] => { results := [.lit (.bool false)], args := [d1, d2, d3] }
  | _ => none }
def SegsAnyWrongFalsely : Prop := segsAnyRow.holds Try.pinned (OpenSpec.ofChange segsAnyWrong)

/-- 'hansomlaw21.SegsGroup': WHATEVER THE INPUT: true; the input reads as it did. -/
def segsGroupSpec : ChangeSpec := { name := "segsGroup", fn := fun _ => fun
  | [d1, d2, d3] => { results := [.lit (.bool true)], args := [d1, d2, d3] }
  | _ => none }
def segsGroupRow : OpenClaim := { program := "ytedmdailpfbboaa", sum := "5ff0cf0e66ff4fc14a9df62a6df58463c81d40228642d69f92365a1f3b7ce7e5", func := "hansom/hansomlaw21.SegsGroup", spec := "segsGroup", apart := false }
def SegsGroupSaid : Prop := segsGroupRow.holds Try.pinned (OpenSpec.ofChange segsGroupSpec)

/-- ITS FALSE NEIGHBOUR: 'it returns false'. Refute it at one input. -/
def segsGroupWrong : ChangeSpec := { name := "segsGroup", fn := fun _ => fun
  | [d1, d2, d3] => { results := [.lit (.bool false)], args := [d1, d2, d3] }
  | _ => none }
def SegsGroupWrongFalsely : Prop := segsGroupRow.holds Try.pinned (OpenSpec.ofChange segsGroupWrong)

/- THE SECOND FORM. 'bulk': how many values and letters a reading holds, each counted each time it is reached (what is shared counts as often as it is met; a slice's spare places count too). A statement '..UptoSaid' is the law's where the arguments, and the package variables that the reading takes, are together of bulk at most 1048576: NARROWER than '..Said'. Prove '..Said' where nothing that the law and all that it calls make is longer than what came in: it says more and counts as full. Else prove '..UptoSaid'. A law counts once. -/
mutual
def uptoBulk {H : Type} : DataW H → Nat
  | .lit (.string bytes) => bytes.length + 1
  | .lit _ => 1
  | .nil => 1
  | .ptr d => uptoBulk d + 1
  | .slice elems spare => uptoBulkAll elems + uptoBulkAll spare + 1
  | .agg parts => uptoBulkAll parts + 1
  | .iface _ d => uptoBulk d + 1
  | .map entries => uptoBulkEntries entries + 1
  | .held _ => 1
def uptoBulkAll {H : Type} : List (DataW H) → Nat
  | [] => 0
  | d :: r => uptoBulk d + uptoBulkAll r
def uptoBulkEntries {H : Type} : List (Lit × DataW H) → Nat
  | [] => 0
  | x :: r => uptoBulkEntry x + uptoBulkEntries r
def uptoBulkEntry {H : Type} : Lit × DataW H → Nat
  | (.string bytes, d) => bytes.length + uptoBulk d + 1
  | (_, d) => uptoBulk d + 1
 end
def uptoSmall : (H : Type) → List (DataW H) → Bool := fun _ ds => decide (uptoBulkAll ds ≤ 1048576)
def OpenSpec.upto (s : _root_.Go.ChangeSpec) : _root_.Go.OpenSpec := { _root_.Go.OpenSpec.ofChange s with cond := some uptoSmall }

/-- 'hansomlaw19.IndexPuts', WHERE WHAT IT READS IS OF BULK AT MOST 1048576: true; the input reads as it did. -/
def indexPutsUptoRow : OpenClaim := { program := "ytedmdailpfbboaa", sum := "5ff0cf0e66ff4fc14a9df62a6df58463c81d40228642d69f92365a1f3b7ce7e5", func := "hansom/hansomlaw19.IndexPuts", spec := "indexPuts", apart := false, narrowed := true }
def IndexPutsUptoSaid : Prop := indexPutsUptoRow.holds Try.pinned (OpenSpec.upto indexPutsSpec)

/-- 'hansomlaw19.IndexShort', WHERE WHAT IT READS IS OF BULK AT MOST 1048576: true; the input reads as it did. -/
def indexShortUptoRow : OpenClaim := { program := "ytedmdailpfbboaa", sum := "5ff0cf0e66ff4fc14a9df62a6df58463c81d40228642d69f92365a1f3b7ce7e5", func := "hansom/hansomlaw19.IndexShort", spec := "indexShort", apart := false, narrowed := true }
def IndexShortUptoSaid : Prop := indexShortUptoRow.holds Try.pinned (OpenSpec.upto indexShortSpec)

/-- 'hansomlaw19.IndexBack', WHERE WHAT IT READS IS OF BULK AT MOST 1048576: true; the input reads as it did. -/
def indexBackUptoRow : OpenClaim := { program := "ytedmdailpfbboaa", sum := "5ff0cf0e66ff4fc14a9df62a6df58463c81d40228642d69f92365a1f3b7ce7e5", func := "hansom/hansomlaw19.IndexBack", spec := "indexBack", apart := false, narrowed := true }
def IndexBackUptoSaid : Prop := indexBackUptoRow.holds Try.pinned (OpenSpec.upto indexBackSpec)

/-- 'hansomlaw22.PubsGiven', WHERE WHAT IT READS IS OF BULK AT MOST 1048576: true; the input reads as it did. -/
def pubsGivenUptoRow : OpenClaim := { program := "ytedmdailpfbboaa", sum := "5ff0cf0e66ff4fc14a9df62a6df58463c81d40228642d69f92365a1f3b7ce7e5", func := "hansom/hansomlaw22.PubsGiven", spec := "pubsGiven", apart := false, narrowed := true }
def PubsGivenUptoSaid : Prop := pubsGivenUptoRow.holds Try.pinned (OpenSpec.upto pubsGivenSpec)

/-- 'hansomlaw23.DataBack', WHERE WHAT IT READS IS OF BULK AT MOST 1048576: true; the input reads as it did. -/
def dataBackUptoRow : OpenClaim := { program := "ytedmdailpfbboaa", sum := "5ff0cf0e66ff4fc14a9df62a6df58463c81d40228642d69f92365a1f3b7ce7e5", func := "hansom/hansomlaw23.DataBack", spec := "dataBack", apart := false, narrowed := true }
def DataBackUptoSaid : Prop := dataBackUptoRow.holds Try.pinned (OpenSpec.upto dataBackSpec)

/-- 'hansomlaw23.DataAny', WHERE WHAT IT READS IS OF BULK AT MOST 1048576: true; the input reads as it did. -/
def dataAnyUptoRow : OpenClaim := { program := "ytedmdailpfbboaa", sum := "5ff0cf0e66ff4fc14a9df62a6df58463c81d40228642d69f92365a1f3b7ce7e5", func := "hansom/hansomlaw23.DataAny", spec := "dataAny", apart := false, narrowed := true }
def DataAnyUptoSaid : Prop := dataAnyUptoRow.holds Try.pinned (OpenSpec.upto dataAnySpec)

/-- 'hansomlaw24.IterSpreads', WHERE WHAT IT READS IS OF BULK AT MOST 1048576: true; the input reads as it did. -/
def iterSpreadsUptoRow : OpenClaim := { program := "ytedmdailpfbboaa", sum := "5ff0cf0e66ff4fc14a9df62a6df58463c81d40228642d69f92365a1f3b7ce7e5", func := "hansom/hansomlaw24.IterSpreads", spec := "iterSpreads", recurses := true, loops := true, apart := false, narrowed := true }
def IterSpreadsUptoSaid : Prop := iterSpreadsUptoRow.holds Try.pinned (OpenSpec.upto iterSpreadsSpec)

/-- 'hansomlaw23.DataCut', WHERE WHAT IT READS IS OF BULK AT MOST 1048576: true; the input reads as it did. -/
def dataCutUptoRow : OpenClaim := { program := "ytedmdailpfbboaa", sum := "5ff0cf0e66ff4fc14a9df62a6df58463c81d40228642d69f92365a1f3b7ce7e5", func := "hansom/hansomlaw23.DataCut", spec := "dataCut", apart := false, narrowed := true }
def DataCutUptoSaid : Prop := dataCutUptoRow.holds Try.pinned (OpenSpec.upto dataCutSpec)

/-- 'hansomlaw22.PubsTaken', WHERE WHAT IT READS IS OF BULK AT MOST 1048576: true; the input reads as it did. -/
def pubsTakenUptoRow : OpenClaim := { program := "ytedmdailpfbboaa", sum := "5ff0cf0e66ff4fc14a9df62a6df58463c81d40228642d69f92365a1f3b7ce7e5", func := "hansom/hansomlaw22.PubsTaken", spec := "pubsTaken", apart := false, narrowed := true }
def PubsTakenUptoSaid : Prop := pubsTakenUptoRow.holds Try.pinned (OpenSpec.upto pubsTakenSpec)

/-- 'hansomlaw21.SegsDef', WHERE WHAT IT READS IS OF BULK AT MOST 1048576: true; the input reads as it did. -/
def segsDefUptoRow : OpenClaim := { program := "ytedmdailpfbboaa", sum := "5ff0cf0e66ff4fc14a9df62a6df58463c81d40228642d69f92365a1f3b7ce7e5", func := "hansom/hansomlaw21.SegsDef", spec := "segsDef", apart := false, narrowed := true }
def SegsDefUptoSaid : Prop := segsDefUptoRow.holds Try.pinned (OpenSpec.upto segsDefSpec)

/-- 'hansomlaw21.SegsAny', WHERE WHAT IT READS IS OF BULK AT MOST 1048576: true; the input reads as it did. -/
def segsAnyUptoRow : OpenClaim := { program := "ytedmdailpfbboaa", sum := "5ff0cf0e66ff4fc14a9df62a6df58463c81d40228642d69f92365a1f3b7ce7e5", func := "hansom/hansomlaw21.SegsAny", spec := "segsAny", apart := false, narrowed := true }
def SegsAnyUptoSaid : Prop := segsAnyUptoRow.holds Try.pinned (OpenSpec.upto segsAnySpec)

/-- 'hansomlaw21.SegsGroup', WHERE WHAT IT READS IS OF BULK AT MOST 1048576: true; the input reads as it did. -/
def segsGroupUptoRow : OpenClaim := { program := "ytedmdailpfbboaa", sum := "5ff0cf0e66ff4fc14a9df62a6df58463c81d40228642d69f92365a1f3b7ce7e5", func := "hansom/hansomlaw21.SegsGroup", spec := "segsGroup", apart := false, narrowed := true }
def SegsGroupUptoSaid : Prop := segsGroupUptoRow.holds Try.pinned (OpenSpec.upto segsGroupSpec)

end Rows
end Go.Proofs.Ytedmdailpfbboaa
