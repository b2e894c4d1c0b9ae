/-
  No cell of these rows narrows 'for every input' (looked for: loops, veiled, ifaces, maps, wideKeys, modest, calm, conditions, laid).
  DERIVED. THE GIVEN ROWS OF THIS SEAT. 8 by the template 'for every input the law returns true; each argument reads behind the call as it read before'; 0 by the template 'total and deterministic' (their statements: YtncfbghdnnhfiaaTotals.lean).
  GIVEN WITH THE SEED: the statements are not yours to turn. If you find one false, say at which input.
  Laid BY PROGRAM, IN A SANDBOX (cutbox-rows.mjs): the forced cells as the released guide's own fill.sh prints them over the translation 023fb4f965ff4472… (all of the seat's roots in one cut). By AI agents, Wed Nov 11 2026. No macro, syntax, notation, axiom, sorry.
-/
import Derived.Test.YtncfbghdnnhfiaaChecked
import GoSem.Claim
import GoSem.ClaimJoined
import GoSem.ClaimMapViews
import Derived.JoinedTies
import Derived.KernelRfl
namespace Go.Proofs.Ytncfbghdnnhfiaa
/- THE CELL 'sum', in the pinned program and in every row, IS THE sha256 OF THE DUMP (.gsa) THAT YtncfbghdnnhfiaaProg.lean LOADS. Nothing in Lean hashes anything: it is a label: what it is worth is what the hold of that sum in a sandbox is worth. -/
noncomputable def Try.pinned : Pinned := { name := "ytncfbghdnnhfiaa", sum := "023fb4f965ff447214a99fd974320cc49f17eaf6a48cb898d2e94f3c84bccc7c", checked := Try.checked }
namespace Rows
def none {H : Type} : Left H := { results := [], args := [] }

/-- 'hansomlaw04.IsaAll': WHATEVER THE INPUT: true; the input reads as it did. -/
def isaAllSpec : ChangeSpec := { name := "isaAll", fn := fun _ => fun
  | [d] => { results := [.lit (.bool true)], args := [d] }
  | _ => none }
def isaAllRow : OpenClaim := { program := "ytncfbghdnnhfiaa", sum := "023fb4f965ff447214a99fd974320cc49f17eaf6a48cb898d2e94f3c84bccc7c", func := "hansom/hansomlaw04.IsaAll", spec := "isaAll", apart := false }
def IsaAllSaid : Prop := isaAllRow.holds Try.pinned (OpenSpec.ofChange isaAllSpec)

/-- ITS FALSE NEIGHBOUR: 'it returns false'. Refute it at one input. -/
def isaAllWrong : ChangeSpec := { name := "isaAll", fn := fun _ => fun
  | [d] => { results := [.lit (.bool false)], args := [d] }
  | _ => none }
def IsaAllWrongFalsely : Prop := isaAllRow.holds Try.pinned (OpenSpec.ofChange isaAllWrong)

/-- 'hansomlaw04.IsaKinds': WHATEVER THE INPUT: true; the input reads as it did. -/
def isaKindsSpec : ChangeSpec := { name := "isaKinds", fn := fun _ => fun
  | [d1, d2, d3] => { results := [.lit (.bool true)], args := [d1, d2, d3] }
  | _ => none }
def isaKindsRow : OpenClaim := { program := "ytncfbghdnnhfiaa", sum := "023fb4f965ff447214a99fd974320cc49f17eaf6a48cb898d2e94f3c84bccc7c", func := "hansom/hansomlaw04.IsaKinds", spec := "isaKinds", apart := false }
def IsaKindsSaid : Prop := isaKindsRow.holds Try.pinned (OpenSpec.ofChange isaKindsSpec)

/-- ITS FALSE NEIGHBOUR: 'it returns false'. Refute it at one input. -/
def isaKindsWrong : ChangeSpec := { name := "isaKinds", fn := fun _ => fun
  | [d1, d2, d3] => { results := [.lit (.bool false)], args := [d1, d2, d3] }
  | _ => none }
def IsaKindsWrongFalsely : Prop := isaKindsRow.holds Try.pinned (OpenSpec.ofChange isaKindsWrong)

/-- 'hansomlaw04.IsaRows': WHATEVER THE INPUT: true; the input reads as it did. -/
def isaRowsSpec : ChangeSpec := { name := "isaRows", fn := fun _ => fun
  | [d1, d2] => { results := [.lit (.bool true)], args := [d1, d2] }
  | _ => none }
def isaRowsRow : OpenClaim := { program := "ytncfbghdnnhfiaa", sum := "023fb4f965ff447214a99fd974320cc49f17eaf6a48cb898d2e94f3c84bccc7c", func := "hansom/hansomlaw04.IsaRows", spec := "isaRows", apart := false }
def IsaRowsSaid : Prop := isaRowsRow.holds Try.pinned (OpenSpec.ofChange isaRowsSpec)

/-- ITS FALSE NEIGHBOUR: 'it returns false'. Refute it at one input. -/
def isaRowsWrong : ChangeSpec := { name := "isaRows", fn := fun _ => fun
  | [d1, d2] => { results := [.lit (.bool false)], args := [d1, d2] }
  | _ => none }
def IsaRowsWrongFalsely : Prop := isaRowsRow.holds Try.pinned (OpenSpec.ofChange isaRowsWrong)

/-- 'hansomlaw05.InstMay': WHATEVER THE INPUT: true; the input reads as it did. -/
def instMaySpec : ChangeSpec := { name := "instMay", fn := fun _ => fun
  | [d1, d2] => { results := [.lit (.bool true)], args := [d1, d2] }
  | _ => none }
def instMayRow : OpenClaim := { program := "ytncfbghdnnhfiaa", sum := "023fb4f965ff447214a99fd974320cc49f17eaf6a48cb898d2e94f3c84bccc7c", func := "hansom/hansomlaw05.InstMay", spec := "instMay", apart := false }
def InstMaySaid : Prop := instMayRow.holds Try.pinned (OpenSpec.ofChange instMaySpec)

/-- ITS FALSE NEIGHBOUR: 'it returns false'. Refute it at one input. -/
def instMayWrong : ChangeSpec := { name := "instMay", fn := fun _ => fun
  | [d1, d2] => { results := [.lit (.bool false)], args := [d1, d2] }
  | _ => none }
def InstMayWrongFalsely : Prop := instMayRow.holds Try.pinned (OpenSpec.ofChange instMayWrong)

/-- 'hansomlaw05.InstNear': WHATEVER THE INPUT: true; the input reads as it did. -/
def instNearSpec : ChangeSpec := { name := "instNear", fn := fun _ => fun
  | [d] => { results := [.lit (.bool true)], args := [d] }
  | _ => none }
def instNearRow : OpenClaim := { program := "ytncfbghdnnhfiaa", sum := "023fb4f965ff447214a99fd974320cc49f17eaf6a48cb898d2e94f3c84bccc7c", func := "hansom/hansomlaw05.InstNear", spec := "instNear", apart := false }
def InstNearSaid : Prop := instNearRow.holds Try.pinned (OpenSpec.ofChange instNearSpec)

/-- ITS FALSE NEIGHBOUR: 'it returns false'. Refute it at one input. -/
def instNearWrong : ChangeSpec := { name := "instNear", fn := fun _ => fun
  | [d] => { results := [.lit (.bool false)], args := [d] }
  | _ => none }
def InstNearWrongFalsely : Prop := instNearRow.holds Try.pinned (OpenSpec.ofChange instNearWrong)

/-- 'hansomlaw07.ScanBack': WHATEVER THE INPUT: true; the input reads as it did. -/
def scanBackSpec : ChangeSpec := { name := "scanBack", fn := fun _ => fun
  | [d1, d2] => { results := [.lit (.bool true)], args := [d1, d2] }
  | _ => none }
def scanBackRow : OpenClaim := { program := "ytncfbghdnnhfiaa", sum := "023fb4f965ff447214a99fd974320cc49f17eaf6a48cb898d2e94f3c84bccc7c", func := "hansom/hansomlaw07.ScanBack", spec := "scanBack", unfollowed := true, recurses := true, apart := false }
def ScanBackSaid : Prop := scanBackRow.holds Try.pinned (OpenSpec.ofChange scanBackSpec)

/-- ITS FALSE NEIGHBOUR: 'it returns false'. Refute it at one input. -/
def scanBackWrong : ChangeSpec := { name := "scanBack", fn := fun _ => fun
  | [d1, d2] => { results := [.lit (.bool false)], args := [d1, d2] }
  | _ => none }
def ScanBackWrongFalsely : Prop := scanBackRow.holds Try.pinned (OpenSpec.ofChange scanBackWrong)

/-- 'hansomlaw07.ScanAny': WHATEVER THE INPUT: true; the input reads as it did. -/
def scanAnySpec : ChangeSpec := { name := "scanAny", fn := fun _ => fun
  | [d1, d2, d3] => { results := [.lit (.bool true)], args := [d1, d2, d3] }
  | _ => none }
def scanAnyRow : OpenClaim := { program := "ytncfbghdnnhfiaa", sum := "023fb4f965ff447214a99fd974320cc49f17eaf6a48cb898d2e94f3c84bccc7c", func := "hansom/hansomlaw07.ScanAny", spec := "scanAny", unfollowed := true, recurses := true, apart := false }
def ScanAnySaid : Prop := scanAnyRow.holds Try.pinned (OpenSpec.ofChange scanAnySpec)

/-- ITS FALSE NEIGHBOUR: 'it returns false'. Refute it at one input. -/
def scanAnyWrong : ChangeSpec := { name := "scanAny", fn := fun _ => fun
  | [d1, d2, d3] => { results := [.lit (.bool false)], args := [d1, d2, d3] }
  | _ => none }
def ScanAnyWrongFalsely : Prop := scanAnyRow.holds Try.pinned (OpenSpec.ofChange scanAnyWrong)

/-- 'hansomlaw07.ScanAll': WHATEVER THE INPUT: true; the input reads as it did. -/
def scanAllSpec : ChangeSpec := { name := "scanAll", fn := fun _ => fun
  | [d1, d2] => { results := [.lit (.bool true)], args := [d1, d2] }
  | _ => none }
def scanAllRow : OpenClaim := { program := "ytncfbghdnnhfiaa", sum := "023fb4f965ff447214a99fd974320cc49f17eaf6a48cb898d2e94f3c84bccc7c", func := "hansom/hansomlaw07.ScanAll", spec := "scanAll", unfollowed := true, recurses := true, apart := false }
def ScanAllSaid : Prop := scanAllRow.holds Try.pinned (OpenSpec.ofChange scanAllSpec)

/-- ITS FALSE NEIGHBOUR: 'it returns false'. Refute it at one input. -/
def scanAllWrong : ChangeSpec := { name := "scanAll", fn := fun _ => fun
  | [d1, d2] => { results := [.lit (.bool false)], args := [d1, d2] }
  | _ => none }
def ScanAllWrongFalsely : Prop := scanAllRow.holds Try.pinned (OpenSpec.ofChange scanAllWrong)

/- THE SECOND FORM. 'bulk': how many values and letters a reading holds, each counted each time it is reached (what is shared counts as often as it is met; a slice's spare places count too). A statement '..UptoSaid' is the law's where the arguments, and the package variables that the reading takes, are together of bulk at most 1048576: NARROWER than '..Said'. Prove '..Said' where nothing that the law and all that it calls make is longer than what came in: it says more and counts as full. Else prove '..UptoSaid'. A law counts once. -/
mutual
def uptoBulk {H : Type} : DataW H → Nat
  | .lit (.string bytes) => bytes.length + 1
  | .lit _ => 1
  | .nil => 1
  | .ptr d => uptoBulk d + 1
  | .slice elems spare => uptoBulkAll elems + uptoBulkAll spare + 1
  | .agg parts => uptoBulkAll parts + 1
  | .iface _ d => uptoBulk d + 1
  | .map entries => uptoBulkEntries entries + 1
  | .held _ => 1
def uptoBulkAll {H : Type} : List (DataW H) → Nat
  | [] => 0
  | d :: r => uptoBulk d + uptoBulkAll r
def uptoBulkEntries {H : Type} : List (Lit × DataW H) → Nat
  | [] => 0
  | x :: r => uptoBulkEntry x + uptoBulkEntries r
def uptoBulkEntry {H : Type} : Lit × DataW H → Nat
  | (.string bytes, d) => bytes.length + uptoBulk d + 1
  | (_, d) => uptoBulk d + 1
 end
def uptoSmall : (H : Type) → List (DataW H) → Bool := fun _ ds => decide (uptoBulkAll ds ≤ 1048576)
def OpenSpec.upto (s : _root_.Go.ChangeSpec) : _root_.Go.OpenSpec := { _root_.Go.OpenSpec.ofChange s with cond := some uptoSmall }

/-- 'hansomlaw04.IsaAll', WHERE WHAT IT READS IS OF BULK AT MOST 1048576: true; the input reads as it did. -/
def isaAllUptoRow : OpenClaim := { program := "ytncfbghdnnhfiaa", sum := "023fb4f965ff447214a99fd974320cc49f17eaf6a48cb898d2e94f3c84bccc7c", func := "hansom/hansomlaw04.IsaAll", spec := "isaAll", apart := false, narrowed := true }
def IsaAllUptoSaid : Prop := isaAllUptoRow.holds Try.pinned (OpenSpec.upto isaAllSpec)

/-- 'hansomlaw04.IsaKinds', WHERE WHAT IT READS IS OF BULK AT MOST 1048576: true; the input reads as it did. -/
def isaKindsUptoRow : OpenClaim := { program := "ytncfbghdnnhfiaa", sum := "023fb4f965ff447214a99fd974320cc49f17eaf6a48cb898d2e94f3c84bccc7c", func := "hansom/hansomlaw04.IsaKinds", spec := "isaKinds", apart := false, narrowed := true }
def IsaKindsUptoSaid : Prop := isaKindsUptoRow.holds Try.pinned (OpenSpec.upto isaKindsSpec)

/-- 'hansomlaw04.IsaRows', WHERE WHAT IT READS IS OF BULK AT MOST 1048576: true; the input reads as it did. -/
def isaRowsUptoRow : OpenClaim := { program := "ytncfbghdnnhfiaa", sum := "023fb4f965ff447214a99fd974320cc49f17eaf6a48cb898d2e94f3c84bccc7c", func := "hansom/hansomlaw04.IsaRows", spec := "isaRows", apart := false, narrowed := true }
def IsaRowsUptoSaid : Prop := isaRowsUptoRow.holds Try.pinned (OpenSpec.upto isaRowsSpec)

/-- 'hansomlaw05.InstMay', WHERE WHAT IT READS IS OF BULK AT MOST 1048576: true; the input reads as it did. -/
def instMayUptoRow : OpenClaim := { program := "ytncfbghdnnhfiaa", sum := "023fb4f965ff447214a99fd974320cc49f17eaf6a48cb898d2e94f3c84bccc7c", func := "hansom/hansomlaw05.InstMay", spec := "instMay", apart := false, narrowed := true }
def InstMayUptoSaid : Prop := instMayUptoRow.holds Try.pinned (OpenSpec.upto instMaySpec)

/-- 'hansomlaw05.InstNear', WHERE WHAT IT READS IS OF BULK AT MOST 1048576: true; the input reads as it did. -/
def instNearUptoRow : OpenClaim := { program := "ytncfbghdnnhfiaa", sum := "023fb4f965ff447214a99fd974320cc49f17eaf6a48cb898d2e94f3c84bccc7c", func := "hansom/hansomlaw05.InstNear", spec := "instNear", apart := false, narrowed := true }
def InstNearUptoSaid : Prop := instNearUptoRow.holds Try.pinned (OpenSpec.upto instNearSpec)

/-- 'hansomlaw07.ScanBack', WHERE WHAT IT READS IS OF BULK AT MOST 1048576: true; the input reads as it did. -/
def scanBackUptoRow : OpenClaim := { program := "ytncfbghdnnhfiaa", sum := "023fb4f965ff447214a99fd974320cc49f17eaf6a48cb898d2e94f3c84bccc7c", func := "hansom/hansomlaw07.ScanBack", spec := "scanBack", unfollowed := true, recurses := true, apart := false, narrowed := true }
def ScanBackUptoSaid : Prop := scanBackUptoRow.holds Try.pinned (OpenSpec.upto scanBackSpec)

/-- 'hansomlaw07.ScanAny', WHERE WHAT IT READS IS OF BULK AT MOST 1048576: true; the input reads as it did. -/
def scanAnyUptoRow : OpenClaim := { program := "ytncfbghdnnhfiaa", sum := "023fb4f965ff447214a99fd974320cc49f17eaf6a48cb898d2e94f3c84bccc7c", func := "hansom/hansomlaw07.ScanAny", spec := "scanAny", unfollowed := true, recurses := true, apart := false, narrowed := true }
def ScanAnyUptoSaid : Prop := scanAnyUptoRow.holds Try.pinned (OpenSpec.upto scanAnySpec)

/-- 'hansomlaw07.ScanAll', WHERE WHAT IT READS IS OF BULK AT MOST 1048576: true; the input reads as it did. -/
def scanAllUptoRow : OpenClaim := { program := "ytncfbghdnnhfiaa", sum := "023fb4f965ff447214a99fd974320cc49f17eaf6a48cb898d2e94f3c84bccc7c", func := "hansom/hansomlaw07.ScanAll", spec := "scanAll", unfollowed := true, recurses := true, apart := false, narrowed := true }
def ScanAllUptoSaid : Prop := scanAllUptoRow.holds Try.pinned (OpenSpec.upto scanAllSpec)

end Rows
end Go.Proofs.Ytncfbghdnnhfiaa
