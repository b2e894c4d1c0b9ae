/-
  NARROWER THAN 'FOR EVERY INPUT', by the rows' own cells (each row's printed sentence says how): IterReads: loops.
  DERIVED. THE GIVEN ROWS OF THIS SEAT. 9 by the template 'for every input the law returns true; each argument reads behind the call as it read before'; 0 by the template 'total and deterministic' (their statements: YtikbjljifgadmaaTotals.lean).
  GIVEN WITH THE SEED: the statements are not yours to turn. If you find one false, say at which input.
  Laid BY PROGRAM, IN A SANDBOX (cutbox-rows.mjs): the forced cells as the released guide's own fill.sh prints them over the translation ef013310e3b86ff0… (all of the seat's roots in one cut). By AI agents, Wed Nov 11 2026. No macro, syntax, notation, axiom, sorry.
-/
import Derived.Test.YtikbjljifgadmaaChecked
import GoSem.Claim
import GoSem.ClaimJoined
import GoSem.ClaimMapViews
import Derived.JoinedTies
import Derived.KernelRfl
namespace Go.Proofs.Ytikbjljifgadmaa
/- THE CELL 'sum', in the pinned program and in every row, IS THE sha256 OF THE DUMP (.gsa) THAT YtikbjljifgadmaaProg.lean LOADS. Nothing in Lean hashes anything: it is a label: what it is worth is what the hold of that sum in a sandbox is worth. -/
noncomputable def Try.pinned : Pinned := { name := "ytikbjljifgadmaa", sum := "ef013310e3b86ff049e83053d42357c9dc2450788d5188cd8acb6847e9d96f42", checked := Try.checked }
namespace Rows
def none {H : Type} : Left H := { results := [], args := [] }

/-- 'hansomlaw22.PubsMade': WHATEVER THE INPUT: true; the input reads as it did. -/
def pubsMadeSpec : ChangeSpec := { name := "pubsMade", fn := fun _ => fun
  | [d1, d2] => { results := [.lit (.bool true)], args := [d1, d2] }
  | _ => none }
def pubsMadeRow : OpenClaim := { program := "ytikbjljifgadmaa", sum := "ef013310e3b86ff049e83053d42357c9dc2450788d5188cd8acb6847e9d96f42", func := "hansom/hansomlaw22.PubsMade", spec := "pubsMade", apart := false }
def PubsMadeSaid : Prop := pubsMadeRow.holds Try.pinned (OpenSpec.ofChange pubsMadeSpec)

/-- ITS FALSE NEIGHBOUR: 'it returns false'. Refute it at one input. -/
def pubsMadeWrong : ChangeSpec := { name := "pubsMade", fn := fun _ => fun
  | [d1, d2] => { results := [.lit (.bool false)], args := [d1, d2] }
  | _ => none }
def PubsMadeWrongFalsely : Prop := pubsMadeRow.holds Try.pinned (OpenSpec.ofChange pubsMadeWrong)

/-- 'hansomlaw24.IterReads': WHATEVER THE INPUT: true; the input reads as it did. -/
def iterReadsSpec : ChangeSpec := { name := "iterReads", fn := fun _ => fun
  | [d1, d2, d3] => { results := [.lit (.bool true)], args := [d1, d2, d3] }
  | _ => none }
def iterReadsRow : OpenClaim := { program := "ytikbjljifgadmaa", sum := "ef013310e3b86ff049e83053d42357c9dc2450788d5188cd8acb6847e9d96f42", func := "hansom/hansomlaw24.IterReads", spec := "iterReads", recurses := true, loops := true, apart := false }
def IterReadsSaid : Prop := iterReadsRow.holds Try.pinned (OpenSpec.ofChange iterReadsSpec)

/-- ITS FALSE NEIGHBOUR: 'it returns false'. Refute it at one input. -/
def iterReadsWrong : ChangeSpec := { name := "iterReads", fn := fun _ => fun
  | [d1, d2, d3] => { results := [.lit (.bool false)], args := [d1, d2, d3] }
  | _ => none }
def IterReadsWrongFalsely : Prop := iterReadsRow.holds Try.pinned (OpenSpec.ofChange iterReadsWrong)

/-- 'hansomlaw24.IterMost': WHATEVER THE INPUT: true; the input reads as it did. -/
def iterMostSpec : ChangeSpec := { name := "iterMost", fn := fun _ => fun
  | [d1, d2] => { results := [.lit (.bool true)], args := [d1, d2] }
  | _ => none }
def iterMostRow : OpenClaim := { program := "ytikbjljifgadmaa", sum := "ef013310e3b86ff049e83053d42357c9dc2450788d5188cd8acb6847e9d96f42", func := "hansom/hansomlaw24.IterMost", spec := "iterMost", recurses := true, apart := false }
def IterMostSaid : Prop := iterMostRow.holds Try.pinned (OpenSpec.ofChange iterMostSpec)

/-- ITS FALSE NEIGHBOUR: 'it returns false'. Refute it at one input. -/
def iterMostWrong : ChangeSpec := { name := "iterMost", fn := fun _ => fun
  | [d1, d2] => { results := [.lit (.bool false)], args := [d1, d2] }
  | _ => none }
def IterMostWrongFalsely : Prop := iterMostRow.holds Try.pinned (OpenSpec.ofChange iterMostWrong)

/-- 'hansomlaw44.MzBack': WHATEVER THE INPUT: true; the input reads as it did. -/
def mzBackSpec : ChangeSpec := { name := "mzBack", fn := fun _ => fun
  | [d1, d2] => { results := [.lit (.bool true)], args := [d1, d2] }
  | _ => none }
def mzBackRow : OpenClaim := { program := "ytikbjljifgadmaa", sum := "ef013310e3b86ff049e83053d42357c9dc2450788d5188cd8acb6847e9d96f42", func := "hansom/hansomlaw44.MzBack", spec := "mzBack", unfollowed := true, recurses := true, apart := false }
def MzBackSaid : Prop := mzBackRow.holds Try.pinned (OpenSpec.ofChange mzBackSpec)

/-- ITS FALSE NEIGHBOUR: 'it returns false'. Refute it at one input. -/
def mzBackWrong : ChangeSpec := { name := "mzBack", fn := fun _ => fun
  | [d1, d2] => { results := [.lit (.bool false)], args := [d1, d2] }
  | _ => none }
def MzBackWrongFalsely : Prop := mzBackRow.holds Try.pinned (OpenSpec.ofChange mzBackWrong)

/-- 'hansomlaw44.MzMay': WHATEVER THE INPUT: true; the input reads as it did. -/
def mzMaySpec : ChangeSpec := { name := "mzMay", fn := fun _ => fun
  | [d1, d2, d3] => { results := [.lit (.bool true)], args := [d1, d2, d3] }
  | _ => none }
def mzMayRow : OpenClaim := { program := "ytikbjljifgadmaa", sum := "ef013310e3b86ff049e83053d42357c9dc2450788d5188cd8acb6847e9d96f42", func := "hansom/hansomlaw44.MzMay", spec := "mzMay", unfollowed := true, recurses := true, apart := false }
def MzMaySaid : Prop := mzMayRow.holds Try.pinned (OpenSpec.ofChange mzMaySpec)

/-- ITS FALSE NEIGHBOUR: 'it returns false'. Refute it at one input. -/
def mzMayWrong : ChangeSpec := { name := "mzMay", fn := fun _ => fun
  | [d1, d2, d3] => { results := [.lit (.bool false)], args := [d1, d2, d3] }
  | _ => none }
def MzMayWrongFalsely : Prop := mzMayRow.holds Try.pinned (OpenSpec.ofChange mzMayWrong)

/-- 'hansomlaw44.MzAny': WHATEVER THE INPUT: true; the input reads as it did. -/
def mzAnySpec : ChangeSpec := { name := "mzAny", fn := fun _ => fun
  | [d1, d2, d3] => { results := [.lit (.bool true)], args := [d1, d2, d3] }
  | _ => none }
def mzAnyRow : OpenClaim := { program := "ytikbjljifgadmaa", sum := "ef013310e3b86ff049e83053d42357c9dc2450788d5188cd8acb6847e9d96f42", func := "hansom/hansomlaw44.MzAny", spec := "mzAny", unfollowed := true, recurses := true, apart := false }
def MzAnySaid : Prop := mzAnyRow.holds Try.pinned (OpenSpec.ofChange mzAnySpec)

/-- ITS FALSE NEIGHBOUR: 'it returns false'. Refute it at one input. -/
def mzAnyWrong : ChangeSpec := { name := "mzAny", fn := fun _ => fun
  | [d1, d2, d3] => { results := [.lit (.bool false)], args := [d1, d2, d3] }
  | _ => none }
def MzAnyWrongFalsely : Prop := mzAnyRow.holds Try.pinned (OpenSpec.ofChange mzAnyWrong)

/-- 'hansomlaw44.MzOrder': WHATEVER THE INPUT: true; the input reads as it did. -/
def mzOrderSpec : ChangeSpec := { name := "mzOrder", fn := fun _ => fun
  | [d1, d2, d3] => { results := [.lit (.bool true)], args := [d1, d2, d3] }
  | _ => none }
def mzOrderRow : OpenClaim := { program := "ytikbjljifgadmaa", sum := "ef013310e3b86ff049e83053d42357c9dc2450788d5188cd8acb6847e9d96f42", func := "hansom/hansomlaw44.MzOrder", spec := "mzOrder", unfollowed := true, recurses := true, apart := false }
def MzOrderSaid : Prop := mzOrderRow.holds Try.pinned (OpenSpec.ofChange mzOrderSpec)

/-- ITS FALSE NEIGHBOUR: 'it returns false'. Refute it at one input. -/
def mzOrderWrong : ChangeSpec := { name := "mzOrder", fn := fun _ => fun
  | [d1, d2, d3] => { results := [.lit (.bool false)], args := [d1, d2, d3] }
  | _ => none }
def MzOrderWrongFalsely : Prop := mzOrderRow.holds Try.pinned (OpenSpec.ofChange mzOrderWrong)

/-- 'hansomlaw39.PoolNames': WHATEVER THE INPUT: true; the input reads as it did. -/
def poolNamesSpec : ChangeSpec := { name := "poolNames", fn := fun _ => fun
  | [d1, d2] => { results := [.lit (.bool true)], args := [d1, d2] }
  | _ => none }
def poolNamesRow : OpenClaim := { program := "ytikbjljifgadmaa", sum := "ef013310e3b86ff049e83053d42357c9dc2450788d5188cd8acb6847e9d96f42", func := "hansom/hansomlaw39.PoolNames", spec := "poolNames", unfollowed := true, recurses := true, apart := false }
def PoolNamesSaid : Prop := poolNamesRow.holds Try.pinned (OpenSpec.ofChange poolNamesSpec)

/-- ITS FALSE NEIGHBOUR: 'it returns false'. Refute it at one input. -/
def poolNamesWrong : ChangeSpec := { name := "poolNames", fn := fun _ => fun
  | [d1, d2] => { results := [.lit (.bool false)], args := [d1, d2] }
  | _ => none }
def PoolNamesWrongFalsely : Prop := poolNamesRow.holds Try.pinned (OpenSpec.ofChange poolNamesWrong)

/-- 'hansomlaw26.OmfCheck': WHATEVER THE INPUT: true; the input reads as it did. -/
def omfCheckSpec : ChangeSpec := { name := "omfCheck", fn := fun _ => fun
  | [d1, d2, d3] => { results := [.lit (.bool true)], args := [d1, d2, d3] }
  | _ => none }
def omfCheckRow : OpenClaim := { program := "ytikbjljifgadmaa", sum := "ef013310e3b86ff049e83053d42357c9dc2450788d5188cd8acb6847e9d96f42", func := "hansom/hansomlaw26.OmfCheck", spec := "omfCheck", unfollowed := true, recurses := true, apart := false }
def OmfCheckSaid : Prop := omfCheckRow.holds Try.pinned (OpenSpec.ofChange omfCheckSpec)

/-- ITS FALSE NEIGHBOUR: 'it returns false'. Refute it at one input. -/
def omfCheckWrong : ChangeSpec := { name := "omfCheck", fn := fun _ => fun
  | [d1, d2, d3] => { results := [.lit (.bool false)], args := [d1, d2, d3] }
  | _ => none }
def OmfCheckWrongFalsely : Prop := omfCheckRow.holds Try.pinned (OpenSpec.ofChange omfCheckWrong)

/- THE SECOND FORM. 'bulk': how many values and letters a reading holds, each counted each time it is reached (what is shared counts as often as it is met; a slice's spare places count too). A statement '..UptoSaid' is the law's where the arguments, and the package variables that the reading takes, are together of bulk at most 1048576: NARROWER than '..Said'. Prove '..Said' where nothing that the law and all that it calls make is longer than what came in: it says more and counts as full. Else prove '..UptoSaid'. A law counts once. -/
mutual
def uptoBulk {H : Type} : DataW H → Nat
  | .lit (.string bytes) => bytes.length + 1
  | .lit _ => 1
  | .nil => 1
  | .ptr d => uptoBulk d + 1
  | .slice elems spare => uptoBulkAll elems + uptoBulkAll spare + 1
  | .agg parts => uptoBulkAll parts + 1
  | .iface _ d => uptoBulk d + 1
  | .map entries => uptoBulkEntries entries + 1
  | .held _ => 1
def uptoBulkAll {H : Type} : List (DataW H) → Nat
  | [] => 0
  | d :: r => uptoBulk d + uptoBulkAll r
def uptoBulkEntries {H : Type} : List (Lit × DataW H) → Nat
  | [] => 0
  | x :: r => uptoBulkEntry x + uptoBulkEntries r
def uptoBulkEntry {H : Type} : Lit × DataW H → Nat
  | (.string bytes, d) => bytes.length + uptoBulk d + 1
  | (_, d) => uptoBulk d + 1
 end
def uptoSmall : (H : Type) → List (DataW H) → Bool := fun _ ds => decide (uptoBulkAll ds ≤ 1048576)
def OpenSpec.upto (s : _root_.Go.ChangeSpec) : _root_.Go.OpenSpec := { _root_.Go.OpenSpec.ofChange s with cond := some uptoSmall }

/-- 'hansomlaw22.PubsMade', WHERE WHAT IT READS IS OF BULK AT MOST 1048576: true; the input reads as it did. -/
def pubsMadeUptoRow : OpenClaim := { program := "ytikbjljifgadmaa", sum := "ef013310e3b86ff049e83053d42357c9dc2450788d5188cd8acb6847e9d96f42", func := "hansom/hansomlaw22.PubsMade", spec := "pubsMade", apart := false, narrowed := true }
def PubsMadeUptoSaid : Prop := pubsMadeUptoRow.holds Try.pinned (OpenSpec.upto pubsMadeSpec)

/-- 'hansomlaw24.IterReads', WHERE WHAT IT READS IS OF BULK AT MOST 1048576: true; the input reads as it did. -/
def iterReadsUptoRow : OpenClaim := { program := "ytikbjljifgadmaa", sum := "ef013310e3b86ff049e83053d42357c9dc2450788d5188cd8acb6847e9d96f42", func := "hansom/hansomlaw24.IterReads", spec := "iterReads", recurses := true, loops := true, apart := false, narrowed := true }
def IterReadsUptoSaid : Prop := iterReadsUptoRow.holds Try.pinned (OpenSpec.upto iterReadsSpec)

/-- 'hansomlaw24.IterMost', WHERE WHAT IT READS IS OF BULK AT MOST 1048576: true; the input reads as it did. -/
def iterMostUptoRow : OpenClaim := { program := "ytikbjljifgadmaa", sum := "ef013310e3b86ff049e83053d42357c9dc2450788d5188cd8acb6847e9d96f42", func := "hansom/hansomlaw24.IterMost", spec := "iterMost", recurses := true, apart := false, narrowed := true }
def IterMostUptoSaid : Prop := iterMostUptoRow.holds Try.pinned (OpenSpec.upto iterMostSpec)

/-- 'hansomlaw44.MzBack', WHERE WHAT IT READS IS OF BULK AT MOST 1048576: true; the input reads as it did. -/
def mzBackUptoRow : OpenClaim := { program := "ytikbjljifgadmaa", sum := "ef013310e3b86ff049e83053d42357c9dc2450788d5188cd8acb6847e9d96f42", func := "hansom/hansomlaw44.MzBack", spec := "mzBack", unfollowed := true, recurses := true, apart := false, narrowed := true }
def MzBackUptoSaid : Prop := mzBackUptoRow.holds Try.pinned (OpenSpec.upto mzBackSpec)

/-- 'hansomlaw44.MzMay', WHERE WHAT IT READS IS OF BULK AT MOST 1048576: true; the input reads as it did. -/
def mzMayUptoRow : OpenClaim := { program := "ytikbjljifgadmaa", sum := "ef013310e3b86ff049e83053d42357c9dc2450788d5188cd8acb6847e9d96f42", func := "hansom/hansomlaw44.MzMay", spec := "mzMay", unfollowed := true, recurses := true, apart := false, narrowed := true }
def MzMayUptoSaid : Prop := mzMayUptoRow.holds Try.pinned (OpenSpec.upto mzMaySpec)

/-- 'hansomlaw44.MzAny', WHERE WHAT IT READS IS OF BULK AT MOST 1048576: true; the input reads as it did. -/
def mzAnyUptoRow : OpenClaim := { program := "ytikbjljifgadmaa", sum := "ef013310e3b86ff049e83053d42357c9dc2450788d5188cd8acb6847e9d96f42", func := "hansom/hansomlaw44.MzAny", spec := "mzAny", unfollowed := true, recurses := true, apart := false, narrowed := true }
def MzAnyUptoSaid : Prop := mzAnyUptoRow.holds Try.pinned (OpenSpec.upto mzAnySpec)

/-- 'hansomlaw44.MzOrder', WHERE WHAT IT READS IS OF BULK AT MOST 1048576: true; the input reads as it did. -/
def mzOrderUptoRow : OpenClaim := { program := "ytikbjljifgadmaa", sum := "ef013310e3b86ff049e83053d42357c9dc2450788d5188cd8acb6847e9d96f42", func := "hansom/hansomlaw44.MzOrder", spec := "mzOrder", unfollowed := true, recurses := true, apart := false, narrowed := true }
def MzOrderUptoSaid : Prop := mzOrderUptoRow.holds Try.pinned (OpenSpec.upto mzOrderSpec)

/-- 'hansomlaw39.PoolNames', WHERE WHAT IT READS IS OF BULK AT MOST 1048576: true; the input reads as it did. -/
def poolNamesUptoRow : OpenClaim := { program := "ytikbjljifgadmaa", sum := "ef013310e3b86ff049e83053d42357c9dc2450788d5188cd8acb6847e9d96f42", func := "hansom/hansomlaw39.PoolNames", spec := "poolNames", unfollowed := true, recurses := true, apart := false, narrowed := true }
def PoolNamesUptoSaid : Prop := poolNamesUptoRow.holds Try.pinned (OpenSpec.upto poolNamesSpec)

/-- 'hansomlaw26.OmfCheck', WHERE WHAT IT READS IS OF BULK AT MOST 1048576: true; the input reads as it did. -/
def omfCheckUptoRow : OpenClaim := { program := "ytikbjljifgadmaa", sum := "ef013310e3b86ff049e83053d42357c9dc2450788d5188cd8acb6847e9d96f42", func := "hansom/hansomlaw26.OmfCheck", spec := "omfCheck", unfollowed := true, recurses := true, apart := false, narrowed := true }
def OmfCheckUptoSaid : Prop := omfCheckUptoRow.holds Try.pinned (OpenSpec.upto omfCheckSpec)

end Rows
end Go.Proofs.Ytikbjljifgadmaa
