/-
  No cell of these rows narrows 'for every input' (looked for: loops, veiled, ifaces, maps, wideKeys, modest, calm, conditions, laid).
  DERIVED. THE GIVEN ROWS OF THIS SEAT. 12 by the template 'for every input the law returns true; each argument reads behind the call as it read before'; 0 by the template 'total and deterministic' (their statements: YtbogbgbpahonoaaTotals.lean).
  GIVEN WITH THE SEED: the statements are not yours to turn. If you find one false, say at which input.
  Laid BY PROGRAM, IN A SANDBOX (cutbox-rows.mjs): the forced cells as the released guide's own fill.sh prints them over the translation 5f7958b337109fcb… (all of the seat's roots in one cut). By AI agents, Wed Nov 11 2026. No macro, syntax, notation, axiom, sorry.
-/
import Derived.Test.YtbogbgbpahonoaaChecked
import GoSem.Claim
import GoSem.ClaimJoined
import GoSem.ClaimMapViews
import Derived.JoinedTies
import Derived.KernelRfl
namespace Go.Proofs.Ytbogbgbpahonoaa
/- THE CELL 'sum', in the pinned program and in every row, IS THE sha256 OF THE DUMP (.gsa) THAT YtbogbgbpahonoaaProg.lean LOADS. Nothing in Lean hashes anything: it is a label: what it is worth is what the hold of that sum in a sandbox is worth. -/
noncomputable def Try.pinned : Pinned := { name := "ytbogbgbpahonoaa", sum := "5f7958b337109fcbdc3a2573b3043ac6c53603d76136833574917b176dab205c", checked := Try.checked }
namespace Rows
def none {H : Type} : Left H := { results := [], args := [] }

/-- 'hansomlaw36.SizePlays': WHATEVER THE INPUT: true; the input reads as it did. -/
def sizePlaysSpec : ChangeSpec := { name := "sizePlays", fn := fun _ => fun
  | [d1, d2] => { results := [.lit (.bool true)], args := [d1, d2] }
  | _ => none }
def sizePlaysRow : OpenClaim := { program := "ytbogbgbpahonoaa", sum := "5f7958b337109fcbdc3a2573b3043ac6c53603d76136833574917b176dab205c", func := "hansom/hansomlaw36.SizePlays", spec := "sizePlays", apart := false }
def SizePlaysSaid : Prop := sizePlaysRow.holds Try.pinned (OpenSpec.ofChange sizePlaysSpec)

/-- ITS FALSE NEIGHBOUR: 'it returns false'. Refute it at one input. -/
def sizePlaysWrong : ChangeSpec := { name := "sizePlays", fn := fun _ => fun
  | [d1, d2] => { results := [.lit (.bool false)], args := [d1, d2] }
  | _ => none }
def SizePlaysWrongFalsely : Prop := sizePlaysRow.holds Try.pinned (OpenSpec.ofChange sizePlaysWrong)

/-- 'hansomlaw36.SizeNone': WHATEVER THE INPUT: true; the input reads as it did. -/
def sizeNoneSpec : ChangeSpec := { name := "sizeNone", fn := fun _ => fun
  | [d] => { results := [.lit (.bool true)], args := [d] }
  | _ => none }
def sizeNoneRow : OpenClaim := { program := "ytbogbgbpahonoaa", sum := "5f7958b337109fcbdc3a2573b3043ac6c53603d76136833574917b176dab205c", func := "hansom/hansomlaw36.SizeNone", spec := "sizeNone", apart := false }
def SizeNoneSaid : Prop := sizeNoneRow.holds Try.pinned (OpenSpec.ofChange sizeNoneSpec)

/-- ITS FALSE NEIGHBOUR: 'it returns false'. Refute it at one input. -/
def sizeNoneWrong : ChangeSpec := { name := "sizeNone", fn := fun _ => fun
  | [d] => { results := [.lit (.bool false)], args := [d] }
  | _ => none }
def SizeNoneWrongFalsely : Prop := sizeNoneRow.holds Try.pinned (OpenSpec.ofChange sizeNoneWrong)

/-- 'hansomlaw37.EmitValues': WHATEVER THE INPUT: true; the input reads as it did. -/
def emitValuesSpec : ChangeSpec := { name := "emitValues", fn := fun _ => fun
  | [d1, d2, d3] => { results := [.lit (.bool true)], args := [d1, d2, d3] }
  | _ => none }
def emitValuesRow : OpenClaim := { program := "ytbogbgbpahonoaa", sum := "5f7958b337109fcbdc3a2573b3043ac6c53603d76136833574917b176dab205c", func := "hansom/hansomlaw37.EmitValues", spec := "emitValues", apart := false }
def EmitValuesSaid : Prop := emitValuesRow.holds Try.pinned (OpenSpec.ofChange emitValuesSpec)

/-- ITS FALSE NEIGHBOUR: 'it returns false'. Refute it at one input. -/
def emitValuesWrong : ChangeSpec := { name := "emitValues", fn := fun _ => fun
  | [d1, d2, d3] => { results := [.lit (.bool false)], args := [d1, d2, d3] }
  | _ => none }
def EmitValuesWrongFalsely : Prop := emitValuesRow.holds Try.pinned (OpenSpec.ofChange emitValuesWrong)

/-- 'hansomlaw42.ApplyValues': WHATEVER THE INPUT: true; the input reads as it did. -/
def applyValuesSpec : ChangeSpec := { name := "applyValues", fn := fun _ => fun
  | [d1, d2, d3] => { results := [.lit (.bool true)], args := [d1, d2, d3] }
  | _ => none }
def applyValuesRow : OpenClaim := { program := "ytbogbgbpahonoaa", sum := "5f7958b337109fcbdc3a2573b3043ac6c53603d76136833574917b176dab205c", func := "hansom/hansomlaw42.ApplyValues", spec := "applyValues", apart := false }
def ApplyValuesSaid : Prop := applyValuesRow.holds Try.pinned (OpenSpec.ofChange applyValuesSpec)

/-- ITS FALSE NEIGHBOUR: 'it returns false'. Refute it at one input. -/
def applyValuesWrong : ChangeSpec := { name := "applyValues", fn := fun _ => fun
  | [d1, d2, d3] => { results := [.lit (.bool false)], args := [d1, d2, d3] }
  | _ => none }
def ApplyValuesWrongFalsely : Prop := applyValuesRow.holds Try.pinned (OpenSpec.ofChange applyValuesWrong)

/-- 'hansomlaw42.ApplyPuts': WHATEVER THE INPUT: true; the input reads as it did. -/
def applyPutsSpec : ChangeSpec := { name := "applyPuts", fn := fun _ => fun
  | [d1, d2, d3] => { results := [.lit (.bool true)], args := [d1, d2, d3] }
  | _ => none }
def applyPutsRow : OpenClaim := { program := "ytbogbgbpahonoaa", sum := "5f7958b337109fcbdc3a2573b3043ac6c53603d76136833574917b176dab205c", func := "hansom/hansomlaw42.ApplyPuts", spec := "applyPuts", apart := false }
def ApplyPutsSaid : Prop := applyPutsRow.holds Try.pinned (OpenSpec.ofChange applyPutsSpec)

/-- ITS FALSE NEIGHBOUR: 'it returns false'. Refute it at one input. -/
def applyPutsWrong : ChangeSpec := { name := "applyPuts", fn := fun _ => fun
  | [d1, d2, d3] => { results := [.lit (.bool false)], args := [d1, d2, d3] }
  | _ => none }
def ApplyPutsWrongFalsely : Prop := applyPutsRow.holds Try.pinned (OpenSpec.ofChange applyPutsWrong)

/-- 'hansomlaw20.NamesHeader': WHATEVER THE INPUT: true; the input reads as it did. -/
def namesHeaderSpec : ChangeSpec := { name := "namesHeader", fn := fun _ => fun
  | [d1, d2] => { results := [.lit (.bool true)], args := [d1, d2] }
  | _ => none }
def namesHeaderRow : OpenClaim := { program := "ytbogbgbpahonoaa", sum := "5f7958b337109fcbdc3a2573b3043ac6c53603d76136833574917b176dab205c", func := "hansom/hansomlaw20.NamesHeader", spec := "namesHeader", apart := false }
def NamesHeaderSaid : Prop := namesHeaderRow.holds Try.pinned (OpenSpec.ofChange namesHeaderSpec)

/-- ITS FALSE NEIGHBOUR: 'it returns false'. Refute it at one input. -/
def namesHeaderWrong : ChangeSpec := { name := "namesHeader", fn := fun _ => fun
  | [d1, d2] => { results := [.lit (.bool false)], args := [d1, d2] }
  | _ => none }
def NamesHeaderWrongFalsely : Prop := namesHeaderRow.holds Try.pinned (OpenSpec.ofChange namesHeaderWrong)

/-- 'hansomlaw20.NamesRemark': WHATEVER THE INPUT: true; the input reads as it did. -/
def namesRemarkSpec : ChangeSpec := { name := "namesRemark", fn := fun _ => fun
  | [d1, d2] => { results := [.lit (.bool true)], args := [d1, d2] }
  | _ => none }
def namesRemarkRow : OpenClaim := { program := "ytbogbgbpahonoaa", sum := "5f7958b337109fcbdc3a2573b3043ac6c53603d76136833574917b176dab205c", func := "hansom/hansomlaw20.NamesRemark", spec := "namesRemark", apart := false }
def NamesRemarkSaid : Prop := namesRemarkRow.holds Try.pinned (OpenSpec.ofChange namesRemarkSpec)

/-- ITS FALSE NEIGHBOUR: 'it returns false'. Refute it at one input. -/
def namesRemarkWrong : ChangeSpec := { name := "namesRemark", fn := fun _ => fun
  | [d1, d2] => { results := [.lit (.bool false)], args := [d1, d2] }
  | _ => none }
def NamesRemarkWrongFalsely : Prop := namesRemarkRow.holds Try.pinned (OpenSpec.ofChange namesRemarkWrong)

/-- 'hansomlaw41.LayPlaces': WHATEVER THE INPUT: true; the input reads as it did. -/
def layPlacesSpec : ChangeSpec := { name := "layPlaces", fn := fun _ => fun
  | [d] => { results := [.lit (.bool true)], args := [d] }
  | _ => none }
def layPlacesRow : OpenClaim := { program := "ytbogbgbpahonoaa", sum := "5f7958b337109fcbdc3a2573b3043ac6c53603d76136833574917b176dab205c", func := "hansom/hansomlaw41.LayPlaces", spec := "layPlaces", unfollowed := true, recurses := true, apart := false }
def LayPlacesSaid : Prop := layPlacesRow.holds Try.pinned (OpenSpec.ofChange layPlacesSpec)

/-- ITS FALSE NEIGHBOUR: 'it returns false'. Refute it at one input. -/
def layPlacesWrong : ChangeSpec := { name := "layPlaces", fn := fun _ => fun
  | [d] => { results := [.lit (.bool false)], args := [d] }
  | _ => none }
def LayPlacesWrongFalsely : Prop := layPlacesRow.holds Try.pinned (OpenSpec.ofChange layPlacesWrong)

/-- 'hansomlaw41.LayMost': WHATEVER THE INPUT: true; the input reads as it did. -/
def layMostSpec : ChangeSpec := { name := "layMost", fn := fun _ => fun
  | [d] => { results := [.lit (.bool true)], args := [d] }
  | _ => none }
def layMostRow : OpenClaim := { program := "ytbogbgbpahonoaa", sum := "5f7958b337109fcbdc3a2573b3043ac6c53603d76136833574917b176dab205c", func := "hansom/hansomlaw41.LayMost", spec := "layMost", unfollowed := true, recurses := true, apart := false }
def LayMostSaid : Prop := layMostRow.holds Try.pinned (OpenSpec.ofChange layMostSpec)

/-- ITS FALSE NEIGHBOUR: 'it returns false'. Refute it at one input. -/
def layMostWrong : ChangeSpec := { name := "layMost", fn := fun _ => fun
  | [d] => { results := [.lit (.bool false)], args := [d] }
  | _ => none }
def LayMostWrongFalsely : Prop := layMostRow.holds Try.pinned (OpenSpec.ofChange layMostWrong)

/-- 'hansomlaw20.NamesList': WHATEVER THE INPUT: true; the input reads as it did. -/
def namesListSpec : ChangeSpec := { name := "namesList", fn := fun _ => fun
  | [d1, d2] => { results := [.lit (.bool true)], args := [d1, d2] }
  | _ => none }
def namesListRow : OpenClaim := { program := "ytbogbgbpahonoaa", sum := "5f7958b337109fcbdc3a2573b3043ac6c53603d76136833574917b176dab205c", func := "hansom/hansomlaw20.NamesList", spec := "namesList", apart := false }
def NamesListSaid : Prop := namesListRow.holds Try.pinned (OpenSpec.ofChange namesListSpec)

/-- ITS FALSE NEIGHBOUR: 'it returns false'. Refute it at one input. -/
def namesListWrong : ChangeSpec := { name := "namesList", fn := fun _ => fun
  | [d1, d2] => { results := [.lit (.bool false)], args := [d1, d2] }
  | _ => none }
def NamesListWrongFalsely : Prop := namesListRow.holds Try.pinned (OpenSpec.ofChange namesListWrong)

/-- 'hansomlaw40.CombAdds': WHATEVER THE INPUT: true; the input reads as it did. -/
def combAddsSpec : ChangeSpec := { name := "combAdds", fn := fun _ => fun
  | [d1, d2] => { results := [.lit (.bool true)], args := [d1, d2] }
  | _ => none }
def combAddsRow : OpenClaim := { program := "ytbogbgbpahonoaa", sum := "5f7958b337109fcbdc3a2573b3043ac6c53603d76136833574917b176dab205c", func := "hansom/hansomlaw40.CombAdds", spec := "combAdds", unfollowed := true, recurses := true, apart := false }
def CombAddsSaid : Prop := combAddsRow.holds Try.pinned (OpenSpec.ofChange combAddsSpec)

/-- ITS FALSE NEIGHBOUR: 'it returns false'. Refute it at one input. -/
def combAddsWrong : ChangeSpec := { name := "combAdds", fn := fun _ => fun
  | [d1, d2] => { results := [.lit (.bool false)], args := [d1, d2] }
  | _ => none }
def CombAddsWrongFalsely : Prop := combAddsRow.holds Try.pinned (OpenSpec.ofChange combAddsWrong)

/-- 'hansomlaw40.CombAll': WHATEVER THE INPUT: true; the input reads as it did. -/
def combAllSpec : ChangeSpec := { name := "combAll", fn := fun _ => fun
  | [d1, d2] => { results := [.lit (.bool true)], args := [d1, d2] }
  | _ => none }
def combAllRow : OpenClaim := { program := "ytbogbgbpahonoaa", sum := "5f7958b337109fcbdc3a2573b3043ac6c53603d76136833574917b176dab205c", func := "hansom/hansomlaw40.CombAll", spec := "combAll", unfollowed := true, recurses := true, apart := false }
def CombAllSaid : Prop := combAllRow.holds Try.pinned (OpenSpec.ofChange combAllSpec)

/-- ITS FALSE NEIGHBOUR: 'it returns false'. Refute it at one input. -/
def combAllWrong : ChangeSpec := { name := "combAll", fn := fun _ => fun
  | [d1, d2] => { results := [.lit (.bool false)], args := [d1, d2] }
  | _ => none }
def CombAllWrongFalsely : Prop := combAllRow.holds Try.pinned (OpenSpec.ofChange combAllWrong)

/- THE SECOND FORM. 'bulk': how many values and letters a reading holds, each counted each time it is reached (what is shared counts as often as it is met; a slice's spare places count too). A statement '..UptoSaid' is the law's where the arguments, and the package variables that the reading takes, are together of bulk at most 1048576: NARROWER than '..Said'. Prove '..Said' where nothing that the law and all that it calls make is longer than what came in: it says more and counts as full. Else prove '..UptoSaid'. A law counts once. -/
mutual
def uptoBulk {H : Type} : DataW H → Nat
  | .lit (.string bytes) => bytes.length + 1
  | .lit _ => 1
  | .nil => 1
  | .ptr d => uptoBulk d + 1
  | .slice elems spare => uptoBulkAll elems + uptoBulkAll spare + 1
  | .agg parts => uptoBulkAll parts + 1
  | .iface _ d => uptoBulk d + 1
  | .map entries => uptoBulkEntries entries + 1
  | .held _ => 1
def uptoBulkAll {H : Type} : List (DataW H) → Nat
  | [] => 0
  | d :: r => uptoBulk d + uptoBulkAll r
def uptoBulkEntries {H : Type} : List (Lit × DataW H) → Nat
  | [] => 0
  | x :: r => uptoBulkEntry x + uptoBulkEntries r
def uptoBulkEntry {H : Type} : Lit × DataW H → Nat
  | (.string bytes, d) => bytes.length + uptoBulk d + 1
  | (_, d) => uptoBulk d + 1
 end
def uptoSmall : (H : Type) → List (DataW H) → Bool := fun _ ds => decide (uptoBulkAll ds ≤ 1048576)
def OpenSpec.upto (s : _root_.Go.ChangeSpec) : _root_.Go.OpenSpec := { _root_.Go.OpenSpec.ofChange s with cond := some uptoSmall }

/-- 'hansomlaw36.SizePlays', WHERE WHAT IT READS IS OF BULK AT MOST 1048576: true; the input reads as it did. -/
def sizePlaysUptoRow : OpenClaim := { program := "ytbogbgbpahonoaa", sum := "5f7958b337109fcbdc3a2573b3043ac6c53603d76136833574917b176dab205c", func := "hansom/hansomlaw36.SizePlays", spec := "sizePlays", apart := false, narrowed := true }
def SizePlaysUptoSaid : Prop := sizePlaysUptoRow.holds Try.pinned (OpenSpec.upto sizePlaysSpec)

/-- 'hansomlaw36.SizeNone', WHERE WHAT IT READS IS OF BULK AT MOST 1048576: true; the input reads as it did. -/
def sizeNoneUptoRow : OpenClaim := { program := "ytbogbgbpahonoaa", sum := "5f7958b337109fcbdc3a2573b3043ac6c53603d76136833574917b176dab205c", func := "hansom/hansomlaw36.SizeNone", spec := "sizeNone", apart := false, narrowed := true }
def SizeNoneUptoSaid : Prop := sizeNoneUptoRow.holds Try.pinned (OpenSpec.upto sizeNoneSpec)

/-- 'hansomlaw37.EmitValues', WHERE WHAT IT READS IS OF BULK AT MOST 1048576: true; the input reads as it did. -/
def emitValuesUptoRow : OpenClaim := { program := "ytbogbgbpahonoaa", sum := "5f7958b337109fcbdc3a2573b3043ac6c53603d76136833574917b176dab205c", func := "hansom/hansomlaw37.EmitValues", spec := "emitValues", apart := false, narrowed := true }
def EmitValuesUptoSaid : Prop := emitValuesUptoRow.holds Try.pinned (OpenSpec.upto emitValuesSpec)

/-- 'hansomlaw42.ApplyValues', WHERE WHAT IT READS IS OF BULK AT MOST 1048576: true; the input reads as it did. -/
def applyValuesUptoRow : OpenClaim := { program := "ytbogbgbpahonoaa", sum := "5f7958b337109fcbdc3a2573b3043ac6c53603d76136833574917b176dab205c", func := "hansom/hansomlaw42.ApplyValues", spec := "applyValues", apart := false, narrowed := true }
def ApplyValuesUptoSaid : Prop := applyValuesUptoRow.holds Try.pinned (OpenSpec.upto applyValuesSpec)

/-- 'hansomlaw42.ApplyPuts', WHERE WHAT IT READS IS OF BULK AT MOST 1048576: true; the input reads as it did. -/
def applyPutsUptoRow : OpenClaim := { program := "ytbogbgbpahonoaa", sum := "5f7958b337109fcbdc3a2573b3043ac6c53603d76136833574917b176dab205c", func := "hansom/hansomlaw42.ApplyPuts", spec := "applyPuts", apart := false, narrowed := true }
def ApplyPutsUptoSaid : Prop := applyPutsUptoRow.holds Try.pinned (OpenSpec.upto applyPutsSpec)

/-- 'hansomlaw20.NamesHeader', WHERE WHAT IT READS IS OF BULK AT MOST 1048576: true; the input reads as it did. -/
def namesHeaderUptoRow : OpenClaim := { program := "ytbogbgbpahonoaa", sum := "5f7958b337109fcbdc3a2573b3043ac6c53603d76136833574917b176dab205c", func := "hansom/hansomlaw20.NamesHeader", spec := "namesHeader", apart := false, narrowed := true }
def NamesHeaderUptoSaid : Prop := namesHeaderUptoRow.holds Try.pinned (OpenSpec.upto namesHeaderSpec)

/-- 'hansomlaw20.NamesRemark', WHERE WHAT IT READS IS OF BULK AT MOST 1048576: true; the input reads as it did. -/
def namesRemarkUptoRow : OpenClaim := { program := "ytbogbgbpahonoaa", sum := "5f7958b337109fcbdc3a2573b3043ac6c53603d76136833574917b176dab205c", func := "hansom/hansomlaw20.NamesRemark", spec := "namesRemark", apart := false, narrowed := true }
def NamesRemarkUptoSaid : Prop := namesRemarkUptoRow.holds Try.pinned (OpenSpec.upto namesRemarkSpec)

/-- 'hansomlaw41.LayPlaces', WHERE WHAT IT READS IS OF BULK AT MOST 1048576: true; the input reads as it did. -/
def layPlacesUptoRow : OpenClaim := { program := "ytbogbgbpahonoaa", sum := "5f7958b337109fcbdc3a2573b3043ac6c53603d76136833574917b176dab205c", func := "hansom/hansomlaw41.LayPlaces", spec := "layPlaces", unfollowed := true, recurses := true, apart := false, narrowed := true }
def LayPlacesUptoSaid : Prop := layPlacesUptoRow.holds Try.pinned (OpenSpec.upto layPlacesSpec)

/-- 'hansomlaw41.LayMost', WHERE WHAT IT READS IS OF BULK AT MOST 1048576: true; the input reads as it did. -/
def layMostUptoRow : OpenClaim := { program := "ytbogbgbpahonoaa", sum := "5f7958b337109fcbdc3a2573b3043ac6c53603d76136833574917b176dab205c", func := "hansom/hansomlaw41.LayMost", spec := "layMost", unfollowed := true, recurses := true, apart := false, narrowed := true }
def LayMostUptoSaid : Prop := layMostUptoRow.holds Try.pinned (OpenSpec.upto layMostSpec)

/-- 'hansomlaw20.NamesList', WHERE WHAT IT READS IS OF BULK AT MOST 1048576: true; the input reads as it did. -/
def namesListUptoRow : OpenClaim := { program := "ytbogbgbpahonoaa", sum := "5f7958b337109fcbdc3a2573b3043ac6c53603d76136833574917b176dab205c", func := "hansom/hansomlaw20.NamesList", spec := "namesList", apart := false, narrowed := true }
def NamesListUptoSaid : Prop := namesListUptoRow.holds Try.pinned (OpenSpec.upto namesListSpec)

/-- 'hansomlaw40.CombAdds', WHERE WHAT IT READS IS OF BULK AT MOST 1048576: true; the input reads as it did. -/
def combAddsUptoRow : OpenClaim := { program := "ytbogbgbpahonoaa", sum := "5f7958b337109fcbdc3a2573b3043ac6c53603d76136833574917b176dab205c", func := "hansom/hansomlaw40.CombAdds", spec := "combAdds", unfollowed := true, recurses := true, apart := false, narrowed := true }
def CombAddsUptoSaid : Prop := combAddsUptoRow.holds Try.pinned (OpenSpec.upto combAddsSpec)

/-- 'hansomlaw40.CombAll', WHERE WHAT IT READS IS OF BULK AT MOST 1048576: true; the input reads as it did. -/
def combAllUptoRow : OpenClaim := { program := "ytbogbgbpahonoaa", sum := "5f7958b337109fcbdc3a2573b3043ac6c53603d76136833574917b176dab205c", func := "hansom/hansomlaw40.CombAll", spec := "combAll", unfollowed := true, recurses := true, apart := false, narrowed := true }
def CombAllUptoSaid : Prop := combAllUptoRow.holds Try.pinned (OpenSpec.upto combAllSpec)

end Rows
end Go.Proofs.Ytbogbgbpahonoaa
