/-
  DERIVED. GIVEN WITH THE SEED: THE CARDS: each row of YtncfbghdnnhfiaaDoorRows.lean that lists a variable, with what it lists TIED to the program's text (the seventh form; the later family's looks); each row that meets fmt, with fmt's text TOLD by the authors' own Lean function (tested against real Go, not proved from fmt's source: count such statements apart). THE CARD IS WHAT COUNTS. Prove the row's statement (the work); the ties are given (YtncfbghdnnhfiaaDoorTie.lean); close each card by the builder's one call (the guide's Derived/Test/ToyasCard.lean, 'card_holds'). Laid BY PROGRAM, IN A SANDBOX (cutbox-door.mjs). By AI agents, Wed Nov 11 2026. No macro, syntax, notation, axiom, sorry.
-/
import Derived.Test.YtncfbghdnnhfiaaDoorRows
import GoSem.ClaimSeven
namespace Go.Proofs.YtncfbghdnnhfiaaDoor
namespace Rows

/-- THE TIED CARD OF 'hansomlaw06.CodePuts'. -/
def codePutsCard : Claim7 := { stood := { row := codePutsRow, standIns := [], harness := (true, "ed039e964b9474ce989d14aacadf167eded9dd317097d8f424892372e6e49a94"), looks := false }, kinds := [], alts := [], laidByText := true, laidKinds := [.data], laidTests := true, laidLooks := .later }
def CodePutsCardSaid : Prop := Claim7.holds Tryd.pinned (.plain (OpenSpec.ofChange codePutsSpec)) codePutsCard

/-- THE TIED CARD OF 'hansomlaw06.CodeOwn'. -/
def codeOwnCard : Claim7 := { stood := { row := codeOwnRow, standIns := [], harness := (true, "ed039e964b9474ce989d14aacadf167eded9dd317097d8f424892372e6e49a94"), looks := false }, kinds := [], alts := [], laidByText := true, laidKinds := [.data], laidTests := true, laidLooks := .later }
def CodeOwnCardSaid : Prop := Claim7.holds Tryd.pinned (.plain (OpenSpec.ofChange codeOwnSpec)) codeOwnCard

/-- THE TIED CARD OF 'hansomlaw06.CodeAll'. -/
def codeAllCard : Claim7 := { stood := { row := codeAllRow, standIns := [], harness := (true, "ed039e964b9474ce989d14aacadf167eded9dd317097d8f424892372e6e49a94"), looks := false }, kinds := [], alts := [], laidByText := true, laidKinds := [.data], laidTests := true, laidLooks := .later }
def CodeAllCardSaid : Prop := Claim7.holds Tryd.pinned (.plain (OpenSpec.ofChange codeAllSpec)) codeAllCard

/-- THE TIED CARD OF 'hansomlaw37.EmitInst'. -/
def emitInstCard : Claim7 := { stood := { row := emitInstRow, standIns := [], harness := (true, "ed039e964b9474ce989d14aacadf167eded9dd317097d8f424892372e6e49a94"), looks := false }, kinds := [], alts := [], laidByText := true, laidKinds := [.data], laidTests := true, laidLooks := .later }
def EmitInstCardSaid : Prop := Claim7.holds Tryd.pinned (.plain (OpenSpec.ofChange emitInstSpec)) emitInstCard

/-- THE SECOND FORM's CARD OF 'hansomlaw06.CodePuts'. -/
def codePutsUptoCard : Claim7 := { stood := { row := codePutsUptoRow, standIns := [], harness := (true, "ed039e964b9474ce989d14aacadf167eded9dd317097d8f424892372e6e49a94"), looks := false }, kinds := [], alts := [], laidByText := true, laidKinds := [.data], laidTests := true, laidLooks := .later }
def CodePutsUptoCardSaid : Prop := Claim7.holds Tryd.pinned (.plain (OpenSpec.upto codePutsSpec)) codePutsUptoCard

/-- THE SECOND FORM's CARD OF 'hansomlaw06.CodeOwn'. -/
def codeOwnUptoCard : Claim7 := { stood := { row := codeOwnUptoRow, standIns := [], harness := (true, "ed039e964b9474ce989d14aacadf167eded9dd317097d8f424892372e6e49a94"), looks := false }, kinds := [], alts := [], laidByText := true, laidKinds := [.data], laidTests := true, laidLooks := .later }
def CodeOwnUptoCardSaid : Prop := Claim7.holds Tryd.pinned (.plain (OpenSpec.upto codeOwnSpec)) codeOwnUptoCard

/-- THE SECOND FORM's CARD OF 'hansomlaw06.CodeAll'. -/
def codeAllUptoCard : Claim7 := { stood := { row := codeAllUptoRow, standIns := [], harness := (true, "ed039e964b9474ce989d14aacadf167eded9dd317097d8f424892372e6e49a94"), looks := false }, kinds := [], alts := [], laidByText := true, laidKinds := [.data], laidTests := true, laidLooks := .later }
def CodeAllUptoCardSaid : Prop := Claim7.holds Tryd.pinned (.plain (OpenSpec.upto codeAllSpec)) codeAllUptoCard

/-- THE SECOND FORM's CARD OF 'hansomlaw37.EmitInst'. -/
def emitInstUptoCard : Claim7 := { stood := { row := emitInstUptoRow, standIns := [], harness := (true, "ed039e964b9474ce989d14aacadf167eded9dd317097d8f424892372e6e49a94"), looks := false }, kinds := [], alts := [], laidByText := true, laidKinds := [.data], laidTests := true, laidLooks := .later }
def EmitInstUptoCardSaid : Prop := Claim7.holds Tryd.pinned (.plain (OpenSpec.upto emitInstSpec)) emitInstUptoCard
end Rows
end Go.Proofs.YtncfbghdnnhfiaaDoor
