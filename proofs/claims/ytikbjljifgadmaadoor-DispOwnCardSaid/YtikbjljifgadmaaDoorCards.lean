/-
  DERIVED. GIVEN WITH THE SEED: THE CARDS: each row of YtikbjljifgadmaaDoorRows.lean that lists a variable, with what it lists TIED to the program's text (the seventh form; the later family's looks); each row that meets fmt, with fmt's text TOLD by the authors' own Lean function (tested against real Go, not proved from fmt's source: count such statements apart). THE CARD IS WHAT COUNTS. Prove the row's statement (the work); the ties are given (YtikbjljifgadmaaDoorTie.lean); close each card by the builder's one call (the guide's Derived/Test/ToyasCard.lean, 'card_holds'). Laid BY PROGRAM, IN A SANDBOX (cutbox-door.mjs). By AI agents, Wed Nov 11 2026. No macro, syntax, notation, axiom, sorry.
-/
import Derived.Test.YtikbjljifgadmaaDoorRows
import GoSem.ClaimSeven
namespace Go.Proofs.YtikbjljifgadmaaDoor
namespace Rows

/-- THE TIED CARD OF 'hansomlaw17.DispNames'. -/
def dispNamesCard : Claim7 := { stood := { row := dispNamesRow, standIns := [], harness := (true, "34e3db32d740c7445296424d706d9b8cc4ac51175ee680eb6bc2222abec6e36d"), looks := false }, kinds := [], alts := [], laidByText := true, laidKinds := [.listed, .data], laidTests := true, laidLooks := .later }
def DispNamesCardSaid : Prop := Claim7.holds Tryd.pinned (.plain (OpenSpec.ofChange dispNamesSpec)) dispNamesCard

/-- THE TIED CARD OF 'hansomlaw17.DispOwn'. -/
def dispOwnCard : Claim7 := { stood := { row := dispOwnRow, standIns := [], harness := (true, "34e3db32d740c7445296424d706d9b8cc4ac51175ee680eb6bc2222abec6e36d"), looks := false }, kinds := [], alts := [], laidByText := true, laidKinds := [.listed, .data], laidTests := true, laidLooks := .later }
def DispOwnCardSaid : Prop := Claim7.holds Tryd.pinned (.plain (OpenSpec.ofChange dispOwnSpec)) dispOwnCard

/-- THE SECOND FORM's CARD OF 'hansomlaw17.DispNames'. -/
def dispNamesUptoCard : Claim7 := { stood := { row := dispNamesUptoRow, standIns := [], harness := (true, "34e3db32d740c7445296424d706d9b8cc4ac51175ee680eb6bc2222abec6e36d"), looks := false }, kinds := [], alts := [], laidByText := true, laidKinds := [.listed, .data], laidTests := true, laidLooks := .later }
def DispNamesUptoCardSaid : Prop := Claim7.holds Tryd.pinned (.plain (OpenSpec.upto dispNamesSpec)) dispNamesUptoCard

/-- THE SECOND FORM's CARD OF 'hansomlaw17.DispOwn'. -/
def dispOwnUptoCard : Claim7 := { stood := { row := dispOwnUptoRow, standIns := [], harness := (true, "34e3db32d740c7445296424d706d9b8cc4ac51175ee680eb6bc2222abec6e36d"), looks := false }, kinds := [], alts := [], laidByText := true, laidKinds := [.listed, .data], laidTests := true, laidLooks := .later }
def DispOwnUptoCardSaid : Prop := Claim7.holds Tryd.pinned (.plain (OpenSpec.upto dispOwnSpec)) dispOwnUptoCard
end Rows
end Go.Proofs.YtikbjljifgadmaaDoor
