/-
  DERIVED. GIVEN WITH THE SEED: THE CARDS: each row of YtappijlcmhdilaaDoorRows.lean that lists a variable, with what it lists TIED to the program's text (the seventh form; the later family's looks); each row that meets fmt, with fmt's text TOLD by the authors' own Lean function (tested against real Go, not proved from fmt's source: count such statements apart). THE CARD IS WHAT COUNTS. Prove the row's statement (the work); the ties are given (YtappijlcmhdilaaDoorTie.lean); close each card by the builder's one call (the guide's Derived/Test/ToyasCard.lean, 'card_holds'). Laid BY PROGRAM, IN A SANDBOX (cutbox-door.mjs). By AI agents, Wed Nov 11 2026. No macro, syntax, notation, axiom, sorry.
-/
import Derived.Test.YtappijlcmhdilaaDoorRows
import GoSem.ClaimSeven
namespace Go.Proofs.YtappijlcmhdilaaDoor
namespace Rows

/-- THE TIED CARD OF 'hansomlaw34.PickOwn'. -/
def pickOwnCard : Claim7 := { stood := { row := pickOwnRow, standIns := [], harness := (true, "bae11a2b511e12a64e529f55ccd808ad1302c1d37cbee54d647c8995aa8c5e47"), looks := false }, kinds := [], alts := [], laidByText := true, laidKinds := [.listed, .data], laidTests := true, laidLooks := .later }
def PickOwnCardSaid : Prop := Claim7.holds Tryd.pinned (.plain (OpenSpec.ofChange pickOwnSpec)) pickOwnCard

/-- THE SECOND FORM's CARD OF 'hansomlaw34.PickOwn'. -/
def pickOwnUptoCard : Claim7 := { stood := { row := pickOwnUptoRow, standIns := [], harness := (true, "bae11a2b511e12a64e529f55ccd808ad1302c1d37cbee54d647c8995aa8c5e47"), looks := false }, kinds := [], alts := [], laidByText := true, laidKinds := [.listed, .data], laidTests := true, laidLooks := .later }
def PickOwnUptoCardSaid : Prop := Claim7.holds Tryd.pinned (.plain (OpenSpec.upto pickOwnSpec)) pickOwnUptoCard
end Rows
end Go.Proofs.YtappijlcmhdilaaDoor
