/-
  DERIVED. GIVEN WITH THE SEED: THE CARDS: each row of YtbdmoaofbacfpaaDoorRows.lean that lists a variable, with what it lists TIED to the program's text (the seventh form; the later family's looks); each row that meets fmt, with fmt's text TOLD by the authors' own Lean function (tested against real Go, not proved from fmt's source: count such statements apart). THE CARD IS WHAT COUNTS. Prove the row's statement (the work); the ties are given (YtbdmoaofbacfpaaDoorTie.lean); close each card by the builder's one call (the guide's Derived/Test/ToyasCard.lean, 'card_holds'). Laid BY PROGRAM, IN A SANDBOX (cutbox-door.mjs). By AI agents, Wed Nov 11 2026. No macro, syntax, notation, axiom, sorry.
-/
import Derived.Test.YtbdmoaofbacfpaaDoorRows
import GoSem.ClaimSeven
namespace Go.Proofs.YtbdmoaofbacfpaaDoor
namespace Rows

/-- THE TIED CARD OF 'hansomlaw34.PickOwn'. -/
def pickOwnCard : Claim7 := { stood := { row := pickOwnRow, standIns := [], harness := (true, "886c3b3a60bd383465ff1ca0a9f240b741f192633ed1fd661a907d7228794282"), looks := false }, kinds := [], alts := [], laidByText := true, laidKinds := [.listed, .data], laidTests := true, laidLooks := .later }
def PickOwnCardSaid : Prop := Claim7.holds Tryd.pinned (.plain (OpenSpec.ofChange pickOwnSpec)) pickOwnCard

/-- THE TIED CARD OF 'hansomlaw34.PickWords'. -/
def pickWordsCard : Claim7 := { stood := { row := pickWordsRow, standIns := [], harness := (true, "886c3b3a60bd383465ff1ca0a9f240b741f192633ed1fd661a907d7228794282"), looks := false }, kinds := [], alts := [], laidByText := true, laidKinds := [.listed, .data], laidTests := true, laidLooks := .later }
def PickWordsCardSaid : Prop := Claim7.holds Tryd.pinned (.plain (OpenSpec.ofChange pickWordsSpec)) pickWordsCard

/-- THE TIED CARD OF 'hansomlaw34.PickJumps'. -/
def pickJumpsCard : Claim7 := { stood := { row := pickJumpsRow, standIns := [], harness := (true, "886c3b3a60bd383465ff1ca0a9f240b741f192633ed1fd661a907d7228794282"), looks := false }, kinds := [], alts := [], laidByText := true, laidKinds := [.listed, .data], laidTests := true, laidLooks := .later }
def PickJumpsCardSaid : Prop := Claim7.holds Tryd.pinned (.plain (OpenSpec.ofChange pickJumpsSpec)) pickJumpsCard

/-- THE SECOND FORM's CARD OF 'hansomlaw34.PickOwn'. -/
def pickOwnUptoCard : Claim7 := { stood := { row := pickOwnUptoRow, standIns := [], harness := (true, "886c3b3a60bd383465ff1ca0a9f240b741f192633ed1fd661a907d7228794282"), looks := false }, kinds := [], alts := [], laidByText := true, laidKinds := [.listed, .data], laidTests := true, laidLooks := .later }
def PickOwnUptoCardSaid : Prop := Claim7.holds Tryd.pinned (.plain (OpenSpec.upto pickOwnSpec)) pickOwnUptoCard

/-- THE SECOND FORM's CARD OF 'hansomlaw34.PickWords'. -/
def pickWordsUptoCard : Claim7 := { stood := { row := pickWordsUptoRow, standIns := [], harness := (true, "886c3b3a60bd383465ff1ca0a9f240b741f192633ed1fd661a907d7228794282"), looks := false }, kinds := [], alts := [], laidByText := true, laidKinds := [.listed, .data], laidTests := true, laidLooks := .later }
def PickWordsUptoCardSaid : Prop := Claim7.holds Tryd.pinned (.plain (OpenSpec.upto pickWordsSpec)) pickWordsUptoCard

/-- THE SECOND FORM's CARD OF 'hansomlaw34.PickJumps'. -/
def pickJumpsUptoCard : Claim7 := { stood := { row := pickJumpsUptoRow, standIns := [], harness := (true, "886c3b3a60bd383465ff1ca0a9f240b741f192633ed1fd661a907d7228794282"), looks := false }, kinds := [], alts := [], laidByText := true, laidKinds := [.listed, .data], laidTests := true, laidLooks := .later }
def PickJumpsUptoCardSaid : Prop := Claim7.holds Tryd.pinned (.plain (OpenSpec.upto pickJumpsSpec)) pickJumpsUptoCard
end Rows
end Go.Proofs.YtbdmoaofbacfpaaDoor
