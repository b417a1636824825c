/-
  DERIVED. GIVEN WITH THE SEED: THE CARDS: each row of YtgikdhbldjkbbaaGreatDoorRows.lean that lists a variable, with what it lists TIED to the program's text (the seventh form; the later family's looks); each row that meets fmt, with fmt's text TOLD by the authors' own Lean function (tested against real Go, not proved from fmt's source: count such statements apart). THE CARD IS WHAT COUNTS. Prove the row's statement (the work); the ties are given (YtgikdhbldjkbbaaGreatDoorTie.lean); close each card by the builder's one call (the guide's Derived/Test/ToyasCard.lean, 'card_holds'). Laid BY PROGRAM, IN A SANDBOX (cutbox-door.mjs). By AI agents, Wed Nov 11 2026. No macro, syntax, notation, axiom, sorry.
-/
import Derived.Test.YtgikdhbldjkbbaaGreatDoorRows
import GoSem.ClaimSeven
namespace Go.Proofs.YtgikdhbldjkbbaaGreatDoor
namespace Rows

/-- THE TIED CARD OF 'veillaw12.IpaVerifies'. -/
def ipaVerifiesCard : Claim7 := { stood := { row := ipaVerifiesRow, standIns := [], harness := (true, "702e351a0a0d773783650581c3900f38a515fa3e823f13c401d22350be25ee59"), looks := false }, kinds := [], alts := [], goes := true, laidByText := true, laidKinds := [.data, .data, .wider, .data], laidTests := true, laidLooks := .later }
def IpaVerifiesCardSaid : Prop := Claim7.holds Tryz.pinned (.plain (OpenSpec.ofChange ipaVerifiesSpec)) ipaVerifiesCard

/-- THE SECOND FORM's CARD OF 'veillaw12.IpaVerifies'. -/
def ipaVerifiesUptoCard : Claim7 := { stood := { row := ipaVerifiesUptoRow, standIns := [], harness := (true, "702e351a0a0d773783650581c3900f38a515fa3e823f13c401d22350be25ee59"), looks := false }, kinds := [], alts := [], goes := true, laidByText := true, laidKinds := [.data, .data, .wider, .data], laidTests := true, laidLooks := .later }
def IpaVerifiesUptoCardSaid : Prop := Claim7.holds Tryz.pinned (.plain (OpenSpec.upto ipaVerifiesSpec)) ipaVerifiesUptoCard
end Rows
end Go.Proofs.YtgikdhbldjkbbaaGreatDoor
