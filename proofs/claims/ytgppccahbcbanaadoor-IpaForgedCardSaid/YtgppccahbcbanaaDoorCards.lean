/-
  DERIVED. GIVEN WITH THE SEED: THE CARDS: each row of YtgppccahbcbanaaDoorRows.lean that lists a variable, with what it lists TIED to the program's text (the seventh form; the later family's looks); each row that meets fmt, with fmt's text TOLD by the authors' own Lean function (tested against real Go, not proved from fmt's source: count such statements apart). THE CARD IS WHAT COUNTS. Prove the row's statement (the work); the ties are given (YtgppccahbcbanaaDoorTie.lean); close each card by the builder's one call (the guide's Derived/Test/ToyasCard.lean, 'card_holds'). Laid BY PROGRAM, IN A SANDBOX (cutbox-door.mjs). By AI agents, Wed Nov 11 2026. No macro, syntax, notation, axiom, sorry.
-/
import Derived.Test.YtgppccahbcbanaaDoorRows
import GoSem.ClaimSeven
namespace Go.Proofs.YtgppccahbcbanaaDoor
namespace Rows

/-- THE TIED CARD OF 'veillaw12.IpaForged'. -/
def ipaForgedCard : Claim7 := { stood := { row := ipaForgedRow, standIns := [], harness := (true, "f4c2dac332819245f49c1cc0ff8835d13a9222b47d4f7f02c9f11e14d6c11c56"), looks := true }, kinds := [], alts := [], goes := true, laidByText := true, laidKinds := [.data], laidTests := true, laidLooks := .later }
def IpaForgedCardSaid : Prop := Claim7.holds Tryd.pinned (.plain (OpenSpec.ofChange ipaForgedSpec)) ipaForgedCard

/-- THE SECOND FORM's CARD OF 'veillaw12.IpaForged'. -/
def ipaForgedUptoCard : Claim7 := { stood := { row := ipaForgedUptoRow, standIns := [], harness := (true, "f4c2dac332819245f49c1cc0ff8835d13a9222b47d4f7f02c9f11e14d6c11c56"), looks := true }, kinds := [], alts := [], goes := true, laidByText := true, laidKinds := [.data], laidTests := true, laidLooks := .later }
def IpaForgedUptoCardSaid : Prop := Claim7.holds Tryd.pinned (.plain (OpenSpec.upto ipaForgedSpec)) ipaForgedUptoCard
end Rows
end Go.Proofs.YtgppccahbcbanaaDoor
