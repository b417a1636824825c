/-
  DERIVED. GIVEN WITH THE SEED: THE CARDS: each row of YtebekndmhgmfbaaDoorRows.lean that lists a variable, with what it lists TIED to the program's text (the seventh form; the later family's looks); each row that meets fmt, with fmt's text TOLD by the authors' own Lean function (tested against real Go, not proved from fmt's source: count such statements apart). THE CARD IS WHAT COUNTS. Prove the row's statement (the work); the ties are given (YtebekndmhgmfbaaDoorTie.lean); close each card by the builder's one call (the guide's Derived/Test/ToyasCard.lean, 'card_holds'). Laid BY PROGRAM, IN A SANDBOX (cutbox-door.mjs). By AI agents, Wed Nov 11 2026. No macro, syntax, notation, axiom, sorry.
-/
import Derived.Test.YtebekndmhgmfbaaDoorRows
import GoSem.ClaimSeven
namespace Go.Proofs.YtebekndmhgmfbaaDoor
namespace Rows

/-- THE TIED CARD OF 'veillaw12.IpaTerms'. -/
def ipaTermsCard : Claim7 := { stood := { row := ipaTermsRow, standIns := [], harness := (true, "e7b2dc34eb24a75de1937d354b257480441d75086bc927952eaf1758129a8485"), looks := true }, kinds := [], alts := [], goes := true, laidByText := true, laidKinds := [.data, .data, .wider, .data], laidTests := true, laidLooks := .later }
def IpaTermsCardSaid : Prop := Claim7.holds Tryd.pinned (.plain (OpenSpec.ofChange ipaTermsSpec)) ipaTermsCard

/-- THE TIED CARD OF 'veillaw12.IpaRounds'. -/
def ipaRoundsCard : Claim7 := { stood := { row := ipaRoundsRow, standIns := [], harness := (true, "e7b2dc34eb24a75de1937d354b257480441d75086bc927952eaf1758129a8485"), looks := true }, kinds := [], alts := [], goes := true, laidByText := true, laidKinds := [.data, .data, .wider, .data], laidTests := true, laidLooks := .later }
def IpaRoundsCardSaid : Prop := Claim7.holds Tryd.pinned (.plain (OpenSpec.ofChange ipaRoundsSpec)) ipaRoundsCard

/-- THE TIED CARD OF 'veillaw12.IpaFolds'. -/
def ipaFoldsCard : Claim7 := { stood := { row := ipaFoldsRow, standIns := [], harness := (true, "e7b2dc34eb24a75de1937d354b257480441d75086bc927952eaf1758129a8485"), looks := true }, kinds := [], alts := [], goes := true, laidByText := true, laidKinds := [.data], laidTests := true, laidLooks := .later }
def IpaFoldsCardSaid : Prop := Claim7.holds Tryd.pinned (.plain (OpenSpec.ofChange ipaFoldsSpec)) ipaFoldsCard

/-- THE TIED CARD OF 'veillaw12.IpaForged'. -/
def ipaForgedCard : Claim7 := { stood := { row := ipaForgedRow, standIns := [], harness := (true, "e7b2dc34eb24a75de1937d354b257480441d75086bc927952eaf1758129a8485"), looks := true }, kinds := [], alts := [], goes := true, laidByText := true, laidKinds := [.data], laidTests := true, laidLooks := .later }
def IpaForgedCardSaid : Prop := Claim7.holds Tryd.pinned (.plain (OpenSpec.ofChange ipaForgedSpec)) ipaForgedCard

/-- THE SECOND FORM's CARD OF 'veillaw12.IpaTerms'. -/
def ipaTermsUptoCard : Claim7 := { stood := { row := ipaTermsUptoRow, standIns := [], harness := (true, "e7b2dc34eb24a75de1937d354b257480441d75086bc927952eaf1758129a8485"), looks := true }, kinds := [], alts := [], goes := true, laidByText := true, laidKinds := [.data, .data, .wider, .data], laidTests := true, laidLooks := .later }
def IpaTermsUptoCardSaid : Prop := Claim7.holds Tryd.pinned (.plain (OpenSpec.upto ipaTermsSpec)) ipaTermsUptoCard

/-- THE SECOND FORM's CARD OF 'veillaw12.IpaRounds'. -/
def ipaRoundsUptoCard : Claim7 := { stood := { row := ipaRoundsUptoRow, standIns := [], harness := (true, "e7b2dc34eb24a75de1937d354b257480441d75086bc927952eaf1758129a8485"), looks := true }, kinds := [], alts := [], goes := true, laidByText := true, laidKinds := [.data, .data, .wider, .data], laidTests := true, laidLooks := .later }
def IpaRoundsUptoCardSaid : Prop := Claim7.holds Tryd.pinned (.plain (OpenSpec.upto ipaRoundsSpec)) ipaRoundsUptoCard

/-- THE SECOND FORM's CARD OF 'veillaw12.IpaFolds'. -/
def ipaFoldsUptoCard : Claim7 := { stood := { row := ipaFoldsUptoRow, standIns := [], harness := (true, "e7b2dc34eb24a75de1937d354b257480441d75086bc927952eaf1758129a8485"), looks := true }, kinds := [], alts := [], goes := true, laidByText := true, laidKinds := [.data], laidTests := true, laidLooks := .later }
def IpaFoldsUptoCardSaid : Prop := Claim7.holds Tryd.pinned (.plain (OpenSpec.upto ipaFoldsSpec)) ipaFoldsUptoCard

/-- THE SECOND FORM's CARD OF 'veillaw12.IpaForged'. -/
def ipaForgedUptoCard : Claim7 := { stood := { row := ipaForgedUptoRow, standIns := [], harness := (true, "e7b2dc34eb24a75de1937d354b257480441d75086bc927952eaf1758129a8485"), looks := true }, kinds := [], alts := [], goes := true, laidByText := true, laidKinds := [.data], laidTests := true, laidLooks := .later }
def IpaForgedUptoCardSaid : Prop := Claim7.holds Tryd.pinned (.plain (OpenSpec.upto ipaForgedSpec)) ipaForgedUptoCard
end Rows
end Go.Proofs.YtebekndmhgmfbaaDoor
