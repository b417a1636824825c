/-
  DERIVED. GIVEN WITH THE SEED: THE CARDS: each row of YthjchgboecjekaaDoorRows.lean that lists a variable, with what it lists TIED to the program's text (the seventh form; the later family's looks); each row that meets fmt, with fmt's text TOLD by the authors' own Lean function (tested against real Go, not proved from fmt's source: count such statements apart). THE CARD IS WHAT COUNTS. Prove the row's statement (the work); the ties are given (YthjchgboecjekaaDoorTie.lean); close each card by the builder's one call (the guide's Derived/Test/ToyasCard.lean, 'card_holds'). Laid BY PROGRAM, IN A SANDBOX (cutbox-door.mjs). By AI agents, Wed Nov 11 2026. No macro, syntax, notation, axiom, sorry.
-/
import Derived.Test.YthjchgboecjekaaDoorRows
import GoSem.ClaimSeven
namespace Go.Proofs.YthjchgboecjekaaDoor
namespace Rows

/-- THE TIED CARD OF 'veillaw21.ArithCodes'. -/
def arithCodesCard : Claim7 := { stood := { row := arithCodesRow, standIns := [], harness := (true, "324e7fedc867eda4826d5b33a2779b37765edcbc26a5aaedb99bf8fe5c7584e5"), looks := false }, kinds := [], alts := [], laidByText := true, laidKinds := [.data, .data, .data, .data, .wider, .data], laidTests := true, laidLooks := .later }
def ArithCodesCardSaid : Prop := Claim7.holds Tryd.pinned (.plain (OpenSpec.ofChange arithCodesSpec)) arithCodesCard

/-- THE SECOND FORM's CARD OF 'veillaw21.ArithCodes'. -/
def arithCodesUptoCard : Claim7 := { stood := { row := arithCodesUptoRow, standIns := [], harness := (true, "324e7fedc867eda4826d5b33a2779b37765edcbc26a5aaedb99bf8fe5c7584e5"), looks := false }, kinds := [], alts := [], laidByText := true, laidKinds := [.data, .data, .data, .data, .wider, .data], laidTests := true, laidLooks := .later }
def ArithCodesUptoCardSaid : Prop := Claim7.holds Tryd.pinned (.plain (OpenSpec.upto arithCodesSpec)) arithCodesUptoCard
end Rows
end Go.Proofs.YthjchgboecjekaaDoor
