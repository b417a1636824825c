/-
  DERIVED. GIVEN WITH THE SEED: THE CARDS: each row of YtaalannjlomiiaaDoorRows.lean that lists a variable, with what it lists TIED to the program's text (the seventh form; the later family's looks); each row that meets fmt, with fmt's text TOLD by the authors' own Lean function (tested against real Go, not proved from fmt's source: count such statements apart). THE CARD IS WHAT COUNTS. Prove the row's statement (the work); the ties are given (YtaalannjlomiiaaDoorTie.lean); close each card by the builder's one call (the guide's Derived/Test/ToyasCard.lean, 'card_holds'). Laid BY PROGRAM, IN A SANDBOX (cutbox-door.mjs). By AI agents, Wed Nov 11 2026. No macro, syntax, notation, axiom, sorry.
-/
import Derived.Test.YtaalannjlomiiaaDoorRows
import GoSem.ClaimSeven
namespace Go.Proofs.YtaalannjlomiiaaDoor
namespace Rows

/-- THE TIED CARD OF 'veillaw12.IpaWeights'. -/
def ipaWeightsCard : Claim7 := { stood := { row := ipaWeightsRow, standIns := [], harness := (true, "c1ab9e57a07d90f6643e8d3b82e3e2fef6d6a5cca6e6ee8f1c3dae715ec06634"), looks := false }, kinds := [], alts := [], laidByText := true, laidKinds := [.data], laidTests := true, laidLooks := .later }
def IpaWeightsCardSaid : Prop := Claim7.holds Tryd.pinned (.plain (OpenSpec.ofChange ipaWeightsSpec)) ipaWeightsCard

/-- THE SECOND FORM's CARD OF 'veillaw12.IpaWeights'. -/
def ipaWeightsUptoCard : Claim7 := { stood := { row := ipaWeightsUptoRow, standIns := [], harness := (true, "c1ab9e57a07d90f6643e8d3b82e3e2fef6d6a5cca6e6ee8f1c3dae715ec06634"), looks := false }, kinds := [], alts := [], laidByText := true, laidKinds := [.data], laidTests := true, laidLooks := .later }
def IpaWeightsUptoCardSaid : Prop := Claim7.holds Tryd.pinned (.plain (OpenSpec.upto ipaWeightsSpec)) ipaWeightsUptoCard
end Rows
end Go.Proofs.YtaalannjlomiiaaDoor
