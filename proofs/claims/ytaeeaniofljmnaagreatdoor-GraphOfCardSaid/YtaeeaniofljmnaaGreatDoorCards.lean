/-
  DERIVED. GIVEN WITH THE SEED: THE CARDS: each row of YtaeeaniofljmnaaGreatDoorRows.lean that lists a variable, with what it lists TIED to the program's text (the seventh form; the later family's looks); each row that meets fmt, with fmt's text TOLD by the authors' own Lean function (tested against real Go, not proved from fmt's source: count such statements apart). THE CARD IS WHAT COUNTS. Prove the row's statement (the work); the ties are given (YtaeeaniofljmnaaGreatDoorTie.lean); close each card by the builder's one call (the guide's Derived/Test/ToyasCard.lean, 'card_holds'). Laid BY PROGRAM, IN A SANDBOX (cutbox-door.mjs). By AI agents, Wed Nov 11 2026. No macro, syntax, notation, axiom, sorry.
-/
import Derived.Test.YtaeeaniofljmnaaGreatDoorRows
import GoSem.ClaimSeven
namespace Go.Proofs.YtaeeaniofljmnaaGreatDoor
namespace Rows

/-- THE TIED CARD OF 'modelchecklaw39.GraphDerived'. -/
def graphDerivedCard : Claim7 := { stood := { row := graphDerivedRow, standIns := [], harness := (true, "22a3b03c1a933d403225c6ae3fa8f645dcecb806270a15a43a9702d55488588f"), looks := false }, kinds := [], alts := [], laidByText := true, laidKinds := [.data], laidTests := true, laidLooks := .later }
def GraphDerivedCardSaid : Prop := Claim7.holds Tryz.pinned (.plain (OpenSpec.ofChange graphDerivedSpec)) graphDerivedCard

/-- THE TIED CARD OF 'modelchecklaw39.GraphForms'. -/
def graphFormsCard : Claim7 := { stood := { row := graphFormsRow, standIns := [], harness := (true, "22a3b03c1a933d403225c6ae3fa8f645dcecb806270a15a43a9702d55488588f"), looks := false }, kinds := [], alts := [], laidByText := true, laidKinds := [.data], laidTests := true, laidLooks := .later }
def GraphFormsCardSaid : Prop := Claim7.holds Tryz.pinned (.plain (OpenSpec.ofChange graphFormsSpec)) graphFormsCard

/-- THE TIED CARD OF 'modelchecklaw39.GraphOrders'. -/
def graphOrdersCard : Claim7 := { stood := { row := graphOrdersRow, standIns := [], harness := (true, "22a3b03c1a933d403225c6ae3fa8f645dcecb806270a15a43a9702d55488588f"), looks := false }, kinds := [], alts := [], laidByText := true, laidKinds := [.data], laidTests := true, laidLooks := .later }
def GraphOrdersCardSaid : Prop := Claim7.holds Tryz.pinned (.plain (OpenSpec.ofChange graphOrdersSpec)) graphOrdersCard

/-- THE TIED CARD OF 'modelchecklaw39.GraphOf'. -/
def graphOfCard : Claim7 := { stood := { row := graphOfRow, standIns := [], harness := (true, "22a3b03c1a933d403225c6ae3fa8f645dcecb806270a15a43a9702d55488588f"), looks := false }, kinds := [], alts := [], laidByText := true, laidKinds := [.data], laidTests := true, laidLooks := .later }
def GraphOfCardSaid : Prop := Claim7.holds Tryz.pinned (.plain (OpenSpec.ofChange graphOfSpec)) graphOfCard

/-- THE TIED CARD OF 'modelchecklaw39.GraphRuns'. -/
def graphRunsCard : Claim7 := { stood := { row := graphRunsRow, standIns := [], harness := (true, "22a3b03c1a933d403225c6ae3fa8f645dcecb806270a15a43a9702d55488588f"), looks := false }, kinds := [], alts := [], laidByText := true, laidKinds := [.data], laidTests := true, laidLooks := .later }
def GraphRunsCardSaid : Prop := Claim7.holds Tryz.pinned (.plain (OpenSpec.ofChange graphRunsSpec)) graphRunsCard

/-- THE TIED CARD OF 'modelchecklaw39.GraphSame'. -/
def graphSameCard : Claim7 := { stood := { row := graphSameRow, standIns := [], harness := (true, "22a3b03c1a933d403225c6ae3fa8f645dcecb806270a15a43a9702d55488588f"), looks := false }, kinds := [], alts := [], laidByText := true, laidKinds := [.data], laidTests := true, laidLooks := .later }
def GraphSameCardSaid : Prop := Claim7.holds Tryz.pinned (.plain (OpenSpec.ofChange graphSameSpec)) graphSameCard

/-- THE SECOND FORM's CARD OF 'modelchecklaw39.GraphDerived'. -/
def graphDerivedUptoCard : Claim7 := { stood := { row := graphDerivedUptoRow, standIns := [], harness := (true, "22a3b03c1a933d403225c6ae3fa8f645dcecb806270a15a43a9702d55488588f"), looks := false }, kinds := [], alts := [], laidByText := true, laidKinds := [.data], laidTests := true, laidLooks := .later }
def GraphDerivedUptoCardSaid : Prop := Claim7.holds Tryz.pinned (.plain (OpenSpec.upto graphDerivedSpec)) graphDerivedUptoCard

/-- THE SECOND FORM's CARD OF 'modelchecklaw39.GraphForms'. -/
def graphFormsUptoCard : Claim7 := { stood := { row := graphFormsUptoRow, standIns := [], harness := (true, "22a3b03c1a933d403225c6ae3fa8f645dcecb806270a15a43a9702d55488588f"), looks := false }, kinds := [], alts := [], laidByText := true, laidKinds := [.data], laidTests := true, laidLooks := .later }
def GraphFormsUptoCardSaid : Prop := Claim7.holds Tryz.pinned (.plain (OpenSpec.upto graphFormsSpec)) graphFormsUptoCard

/-- THE SECOND FORM's CARD OF 'modelchecklaw39.GraphOrders'. -/
def graphOrdersUptoCard : Claim7 := { stood := { row := graphOrdersUptoRow, standIns := [], harness := (true, "22a3b03c1a933d403225c6ae3fa8f645dcecb806270a15a43a9702d55488588f"), looks := false }, kinds := [], alts := [], laidByText := true, laidKinds := [.data], laidTests := true, laidLooks := .later }
def GraphOrdersUptoCardSaid : Prop := Claim7.holds Tryz.pinned (.plain (OpenSpec.upto graphOrdersSpec)) graphOrdersUptoCard

/-- THE SECOND FORM's CARD OF 'modelchecklaw39.GraphOf'. -/
def graphOfUptoCard : Claim7 := { stood := { row := graphOfUptoRow, standIns := [], harness := (true, "22a3b03c1a933d403225c6ae3fa8f645dcecb806270a15a43a9702d55488588f"), looks := false }, kinds := [], alts := [], laidByText := true, laidKinds := [.data], laidTests := true, laidLooks := .later }
def GraphOfUptoCardSaid : Prop := Claim7.holds Tryz.pinned (.plain (OpenSpec.upto graphOfSpec)) graphOfUptoCard

/-- THE SECOND FORM's CARD OF 'modelchecklaw39.GraphRuns'. -/
def graphRunsUptoCard : Claim7 := { stood := { row := graphRunsUptoRow, standIns := [], harness := (true, "22a3b03c1a933d403225c6ae3fa8f645dcecb806270a15a43a9702d55488588f"), looks := false }, kinds := [], alts := [], laidByText := true, laidKinds := [.data], laidTests := true, laidLooks := .later }
def GraphRunsUptoCardSaid : Prop := Claim7.holds Tryz.pinned (.plain (OpenSpec.upto graphRunsSpec)) graphRunsUptoCard

/-- THE SECOND FORM's CARD OF 'modelchecklaw39.GraphSame'. -/
def graphSameUptoCard : Claim7 := { stood := { row := graphSameUptoRow, standIns := [], harness := (true, "22a3b03c1a933d403225c6ae3fa8f645dcecb806270a15a43a9702d55488588f"), looks := false }, kinds := [], alts := [], laidByText := true, laidKinds := [.data], laidTests := true, laidLooks := .later }
def GraphSameUptoCardSaid : Prop := Claim7.holds Tryz.pinned (.plain (OpenSpec.upto graphSameSpec)) graphSameUptoCard
end Rows
end Go.Proofs.YtaeeaniofljmnaaGreatDoor
