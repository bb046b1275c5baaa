/-
  DERIVED. GIVEN WITH THE SEED: THE CARDS: each row of YtbhopcgbdofcjaaDoorRows.lean that lists a variable, with what it lists TIED to the program's text (the seventh form; the later family's looks); each row that meets fmt, with fmt's text TOLD by the authors' own Lean function (tested against real Go, not proved from fmt's source: count such statements apart). THE CARD IS WHAT COUNTS. Prove the row's statement (the work); the ties are given (YtbhopcgbdofcjaaDoorTie.lean); close each card by the builder's one call (the guide's Derived/Test/ToyasCard.lean, 'card_holds'). Laid BY PROGRAM, IN A SANDBOX (cutbox-door.mjs). By AI agents, Wed Nov 11 2026. No macro, syntax, notation, axiom, sorry.
-/
import Derived.Test.YtbhopcgbdofcjaaDoorRows
import GoSem.ClaimSeven
namespace Go.Proofs.YtbhopcgbdofcjaaDoor
namespace Rows

/-- THE TIED CARD OF 'modelchecklaw22.EventAgents'. -/
def eventAgentsCard : Claim7 := { stood := { row := eventAgentsRow, standIns := [], harness := (true, "3364d690466a141f656d69ef1972d5b206cb91b11117de94d0a37dffc244f3f4"), looks := false }, kinds := [], alts := [], laidByText := true, laidKinds := [.data], laidTests := true, laidLooks := .later }
def EventAgentsCardSaid : Prop := Claim7.holds Tryd.pinned (.plain (OpenSpec.ofChange eventAgentsSpec)) eventAgentsCard

/-- THE TIED CARD OF 'modelchecklaw22.EventDependent'. -/
def eventDependentCard : Claim7 := { stood := { row := eventDependentRow, standIns := [], harness := (true, "3364d690466a141f656d69ef1972d5b206cb91b11117de94d0a37dffc244f3f4"), looks := false }, kinds := [], alts := [], laidByText := true, laidKinds := [.data], laidTests := true, laidLooks := .later }
def EventDependentCardSaid : Prop := Claim7.holds Tryd.pinned (.plain (OpenSpec.ofChange eventDependentSpec)) eventDependentCard

/-- THE TIED CARD OF 'modelchecklaw22.EventStable'. -/
def eventStableCard : Claim7 := { stood := { row := eventStableRow, standIns := [], harness := (true, "3364d690466a141f656d69ef1972d5b206cb91b11117de94d0a37dffc244f3f4"), looks := false }, kinds := [], alts := [], laidByText := true, laidKinds := [.data], laidTests := true, laidLooks := .later }
def EventStableCardSaid : Prop := Claim7.holds Tryd.pinned (.plain (OpenSpec.ofChange eventStableSpec)) eventStableCard

/-- THE TIED CARD OF 'modelchecklaw22.EventObjects'. -/
def eventObjectsCard : Claim7 := { stood := { row := eventObjectsRow, standIns := [], harness := (true, "3364d690466a141f656d69ef1972d5b206cb91b11117de94d0a37dffc244f3f4"), looks := false }, kinds := [], alts := [], laidByText := true, laidKinds := [.data], laidTests := true, laidLooks := .later }
def EventObjectsCardSaid : Prop := Claim7.holds Tryd.pinned (.plain (OpenSpec.ofChange eventObjectsSpec)) eventObjectsCard

/-- THE TIED CARD OF 'modelchecklaw22.EventValid'. -/
def eventValidCard : Claim7 := { stood := { row := eventValidRow, standIns := [], harness := (true, "3364d690466a141f656d69ef1972d5b206cb91b11117de94d0a37dffc244f3f4"), looks := false }, kinds := [], alts := [], laidByText := true, laidKinds := [.data], laidTests := true, laidLooks := .later }
def EventValidCardSaid : Prop := Claim7.holds Tryd.pinned (.plain (OpenSpec.ofChange eventValidSpec)) eventValidCard

/-- THE SECOND FORM's CARD OF 'modelchecklaw22.EventAgents'. -/
def eventAgentsUptoCard : Claim7 := { stood := { row := eventAgentsUptoRow, standIns := [], harness := (true, "3364d690466a141f656d69ef1972d5b206cb91b11117de94d0a37dffc244f3f4"), looks := false }, kinds := [], alts := [], laidByText := true, laidKinds := [.data], laidTests := true, laidLooks := .later }
def EventAgentsUptoCardSaid : Prop := Claim7.holds Tryd.pinned (.plain (OpenSpec.upto eventAgentsSpec)) eventAgentsUptoCard

/-- THE SECOND FORM's CARD OF 'modelchecklaw22.EventDependent'. -/
def eventDependentUptoCard : Claim7 := { stood := { row := eventDependentUptoRow, standIns := [], harness := (true, "3364d690466a141f656d69ef1972d5b206cb91b11117de94d0a37dffc244f3f4"), looks := false }, kinds := [], alts := [], laidByText := true, laidKinds := [.data], laidTests := true, laidLooks := .later }
def EventDependentUptoCardSaid : Prop := Claim7.holds Tryd.pinned (.plain (OpenSpec.upto eventDependentSpec)) eventDependentUptoCard

/-- THE SECOND FORM's CARD OF 'modelchecklaw22.EventStable'. -/
def eventStableUptoCard : Claim7 := { stood := { row := eventStableUptoRow, standIns := [], harness := (true, "3364d690466a141f656d69ef1972d5b206cb91b11117de94d0a37dffc244f3f4"), looks := false }, kinds := [], alts := [], laidByText := true, laidKinds := [.data], laidTests := true, laidLooks := .later }
def EventStableUptoCardSaid : Prop := Claim7.holds Tryd.pinned (.plain (OpenSpec.upto eventStableSpec)) eventStableUptoCard

/-- THE SECOND FORM's CARD OF 'modelchecklaw22.EventObjects'. -/
def eventObjectsUptoCard : Claim7 := { stood := { row := eventObjectsUptoRow, standIns := [], harness := (true, "3364d690466a141f656d69ef1972d5b206cb91b11117de94d0a37dffc244f3f4"), looks := false }, kinds := [], alts := [], laidByText := true, laidKinds := [.data], laidTests := true, laidLooks := .later }
def EventObjectsUptoCardSaid : Prop := Claim7.holds Tryd.pinned (.plain (OpenSpec.upto eventObjectsSpec)) eventObjectsUptoCard

/-- THE SECOND FORM's CARD OF 'modelchecklaw22.EventValid'. -/
def eventValidUptoCard : Claim7 := { stood := { row := eventValidUptoRow, standIns := [], harness := (true, "3364d690466a141f656d69ef1972d5b206cb91b11117de94d0a37dffc244f3f4"), looks := false }, kinds := [], alts := [], laidByText := true, laidKinds := [.data], laidTests := true, laidLooks := .later }
def EventValidUptoCardSaid : Prop := Claim7.holds Tryd.pinned (.plain (OpenSpec.upto eventValidSpec)) eventValidUptoCard
end Rows
end Go.Proofs.YtbhopcgbdofcjaaDoor
