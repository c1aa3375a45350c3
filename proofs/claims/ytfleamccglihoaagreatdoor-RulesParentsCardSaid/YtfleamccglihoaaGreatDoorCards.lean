/-
  DERIVED. GIVEN WITH THE SEED: THE CARDS: each row of YtfleamccglihoaaGreatDoorRows.lean that lists a variable, with what it lists TIED to the program's text (the seventh form; the later family's looks); each row that meets fmt, with fmt's text TOLD by the authors' own Lean function (tested against real Go, not proved from fmt's source: count such statements apart). THE CARD IS WHAT COUNTS. Prove the row's statement (the work); the ties are given (YtfleamccglihoaaGreatDoorTie.lean); close each card by the builder's one call (the guide's Derived/Test/ToyasCard.lean, 'card_holds'). Laid BY PROGRAM, IN A SANDBOX (cutbox-door.mjs). By AI agents, Wed Nov 11 2026. No macro, syntax, notation, axiom, sorry.
-/
import Derived.Test.YtfleamccglihoaaGreatDoorRows
import GoSem.ClaimSeven
namespace Go.Proofs.YtfleamccglihoaaGreatDoor
namespace Rows

/-- THE TIED CARD OF 'plexuslaw19.RulesParents'. -/
def rulesParentsCard : Claim7 := { stood := { row := rulesParentsRow, standIns := [], harness := (true, "21c689683e3e7971a7c289a2929b5df6700f3f36006fe884fb82f2138ee136cd"), looks := false }, kinds := [], alts := [], laidByText := true, laidKinds := [.data], laidTests := true, laidLooks := .later }
def RulesParentsCardSaid : Prop := Claim7.holds Tryz.pinned (.plain (OpenSpec.ofChange rulesParentsSpec)) rulesParentsCard

/-- THE TIED CARD OF 'plexuslaw19.RulesNil'. -/
def rulesNilCard : Claim7 := { stood := { row := rulesNilRow, standIns := [], harness := (true, "21c689683e3e7971a7c289a2929b5df6700f3f36006fe884fb82f2138ee136cd"), looks := false }, kinds := [], alts := [], laidByText := true, laidKinds := [.data], laidTests := true, laidLooks := .later }
def RulesNilCardSaid : Prop := Claim7.holds Tryz.pinned (.plain (OpenSpec.ofChange rulesNilSpec)) rulesNilCard

/-- THE TIED CARD OF 'plexuslaw14.OrderStays'. -/
def orderStaysCard : Claim7 := { stood := { row := orderStaysRow, standIns := [], harness := (true, "21c689683e3e7971a7c289a2929b5df6700f3f36006fe884fb82f2138ee136cd"), looks := false }, kinds := [], alts := [], laidByText := true, laidKinds := [.data], laidTests := true, laidLooks := .later }
def OrderStaysCardSaid : Prop := Claim7.holds Tryz.pinned (.plain (OpenSpec.ofChange orderStaysSpec)) orderStaysCard

/-- THE TIED CARD OF 'plexuslaw14.OrderOf'. -/
def orderOfCard : Claim7 := { stood := { row := orderOfRow, standIns := [], harness := (true, "21c689683e3e7971a7c289a2929b5df6700f3f36006fe884fb82f2138ee136cd"), looks := false }, kinds := [], alts := [], laidByText := true, laidKinds := [.data], laidTests := true, laidLooks := .later }
def OrderOfCardSaid : Prop := Claim7.holds Tryz.pinned (.plain (OpenSpec.ofChange orderOfSpec)) orderOfCard

/-- THE TIED CARD OF 'plexuslaw14.OrderViews'. -/
def orderViewsCard : Claim7 := { stood := { row := orderViewsRow, standIns := [], harness := (true, "21c689683e3e7971a7c289a2929b5df6700f3f36006fe884fb82f2138ee136cd"), looks := false }, kinds := [], alts := [], laidByText := true, laidKinds := [.data], laidTests := true, laidLooks := .later }
def OrderViewsCardSaid : Prop := Claim7.holds Tryz.pinned (.plain (OpenSpec.ofChange orderViewsSpec)) orderViewsCard

/-- THE TIED CARD OF 'plexuslaw14.OrderPlaces'. -/
def orderPlacesCard : Claim7 := { stood := { row := orderPlacesRow, standIns := [], harness := (true, "21c689683e3e7971a7c289a2929b5df6700f3f36006fe884fb82f2138ee136cd"), looks := false }, kinds := [], alts := [], laidByText := true, laidKinds := [.data], laidTests := true, laidLooks := .later }
def OrderPlacesCardSaid : Prop := Claim7.holds Tryz.pinned (.plain (OpenSpec.ofChange orderPlacesSpec)) orderPlacesCard

/-- THE TIED CARD OF 'plexuslaw19.RulesHeaders'. -/
def rulesHeadersCard : Claim7 := { stood := { row := rulesHeadersRow, standIns := [], harness := (true, "21c689683e3e7971a7c289a2929b5df6700f3f36006fe884fb82f2138ee136cd"), looks := false }, kinds := [], alts := [], laidByText := true, laidKinds := [.data], laidTests := true, laidLooks := .later }
def RulesHeadersCardSaid : Prop := Claim7.holds Tryz.pinned (.plain (OpenSpec.ofChange rulesHeadersSpec)) rulesHeadersCard

/-- THE TIED CARD OF 'plexuslaw19.RulesParams'. -/
def rulesParamsCard : Claim7 := { stood := { row := rulesParamsRow, standIns := [], harness := (true, "21c689683e3e7971a7c289a2929b5df6700f3f36006fe884fb82f2138ee136cd"), looks := false }, kinds := [], alts := [], laidByText := true, laidKinds := [.data], laidTests := true, laidLooks := .later }
def RulesParamsCardSaid : Prop := Claim7.holds Tryz.pinned (.plain (OpenSpec.ofChange rulesParamsSpec)) rulesParamsCard

/-- THE TIED CARD OF 'plexuslaw19.RulesStay'. -/
def rulesStayCard : Claim7 := { stood := { row := rulesStayRow, standIns := [], harness := (true, "21c689683e3e7971a7c289a2929b5df6700f3f36006fe884fb82f2138ee136cd"), looks := false }, kinds := [], alts := [], laidByText := true, laidKinds := [.data], laidTests := true, laidLooks := .later }
def RulesStayCardSaid : Prop := Claim7.holds Tryz.pinned (.plain (OpenSpec.ofChange rulesStaySpec)) rulesStayCard

/-- THE SECOND FORM's CARD OF 'plexuslaw19.RulesParents'. -/
def rulesParentsUptoCard : Claim7 := { stood := { row := rulesParentsUptoRow, standIns := [], harness := (true, "21c689683e3e7971a7c289a2929b5df6700f3f36006fe884fb82f2138ee136cd"), looks := false }, kinds := [], alts := [], laidByText := true, laidKinds := [.data], laidTests := true, laidLooks := .later }
def RulesParentsUptoCardSaid : Prop := Claim7.holds Tryz.pinned (.plain (OpenSpec.upto rulesParentsSpec)) rulesParentsUptoCard

/-- THE SECOND FORM's CARD OF 'plexuslaw19.RulesNil'. -/
def rulesNilUptoCard : Claim7 := { stood := { row := rulesNilUptoRow, standIns := [], harness := (true, "21c689683e3e7971a7c289a2929b5df6700f3f36006fe884fb82f2138ee136cd"), looks := false }, kinds := [], alts := [], laidByText := true, laidKinds := [.data], laidTests := true, laidLooks := .later }
def RulesNilUptoCardSaid : Prop := Claim7.holds Tryz.pinned (.plain (OpenSpec.upto rulesNilSpec)) rulesNilUptoCard

/-- THE SECOND FORM's CARD OF 'plexuslaw14.OrderStays'. -/
def orderStaysUptoCard : Claim7 := { stood := { row := orderStaysUptoRow, standIns := [], harness := (true, "21c689683e3e7971a7c289a2929b5df6700f3f36006fe884fb82f2138ee136cd"), looks := false }, kinds := [], alts := [], laidByText := true, laidKinds := [.data], laidTests := true, laidLooks := .later }
def OrderStaysUptoCardSaid : Prop := Claim7.holds Tryz.pinned (.plain (OpenSpec.upto orderStaysSpec)) orderStaysUptoCard

/-- THE SECOND FORM's CARD OF 'plexuslaw14.OrderOf'. -/
def orderOfUptoCard : Claim7 := { stood := { row := orderOfUptoRow, standIns := [], harness := (true, "21c689683e3e7971a7c289a2929b5df6700f3f36006fe884fb82f2138ee136cd"), looks := false }, kinds := [], alts := [], laidByText := true, laidKinds := [.data], laidTests := true, laidLooks := .later }
def OrderOfUptoCardSaid : Prop := Claim7.holds Tryz.pinned (.plain (OpenSpec.upto orderOfSpec)) orderOfUptoCard

/-- THE SECOND FORM's CARD OF 'plexuslaw14.OrderViews'. -/
def orderViewsUptoCard : Claim7 := { stood := { row := orderViewsUptoRow, standIns := [], harness := (true, "21c689683e3e7971a7c289a2929b5df6700f3f36006fe884fb82f2138ee136cd"), looks := false }, kinds := [], alts := [], laidByText := true, laidKinds := [.data], laidTests := true, laidLooks := .later }
def OrderViewsUptoCardSaid : Prop := Claim7.holds Tryz.pinned (.plain (OpenSpec.upto orderViewsSpec)) orderViewsUptoCard

/-- THE SECOND FORM's CARD OF 'plexuslaw14.OrderPlaces'. -/
def orderPlacesUptoCard : Claim7 := { stood := { row := orderPlacesUptoRow, standIns := [], harness := (true, "21c689683e3e7971a7c289a2929b5df6700f3f36006fe884fb82f2138ee136cd"), looks := false }, kinds := [], alts := [], laidByText := true, laidKinds := [.data], laidTests := true, laidLooks := .later }
def OrderPlacesUptoCardSaid : Prop := Claim7.holds Tryz.pinned (.plain (OpenSpec.upto orderPlacesSpec)) orderPlacesUptoCard

/-- THE SECOND FORM's CARD OF 'plexuslaw19.RulesHeaders'. -/
def rulesHeadersUptoCard : Claim7 := { stood := { row := rulesHeadersUptoRow, standIns := [], harness := (true, "21c689683e3e7971a7c289a2929b5df6700f3f36006fe884fb82f2138ee136cd"), looks := false }, kinds := [], alts := [], laidByText := true, laidKinds := [.data], laidTests := true, laidLooks := .later }
def RulesHeadersUptoCardSaid : Prop := Claim7.holds Tryz.pinned (.plain (OpenSpec.upto rulesHeadersSpec)) rulesHeadersUptoCard

/-- THE SECOND FORM's CARD OF 'plexuslaw19.RulesParams'. -/
def rulesParamsUptoCard : Claim7 := { stood := { row := rulesParamsUptoRow, standIns := [], harness := (true, "21c689683e3e7971a7c289a2929b5df6700f3f36006fe884fb82f2138ee136cd"), looks := false }, kinds := [], alts := [], laidByText := true, laidKinds := [.data], laidTests := true, laidLooks := .later }
def RulesParamsUptoCardSaid : Prop := Claim7.holds Tryz.pinned (.plain (OpenSpec.upto rulesParamsSpec)) rulesParamsUptoCard

/-- THE SECOND FORM's CARD OF 'plexuslaw19.RulesStay'. -/
def rulesStayUptoCard : Claim7 := { stood := { row := rulesStayUptoRow, standIns := [], harness := (true, "21c689683e3e7971a7c289a2929b5df6700f3f36006fe884fb82f2138ee136cd"), looks := false }, kinds := [], alts := [], laidByText := true, laidKinds := [.data], laidTests := true, laidLooks := .later }
def RulesStayUptoCardSaid : Prop := Claim7.holds Tryz.pinned (.plain (OpenSpec.upto rulesStaySpec)) rulesStayUptoCard
end Rows
end Go.Proofs.YtfleamccglihoaaGreatDoor
