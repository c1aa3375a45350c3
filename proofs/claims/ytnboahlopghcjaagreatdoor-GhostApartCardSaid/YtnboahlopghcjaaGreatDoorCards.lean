/-
  DERIVED. GIVEN WITH THE SEED: THE CARDS: each row of YtnboahlopghcjaaGreatDoorRows.lean that lists a variable, with what it lists TIED to the program's text (the seventh form; the later family's looks); each row that meets fmt, with fmt's text TOLD by the authors' own Lean function (tested against real Go, not proved from fmt's source: count such statements apart). THE CARD IS WHAT COUNTS. Prove the row's statement (the work); the ties are given (YtnboahlopghcjaaGreatDoorTie.lean); close each card by the builder's one call (the guide's Derived/Test/ToyasCard.lean, 'card_holds'). Laid BY PROGRAM, IN A SANDBOX (cutbox-door.mjs). By AI agents, Wed Nov 11 2026. No macro, syntax, notation, axiom, sorry.
-/
import Derived.Test.YtnboahlopghcjaaGreatDoorRows
import GoSem.ClaimSeven
namespace Go.Proofs.YtnboahlopghcjaaGreatDoor
namespace Rows

/-- THE TIED CARD OF 'plexuslaw13.GhostOrder'. -/
def ghostOrderCard : Claim7 := { stood := { row := ghostOrderRow, standIns := [], harness := (true, "23d8755db6aacc75ba3f1fa936a816f44de661e0df76d895dac83f036284e508"), looks := true }, kinds := [], alts := [], laidByText := true, laidKinds := [.data], laidTests := true, laidLooks := .later }
def GhostOrderCardSaid : Prop := Claim7.holds Tryz.pinned (.plain (OpenSpec.ofChange ghostOrderSpec)) ghostOrderCard

/-- THE TIED CARD OF 'plexuslaw13.GhostViews'. -/
def ghostViewsCard : Claim7 := { stood := { row := ghostViewsRow, standIns := [], harness := (true, "23d8755db6aacc75ba3f1fa936a816f44de661e0df76d895dac83f036284e508"), looks := true }, kinds := [], alts := [], laidByText := true, laidKinds := [.data], laidTests := true, laidLooks := .later }
def GhostViewsCardSaid : Prop := Claim7.holds Tryz.pinned (.plain (OpenSpec.ofChange ghostViewsSpec)) ghostViewsCard

/-- THE TIED CARD OF 'plexuslaw13.GhostClusters'. -/
def ghostClustersCard : Claim7 := { stood := { row := ghostClustersRow, standIns := [], harness := (true, "23d8755db6aacc75ba3f1fa936a816f44de661e0df76d895dac83f036284e508"), looks := true }, kinds := [], alts := [], laidByText := true, laidKinds := [.data], laidTests := true, laidLooks := .later }
def GhostClustersCardSaid : Prop := Claim7.holds Tryz.pinned (.plain (OpenSpec.ofChange ghostClustersSpec)) ghostClustersCard

/-- THE TIED CARD OF 'plexuslaw13.GhostPlays'. -/
def ghostPlaysCard : Claim7 := { stood := { row := ghostPlaysRow, standIns := [], harness := (true, "23d8755db6aacc75ba3f1fa936a816f44de661e0df76d895dac83f036284e508"), looks := true }, kinds := [], alts := [], laidByText := true, laidKinds := [.data], laidTests := true, laidLooks := .later }
def GhostPlaysCardSaid : Prop := Claim7.holds Tryz.pinned (.plain (OpenSpec.ofChange ghostPlaysSpec)) ghostPlaysCard

/-- THE TIED CARD OF 'plexuslaw13.GhostApart'. -/
def ghostApartCard : Claim7 := { stood := { row := ghostApartRow, standIns := [], harness := (true, "23d8755db6aacc75ba3f1fa936a816f44de661e0df76d895dac83f036284e508"), looks := true }, kinds := [], alts := [], laidByText := true, laidKinds := [.data], laidTests := true, laidLooks := .later }
def GhostApartCardSaid : Prop := Claim7.holds Tryz.pinned (.plain (OpenSpec.ofChange ghostApartSpec)) ghostApartCard

/-- THE TIED CARD OF 'plexuslaw13.GhostNil'. -/
def ghostNilCard : Claim7 := { stood := { row := ghostNilRow, standIns := [], harness := (true, "23d8755db6aacc75ba3f1fa936a816f44de661e0df76d895dac83f036284e508"), looks := true }, kinds := [], alts := [], laidByText := true, laidKinds := [.data], laidTests := true, laidLooks := .later }
def GhostNilCardSaid : Prop := Claim7.holds Tryz.pinned (.plain (OpenSpec.ofChange ghostNilSpec)) ghostNilCard

/-- THE SECOND FORM's CARD OF 'plexuslaw13.GhostOrder'. -/
def ghostOrderUptoCard : Claim7 := { stood := { row := ghostOrderUptoRow, standIns := [], harness := (true, "23d8755db6aacc75ba3f1fa936a816f44de661e0df76d895dac83f036284e508"), looks := true }, kinds := [], alts := [], laidByText := true, laidKinds := [.data], laidTests := true, laidLooks := .later }
def GhostOrderUptoCardSaid : Prop := Claim7.holds Tryz.pinned (.plain (OpenSpec.upto ghostOrderSpec)) ghostOrderUptoCard

/-- THE SECOND FORM's CARD OF 'plexuslaw13.GhostViews'. -/
def ghostViewsUptoCard : Claim7 := { stood := { row := ghostViewsUptoRow, standIns := [], harness := (true, "23d8755db6aacc75ba3f1fa936a816f44de661e0df76d895dac83f036284e508"), looks := true }, kinds := [], alts := [], laidByText := true, laidKinds := [.data], laidTests := true, laidLooks := .later }
def GhostViewsUptoCardSaid : Prop := Claim7.holds Tryz.pinned (.plain (OpenSpec.upto ghostViewsSpec)) ghostViewsUptoCard

/-- THE SECOND FORM's CARD OF 'plexuslaw13.GhostClusters'. -/
def ghostClustersUptoCard : Claim7 := { stood := { row := ghostClustersUptoRow, standIns := [], harness := (true, "23d8755db6aacc75ba3f1fa936a816f44de661e0df76d895dac83f036284e508"), looks := true }, kinds := [], alts := [], laidByText := true, laidKinds := [.data], laidTests := true, laidLooks := .later }
def GhostClustersUptoCardSaid : Prop := Claim7.holds Tryz.pinned (.plain (OpenSpec.upto ghostClustersSpec)) ghostClustersUptoCard

/-- THE SECOND FORM's CARD OF 'plexuslaw13.GhostPlays'. -/
def ghostPlaysUptoCard : Claim7 := { stood := { row := ghostPlaysUptoRow, standIns := [], harness := (true, "23d8755db6aacc75ba3f1fa936a816f44de661e0df76d895dac83f036284e508"), looks := true }, kinds := [], alts := [], laidByText := true, laidKinds := [.data], laidTests := true, laidLooks := .later }
def GhostPlaysUptoCardSaid : Prop := Claim7.holds Tryz.pinned (.plain (OpenSpec.upto ghostPlaysSpec)) ghostPlaysUptoCard

/-- THE SECOND FORM's CARD OF 'plexuslaw13.GhostApart'. -/
def ghostApartUptoCard : Claim7 := { stood := { row := ghostApartUptoRow, standIns := [], harness := (true, "23d8755db6aacc75ba3f1fa936a816f44de661e0df76d895dac83f036284e508"), looks := true }, kinds := [], alts := [], laidByText := true, laidKinds := [.data], laidTests := true, laidLooks := .later }
def GhostApartUptoCardSaid : Prop := Claim7.holds Tryz.pinned (.plain (OpenSpec.upto ghostApartSpec)) ghostApartUptoCard

/-- THE SECOND FORM's CARD OF 'plexuslaw13.GhostNil'. -/
def ghostNilUptoCard : Claim7 := { stood := { row := ghostNilUptoRow, standIns := [], harness := (true, "23d8755db6aacc75ba3f1fa936a816f44de661e0df76d895dac83f036284e508"), looks := true }, kinds := [], alts := [], laidByText := true, laidKinds := [.data], laidTests := true, laidLooks := .later }
def GhostNilUptoCardSaid : Prop := Claim7.holds Tryz.pinned (.plain (OpenSpec.upto ghostNilSpec)) ghostNilUptoCard
end Rows
end Go.Proofs.YtnboahlopghcjaaGreatDoor
