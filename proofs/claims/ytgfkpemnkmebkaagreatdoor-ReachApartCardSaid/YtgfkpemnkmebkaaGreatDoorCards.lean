/-
  DERIVED. GIVEN WITH THE SEED: THE CARDS: each row of YtgfkpemnkmebkaaGreatDoorRows.lean that lists a variable, with what it lists TIED to the program's text (the seventh form; the later family's looks); each row that meets fmt, with fmt's text TOLD by the authors' own Lean function (tested against real Go, not proved from fmt's source: count such statements apart). THE CARD IS WHAT COUNTS. Prove the row's statement (the work); the ties are given (YtgfkpemnkmebkaaGreatDoorTie.lean); close each card by the builder's one call (the guide's Derived/Test/ToyasCard.lean, 'card_holds'). Laid BY PROGRAM, IN A SANDBOX (cutbox-door.mjs). By AI agents, Wed Nov 11 2026. No macro, syntax, notation, axiom, sorry.
-/
import Derived.Test.YtgfkpemnkmebkaaGreatDoorRows
import GoSem.ClaimSeven
namespace Go.Proofs.YtgfkpemnkmebkaaGreatDoor
namespace Rows

/-- THE TIED CARD OF 'plexuslaw12.ReachForks'. -/
def reachForksCard : Claim7 := { stood := { row := reachForksRow, standIns := [], harness := (true, "07fc4c3e5665026214baa5c72c6d2091d1d8a8deffe544fa500ed0b28b1974b8"), looks := true }, kinds := [], alts := [], laidByText := true, laidKinds := [.data], laidTests := true, laidLooks := .later }
def ReachForksCardSaid : Prop := Claim7.holds Tryz.pinned (.plain (OpenSpec.ofChange reachForksSpec)) reachForksCard

/-- THE TIED CARD OF 'plexuslaw12.ReachApart'. -/
def reachApartCard : Claim7 := { stood := { row := reachApartRow, standIns := [], harness := (true, "07fc4c3e5665026214baa5c72c6d2091d1d8a8deffe544fa500ed0b28b1974b8"), looks := true }, kinds := [], alts := [], laidByText := true, laidKinds := [.data], laidTests := true, laidLooks := .later }
def ReachApartCardSaid : Prop := Claim7.holds Tryz.pinned (.plain (OpenSpec.ofChange reachApartSpec)) reachApartCard

/-- THE SECOND FORM's CARD OF 'plexuslaw12.ReachForks'. -/
def reachForksUptoCard : Claim7 := { stood := { row := reachForksUptoRow, standIns := [], harness := (true, "07fc4c3e5665026214baa5c72c6d2091d1d8a8deffe544fa500ed0b28b1974b8"), looks := true }, kinds := [], alts := [], laidByText := true, laidKinds := [.data], laidTests := true, laidLooks := .later }
def ReachForksUptoCardSaid : Prop := Claim7.holds Tryz.pinned (.plain (OpenSpec.upto reachForksSpec)) reachForksUptoCard

/-- THE SECOND FORM's CARD OF 'plexuslaw12.ReachApart'. -/
def reachApartUptoCard : Claim7 := { stood := { row := reachApartUptoRow, standIns := [], harness := (true, "07fc4c3e5665026214baa5c72c6d2091d1d8a8deffe544fa500ed0b28b1974b8"), looks := true }, kinds := [], alts := [], laidByText := true, laidKinds := [.data], laidTests := true, laidLooks := .later }
def ReachApartUptoCardSaid : Prop := Claim7.holds Tryz.pinned (.plain (OpenSpec.upto reachApartSpec)) reachApartUptoCard
end Rows
end Go.Proofs.YtgfkpemnkmebkaaGreatDoor
