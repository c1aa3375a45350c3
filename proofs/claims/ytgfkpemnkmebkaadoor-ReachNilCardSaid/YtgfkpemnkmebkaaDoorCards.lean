/-
  DERIVED. GIVEN WITH THE SEED: THE CARDS: each row of YtgfkpemnkmebkaaDoorRows.lean that lists a variable, with what it lists TIED to the program's text (the seventh form; the later family's looks); each row that meets fmt, with fmt's text TOLD by the authors' own Lean function (tested against real Go, not proved from fmt's source: count such statements apart). THE CARD IS WHAT COUNTS. Prove the row's statement (the work); the ties are given (YtgfkpemnkmebkaaDoorTie.lean); close each card by the builder's one call (the guide's Derived/Test/ToyasCard.lean, 'card_holds'). Laid BY PROGRAM, IN A SANDBOX (cutbox-door.mjs). By AI agents, Wed Nov 11 2026. No macro, syntax, notation, axiom, sorry.
-/
import Derived.Test.YtgfkpemnkmebkaaDoorRows
import GoSem.ClaimSeven
namespace Go.Proofs.YtgfkpemnkmebkaaDoor
namespace Rows

/-- THE TIED CARD OF 'plexuslaw12.ReachDeep'. -/
def reachDeepCard : Claim7 := { stood := { row := reachDeepRow, standIns := [], harness := (true, "c273851335f09ce5dd90d57471c58420ce5143c3f228ad8de92842142cb7801c"), looks := true }, kinds := [], alts := [], laidByText := true, laidKinds := [.data], laidTests := true, laidLooks := .later }
def ReachDeepCardSaid : Prop := Claim7.holds Tryd.pinned (.plain (OpenSpec.ofChange reachDeepSpec)) reachDeepCard

/-- THE TIED CARD OF 'plexuslaw12.ReachCovers'. -/
def reachCoversCard : Claim7 := { stood := { row := reachCoversRow, standIns := [], harness := (true, "c273851335f09ce5dd90d57471c58420ce5143c3f228ad8de92842142cb7801c"), looks := true }, kinds := [], alts := [], laidByText := true, laidKinds := [.data], laidTests := true, laidLooks := .later }
def ReachCoversCardSaid : Prop := Claim7.holds Tryd.pinned (.plain (OpenSpec.ofChange reachCoversSpec)) reachCoversCard

/-- THE TIED CARD OF 'plexuslaw12.ReachPlays'. -/
def reachPlaysCard : Claim7 := { stood := { row := reachPlaysRow, standIns := [], harness := (true, "c273851335f09ce5dd90d57471c58420ce5143c3f228ad8de92842142cb7801c"), looks := true }, kinds := [], alts := [], laidByText := true, laidKinds := [.data], laidTests := true, laidLooks := .later }
def ReachPlaysCardSaid : Prop := Claim7.holds Tryd.pinned (.plain (OpenSpec.ofChange reachPlaysSpec)) reachPlaysCard

/-- THE TIED CARD OF 'plexuslaw12.ReachNil'. -/
def reachNilCard : Claim7 := { stood := { row := reachNilRow, standIns := [], harness := (true, "c273851335f09ce5dd90d57471c58420ce5143c3f228ad8de92842142cb7801c"), looks := true }, kinds := [], alts := [], laidByText := true, laidKinds := [.data], laidTests := true, laidLooks := .later }
def ReachNilCardSaid : Prop := Claim7.holds Tryd.pinned (.plain (OpenSpec.ofChange reachNilSpec)) reachNilCard

/-- THE SECOND FORM's CARD OF 'plexuslaw12.ReachDeep'. -/
def reachDeepUptoCard : Claim7 := { stood := { row := reachDeepUptoRow, standIns := [], harness := (true, "c273851335f09ce5dd90d57471c58420ce5143c3f228ad8de92842142cb7801c"), looks := true }, kinds := [], alts := [], laidByText := true, laidKinds := [.data], laidTests := true, laidLooks := .later }
def ReachDeepUptoCardSaid : Prop := Claim7.holds Tryd.pinned (.plain (OpenSpec.upto reachDeepSpec)) reachDeepUptoCard

/-- THE SECOND FORM's CARD OF 'plexuslaw12.ReachCovers'. -/
def reachCoversUptoCard : Claim7 := { stood := { row := reachCoversUptoRow, standIns := [], harness := (true, "c273851335f09ce5dd90d57471c58420ce5143c3f228ad8de92842142cb7801c"), looks := true }, kinds := [], alts := [], laidByText := true, laidKinds := [.data], laidTests := true, laidLooks := .later }
def ReachCoversUptoCardSaid : Prop := Claim7.holds Tryd.pinned (.plain (OpenSpec.upto reachCoversSpec)) reachCoversUptoCard

/-- THE SECOND FORM's CARD OF 'plexuslaw12.ReachPlays'. -/
def reachPlaysUptoCard : Claim7 := { stood := { row := reachPlaysUptoRow, standIns := [], harness := (true, "c273851335f09ce5dd90d57471c58420ce5143c3f228ad8de92842142cb7801c"), looks := true }, kinds := [], alts := [], laidByText := true, laidKinds := [.data], laidTests := true, laidLooks := .later }
def ReachPlaysUptoCardSaid : Prop := Claim7.holds Tryd.pinned (.plain (OpenSpec.upto reachPlaysSpec)) reachPlaysUptoCard

/-- THE SECOND FORM's CARD OF 'plexuslaw12.ReachNil'. -/
def reachNilUptoCard : Claim7 := { stood := { row := reachNilUptoRow, standIns := [], harness := (true, "c273851335f09ce5dd90d57471c58420ce5143c3f228ad8de92842142cb7801c"), looks := true }, kinds := [], alts := [], laidByText := true, laidKinds := [.data], laidTests := true, laidLooks := .later }
def ReachNilUptoCardSaid : Prop := Claim7.holds Tryd.pinned (.plain (OpenSpec.upto reachNilSpec)) reachNilUptoCard
end Rows
end Go.Proofs.YtgfkpemnkmebkaaDoor
