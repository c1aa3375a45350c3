/-
  NARROWER THAN 'FOR EVERY INPUT', by the rows' own cells (each row's printed sentence says how): GhostOrder: laid · GhostViews: laid · GhostClusters: laid · GhostPlays: laid · GhostApart: laid · GhostNil: laid.
  DERIVED. THE GIVEN ROWS OF THIS SEAT. 6 by the template 'for every input the law returns true; each argument reads behind the call as it read before'; 0 by the template 'total and deterministic' (their statements: YtnboahlopghcjaaGreatDoorTotals.lean).
  GIVEN WITH THE SEED: the statements are not yours to turn. If you find one false, say at which input.
  Laid BY PROGRAM, IN A SANDBOX (cutbox-rows.mjs): the forced cells as the released guide's own fill.sh prints them over the translation e3d7af4c978c979a… (all of the seat's roots in one cut). By AI agents, Wed Nov 11 2026. No macro, syntax, notation, axiom, sorry.
-/
import Derived.Test.YtnboahlopghcjaaGreatDoorChecked
import GoSem.Claim
import GoSem.ClaimJoined
import GoSem.ClaimMapViews
import Derived.JoinedTies
import Derived.KernelRfl
namespace Go.Proofs.YtnboahlopghcjaaGreatDoor
/- THE CELL 'sum', in the pinned program and in every row, IS THE sha256 OF THE DUMP (.gsa) THAT YtnboahlopghcjaaGreatDoorProg.lean LOADS. Nothing in Lean hashes anything: it is a label: what it is worth is what the hold of that sum in a sandbox is worth. -/
noncomputable def Tryz.pinned : Pinned := { name := "ytnboahlopghcjaagreatdoor", sum := "e3d7af4c978c979ac5ae824d64abe80d8482c9a61d8eb4995f8573de142dc8ed", checked := Tryz.checked }
namespace Rows
def none {H : Type} : Left H := { results := [], args := [] }

/- WHAT THE LISTED PACKAGE-LEVEL VARIABLES READ AS WHEN THE CALL BEGINS. Each datum BY PROGRAM (the guide's laid-datum.mjs) off the statement by which the dump's own 'gosem.cut.vars' lays the variable. In a bare row this is a premise. The card (YtnboahlopghcjaaGreatDoorCards.lean) ties it to the program's text. -/
def laid_math_bits_deBruijn64tab {H : Type} : DataW H := .agg [.lit (.int .u8 0), .lit (.int .u8 1), .lit (.int .u8 56), .lit (.int .u8 2), .lit (.int .u8 57), .lit (.int .u8 49), .lit (.int .u8 28), .lit (.int .u8 3), .lit (.int .u8 61), .lit (.int .u8 58), .lit (.int .u8 42), .lit (.int .u8 50), .lit (.int .u8 38), .lit (.int .u8 29), .lit (.int .u8 17), .lit (.int .u8 4), .lit (.int .u8 62), .lit (.int .u8 47), .lit (.int .u8 59), .lit (.int .u8 36), .lit (.int .u8 45), .lit (.int .u8 43), .lit (.int .u8 51), .lit (.int .u8 22), .lit (.int .u8 53), .lit (.int .u8 39), .lit (.int .u8 33), .lit (.int .u8 30), .lit (.int .u8 24), .lit (.int .u8 18), .lit (.int .u8 12), .lit (.int .u8 5), .lit (.int .u8 63), .lit (.int .u8 55), .lit (.int .u8 48), .lit (.int .u8 27), .lit (.int .u8 60), .lit (.int .u8 41), .lit (.int .u8 37), .lit (.int .u8 16), .lit (.int .u8 46), .lit (.int .u8 35), .lit (.int .u8 44), .lit (.int .u8 21), .lit (.int .u8 52), .lit (.int .u8 32), .lit (.int .u8 23), .lit (.int .u8 11), .lit (.int .u8 54), .lit (.int .u8 26), .lit (.int .u8 40), .lit (.int .u8 15), .lit (.int .u8 34), .lit (.int .u8 20), .lit (.int .u8 31), .lit (.int .u8 10), .lit (.int .u8 25), .lit (.int .u8 14), .lit (.int .u8 19), .lit (.int .u8 9), .lit (.int .u8 13), .lit (.int .u8 8), .lit (.int .u8 7), .lit (.int .u8 6)]

/-- 'plexuslaw13.GhostOrder': WHATEVER THE INPUT: true; the input reads as it did. -/
def ghostOrderSpec : ChangeSpec := { name := "ghostOrder", fn := fun _ => fun
  | [d1, d2, d3, d4] => { results := [.lit (.bool true)], args := [d1, d2, d3, d4] }
  | _ => none }
def ghostOrderRow : OpenClaim := { program := "ytnboahlopghcjaagreatdoor", sum := "e3d7af4c978c979ac5ae824d64abe80d8482c9a61d8eb4995f8573de142dc8ed", func := "plexus/plexuslaw13.GhostOrder", spec := "ghostOrder", inPlace := ["internal/bytealg.Compare"], unfollowed := true, recurses := true, named := ["math/bits.deBruijn64tab", "math/bits.divideError", "math/bits.overflowError"], plainKeys := false, apart := false, laid := [("math/bits.deBruijn64tab", laid_math_bits_deBruijn64tab)] }
def GhostOrderSaid : Prop := ghostOrderRow.holds Tryz.pinned (OpenSpec.ofChange ghostOrderSpec)

/-- ITS FALSE NEIGHBOUR: 'it returns false'. Refute it at one input. -/
def ghostOrderWrong : ChangeSpec := { name := "ghostOrder", fn := fun _ => fun
  | [d1, d2, d3, d4] => { results := [.lit (.bool false)], args := [d1, d2, d3, d4] }
  | _ => none }
def GhostOrderWrongFalsely : Prop := ghostOrderRow.holds Tryz.pinned (OpenSpec.ofChange ghostOrderWrong)

/-- 'plexuslaw13.GhostViews': WHATEVER THE INPUT: true; the input reads as it did. -/
def ghostViewsSpec : ChangeSpec := { name := "ghostViews", fn := fun _ => fun
  | [d1, d2, d3, d4, d5] => { results := [.lit (.bool true)], args := [d1, d2, d3, d4, d5] }
  | _ => none }
def ghostViewsRow : OpenClaim := { program := "ytnboahlopghcjaagreatdoor", sum := "e3d7af4c978c979ac5ae824d64abe80d8482c9a61d8eb4995f8573de142dc8ed", func := "plexus/plexuslaw13.GhostViews", spec := "ghostViews", inPlace := ["internal/bytealg.Compare"], unfollowed := true, recurses := true, named := ["math/bits.deBruijn64tab", "math/bits.divideError", "math/bits.overflowError"], plainKeys := false, apart := false, laid := [("math/bits.deBruijn64tab", laid_math_bits_deBruijn64tab)] }
def GhostViewsSaid : Prop := ghostViewsRow.holds Tryz.pinned (OpenSpec.ofChange ghostViewsSpec)

/-- ITS FALSE NEIGHBOUR: 'it returns false'. Refute it at one input. -/
def ghostViewsWrong : ChangeSpec := { name := "ghostViews", fn := fun _ => fun
  | [d1, d2, d3, d4, d5] => { results := [.lit (.bool false)], args := [d1, d2, d3, d4, d5] }
  | _ => none }
def GhostViewsWrongFalsely : Prop := ghostViewsRow.holds Tryz.pinned (OpenSpec.ofChange ghostViewsWrong)

/-- 'plexuslaw13.GhostClusters': WHATEVER THE INPUT: true; the input reads as it did. -/
def ghostClustersSpec : ChangeSpec := { name := "ghostClusters", fn := fun _ => fun
  | [d1, d2, d3] => { results := [.lit (.bool true)], args := [d1, d2, d3] }
  | _ => none }
def ghostClustersRow : OpenClaim := { program := "ytnboahlopghcjaagreatdoor", sum := "e3d7af4c978c979ac5ae824d64abe80d8482c9a61d8eb4995f8573de142dc8ed", func := "plexus/plexuslaw13.GhostClusters", spec := "ghostClusters", inPlace := ["internal/bytealg.Compare"], unfollowed := true, recurses := true, named := ["math/bits.deBruijn64tab", "math/bits.divideError", "math/bits.overflowError"], plainKeys := false, apart := false, laid := [("math/bits.deBruijn64tab", laid_math_bits_deBruijn64tab)] }
def GhostClustersSaid : Prop := ghostClustersRow.holds Tryz.pinned (OpenSpec.ofChange ghostClustersSpec)

/-- ITS FALSE NEIGHBOUR: 'it returns false'. Refute it at one input. -/
def ghostClustersWrong : ChangeSpec := { name := "ghostClusters", fn := fun _ => fun
  | [d1, d2, d3] => { results := [.lit (.bool false)], args := [d1, d2, d3] }
  | _ => none }
def GhostClustersWrongFalsely : Prop := ghostClustersRow.holds Tryz.pinned (OpenSpec.ofChange ghostClustersWrong)

/-- 'plexuslaw13.GhostPlays': WHATEVER THE INPUT: true; the input reads as it did. -/
def ghostPlaysSpec : ChangeSpec := { name := "ghostPlays", fn := fun _ => fun
  | [d1, d2, d3] => { results := [.lit (.bool true)], args := [d1, d2, d3] }
  | _ => none }
def ghostPlaysRow : OpenClaim := { program := "ytnboahlopghcjaagreatdoor", sum := "e3d7af4c978c979ac5ae824d64abe80d8482c9a61d8eb4995f8573de142dc8ed", func := "plexus/plexuslaw13.GhostPlays", spec := "ghostPlays", inPlace := ["internal/bytealg.Compare"], unfollowed := true, recurses := true, named := ["math/bits.deBruijn64tab", "math/bits.divideError", "math/bits.overflowError"], plainKeys := false, apart := false, laid := [("math/bits.deBruijn64tab", laid_math_bits_deBruijn64tab)] }
def GhostPlaysSaid : Prop := ghostPlaysRow.holds Tryz.pinned (OpenSpec.ofChange ghostPlaysSpec)

/-- ITS FALSE NEIGHBOUR: 'it returns false'. Refute it at one input. -/
def ghostPlaysWrong : ChangeSpec := { name := "ghostPlays", fn := fun _ => fun
  | [d1, d2, d3] => { results := [.lit (.bool false)], args := [d1, d2, d3] }
  | _ => none }
def GhostPlaysWrongFalsely : Prop := ghostPlaysRow.holds Tryz.pinned (OpenSpec.ofChange ghostPlaysWrong)

/-- 'plexuslaw13.GhostApart': WHATEVER THE INPUT: true; the input reads as it did. -/
def ghostApartSpec : ChangeSpec := { name := "ghostApart", fn := fun _ => fun
  | [d1, d2, d3, d4, d5] => { results := [.lit (.bool true)], args := [d1, d2, d3, d4, d5] }
  | _ => none }
def ghostApartRow : OpenClaim := { program := "ytnboahlopghcjaagreatdoor", sum := "e3d7af4c978c979ac5ae824d64abe80d8482c9a61d8eb4995f8573de142dc8ed", func := "plexus/plexuslaw13.GhostApart", spec := "ghostApart", inPlace := ["internal/bytealg.Compare", "maps.clone"], unfollowed := true, recurses := true, named := ["math/bits.deBruijn64tab", "math/bits.divideError", "math/bits.overflowError"], plainKeys := false, apart := false, laid := [("math/bits.deBruijn64tab", laid_math_bits_deBruijn64tab)] }
def GhostApartSaid : Prop := ghostApartRow.holds Tryz.pinned (OpenSpec.ofChange ghostApartSpec)

/-- ITS FALSE NEIGHBOUR: 'it returns false'. Refute it at one input. -/
def ghostApartWrong : ChangeSpec := { name := "ghostApart", fn := fun _ => fun
  | [d1, d2, d3, d4, d5] => { results := [.lit (.bool false)], args := [d1, d2, d3, d4, d5] }
  | _ => none }
def GhostApartWrongFalsely : Prop := ghostApartRow.holds Tryz.pinned (OpenSpec.ofChange ghostApartWrong)

/-- 'plexuslaw13.GhostNil': WHATEVER THE INPUT: true; the input reads as it did. -/
def ghostNilSpec : ChangeSpec := { name := "ghostNil", fn := fun _ => fun
  | [] => { results := [.lit (.bool true)], args := [] }
  | _ => none }
def ghostNilRow : OpenClaim := { program := "ytnboahlopghcjaagreatdoor", sum := "e3d7af4c978c979ac5ae824d64abe80d8482c9a61d8eb4995f8573de142dc8ed", func := "plexus/plexuslaw13.GhostNil", spec := "ghostNil", inPlace := ["internal/bytealg.Compare", "maps.clone"], unfollowed := true, recurses := true, named := ["math/bits.deBruijn64tab", "math/bits.divideError", "math/bits.overflowError"], plainKeys := false, apart := false, laid := [("math/bits.deBruijn64tab", laid_math_bits_deBruijn64tab)] }
def GhostNilSaid : Prop := ghostNilRow.holds Tryz.pinned (OpenSpec.ofChange ghostNilSpec)

/-- ITS FALSE NEIGHBOUR: 'it returns false'. Refute it at one input. -/
def ghostNilWrong : ChangeSpec := { name := "ghostNil", fn := fun _ => fun
  | [] => { results := [.lit (.bool false)], args := [] }
  | _ => none }
def GhostNilWrongFalsely : Prop := ghostNilRow.holds Tryz.pinned (OpenSpec.ofChange ghostNilWrong)

/- THE SECOND FORM. 'bulk': how many values and letters a reading holds, each counted each time it is reached (what is shared counts as often as it is met; a slice's spare places count too). A statement '..UptoSaid' is the law's where the arguments, and the package variables that the reading takes, are together of bulk at most 1048576: NARROWER than '..Said'. Prove '..Said' where nothing that the law and all that it calls make is longer than what came in: it says more and counts as full. Else prove '..UptoSaid'. A law counts once. -/
mutual
def uptoBulk {H : Type} : DataW H → Nat
  | .lit (.string bytes) => bytes.length + 1
  | .lit _ => 1
  | .nil => 1
  | .ptr d => uptoBulk d + 1
  | .slice elems spare => uptoBulkAll elems + uptoBulkAll spare + 1
  | .agg parts => uptoBulkAll parts + 1
  | .iface _ d => uptoBulk d + 1
  | .map entries => uptoBulkEntries entries + 1
  | .held _ => 1
def uptoBulkAll {H : Type} : List (DataW H) → Nat
  | [] => 0
  | d :: r => uptoBulk d + uptoBulkAll r
def uptoBulkEntries {H : Type} : List (Lit × DataW H) → Nat
  | [] => 0
  | x :: r => uptoBulkEntry x + uptoBulkEntries r
def uptoBulkEntry {H : Type} : Lit × DataW H → Nat
  | (.string bytes, d) => bytes.length + uptoBulk d + 1
  | (_, d) => uptoBulk d + 1
 end
def uptoSmall : (H : Type) → List (DataW H) → Bool := fun _ ds => decide (uptoBulkAll ds ≤ 1048576)
def OpenSpec.upto (s : _root_.Go.ChangeSpec) : _root_.Go.OpenSpec := { _root_.Go.OpenSpec.ofChange s with cond := some uptoSmall }

/-- 'plexuslaw13.GhostOrder', WHERE WHAT IT READS IS OF BULK AT MOST 1048576: true; the input reads as it did. -/
def ghostOrderUptoRow : OpenClaim := { program := "ytnboahlopghcjaagreatdoor", sum := "e3d7af4c978c979ac5ae824d64abe80d8482c9a61d8eb4995f8573de142dc8ed", func := "plexus/plexuslaw13.GhostOrder", spec := "ghostOrder", inPlace := ["internal/bytealg.Compare"], unfollowed := true, recurses := true, named := ["math/bits.deBruijn64tab", "math/bits.divideError", "math/bits.overflowError"], plainKeys := false, apart := false, laid := [("math/bits.deBruijn64tab", laid_math_bits_deBruijn64tab)], narrowed := true }
def GhostOrderUptoSaid : Prop := ghostOrderUptoRow.holds Tryz.pinned (OpenSpec.upto ghostOrderSpec)

/-- 'plexuslaw13.GhostViews', WHERE WHAT IT READS IS OF BULK AT MOST 1048576: true; the input reads as it did. -/
def ghostViewsUptoRow : OpenClaim := { program := "ytnboahlopghcjaagreatdoor", sum := "e3d7af4c978c979ac5ae824d64abe80d8482c9a61d8eb4995f8573de142dc8ed", func := "plexus/plexuslaw13.GhostViews", spec := "ghostViews", inPlace := ["internal/bytealg.Compare"], unfollowed := true, recurses := true, named := ["math/bits.deBruijn64tab", "math/bits.divideError", "math/bits.overflowError"], plainKeys := false, apart := false, laid := [("math/bits.deBruijn64tab", laid_math_bits_deBruijn64tab)], narrowed := true }
def GhostViewsUptoSaid : Prop := ghostViewsUptoRow.holds Tryz.pinned (OpenSpec.upto ghostViewsSpec)

/-- 'plexuslaw13.GhostClusters', WHERE WHAT IT READS IS OF BULK AT MOST 1048576: true; the input reads as it did. -/
def ghostClustersUptoRow : OpenClaim := { program := "ytnboahlopghcjaagreatdoor", sum := "e3d7af4c978c979ac5ae824d64abe80d8482c9a61d8eb4995f8573de142dc8ed", func := "plexus/plexuslaw13.GhostClusters", spec := "ghostClusters", inPlace := ["internal/bytealg.Compare"], unfollowed := true, recurses := true, named := ["math/bits.deBruijn64tab", "math/bits.divideError", "math/bits.overflowError"], plainKeys := false, apart := false, laid := [("math/bits.deBruijn64tab", laid_math_bits_deBruijn64tab)], narrowed := true }
def GhostClustersUptoSaid : Prop := ghostClustersUptoRow.holds Tryz.pinned (OpenSpec.upto ghostClustersSpec)

/-- 'plexuslaw13.GhostPlays', WHERE WHAT IT READS IS OF BULK AT MOST 1048576: true; the input reads as it did. -/
def ghostPlaysUptoRow : OpenClaim := { program := "ytnboahlopghcjaagreatdoor", sum := "e3d7af4c978c979ac5ae824d64abe80d8482c9a61d8eb4995f8573de142dc8ed", func := "plexus/plexuslaw13.GhostPlays", spec := "ghostPlays", inPlace := ["internal/bytealg.Compare"], unfollowed := true, recurses := true, named := ["math/bits.deBruijn64tab", "math/bits.divideError", "math/bits.overflowError"], plainKeys := false, apart := false, laid := [("math/bits.deBruijn64tab", laid_math_bits_deBruijn64tab)], narrowed := true }
def GhostPlaysUptoSaid : Prop := ghostPlaysUptoRow.holds Tryz.pinned (OpenSpec.upto ghostPlaysSpec)

/-- 'plexuslaw13.GhostApart', WHERE WHAT IT READS IS OF BULK AT MOST 1048576: true; the input reads as it did. -/
def ghostApartUptoRow : OpenClaim := { program := "ytnboahlopghcjaagreatdoor", sum := "e3d7af4c978c979ac5ae824d64abe80d8482c9a61d8eb4995f8573de142dc8ed", func := "plexus/plexuslaw13.GhostApart", spec := "ghostApart", inPlace := ["internal/bytealg.Compare", "maps.clone"], unfollowed := true, recurses := true, named := ["math/bits.deBruijn64tab", "math/bits.divideError", "math/bits.overflowError"], plainKeys := false, apart := false, laid := [("math/bits.deBruijn64tab", laid_math_bits_deBruijn64tab)], narrowed := true }
def GhostApartUptoSaid : Prop := ghostApartUptoRow.holds Tryz.pinned (OpenSpec.upto ghostApartSpec)

/-- 'plexuslaw13.GhostNil', WHERE WHAT IT READS IS OF BULK AT MOST 1048576: true; the input reads as it did. -/
def ghostNilUptoRow : OpenClaim := { program := "ytnboahlopghcjaagreatdoor", sum := "e3d7af4c978c979ac5ae824d64abe80d8482c9a61d8eb4995f8573de142dc8ed", func := "plexus/plexuslaw13.GhostNil", spec := "ghostNil", inPlace := ["internal/bytealg.Compare", "maps.clone"], unfollowed := true, recurses := true, named := ["math/bits.deBruijn64tab", "math/bits.divideError", "math/bits.overflowError"], plainKeys := false, apart := false, laid := [("math/bits.deBruijn64tab", laid_math_bits_deBruijn64tab)], narrowed := true }
def GhostNilUptoSaid : Prop := ghostNilUptoRow.holds Tryz.pinned (OpenSpec.upto ghostNilSpec)

end Rows
end Go.Proofs.YtnboahlopghcjaaGreatDoor
