/-
  NARROWER THAN 'FOR EVERY INPUT', by the rows' own cells (each row's printed sentence says how): RulesParents: laid · RulesNil: laid · OrderStays: laid · OrderOf: laid · OrderViews: laid · OrderPlaces: laid · RulesHeaders: laid · RulesParams: laid · RulesStay: laid.
  DERIVED. THE GIVEN ROWS OF THIS SEAT. 9 by the template 'for every input the law returns true; each argument reads behind the call as it read before'; 0 by the template 'total and deterministic' (their statements: YtfleamccglihoaaGreatDoorTotals.lean).
  GIVEN WITH THE SEED: the statements are not yours to turn. If you find one false, say at which input.
  Laid BY PROGRAM, IN A SANDBOX (cutbox-rows.mjs): the forced cells as the released guide's own fill.sh prints them over the translation ff588d826aa57ae9… (all of the seat's roots in one cut). By AI agents, Wed Nov 11 2026. No macro, syntax, notation, axiom, sorry.
-/
import Derived.Test.YtfleamccglihoaaGreatDoorChecked
import GoSem.Claim
import GoSem.ClaimJoined
import GoSem.ClaimMapViews
import Derived.JoinedTies
import Derived.KernelRfl
namespace Go.Proofs.YtfleamccglihoaaGreatDoor
/- THE CELL 'sum', in the pinned program and in every row, IS THE sha256 OF THE DUMP (.gsa) THAT YtfleamccglihoaaGreatDoorProg.lean LOADS. Nothing in Lean hashes anything: it is a label: what it is worth is what the hold of that sum in a sandbox is worth. -/
noncomputable def Tryz.pinned : Pinned := { name := "ytfleamccglihoaagreatdoor", sum := "ff588d826aa57ae9efb587b256fe04d442296c1f868194781859dfffca4a7119", checked := Tryz.checked }
namespace Rows
def none {H : Type} : Left H := { results := [], args := [] }

/- WHAT THE LISTED PACKAGE-LEVEL VARIABLES READ AS WHEN THE CALL BEGINS. Each datum BY PROGRAM (the guide's laid-datum.mjs) off the statement by which the dump's own 'gosem.cut.vars' lays the variable. In a bare row this is a premise. The card (YtfleamccglihoaaGreatDoorCards.lean) ties it to the program's text. -/
def laid_math_bits_deBruijn64tab {H : Type} : DataW H := .agg [.lit (.int .u8 0), .lit (.int .u8 1), .lit (.int .u8 56), .lit (.int .u8 2), .lit (.int .u8 57), .lit (.int .u8 49), .lit (.int .u8 28), .lit (.int .u8 3), .lit (.int .u8 61), .lit (.int .u8 58), .lit (.int .u8 42), .lit (.int .u8 50), .lit (.int .u8 38), .lit (.int .u8 29), .lit (.int .u8 17), .lit (.int .u8 4), .lit (.int .u8 62), .lit (.int .u8 47), .lit (.int .u8 59), .lit (.int .u8 36), .lit (.int .u8 45), .lit (.int .u8 43), .lit (.int .u8 51), .lit (.int .u8 22), .lit (.int .u8 53), .lit (.int .u8 39), .lit (.int .u8 33), .lit (.int .u8 30), .lit (.int .u8 24), .lit (.int .u8 18), .lit (.int .u8 12), .lit (.int .u8 5), .lit (.int .u8 63), .lit (.int .u8 55), .lit (.int .u8 48), .lit (.int .u8 27), .lit (.int .u8 60), .lit (.int .u8 41), .lit (.int .u8 37), .lit (.int .u8 16), .lit (.int .u8 46), .lit (.int .u8 35), .lit (.int .u8 44), .lit (.int .u8 21), .lit (.int .u8 52), .lit (.int .u8 32), .lit (.int .u8 23), .lit (.int .u8 11), .lit (.int .u8 54), .lit (.int .u8 26), .lit (.int .u8 40), .lit (.int .u8 15), .lit (.int .u8 34), .lit (.int .u8 20), .lit (.int .u8 31), .lit (.int .u8 10), .lit (.int .u8 25), .lit (.int .u8 14), .lit (.int .u8 19), .lit (.int .u8 9), .lit (.int .u8 13), .lit (.int .u8 8), .lit (.int .u8 7), .lit (.int .u8 6)]

/-- 'plexuslaw19.RulesParents': WHATEVER THE INPUT: true; the input reads as it did. -/
def rulesParentsSpec : ChangeSpec := { name := "rulesParents", fn := fun _ => fun
  | [d1, d2, d3, d4] => { results := [.lit (.bool true)], args := [d1, d2, d3, d4] }
  | _ => none }
def rulesParentsRow : OpenClaim := { program := "ytfleamccglihoaagreatdoor", sum := "ff588d826aa57ae9efb587b256fe04d442296c1f868194781859dfffca4a7119", func := "plexus/plexuslaw19.RulesParents", spec := "rulesParents", inPlace := ["internal/bytealg.Compare"], unfollowed := true, recurses := true, named := ["math/bits.deBruijn64tab", "math/bits.divideError", "math/bits.overflowError"], plainKeys := false, apart := false, laid := [("math/bits.deBruijn64tab", laid_math_bits_deBruijn64tab)] }
def RulesParentsSaid : Prop := rulesParentsRow.holds Tryz.pinned (OpenSpec.ofChange rulesParentsSpec)

/-- ITS FALSE NEIGHBOUR: 'it returns false'. Refute it at one input. -/
def rulesParentsWrong : ChangeSpec := { name := "rulesParents", fn := fun _ => fun
  | [d1, d2, d3, d4] => { results := [.lit (.bool false)], args := [d1, d2, d3, d4] }
  | _ => none }
def RulesParentsWrongFalsely : Prop := rulesParentsRow.holds Tryz.pinned (OpenSpec.ofChange rulesParentsWrong)

/-- 'plexuslaw19.RulesNil': WHATEVER THE INPUT: true; the input reads as it did. -/
def rulesNilSpec : ChangeSpec := { name := "rulesNil", fn := fun _ => fun
  | [] => { results := [.lit (.bool true)], args := [] }
  | _ => none }
def rulesNilRow : OpenClaim := { program := "ytfleamccglihoaagreatdoor", sum := "ff588d826aa57ae9efb587b256fe04d442296c1f868194781859dfffca4a7119", func := "plexus/plexuslaw19.RulesNil", spec := "rulesNil", inPlace := ["internal/bytealg.Compare"], unfollowed := true, recurses := true, named := ["math/bits.deBruijn64tab", "math/bits.divideError", "math/bits.overflowError"], plainKeys := false, apart := false, laid := [("math/bits.deBruijn64tab", laid_math_bits_deBruijn64tab)] }
def RulesNilSaid : Prop := rulesNilRow.holds Tryz.pinned (OpenSpec.ofChange rulesNilSpec)

/-- ITS FALSE NEIGHBOUR: 'it returns false'. Refute it at one input. -/
def rulesNilWrong : ChangeSpec := { name := "rulesNil", fn := fun _ => fun
  | [] => { results := [.lit (.bool false)], args := [] }
  | _ => none }
def RulesNilWrongFalsely : Prop := rulesNilRow.holds Tryz.pinned (OpenSpec.ofChange rulesNilWrong)

/-- 'plexuslaw14.OrderStays': WHATEVER THE INPUT: true; the input reads as it did. -/
def orderStaysSpec : ChangeSpec := { name := "orderStays", fn := fun _ => fun
  | [d1, d2, d3] => { results := [.lit (.bool true)], args := [d1, d2, d3] }
  | _ => none }
def orderStaysRow : OpenClaim := { program := "ytfleamccglihoaagreatdoor", sum := "ff588d826aa57ae9efb587b256fe04d442296c1f868194781859dfffca4a7119", func := "plexus/plexuslaw14.OrderStays", spec := "orderStays", inPlace := ["internal/bytealg.Compare"], unfollowed := true, recurses := true, named := ["math/bits.deBruijn64tab", "math/bits.divideError", "math/bits.overflowError"], plainKeys := false, apart := false, laid := [("math/bits.deBruijn64tab", laid_math_bits_deBruijn64tab)] }
def OrderStaysSaid : Prop := orderStaysRow.holds Tryz.pinned (OpenSpec.ofChange orderStaysSpec)

/-- ITS FALSE NEIGHBOUR: 'it returns false'. Refute it at one input. -/
def orderStaysWrong : ChangeSpec := { name := "orderStays", fn := fun _ => fun
  | [d1, d2, d3] => { results := [.lit (.bool false)], args := [d1, d2, d3] }
  | _ => none }
def OrderStaysWrongFalsely : Prop := orderStaysRow.holds Tryz.pinned (OpenSpec.ofChange orderStaysWrong)

/-- 'plexuslaw14.OrderOf': WHATEVER THE INPUT: true; the input reads as it did. -/
def orderOfSpec : ChangeSpec := { name := "orderOf", fn := fun _ => fun
  | [d1, d2, d3, d4] => { results := [.lit (.bool true)], args := [d1, d2, d3, d4] }
  | _ => none }
def orderOfRow : OpenClaim := { program := "ytfleamccglihoaagreatdoor", sum := "ff588d826aa57ae9efb587b256fe04d442296c1f868194781859dfffca4a7119", func := "plexus/plexuslaw14.OrderOf", spec := "orderOf", inPlace := ["internal/bytealg.Compare"], unfollowed := true, recurses := true, named := ["math/bits.deBruijn64tab", "math/bits.divideError", "math/bits.overflowError"], plainKeys := false, apart := false, laid := [("math/bits.deBruijn64tab", laid_math_bits_deBruijn64tab)] }
def OrderOfSaid : Prop := orderOfRow.holds Tryz.pinned (OpenSpec.ofChange orderOfSpec)

/-- ITS FALSE NEIGHBOUR: 'it returns false'. Refute it at one input. -/
def orderOfWrong : ChangeSpec := { name := "orderOf", fn := fun _ => fun
  | [d1, d2, d3, d4] => { results := [.lit (.bool false)], args := [d1, d2, d3, d4] }
  | _ => none }
def OrderOfWrongFalsely : Prop := orderOfRow.holds Tryz.pinned (OpenSpec.ofChange orderOfWrong)

/-- 'plexuslaw14.OrderViews': WHATEVER THE INPUT: true; the input reads as it did. -/
def orderViewsSpec : ChangeSpec := { name := "orderViews", fn := fun _ => fun
  | [d1, d2, d3, d4, d5] => { results := [.lit (.bool true)], args := [d1, d2, d3, d4, d5] }
  | _ => none }
def orderViewsRow : OpenClaim := { program := "ytfleamccglihoaagreatdoor", sum := "ff588d826aa57ae9efb587b256fe04d442296c1f868194781859dfffca4a7119", func := "plexus/plexuslaw14.OrderViews", spec := "orderViews", inPlace := ["internal/bytealg.Compare"], unfollowed := true, recurses := true, named := ["math/bits.deBruijn64tab", "math/bits.divideError", "math/bits.overflowError"], plainKeys := false, apart := false, laid := [("math/bits.deBruijn64tab", laid_math_bits_deBruijn64tab)] }
def OrderViewsSaid : Prop := orderViewsRow.holds Tryz.pinned (OpenSpec.ofChange orderViewsSpec)

/-- ITS FALSE NEIGHBOUR: 'it returns false'. Refute it at one input. -/
def orderViewsWrong : ChangeSpec := { name := "orderViews", fn := fun _ => fun
  | [d1, d2, d3, d4, d5] => { results := [.lit (.bool false)], args := [d1, d2, d3, d4, d5] }
  | _ => none }
def OrderViewsWrongFalsely : Prop := orderViewsRow.holds Tryz.pinned (OpenSpec.ofChange orderViewsWrong)

/-- 'plexuslaw14.OrderPlaces': WHATEVER THE INPUT: true; the input reads as it did. -/
def orderPlacesSpec : ChangeSpec := { name := "orderPlaces", fn := fun _ => fun
  | [d1, d2, d3] => { results := [.lit (.bool true)], args := [d1, d2, d3] }
  | _ => none }
def orderPlacesRow : OpenClaim := { program := "ytfleamccglihoaagreatdoor", sum := "ff588d826aa57ae9efb587b256fe04d442296c1f868194781859dfffca4a7119", func := "plexus/plexuslaw14.OrderPlaces", spec := "orderPlaces", inPlace := ["internal/bytealg.Compare"], unfollowed := true, recurses := true, named := ["math/bits.deBruijn64tab", "math/bits.divideError", "math/bits.overflowError"], plainKeys := false, apart := false, laid := [("math/bits.deBruijn64tab", laid_math_bits_deBruijn64tab)] }
def OrderPlacesSaid : Prop := orderPlacesRow.holds Tryz.pinned (OpenSpec.ofChange orderPlacesSpec)

/-- ITS FALSE NEIGHBOUR: 'it returns false'. Refute it at one input. -/
def orderPlacesWrong : ChangeSpec := { name := "orderPlaces", fn := fun _ => fun
  | [d1, d2, d3] => { results := [.lit (.bool false)], args := [d1, d2, d3] }
  | _ => none }
def OrderPlacesWrongFalsely : Prop := orderPlacesRow.holds Tryz.pinned (OpenSpec.ofChange orderPlacesWrong)

/-- 'plexuslaw19.RulesHeaders': WHATEVER THE INPUT: true; the input reads as it did. -/
def rulesHeadersSpec : ChangeSpec := { name := "rulesHeaders", fn := fun _ => fun
  | [d1, d2, d3, d4] => { results := [.lit (.bool true)], args := [d1, d2, d3, d4] }
  | _ => none }
def rulesHeadersRow : OpenClaim := { program := "ytfleamccglihoaagreatdoor", sum := "ff588d826aa57ae9efb587b256fe04d442296c1f868194781859dfffca4a7119", func := "plexus/plexuslaw19.RulesHeaders", spec := "rulesHeaders", inPlace := ["internal/bytealg.Compare"], unfollowed := true, recurses := true, named := ["math/bits.deBruijn64tab", "math/bits.divideError", "math/bits.overflowError"], plainKeys := false, apart := false, laid := [("math/bits.deBruijn64tab", laid_math_bits_deBruijn64tab)] }
def RulesHeadersSaid : Prop := rulesHeadersRow.holds Tryz.pinned (OpenSpec.ofChange rulesHeadersSpec)

/-- ITS FALSE NEIGHBOUR: 'it returns false'. Refute it at one input. -/
def rulesHeadersWrong : ChangeSpec := { name := "rulesHeaders", fn := fun _ => fun
  | [d1, d2, d3, d4] => { results := [.lit (.bool false)], args := [d1, d2, d3, d4] }
  | _ => none }
def RulesHeadersWrongFalsely : Prop := rulesHeadersRow.holds Tryz.pinned (OpenSpec.ofChange rulesHeadersWrong)

/-- 'plexuslaw19.RulesParams': WHATEVER THE INPUT: true; the input reads as it did. -/
def rulesParamsSpec : ChangeSpec := { name := "rulesParams", fn := fun _ => fun
  | [d] => { results := [.lit (.bool true)], args := [d] }
  | _ => none }
def rulesParamsRow : OpenClaim := { program := "ytfleamccglihoaagreatdoor", sum := "ff588d826aa57ae9efb587b256fe04d442296c1f868194781859dfffca4a7119", func := "plexus/plexuslaw19.RulesParams", spec := "rulesParams", inPlace := ["internal/bytealg.Compare"], unfollowed := true, recurses := true, named := ["math/bits.deBruijn64tab", "math/bits.divideError", "math/bits.overflowError"], plainKeys := false, apart := false, laid := [("math/bits.deBruijn64tab", laid_math_bits_deBruijn64tab)] }
def RulesParamsSaid : Prop := rulesParamsRow.holds Tryz.pinned (OpenSpec.ofChange rulesParamsSpec)

/-- ITS FALSE NEIGHBOUR: 'it returns false'. Refute it at one input. -/
def rulesParamsWrong : ChangeSpec := { name := "rulesParams", fn := fun _ => fun
  | [d] => { results := [.lit (.bool false)], args := [d] }
  | _ => none }
def RulesParamsWrongFalsely : Prop := rulesParamsRow.holds Tryz.pinned (OpenSpec.ofChange rulesParamsWrong)

/-- 'plexuslaw19.RulesStay': WHATEVER THE INPUT: true; the input reads as it did. -/
def rulesStaySpec : ChangeSpec := { name := "rulesStay", fn := fun _ => fun
  | [d1, d2, d3, d4, d5] => { results := [.lit (.bool true)], args := [d1, d2, d3, d4, d5] }
  | _ => none }
def rulesStayRow : OpenClaim := { program := "ytfleamccglihoaagreatdoor", sum := "ff588d826aa57ae9efb587b256fe04d442296c1f868194781859dfffca4a7119", func := "plexus/plexuslaw19.RulesStay", spec := "rulesStay", inPlace := ["internal/bytealg.Compare"], unfollowed := true, recurses := true, named := ["math/bits.deBruijn64tab", "math/bits.divideError", "math/bits.overflowError"], plainKeys := false, apart := false, laid := [("math/bits.deBruijn64tab", laid_math_bits_deBruijn64tab)] }
def RulesStaySaid : Prop := rulesStayRow.holds Tryz.pinned (OpenSpec.ofChange rulesStaySpec)

/-- ITS FALSE NEIGHBOUR: 'it returns false'. Refute it at one input. -/
def rulesStayWrong : ChangeSpec := { name := "rulesStay", fn := fun _ => fun
  | [d1, d2, d3, d4, d5] => { results := [.lit (.bool false)], args := [d1, d2, d3, d4, d5] }
  | _ => none }
def RulesStayWrongFalsely : Prop := rulesStayRow.holds Tryz.pinned (OpenSpec.ofChange rulesStayWrong)

/- THE SECOND FORM. 'bulk': how many values and letters a reading holds, each counted each time it is reached (what is shared counts as often as it is met; a slice's spare places count too). A statement '..UptoSaid' is the law's where the arguments, and the package variables that the reading takes, are together of bulk at most 1048576: NARROWER than '..Said'. Prove '..Said' where nothing that the law and all that it calls make is longer than what came in: it says more and counts as full. Else prove '..UptoSaid'. A law counts once. -/
mutual
def uptoBulk {H : Type} : DataW H → Nat
  | .lit (.string bytes) => bytes.length + 1
  | .lit _ => 1
  | .nil => 1
  | .ptr d => uptoBulk d + 1
  | .slice elems spare => uptoBulkAll elems + uptoBulkAll spare + 1
  | .agg parts => uptoBulkAll parts + 1
  | .iface _ d => uptoBulk d + 1
  | .map entries => uptoBulkEntries entries + 1
  | .held _ => 1
def uptoBulkAll {H : Type} : List (DataW H) → Nat
  | [] => 0
  | d :: r => uptoBulk d + uptoBulkAll r
def uptoBulkEntries {H : Type} : List (Lit × DataW H) → Nat
  | [] => 0
  | x :: r => uptoBulkEntry x + uptoBulkEntries r
def uptoBulkEntry {H : Type} : Lit × DataW H → Nat
  | (.string bytes, d) => bytes.length + uptoBulk d + 1
  | (_, d) => uptoBulk d + 1
 end
def uptoSmall : (H : Type) → List (DataW H) → Bool := fun _ ds => decide (uptoBulkAll ds ≤ 1048576)
def OpenSpec.upto (s : _root_.Go.ChangeSpec) : _root_.Go.OpenSpec := { _root_.Go.OpenSpec.ofChange s with cond := some uptoSmall }

/-- 'plexuslaw19.RulesParents', WHERE WHAT IT READS IS OF BULK AT MOST 1048576: true; the input reads as it did. -/
def rulesParentsUptoRow : OpenClaim := { program := "ytfleamccglihoaagreatdoor", sum := "ff588d826aa57ae9efb587b256fe04d442296c1f868194781859dfffca4a7119", func := "plexus/plexuslaw19.RulesParents", spec := "rulesParents", inPlace := ["internal/bytealg.Compare"], unfollowed := true, recurses := true, named := ["math/bits.deBruijn64tab", "math/bits.divideError", "math/bits.overflowError"], plainKeys := false, apart := false, laid := [("math/bits.deBruijn64tab", laid_math_bits_deBruijn64tab)], narrowed := true }
def RulesParentsUptoSaid : Prop := rulesParentsUptoRow.holds Tryz.pinned (OpenSpec.upto rulesParentsSpec)

/-- 'plexuslaw19.RulesNil', WHERE WHAT IT READS IS OF BULK AT MOST 1048576: true; the input reads as it did. -/
def rulesNilUptoRow : OpenClaim := { program := "ytfleamccglihoaagreatdoor", sum := "ff588d826aa57ae9efb587b256fe04d442296c1f868194781859dfffca4a7119", func := "plexus/plexuslaw19.RulesNil", spec := "rulesNil", inPlace := ["internal/bytealg.Compare"], unfollowed := true, recurses := true, named := ["math/bits.deBruijn64tab", "math/bits.divideError", "math/bits.overflowError"], plainKeys := false, apart := false, laid := [("math/bits.deBruijn64tab", laid_math_bits_deBruijn64tab)], narrowed := true }
def RulesNilUptoSaid : Prop := rulesNilUptoRow.holds Tryz.pinned (OpenSpec.upto rulesNilSpec)

/-- 'plexuslaw14.OrderStays', WHERE WHAT IT READS IS OF BULK AT MOST 1048576: true; the input reads as it did. -/
def orderStaysUptoRow : OpenClaim := { program := "ytfleamccglihoaagreatdoor", sum := "ff588d826aa57ae9efb587b256fe04d442296c1f868194781859dfffca4a7119", func := "plexus/plexuslaw14.OrderStays", spec := "orderStays", inPlace := ["internal/bytealg.Compare"], unfollowed := true, recurses := true, named := ["math/bits.deBruijn64tab", "math/bits.divideError", "math/bits.overflowError"], plainKeys := false, apart := false, laid := [("math/bits.deBruijn64tab", laid_math_bits_deBruijn64tab)], narrowed := true }
def OrderStaysUptoSaid : Prop := orderStaysUptoRow.holds Tryz.pinned (OpenSpec.upto orderStaysSpec)

/-- 'plexuslaw14.OrderOf', WHERE WHAT IT READS IS OF BULK AT MOST 1048576: true; the input reads as it did. -/
def orderOfUptoRow : OpenClaim := { program := "ytfleamccglihoaagreatdoor", sum := "ff588d826aa57ae9efb587b256fe04d442296c1f868194781859dfffca4a7119", func := "plexus/plexuslaw14.OrderOf", spec := "orderOf", inPlace := ["internal/bytealg.Compare"], unfollowed := true, recurses := true, named := ["math/bits.deBruijn64tab", "math/bits.divideError", "math/bits.overflowError"], plainKeys := false, apart := false, laid := [("math/bits.deBruijn64tab", laid_math_bits_deBruijn64tab)], narrowed := true }
def OrderOfUptoSaid : Prop := orderOfUptoRow.holds Tryz.pinned (OpenSpec.upto orderOfSpec)

/-- 'plexuslaw14.OrderViews', WHERE WHAT IT READS IS OF BULK AT MOST 1048576: true; the input reads as it did. -/
def orderViewsUptoRow : OpenClaim := { program := "ytfleamccglihoaagreatdoor", sum := "ff588d826aa57ae9efb587b256fe04d442296c1f868194781859dfffca4a7119", func := "plexus/plexuslaw14.OrderViews", spec := "orderViews", inPlace := ["internal/bytealg.Compare"], unfollowed := true, recurses := true, named := ["math/bits.deBruijn64tab", "math/bits.divideError", "math/bits.overflowError"], plainKeys := false, apart := false, laid := [("math/bits.deBruijn64tab", laid_math_bits_deBruijn64tab)], narrowed := true }
def OrderViewsUptoSaid : Prop := orderViewsUptoRow.holds Tryz.pinned (OpenSpec.upto orderViewsSpec)

/-- 'plexuslaw14.OrderPlaces', WHERE WHAT IT READS IS OF BULK AT MOST 1048576: true; the input reads as it did. -/
def orderPlacesUptoRow : OpenClaim := { program := "ytfleamccglihoaagreatdoor", sum := "ff588d826aa57ae9efb587b256fe04d442296c1f868194781859dfffca4a7119", func := "plexus/plexuslaw14.OrderPlaces", spec := "orderPlaces", inPlace := ["internal/bytealg.Compare"], unfollowed := true, recurses := true, named := ["math/bits.deBruijn64tab", "math/bits.divideError", "math/bits.overflowError"], plainKeys := false, apart := false, laid := [("math/bits.deBruijn64tab", laid_math_bits_deBruijn64tab)], narrowed := true }
def OrderPlacesUptoSaid : Prop := orderPlacesUptoRow.holds Tryz.pinned (OpenSpec.upto orderPlacesSpec)

/-- 'plexuslaw19.RulesHeaders', WHERE WHAT IT READS IS OF BULK AT MOST 1048576: true; the input reads as it did. -/
def rulesHeadersUptoRow : OpenClaim := { program := "ytfleamccglihoaagreatdoor", sum := "ff588d826aa57ae9efb587b256fe04d442296c1f868194781859dfffca4a7119", func := "plexus/plexuslaw19.RulesHeaders", spec := "rulesHeaders", inPlace := ["internal/bytealg.Compare"], unfollowed := true, recurses := true, named := ["math/bits.deBruijn64tab", "math/bits.divideError", "math/bits.overflowError"], plainKeys := false, apart := false, laid := [("math/bits.deBruijn64tab", laid_math_bits_deBruijn64tab)], narrowed := true }
def RulesHeadersUptoSaid : Prop := rulesHeadersUptoRow.holds Tryz.pinned (OpenSpec.upto rulesHeadersSpec)

/-- 'plexuslaw19.RulesParams', WHERE WHAT IT READS IS OF BULK AT MOST 1048576: true; the input reads as it did. -/
def rulesParamsUptoRow : OpenClaim := { program := "ytfleamccglihoaagreatdoor", sum := "ff588d826aa57ae9efb587b256fe04d442296c1f868194781859dfffca4a7119", func := "plexus/plexuslaw19.RulesParams", spec := "rulesParams", inPlace := ["internal/bytealg.Compare"], unfollowed := true, recurses := true, named := ["math/bits.deBruijn64tab", "math/bits.divideError", "math/bits.overflowError"], plainKeys := false, apart := false, laid := [("math/bits.deBruijn64tab", laid_math_bits_deBruijn64tab)], narrowed := true }
def RulesParamsUptoSaid : Prop := rulesParamsUptoRow.holds Tryz.pinned (OpenSpec.upto rulesParamsSpec)

/-- 'plexuslaw19.RulesStay', WHERE WHAT IT READS IS OF BULK AT MOST 1048576: true; the input reads as it did. -/
def rulesStayUptoRow : OpenClaim := { program := "ytfleamccglihoaagreatdoor", sum := "ff588d826aa57ae9efb587b256fe04d442296c1f868194781859dfffca4a7119", func := "plexus/plexuslaw19.RulesStay", spec := "rulesStay", inPlace := ["internal/bytealg.Compare"], unfollowed := true, recurses := true, named := ["math/bits.deBruijn64tab", "math/bits.divideError", "math/bits.overflowError"], plainKeys := false, apart := false, laid := [("math/bits.deBruijn64tab", laid_math_bits_deBruijn64tab)], narrowed := true }
def RulesStayUptoSaid : Prop := rulesStayUptoRow.holds Tryz.pinned (OpenSpec.upto rulesStaySpec)

end Rows
end Go.Proofs.YtfleamccglihoaaGreatDoor
