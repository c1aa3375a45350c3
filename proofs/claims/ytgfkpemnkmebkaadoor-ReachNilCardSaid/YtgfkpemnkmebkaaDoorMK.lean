/-
  What the frames of the dag's laws share: hashes, lists of hashes and lists of steps that came in, as the walks want them; the table that is laid.
-/
import Derived.Test.YtgfkpemnkmebkaaDoorRows
import Derived.Test.YtgfkpemnkmebkaaDoorMG
import Derived.WalkKit
import Derived.ProofKit
import Derived.Handy
import Derived.Lay
import Derived.Below
import Derived.Deep.Slices
import Derived.Lib.LaidU8
import Derived.Test.YtgfkpemnkmebkaaDoorMJ
namespace Go.Proofs.YtgfkpemnkmebkaaDoor
open Go Go.Lite Go.ChangeShapes Go.WideShapes Go.ChangeAt Go.RowKit
set_option linter.unusedVariables false

theorem ownNone : ownKnob Tryd.prog.godebug = none := by kernel_rfl
theorem frU8 : Tryd.prog.underlying T_uint8 = some (.int .u8) := by kernel_rfl
theorem frC8 : Tryd.prog.cellsOf T_uint8 = 1 := by kernel_rfl
section
variable {H : Type} {enc : TypeId × Value → H} {w : World} {base : Nat} {sp : Nat → Bool} {held : Bool} {fuel : Nat} {cs : List Value} {x : DataW H × List MemPlace}
end
section
variable {H : Type} {enc : TypeId × Value → H} {w : World} {base : Nat} {sp : Nat → Bool} {held : Bool} {d : DataW H} {p : List MemPlace} {v : Value}

/-- the table that is laid -/
theorem tab_of (h : Lib.VarReads Tryd.prog w "math/bits.deBruijn64tab" Rows.laid_math_bits_deBruijn64tab) : Tab w := by
  obtain ⟨g, t, cs, fuel, p, hg, hty, hvar, hd⟩ := h
  obtain rfl : Tryd.tzL_ren.g 1 = g := Option.some.inj ((show Tryd.prog.globalNamed "math/bits.deBruijn64tab" = some (Tryd.tzL_ren.g 1) by kernel_rfl).symm.trans hg)
  have ht : ∃ e, Tryd.prog.underlying t = some (.array 64 e) ∧ Tryd.prog.underlying e = some (.int .u8) ∧ Tryd.prog.cellsOf e = 1 ∧ Tryd.prog.cellsOf t = 64 := by
    have e1 : (Tryd.prog.globals[Tryd.tzL_ren.g 1]?).map (·.type) = some T_arr64_uint8 := by kernel_rfl
    obtain rfl := Option.some.inj (e1.symm.trans hty)
    exact ⟨T_uint8, by kernel_rfl, frU8, frC8, by kernel_rfl⟩
  obtain ⟨e, h1, h2, h3, h4⟩ := ht
  have hcs := Lib.cells_of_tab (zs := Lib.deBruijn64tab.map fun (n : Nat) => (n : Int)) h1 h2 h3 h4 hd
  intro j hj
  rw [World.var?_cell hg hvar j, ← Array.getElem?_toList, hcs]
  simp [List.getD, hj]
end
end Go.Proofs.YtgfkpemnkmebkaaDoor
/-
  What the frames of the index's laws share: a list of steps of an index that came in.
-/
namespace Go.Proofs.YtgfkpemnkmebkaaDoor
open Go Go.Lite Go.ChangeShapes Go.WideShapes Go.ChangeAt Go.RowKit
set_option linter.unusedVariables false

section
variable {H : Type} {enc : TypeId × Value → H} {w : World} {base : Nat} {sp : Nat → Bool} {held : Bool} {fuel : Nat} {cs : List Value} {x : DataW H × List MemPlace}
end
section
variable {H : Type} {enc : TypeId × Value → H} {w : World} {base : Nat} {sp : Nat → Bool} {held : Bool} {d : DataW H} {p : List MemPlace} {v : Value}
end
end Go.Proofs.YtgfkpemnkmebkaaDoor
