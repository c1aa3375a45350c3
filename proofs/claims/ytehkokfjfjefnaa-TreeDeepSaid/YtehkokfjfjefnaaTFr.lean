/-
  What the frames of the tree's laws share: a list of integers that came in, as the walks want it.
-/
import Derived.Test.YtehkokfjfjefnaaRows
import Derived.Test.YtehkokfjfjefnaaTB
import Derived.WalkKit
import Derived.ProofKit
import Derived.OpenShut
import Derived.ShutString
import Derived.ChangeOld
import Derived.Below
namespace Go.Proofs.Ytehkokfjfjefnaa
open Go Go.Lite Go.ChangeShapes Go.WideShapes Go.ChangeAt Go.RowKit
set_option linter.unusedVariables false

theorem ownNone : ownKnob Try.prog.godebug = none := by kernel_rfl
theorem laidOut : laidOutB Try.prog = true := by kernel_rfl

/-- a slice of integers that came in: it is nil, or it leads to a row -/
def IsRow (k : IntKind) (w : World) (a : Option Addr) (len cap : Nat) (zs : List Int) : Prop :=
  (a = none ∧ len = 0 ∧ cap = 0 ∧ zs = []) ∨
  ∃ x, a = some x ∧ len ≤ cap ∧ cap ≤ maxLen ∧ zs.length = cap ∧ (∀ i, i < zs.length → w.cell? (x.add i) = some (.int k (zs.getD i 0))) ∧ ∀ n ∈ zs, (Lit.int k n).wf = true
theorem wf_i64 {n : Int} (h : (Lit.int .i64 n).wf = true) : -9223372036854775808 ≤ n ∧ n < 9223372036854775808 := by
  have e1 : IntKind.i64.min = -9223372036854775808 := by decide
  have e2 : IntKind.i64.max = 9223372036854775807 := by decide
  simp only [Lit.wf, Bool.and_eq_true, decide_eq_true_iff, e1, e2] at h
  omega
theorem IsRow.ins {w : World} {a : Option Addr} {len cap : Nat} {zs : List Int} (h : IsRow .i64 w a len cap zs) : Ins w a len (zs.take len) := by
  rcases h with ⟨rfl, rfl, rfl, rfl⟩ | ⟨x, rfl, hl, hm, hz, hcell, hwf⟩
  · exact ⟨rfl, fun i z hi => by simp at hi⟩
  · refine ⟨by rw [List.length_take]; omega, fun i z hi => ?_⟩
    rw [List.getElem?_take] at hi
    split at hi
    · rename_i hlt
      have hil := (List.getElem?_eq_some_iff.1 hi).1
      have hc := hcell i hil
      have e : zs.getD i 0 = z := by simp [List.getD, hi]
      rw [e] at hc
      have hb := World.block_lt_of_cell? w _ hc
      rw [add_block] at hb
      exact ⟨x, rfl, hb, hc, wf_i64 (hwf z (List.mem_of_getElem? hi))⟩
    · cases hi
end Go.Proofs.Ytehkokfjfjefnaa
