/-
  What the frames of the dag's laws share: hashes, lists of hashes and lists of steps that came in, as the walks want them; the table that is laid.
-/
import Derived.Test.YtgfkpemnkmebkaaGreatDoorRows
import Derived.Test.YtgfkpemnkmebkaaGreatDoorMG
import Derived.WalkKit
import Derived.ProofKit
import Derived.Handy
import Derived.Lay
import Derived.Below
import Derived.Deep.Slices
import Derived.Lib.LaidU8
import Derived.Test.YtgfkpemnkmebkaaGreatDoorMJ
namespace Go.Proofs.YtgfkpemnkmebkaaGreatDoor
open Go Go.Lite Go.ChangeShapes Go.WideShapes Go.ChangeAt Go.RowKit
set_option linter.unusedVariables false

theorem ownNone : ownKnob Tryz.prog.godebug = none := by kernel_rfl
theorem laidOut : laidOutB Tryz.prog = true := by kernel_rfl
theorem frU8 : Tryz.prog.underlying T_uint8 = some (.int .u8) := by kernel_rfl
theorem frHash : Tryz.prog.underlying T_api_Hash = some (.array 32 T_uint8) := by kernel_rfl
theorem frHashes : Tryz.prog.underlying T_sl_api_Hash = some (.slice T_api_Hash) := by kernel_rfl
theorem frC8 : Tryz.prog.cellsOf T_uint8 = 1 := by kernel_rfl
theorem frCH : Tryz.prog.cellsOf T_api_Hash = 32 := by kernel_rfl
theorem frCHs : Tryz.prog.cellsOf T_sl_api_Hash = 1 := by kernel_rfl

section
variable {H : Type} {enc : TypeId × Value → H} {w : World} {base : Nat} {sp : Nat → Bool} {held : Bool} {fuel : Nat} {cs : List Value} {x : DataW H × List MemPlace}
theorem wf_u8 {n : Int} (h : (Lit.int .u8 n).wf = true) : 0 ≤ n ∧ n < 256 := by
  have e1 : IntKind.u8.min = 0 := by decide
  have e2 : IntKind.u8.max = 255 := by decide
  simp only [Lit.wf, Bool.and_eq_true, decide_eq_true_iff, e1, e2] at h
  omega
theorem trod_agg {t e : TypeId} {n : Nat} (ht : Tryz.prog.underlying t = some (.array n e)) (h : DataW.trod enc Tryz.prog w base sp held fuel t cs = some x) :
    cs.length = Tryz.prog.cellsOf t ∧ ∃ ds p, x = (.agg ds, p) := by
  cases fuel with
  | zero => simp [DataW.trod] at h
  | succ fuel =>
    simp only [DataW.trod, ht] at h
    split at h
    · rename_i hl
      obtain ⟨xs, hm, hx⟩ := Option.map_eq_some_iff.1 h
      exact ⟨hl, _, _, hx.symm⟩
    · cases h
/-- a hash that was read -/
theorem isH_of (h : DataW.trod enc Tryz.prog w base sp held fuel T_api_Hash cs = some x) : isH cs.toArray := by
  obtain ⟨hl, ds, p, rfl⟩ := trod_agg frHash h
  rw [frCH] at hl
  refine ⟨by simpa using hl, fun v hv => ?_⟩
  obtain ⟨i, hi, rfl⟩ := List.mem_iff_getElem.1 hv
  simp only at hi
  obtain ⟨fuel', d, q, _, hd⟩ := Lib.array_elem frHash h i (by omega)
  rw [frC8, Nat.mul_one] at hd
  obtain ⟨z, hz, _, hw⟩ := DataW.trod_int frU8 hd
  have h0 := congrArg (·[0]?) hz
  simp only [List.getElem?_take, List.getElem?_drop] at h0
  simp at h0
  have := wf_u8 hw
  refine ⟨z, ?_, this.1, this.2⟩
  have h1 : cs[i]? = some cs[i] := by simp
  rw [h1] at h0
  simpa using h0
theorem cells_of {a : Addr} {n : Nat} (h : w.cells? base a n = some cs) : Cells w a cs.toArray ∧ cs.length = n := by
  obtain ⟨_, hl, hc⟩ := World.cells?_some h
  refine ⟨fun j v hj => ?_, hl⟩
  have hj' : cs[j]? = some v := by simpa using hj
  have := (List.getElem?_eq_some_iff.1 hj').1
  rw [hc j (by omega), hj']
/-- some hash -/
def hzero : HT := ⟨Array.replicate 32 (.int .u8 0), by simp, fun v hv => ⟨0, by simp at hv; exact hv, by omega, by omega⟩⟩
/-- a list of hashes that was read -/
theorem hs_of (h : DataW.trod enc Tryz.prog w base sp held fuel T_sl_api_Hash cs = some x) :
    ∃ A n c l, cs = [.slice A n c] ∧ HS w A n l ∧ n ≤ maxLen := by
  rcases Deep.open_slice frHashes h with ⟨rfl, _⟩ | ⟨a, len, cap, m, k, D, Pl, rfl, _, hl, hm, hme, _, hel⟩
  · exact ⟨none, 0, 0, [], rfl, ⟨rfl, fun i h hi => by simp at hi⟩, by decide⟩
  · have hlm : len ≤ m := by rw [hme]; split <;> omega
    have hall : ∀ i, i < len → ∃ hh : HT, a.block < w.heap.size ∧ Cells w (a.add (i * 32)) hh.1 := fun i hi => by
      obtain ⟨cs', hc, hd⟩ := hel i (by omega)
      rw [frCH] at hc
      obtain ⟨h1, h2⟩ := cells_of hc
      have h3 := isH_of hd
      have h4 := h1 0 (cs'.toArray[0]'(by simp [h2])) (by simp [h2])
      have h5 := World.block_lt_of_cell? w _ h4
      rw [addr_block, addr_block] at h5
      exact ⟨⟨_, h3⟩, h5, h1⟩
    haveI : Inhabited HT := ⟨hzero⟩
    obtain ⟨f, hf⟩ := Deep.choose_lt hall
    refine ⟨some a, len, cap, (List.range len).map f, rfl, ⟨by simp, fun i y hi => ?_⟩, by omega⟩
    have hlt := (List.getElem?_eq_some_iff.1 hi).1
    simp only [List.length_map, List.length_range] at hlt
    simp [hlt] at hi
    subst hi
    exact ⟨a, rfl, (hf i hlt).1, (hf i hlt).2⟩
end
section
variable {H : Type} {enc : TypeId × Value → H} {w : World} {base : Nat} {sp : Nat → Bool} {held : Bool} {d : DataW H} {p : List MemPlace} {v : Value}

set_option maxRecDepth 100000 in
theorem arg_hash {t : TypeId} (et : t = T_api_Hash) (hv : Value.okWide Tryz.prog w .any base t v) (h : ∃ fuel, DataW.trod enc Tryz.prog w 0 sp held fuel t v.cells.toList = some (d, p)) : ∃ hh : HT, v = .agg hh.1 := by
  have ht : Tryz.prog.underlying t = some (.array 32 T_uint8) := by rw [et]; exact frHash
  simp only [Value.okWide, ht] at hv
  subst et
  obtain ⟨cs, rfl, h2, _⟩ := hv
  obtain ⟨fuel, h⟩ := h
  exact ⟨⟨cs, by simpa [Value.cells] using isH_of h⟩, rfl⟩
/-- the table that is laid -/
theorem tab_of (h : Lib.VarReads Tryz.prog w "math/bits.deBruijn64tab" Rows.laid_math_bits_deBruijn64tab) : Tab w := by
  obtain ⟨g, t, cs, fuel, p, hg, hty, hvar, hd⟩ := h
  obtain rfl : Tryz.tzL_ren.g 1 = g := Option.some.inj ((show Tryz.prog.globalNamed "math/bits.deBruijn64tab" = some (Tryz.tzL_ren.g 1) by kernel_rfl).symm.trans hg)
  have ht : ∃ e, Tryz.prog.underlying t = some (.array 64 e) ∧ Tryz.prog.underlying e = some (.int .u8) ∧ Tryz.prog.cellsOf e = 1 ∧ Tryz.prog.cellsOf t = 64 := by
    have e1 : (Tryz.prog.globals[Tryz.tzL_ren.g 1]?).map (·.type) = some T_arr64_uint8 := by kernel_rfl
    obtain rfl := Option.some.inj (e1.symm.trans hty)
    exact ⟨T_uint8, by kernel_rfl, frU8, frC8, by kernel_rfl⟩
  obtain ⟨e, h1, h2, h3, h4⟩ := ht
  have hcs := Lib.cells_of_tab (zs := Lib.deBruijn64tab.map fun (n : Nat) => (n : Int)) h1 h2 h3 h4 hd
  intro j hj
  rw [World.var?_cell hg hvar j, ← Array.getElem?_toList, hcs]
  simp [List.getD, hj]
end
end Go.Proofs.YtgfkpemnkmebkaaGreatDoor
/-
  What the frames of the index's laws share: a list of steps of an index that came in.
-/
namespace Go.Proofs.YtgfkpemnkmebkaaGreatDoor
open Go Go.Lite Go.ChangeShapes Go.WideShapes Go.ChangeAt Go.RowKit
set_option linter.unusedVariables false

section
variable {H : Type} {enc : TypeId × Value → H} {w : World} {base : Nat} {sp : Nat → Bool} {held : Bool} {fuel : Nat} {cs : List Value} {x : DataW H × List MemPlace}
/-- a list of steps that was read -/
theorem stp_of {tS tSs : TypeId} {f0 f1 f2 : Field} (hS : Tryz.prog.underlying tS = some (.struct #[f0, f1, f2])) (h0 : f0.type = T_api_Hash ∧ f0.offset = 0) (h1 : f1.type = T_api_Hash ∧ f1.offset = 32) (h2 : f2.type = T_sl_api_Hash ∧ f2.offset = 64)
    (hcS : Tryz.prog.cellsOf tS = 65) (hSs : Tryz.prog.underlying tSs = some (.slice tS)) (h : DataW.trod enc Tryz.prog w base sp held fuel tSs cs = some x) :
    ∃ A n c l, cs = [.slice A n c] ∧ Stp w (fun _ => True) A n l ∧ n ≤ maxLen := by
  rcases Deep.open_slice hSs h with ⟨rfl, _⟩ | ⟨a, len, cap, m, k, D, Pl, rfl, _, hl, hm, hme, _, hel⟩
  · exact ⟨none, 0, 0, [], rfl, ⟨rfl, fun i h hi => by simp at hi⟩, by decide⟩
  · have hlm : len ≤ m := by rw [hme]; split <;> omega
    have hall : ∀ i, i < len → ∃ sn : SN, ∃ pA pn pc, Cells w (a.add (i * 65)) sn.id.1 ∧ Cells w ((a.add (i * 65)).add 32) sn.sel.1 ∧ w.cell? ((a.add (i * 65)).add 64) = some (.slice pA pn pc) ∧ HS w pA pn sn.ps := fun i hi => by
      obtain ⟨cs', hc, hd⟩ := hel i (by omega)
      rw [hcS] at hc
      obtain ⟨g1, g2⟩ := cells_of hc
      obtain ⟨xs, n', rfl, _, _, hxl, hall⟩ := DataW.trod_struct hS hd
      have q0 := hall 0 f0 rfl
      have q1 := hall 1 f1 rfl
      have q2 := hall 2 f2 rfl
      rw [h0.1, h0.2, frCH] at q0
      rw [h1.1, h1.2, frCH] at q1
      rw [h2.1, h2.2, frCHs] at q2
      obtain ⟨x0, hx0⟩ : ∃ x0, xs[0]? = some x0 := ⟨xs[0]'(by simp at hxl; omega), by simp⟩
      obtain ⟨x1, hx1⟩ : ∃ x1, xs[1]? = some x1 := ⟨xs[1]'(by simp at hxl; omega), by simp⟩
      obtain ⟨x2, hx2⟩ : ∃ x2, xs[2]? = some x2 := ⟨xs[2]'(by simp at hxl; omega), by simp⟩
      rw [hx0] at q0
      rw [hx1] at q1
      rw [hx2] at q2
      have hh0 := isH_of q0
      have hh1 := isH_of q1
      obtain ⟨pA, pn, pc, pl, hcs, hps, _⟩ := hs_of q2
      refine ⟨⟨⟨_, hh0⟩, ⟨_, hh1⟩, pl⟩, pA, pn, pc, ?_, ?_, ?_, hps⟩
      · intro j v hj
        have hj' : ((cs'.drop 0).take 32)[j]? = some v := by simpa using hj
        rw [List.getElem?_take] at hj'
        split at hj'
        · exact g1 j v (by simpa using hj')
        · cases hj'
      · intro j v hj
        have hj' : ((cs'.drop 32).take 32)[j]? = some v := by simpa using hj
        rw [List.getElem?_take] at hj'
        split at hj'
        · rw [List.getElem?_drop] at hj'
          rw [addr_add]
          exact g1 (32 + j) v (by simpa using hj')
        · cases hj'
      · have h64 : cs'[64]? = some (.slice pA pn pc) := by
          have := congrArg (·[0]?) hcs
          simp only [List.getElem?_take, List.getElem?_drop] at this
          simpa using this
        exact g1 64 _ (by simpa using h64)
    haveI : Inhabited SN := ⟨⟨hzero, hzero, []⟩⟩
    obtain ⟨f, hf⟩ := Deep.choose_lt hall
    refine ⟨some a, len, cap, (List.range len).map f, rfl, ⟨by simp, fun i y hi => ?_⟩, by omega⟩
    have hlt := (List.getElem?_eq_some_iff.1 hi).1
    simp only [List.length_map, List.length_range] at hlt
    simp [hlt] at hi
    subst hi
    obtain ⟨pA, pn, pc, g1, g2, g3, g4⟩ := hf i hlt
    exact ⟨a, pA, pn, pc, rfl, trivial, g1, g2, g3, g4, fun _ _ => trivial⟩
end
section
variable {H : Type} {enc : TypeId × Value → H} {w : World} {base : Nat} {sp : Nat → Bool} {held : Bool} {d : DataW H} {p : List MemPlace} {v : Value}
set_option maxRecDepth 100000 in
theorem arg_stp {tS tSs : TypeId} {f0 f1 f2 : Field} (hS : Tryz.prog.underlying tS = some (.struct #[f0, f1, f2])) (h0 : f0.type = T_api_Hash ∧ f0.offset = 0) (h1 : f1.type = T_api_Hash ∧ f1.offset = 32) (h2 : f2.type = T_sl_api_Hash ∧ f2.offset = 64)
    (hcS : Tryz.prog.cellsOf tS = 65) (hSs : Tryz.prog.underlying tSs = some (.slice tS)) (hv : Value.okWide Tryz.prog w .any base tSs v) (h : ∃ fuel, DataW.trod enc Tryz.prog w 0 sp held fuel tSs v.cells.toList = some (d, p)) :
    ∃ A n c l, v = .slice A n c ∧ Stp w (fun _ => True) A n l ∧ n ≤ maxLen := by
  simp only [Value.okWide, hSs, Cell.okWide] at hv
  obtain ⟨a0, len0, cap0, rfl⟩ : ∃ a len cap, v = .slice a len cap := by
    clear h
    cases v <;> simp_all [Cell.ok]
  obtain ⟨fuel, h⟩ := h
  obtain ⟨A, n, c, l, he, g1, g2⟩ := stp_of hS h0 h1 h2 hcS hSs h
  simp [Value.cells] at he
  obtain ⟨rfl, rfl, rfl⟩ := he
  exact ⟨_, _, _, l, rfl, g1, g2⟩
end
end Go.Proofs.YtgfkpemnkmebkaaGreatDoor
