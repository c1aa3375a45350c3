/-
  DERIVED: THE SHELF's CONTRACTS AT THIS DUMP, IN PLAIN WORDS (tools/lay-plain.mjs out of 'YtgfkpemnkmebkaaDoorShelf.lean', which tools/lay-shelf.mjs wrote): THE SAME DECLARATIONS UNDER THE SAME NAMES: 'import', 'namespace', 'open', 'def', 'theorem' AND NOTHING ELSE: no command of the shelf's: FOR A HAND-IN. Each laying: the table of numbers ('.._ren') and one theorem, a field a fact of the dump's own or the kernel's comparison; each contract: ONE APPLICATION.
-/
import Derived.Test.YtgfkpemnkmebkaaDoorProg
import Derived.Shelf.SlSortCmp.NoneTotal
import Derived.Shelf.SlMaps.Clone
import Derived.Shelf.Spec.TrailingZeros
import Derived.Shelf.Strconv.Itoa0
import Derived.Shelf.Bits.Mul64
import Derived.Test.YtgfkpemnkmebkaaDoorMA
import Derived.Test.YtgfkpemnkmebkaaDoorMB
import Derived.Lib.BytesEntry
import Derived.Test.YtgfkpemnkmebkaaDoorMC
import Derived.LaidEql
set_option linter.unusedVariables false
namespace Go.Proofs
open Go.Shelf
def Tryd.sortL_ren : Go.Shelf.Ren := ⟨fun | 6 => 87 | 15 => 97 | 14 => 96 | 28 => 108 | 29 => 109 | 20 => 100 | 21 => 101 | 22 => 102 | 23 => 103 | 24 => 104 | 25 => 105 | 26 => 106 | 27 => 107 | 46 => 110 | 47 => 111 | 48 => 112 | 49 => 113 | 50 => 114 | 57 => 115 | n => n, fun | 22 => 28 | 24 => 24 | 25 => 112 | 3 => 3 | 39 => 141 | 0 => 0 | 53 => 153 | 55 => 103 | 4 => 4 | 46 => 147 | 45 => 146 | 50 => 87 | 5 => 5 | 9 => 9 | 66 => 154 | 70 => 158 | 76 => 160 | 77 => 161 | n => n, fun | n => n⟩
theorem Tryd.sortL : Go.Proofs.SlLaysF0.n6 Tryd.prog Tryd.sortL_ren := {
  mixed := by kernel_rfl
  f6 := ⟨Tryd.f87.name, by decide, Tryd.func87.trans (congrArg some (by kernel_rfl))⟩
  f14 := ⟨Tryd.f96.name, by decide, Tryd.func96.trans (congrArg some (by kernel_rfl))⟩
  f15 := Tryd.func97.trans (congrArg some (by kernel_rfl))
  f20 := ⟨Tryd.f100.name, by decide, Tryd.func100.trans (congrArg some (by kernel_rfl))⟩
  f21 := ⟨Tryd.f101.name, by decide, Tryd.func101.trans (congrArg some (by kernel_rfl))⟩
  f22 := ⟨Tryd.f102.name, by decide, Tryd.func102.trans (congrArg some (by kernel_rfl))⟩
  f23 := ⟨Tryd.f103.name, by decide, Tryd.func103.trans (congrArg some (by kernel_rfl))⟩
  f24 := ⟨Tryd.f104.name, by decide, Tryd.func104.trans (congrArg some (by kernel_rfl))⟩
  f25 := ⟨Tryd.f105.name, by decide, Tryd.func105.trans (congrArg some (by kernel_rfl))⟩
  f26 := ⟨Tryd.f106.name, by decide, Tryd.func106.trans (congrArg some (by kernel_rfl))⟩
  f27 := ⟨Tryd.f107.name, by decide, Tryd.func107.trans (congrArg some (by kernel_rfl))⟩
  f28 := Tryd.func108.trans (congrArg some (by kernel_rfl))
  f29 := Tryd.func109.trans (congrArg some (by kernel_rfl))
  f46 := ⟨Tryd.f110.name, by decide, Tryd.func110.trans (congrArg some (by kernel_rfl))⟩
  f47 := Tryd.func111.trans (congrArg some (by kernel_rfl))
  f48 := Tryd.func112.trans (congrArg some (by kernel_rfl))
  f49 := ⟨Tryd.f113.name, by decide, Tryd.func113.trans (congrArg some (by kernel_rfl))⟩
  f50 := ⟨Tryd.f114.name, by decide, Tryd.func114.trans (congrArg some (by kernel_rfl))⟩
  f57 := ⟨Tryd.f115.name, by decide, Tryd.func115.trans (congrArg some (by kernel_rfl))⟩
  t0 := Tryd.underlying0
  a0 := Tryd.isAgg0
  z0 := Tryd.sizeOf0
  v0 := Tryd.zeroValue0
  t3 := Tryd.underlying3
  a3 := Tryd.isAgg3
  z3 := Tryd.sizeOf3
  v3 := Tryd.zeroValue3
  t4 := Tryd.underlying4
  a4 := Tryd.isAgg4
  z4 := Tryd.sizeOf4
  v4 := Tryd.zeroValue4
  t5 := Tryd.underlying5
  a5 := Tryd.isAgg5
  z5 := Tryd.sizeOf5
  v5 := Tryd.zeroValue5
  t9 := Tryd.underlying9
  a9 := Tryd.isAgg9
  z9 := Tryd.sizeOf9
  v9 := Tryd.zeroValue9
  t22 := Tryd.underlying28
  a22 := Tryd.isAgg28
  z22 := Tryd.sizeOf28
  v22 := Tryd.zeroValue28
  t25 := Tryd.underlying112
  a25 := Tryd.isAgg112
  z25 := Tryd.sizeOf112
  v25 := Tryd.zeroValue112
  t39 := Tryd.underlying141
  a39 := Tryd.isAgg141
  z39 := Tryd.sizeOf141
  v39 := Tryd.zeroValue141
  t45 := Tryd.underlying146
  a45 := Tryd.isAgg146
  z45 := Tryd.sizeOf146
  v45 := Tryd.zeroValue146
  t46 := Tryd.underlying147
  a46 := Tryd.isAgg147
  z46 := Tryd.sizeOf147
  v46 := Tryd.zeroValue147
  t50 := Tryd.underlying87
  a50 := Tryd.isAgg87
  z50 := Tryd.sizeOf87
  v50 := Tryd.zeroValue87
  t53 := Tryd.underlying153
  a53 := Tryd.isAgg153
  z53 := Tryd.sizeOf153
  v53 := Tryd.zeroValue153
  t55 := Tryd.underlying103
  a55 := Tryd.isAgg103
  z55 := Tryd.sizeOf103
  v55 := Tryd.zeroValue103
  t66 := Tryd.underlying154
  a66 := Tryd.isAgg154
  z66 := Tryd.sizeOf154
  v66 := Tryd.zeroValue154
  t70 := Tryd.underlying158
  a70 := Tryd.isAgg158
  z70 := Tryd.sizeOf158
  v70 := Tryd.zeroValue158
  t76 := Tryd.underlying160
  a76 := Tryd.isAgg160
  z76 := Tryd.sizeOf160
  v76 := Tryd.zeroValue160
  t77 := Tryd.underlying161
  a77 := Tryd.isAgg161
  z77 := Tryd.sizeOf161
  v77 := Tryd.zeroValue161 }
def Tryd.tzL_ren : Go.Shelf.Ren := ⟨fun | 29 => 91 | n => n, fun | 22 => 103 | 3 => 3 | 4 => 4 | 25 => 141 | 54 => 142 | 0 => 0 | 5 => 5 | n => n, fun | 1 => 0 | n => n⟩
theorem Tryd.tzL : Go.Proofs.Lays7.n29 Tryd.prog Tryd.tzL_ren := {
  mixed := by kernel_rfl
  f29 := Tryd.func91.trans (congrArg some (by kernel_rfl))
  t0 := Tryd.underlying0
  a0 := Tryd.isAgg0
  z0 := Tryd.sizeOf0
  v0 := Tryd.zeroValue0
  i0 := by kernel_rfl
  t3 := Tryd.underlying3
  a3 := Tryd.isAgg3
  z3 := Tryd.sizeOf3
  v3 := Tryd.zeroValue3
  i3 := by kernel_rfl
  t4 := Tryd.underlying4
  a4 := Tryd.isAgg4
  z4 := Tryd.sizeOf4
  v4 := Tryd.zeroValue4
  i4 := by kernel_rfl
  t5 := Tryd.underlying5
  a5 := Tryd.isAgg5
  z5 := Tryd.sizeOf5
  v5 := Tryd.zeroValue5
  i5 := by kernel_rfl
  t22 := Tryd.underlying103
  a22 := Tryd.isAgg103
  z22 := Tryd.sizeOf103
  v22 := Tryd.zeroValue103
  i22 := by kernel_rfl
  t25 := Tryd.underlying141
  a25 := Tryd.isAgg141
  z25 := Tryd.sizeOf141
  v25 := Tryd.zeroValue141
  i25 := by kernel_rfl
  t54 := Tryd.underlying142
  a54 := Tryd.isAgg142
  z54 := Tryd.sizeOf142
  g1 := by kernel_rfl }
end Go.Proofs
/-
  DERIVED: THE SHELF's CONTRACTS AT THIS DUMP, IN PLAIN WORDS (tools/lay-plain.mjs out of 'YtgfkpemnkmebkaaDoorTSh.lean', which tools/lay-shelf.mjs wrote): THE SAME DECLARATIONS UNDER THE SAME NAMES: 'import', 'namespace', 'open', 'def', 'theorem' AND NOTHING ELSE: no command of the shelf's: FOR A HAND-IN. Each laying: the table of numbers ('.._ren') and one theorem, a field a fact of the dump's own or the kernel's comparison; each contract: ONE APPLICATION.
-/
namespace Go.Proofs
open Go.Shelf
def Tryd.lays129_ren : Go.Shelf.Ren := ⟨fun | 129 => 109 | n => n, fun | 53 => 103 | 3 => 3 | 4 => 4 | 46 => 141 | 5 => 5 | 9 => 9 | n => n, fun | n => n⟩
theorem Tryd.lays129 : Go.Proofs.Lays.n129 Tryd.prog Tryd.lays129_ren := {
  mixed := by kernel_rfl
  f129 := Tryd.func109.trans (congrArg some (by kernel_rfl))
  t3 := Tryd.underlying3
  a3 := Tryd.isAgg3
  z3 := Tryd.sizeOf3
  v3 := Tryd.zeroValue3
  t4 := Tryd.underlying4
  a4 := Tryd.isAgg4
  z4 := Tryd.sizeOf4
  v4 := Tryd.zeroValue4
  t5 := Tryd.underlying5
  a5 := Tryd.isAgg5
  z5 := Tryd.sizeOf5
  v5 := Tryd.zeroValue5
  t9 := Tryd.underlying9
  a9 := Tryd.isAgg9
  z9 := Tryd.sizeOf9
  v9 := Tryd.zeroValue9
  t46 := Tryd.underlying141
  a46 := Tryd.isAgg141
  z46 := Tryd.sizeOf141
  v46 := Tryd.zeroValue141
  t53 := Tryd.underlying103
  a53 := Tryd.isAgg103
  z53 := Tryd.sizeOf103
  v53 := Tryd.zeroValue103 }
def Tryd.lays264_ren : Go.Shelf.Ren := ⟨fun | 264 => 93 | n => n, fun | 53 => 103 | 46 => 141 | n => n, fun | n => n⟩
theorem Tryd.lays264 : Go.Proofs.Lays.n264 Tryd.prog Tryd.lays264_ren := {
  mixed := by kernel_rfl
  f264 := Tryd.func93.trans (congrArg some (by kernel_rfl))
  t46 := Tryd.underlying141
  a46 := Tryd.isAgg141
  z46 := Tryd.sizeOf141
  v46 := Tryd.zeroValue141
  t53 := Tryd.underlying103
  a53 := Tryd.isAgg103
  z53 := Tryd.sizeOf103
  v53 := Tryd.zeroValue103 }
end Go.Proofs
/-
  Runs of cells that are written; boxes; calls of a loop's body.
-/
namespace Go.Lite
open Go.RowKit

theorem YieldsTo.mono {P : Program} {l : Nat} {args : Array Value} {w : World} {R R' : Bool → World → Prop} (h : YieldsTo P l args w R) (hr : ∀ b w', R b w' → R' b w') : YieldsTo P l args w R' := by
  obtain ⟨g, tmps, assign, body, h1, h2⟩ := h
  exact ⟨g, tmps, assign, body, h1, fun r m => RoundIn.mono (h2 r m) fun e w' ⟨b, he, hb⟩ => ⟨b, he, hr _ _ hb⟩⟩

/-- xs, with vs laid in at k -/
def splice (xs : List Value) (k : Nat) (vs : List Value) : List Value := xs.take k ++ vs ++ xs.drop (k + vs.length)
theorem splice_nil (xs : List Value) (k : Nat) : splice xs k [] = xs := by simp [splice]
theorem splice_cons {xs : List Value} {k : Nat} (hk : k < xs.length) (v : Value) (vs : List Value) : splice xs k (v :: vs) = splice (xs.set k v) (k + 1) vs := by
  unfold splice
  rw [List.take_add_one, List.take_set_of_le (Nat.le_refl k), List.getElem?_set_self hk, List.drop_set]
  rw [if_pos (by omega), List.length_cons, show k + (vs.length + 1) = k + 1 + vs.length by omega]
  simp
theorem splice_len {xs : List Value} {k : Nat} {vs : List Value} (h : k + vs.length ≤ xs.length) : (splice xs k vs).length = xs.length := by
  unfold splice; simp; omega
theorem splice_all {xs vs : List Value} (h : vs.length = xs.length) : splice xs 0 vs = vs := by
  unfold splice; simp [h]

section
variable {w : World} {B : Nat} {e : TypeId} {size n c b : Nat}
theorem setCells_row : ∀ (vs : List Value) (xs : List Value) (w : World) (o i : Nat), Row w B e size (some ⟨b, 0, none⟩) n c xs → o + i + vs.length ≤ xs.length →
    Row (setCells w ⟨b, o, none⟩ vs i) B e size (some ⟨b, 0, none⟩) n c (splice xs (o + i) vs)
  | [], xs, w, o, i, h, _ => by rw [splice_nil]; exact h
  | v :: vs, xs, w, o, i, h, hl => by
    rw [List.length_cons] at hl
    rw [splice_cons (by omega)]
    simp only [setCells]
    rw [add_at]
    have h1 := Row.set h (j := o + i) (by omega) v
    have := setCells_row vs (xs.set (o + i) v) _ o (i + 1) h1 (by rw [List.length_set]; omega)
    rwa [show o + (i + 1) = o + i + 1 by omega] at this
theorem setCells_kept : ∀ (vs : List Value) (w : World) (o i : Nat), Kept (· = b) w (setCells w ⟨b, o, none⟩ vs i)
  | [], w, o, i => Kept.refl _ _
  | v :: vs, w, o, i => by
    simp only [setCells]
    rw [add_at]
    exact (Kept.setCell (S := fun k => k = b) (Kept.refl _ w) (p := ⟨b, o + i, none⟩) (fun _ => rfl) v).trans (setCells_kept vs _ o (i + 1)) (fun _ _ h => h)
theorem setCells_block : ∀ (vs : List Value) (cur : Array Value) (w : World) (t : TypeId) (o i : Nat), w.heap[b]? = some (.cells cur t (0, 0)) → o + i + vs.length ≤ cur.size →
    (setCells w ⟨b, o, none⟩ vs i).heap[b]? = some (.cells (splice cur.toList (o + i) vs).toArray t (0, 0))
  | [], cur, w, t, o, i, h, _ => by rw [splice_nil]; simpa [setCells] using h
  | v :: vs, cur, w, t, o, i, h, hl => by
    rw [List.length_cons] at hl
    rw [splice_cons (by simp; omega)]
    simp only [setCells]
    rw [add_at]
    have h1 := set_blk h (o + i) v
    have := setCells_block vs _ _ t o (i + 1) h1 (by simp; omega)
    rw [show o + (i + 1) = o + i + 1 by omega] at this
    rw [this]
    simp
/-- a new box that is written whole -/
theorem box_set {z cs : Array Value} {t : TypeId} (hz : z.size = cs.size) :
    (∀ j, j < cs.size → Wr (w.alloc (.cells z t)) ((⟨w.heap.size, 0, none⟩ : Addr).add j)) ∧
    (setCells (w.alloc (.cells z t)) ⟨w.heap.size, 0, none⟩ cs.toList 0).heap[w.heap.size]? = some (.cells cs t (0, 0)) ∧
    Kept Nil w (setCells (w.alloc (.cells z t)) ⟨w.heap.size, 0, none⟩ cs.toList 0) := by
  refine ⟨fun j hj => ?_, ?_, ?_⟩
  · rw [add_at, Nat.zero_add]
    exact wr_blk (new_blk w _) (by omega)
  · have h := setCells_block cs.toList z (w.alloc (.cells z t)) t 0 0 (new_blk w _) (by simp; omega)
    rw [h, splice_all (by simp [hz])]
  · exact ((Kept.refl Nil w).alloc _).trans (setCells_kept cs.toList _ 0 0) (fun k hk e => absurd hk (by omega))
end
end Go.Lite
/-
  Structs that are built of parts.
-/
namespace Go.Lite

theorem foldSet : ∀ (vs : List Value) (off k : Nat) (cells : Array Value), off + k + vs.length ≤ cells.size →
    ((vs.zipIdx k).foldl (fun (cs : Array Value) (p : Value × Nat) => cs.setIfInBounds (off + p.2) p.1) cells) = (splice cells.toList (off + k) vs).toArray
  | [], off, k, cells, _ => by rw [splice_nil]; simp
  | v :: vs, off, k, cells, h => by
    rw [List.length_cons] at h
    rw [splice_cons (by simp; omega), List.zipIdx_cons, List.foldl_cons]
    have := foldSet vs off (k + 1) (cells.setIfInBounds (off + k) v) (by simp; omega)
    rw [this, Array.toList_setIfInBounds]
    rfl
theorem fill_part {place : Nat → Option (Nat × Nat)} {cells : Array Value} {i off size : Nat} {v : Value} {rest : List (Nat × Value)} (hp : place i = some (off, size)) (hs : v.cells.size = size) (hle : off + size ≤ cells.size) :
    Instr.fill place cells ((i, v) :: rest) = Instr.fill place (splice cells.toList off v.cells.toList).toArray rest := by
  rw [Instr.fill, hp]
  simp only
  rw [if_neg (by simp; omega)]
  congr 1
  have h := foldSet v.cells.toList off 0 cells (by simp; omega)
  rw [Nat.add_zero] at h
  rw [← h, ← Array.foldl_toList, Array.toList_zipIdx]

/-- a struct's fields (where, how many cells) and its zero -/
def bld (P : Program) (t : TypeId) : Option (List (Nat × Nat) × List Value) :=
  match P.info? t, P.underlying t with
  | some it, some (.struct fields) =>
    match it.zero, fields.toList.mapM (fun f => (P.info? f.type).map fun i => (f.offset, i.size)) with
    | some z, some places => some (places, z.cells.toList)
    | _, _ => none
  | _, _ => none
theorem built_of {P : Program} {t : TypeId} {pl : List (Nat × Nat)} {z : List Value} (h : bld P t = some (pl, z)) (parts : List (Nat × Value)) :
    P.built t parts = Instr.fill (pl.toArray[·]?) z.toArray parts := by
  unfold bld at h
  split at h
  · rename_i it fields h1 h2
    split at h
    · rename_i z' pl' h3 h4
      simp only [Option.some.injEq, Prod.mk.injEq] at h
      obtain ⟨rfl, rfl⟩ := h
      unfold Program.built
      rw [h1, h2]
      simp only [h3, h4]
    · cases h
  · cases h
end Go.Lite
/-
  Marks of several ranges over functions.
-/
namespace Go.Lite

theorem find_snoc {ρ : Env} {k i : Nat} (v : Value) (h : i ≠ k) : find (ρ ++ [(k, v)]) i = find ρ i := by
  induction ρ with
  | nil =>
    simp only [List.nil_append, find]
    cases hb : Nat.beq k i
    · rfl
    · exact absurd (Nat.eq_of_beq_eq_true hb).symm h
  | cons p ρ ih =>
    obtain ⟨j, u⟩ := p
    simp only [List.cons_append, find]
    cases Nat.beq j i
    · exact ih
    · rfl
theorem find_snoc_same {ρ : Env} {k : Nat} (v : Value) (h : find ρ k = none) : find (ρ ++ [(k, v)]) k = some v := by
  induction ρ with
  | nil => simp [find]
  | cons p ρ ih =>
    obtain ⟨j, u⟩ := p
    simp only [List.cons_append, find] at *
    cases hb : Nat.beq j k
    · rw [hb] at h
      exact ih h
    · rw [hb] at h
      cases h
/-- no mark, or a place of marks that holds none: the same -/
theorem Holds.mark0 {r : Option Nat} {ds : List Deferred} {P : Program} {n : Nat} {c : Code} {Q : Post} {ρ : Env} {w : World} (hd : find ρ dkey = none) (h : Holds r ds P n c Q (ρ ++ [(dkey, .agg #[])]) w) : Holds r ds P n c Q ρ w := fun a hs => h a ⟨hs.size, by
    have := hs.defers
    unfold marks at *
    rw [find_snoc_same _ hd]
    rw [hd] at this
    exact this, fun i v hi hv => hs.vals i v hi (by rw [← hv, find_snoc _ hi])⟩

def marksA : List Nat → Array Value
  | [] => #[]
  | D :: l => #[.pointer (some ⟨D, 0, none⟩)] ++ marksA l
theorem marksOf_A : ∀ l, marksOf (.agg (marksA l)) = l
  | [] => rfl
  | D :: l => by
    have ih := marksOf_A l
    simp only [marksA, marksOf] at *
    simp [ih]
theorem marksOk_of : ∀ (l : List Nat) (w : World), l.Nodup → (∀ D ∈ l, w.heap[D]? = some (.deferred (some []))) → MarksOk l w
  | [], _, _, _ => trivial
  | D :: l, w, hn, h => by
    rw [List.nodup_cons] at hn
    refine ⟨h D (by simp), marksOk_of l _ hn.2 fun E hE => ?_⟩
    have hne : D ≠ E := fun e => hn.1 (by rw [e]; exact hE)
    exact (World.putObj_heap_other hne.symm).trans (h E (by simp [hE]))
theorem takeAll_kept : ∀ (l : List Nat) (w : World), Kept (· ∈ l) w (takeAll l w)
  | [], w => Kept.refl _ w
  | D :: l, w => ((Kept.putAt w D (.deferred none)).mono (S' := fun k => k ∈ D :: l) (fun k _ e => by subst e; simp)).trans (takeAll_kept l _) (fun k _ h => by simp [h])
end Go.Lite
/-
  Hashes: 32 cells, each a byte.
-/
namespace Go.Proofs.YtgfkpemnkmebkaaDoor
open Go Go.Lite Go.RowKit

/-- the cells of a hash -/
def isH (cs : Array Value) : Prop := cs.size = 32 ∧ ∀ v ∈ cs.toList, ∃ i : Int, v = .int .u8 i ∧ 0 ≤ i ∧ i < 256
/-- a hash -/
abbrev HT := { cs : Array Value // isH cs }
def key (h : HT) : List Int := h.1.toList.map unInt
theorem isH.ints {cs : Array Value} (h : isH cs) : isInts .u8 32 cs := ⟨h.1, fun v hv => let ⟨i, e, _⟩ := h.2 v hv; ⟨i, e⟩⟩
theorem ints_inj : ∀ {a b : List Value}, (∀ v ∈ a, ∃ i : Int, v = .int .u8 i) → (∀ v ∈ b, ∃ i : Int, v = .int .u8 i) → a.map unInt = b.map unInt → a = b
  | [], [], _, _, _ => rfl
  | [], _ :: _, _, _, h => by simp at h
  | _ :: _, [], _, _, h => by simp at h
  | x :: a, y :: b, ha, hb, h => by
    obtain ⟨i, rfl⟩ := ha x (by simp)
    obtain ⟨j, rfl⟩ := hb y (by simp)
    simp only [List.map_cons, List.cons.injEq, unInt] at h
    rw [h.1, ints_inj (fun v hv => ha v (by simp [hv])) (fun v hv => hb v (by simp [hv])) h.2]
theorem key_inj {a b : HT} (h : key a = key b) : a = b := by
  apply Subtype.ext
  apply Array.ext'
  exact ints_inj (fun v hv => a.2.ints.2 v hv) (fun v hv => b.2.ints.2 v hv) h
instance : DecidableEq HT := fun a b => if h : key a = key b then isTrue (key_inj h) else isFalse fun e => h (by rw [e])
theorem sameInts_eq (a b : HT) : sameInts a.1 b.1 = decide (a = b) := by
  unfold sameInts
  by_cases e : a = b
  · subst e; simp
  · rw [decide_eq_false e]
    have : ¬ (key a = key b) := fun h => e (key_inj h)
    simpa [key] using this
theorem isH.one {cs : Array Value} (h : isH cs) : ∀ v ∈ cs.toList, v.oneCell' = true := fun v hv => by
  obtain ⟨i, rfl, _⟩ := h.2 v hv
  rfl
/-- the order: byte by byte -/
def ltK : List Int → List Int → Bool
  | [], [] => false
  | [], _ :: _ => true
  | _ :: _, [] => false
  | x :: a, y :: b => if x < y then true else if y < x then false else ltK a b
def hlt (a b : HT) : Bool := ltK (key a) (key b)
theorem ltK_irrefl : ∀ a, ltK a a = false
  | [] => rfl
  | x :: a => by simp [ltK, ltK_irrefl a]
theorem ltK_trans : ∀ {a b c}, ltK a b = true → ltK b c = true → ltK a c = true
  | [], [], _, h, _ => by simp [ltK] at h
  | [], _ :: _, [], _, h => by simp [ltK] at h
  | [], _ :: _, _ :: _, _, _ => rfl
  | _ :: _, [], _, h, _ => by simp [ltK] at h
  | _ :: _, _ :: _, [], _, h => by simp [ltK] at h
  | x :: a, y :: b, z :: c, h, h' => by
    simp only [ltK] at *
    by_cases h1 : x < y
    · by_cases h2 : y < z
      · rw [if_pos (by omega)]
      · rw [if_neg h2] at h'
        by_cases h3 : z < y
        · rw [if_pos h3] at h'; cases h'
        · rw [if_pos (by omega)]
    · rw [if_neg h1] at h
      by_cases h2 : y < x
      · rw [if_pos h2] at h; cases h
      · rw [if_neg h2] at h
        by_cases h3 : y < z
        · rw [if_pos (by omega)]
        · rw [if_neg h3] at h'
          by_cases h4 : z < y
          · rw [if_pos h4] at h'; cases h'
          · rw [if_neg h4] at h'
            rw [if_neg (by omega), if_neg (by omega)]
            exact ltK_trans h h'
theorem ltK_total : ∀ {a b}, a.length = b.length → ltK a b = false → ltK b a = false → a = b
  | [], [], _, _, _ => rfl
  | [], _ :: _, h, _, _ => by simp at h
  | _ :: _, [], h, _, _ => by simp at h
  | x :: a, y :: b, hl, h, h' => by
    simp only [ltK] at *
    by_cases h1 : x < y
    · rw [if_pos h1] at h; cases h
    · rw [if_neg h1] at h
      by_cases h2 : y < x
      · rw [if_pos h2] at h'; cases h'
      · rw [if_neg h2] at h h'
        rw [if_neg h1] at h'
        have : x = y := by omega
        rw [this, ltK_total (by simpa using hl) h h']
theorem key_len (a : HT) : (key a).length = 32 := by have := a.2.1; simpa [key] using this
theorem hlt_total {a b : HT} (h : hlt a b = false) (h' : hlt b a = false) : a = b := key_inj (ltK_total (by rw [key_len, key_len]) h h')
theorem hlt_trans {a b c : HT} (h : hlt a b = true) (h' : hlt b c = true) : hlt a c = true := ltK_trans h h'
theorem hlt_irrefl (a : HT) : hlt a a = false := ltK_irrefl _
theorem hlt_asymm {a b : HT} (h : hlt a b = true) : hlt b a = false := by
  cases h' : hlt b a
  · rfl
  · have := hlt_trans h h'; rw [hlt_irrefl] at this; cases this
end Go.Proofs.YtgfkpemnkmebkaaDoor
/-
  Sorted hashes, each once (no program in sight).
-/
namespace Go.Proofs.YtgfkpemnkmebkaaDoor
open Go Go.Lite

/-- rising -/
def SS (l : List HT) : Prop := l.Pairwise fun a b => hlt a b = true
theorem SS.nodup {l : List HT} (h : SS l) : l.Nodup := List.Pairwise.imp (fun {a b} hab e => by subst e; rw [hlt_irrefl] at hab; cases hab) h
theorem SS.cons {x : HT} {l : List HT} : SS (x :: l) ↔ (∀ y ∈ l, hlt x y = true) ∧ SS l := List.pairwise_cons
theorem SS_ext : ∀ {l m : List HT}, SS l → SS m → (∀ x, x ∈ l ↔ x ∈ m) → l = m
  | [], [], _, _, _ => rfl
  | [], y :: m, _, _, h => by have := (h y).2 (by simp); simp at this
  | x :: l, [], _, _, h => by have := (h x).1 (by simp); simp at this
  | x :: l, y :: m, hl, hm, h => by
    rw [SS.cons] at hl hm
    have hxy : x = y := by
      have h1 := (h x).1 (by simp)
      have h2 := (h y).2 (by simp)
      rcases List.mem_cons.1 h1 with h1 | h1
      · exact h1
      · rcases List.mem_cons.1 h2 with h2 | h2
        · exact h2.symm
        · have a := hl.1 _ h2
          have b := hm.1 _ h1
          rw [hlt_asymm a] at b
          cases b
    subst hxy
    congr 1
    refine SS_ext hl.2 hm.2 fun z => ?_
    have hz := h z
    constructor
    · intro hzl
      rcases List.mem_cons.1 (hz.1 (by simp [hzl])) with e | e
      · subst e; have := hl.1 _ hzl; rw [hlt_irrefl] at this; cases this
      · exact e
    · intro hzm
      rcases List.mem_cons.1 (hz.2 (by simp [hzm])) with e | e
      · subst e; have := hm.1 _ hzm; rw [hlt_irrefl] at this; cases this
      · exact e

def ins (x : HT) : List HT → List HT
  | [] => [x]
  | y :: l => if hlt x y then x :: y :: l else if x = y then y :: l else y :: ins x l
theorem mem_ins (x z : HT) : ∀ l, z ∈ ins x l ↔ z = x ∨ z ∈ l
  | [] => by simp [ins]
  | y :: l => by
    unfold ins
    split
    · simp
    · split
      · rename_i e; subst e; simp
      · simp only [List.mem_cons, mem_ins x z l]
        constructor
        · rintro (h | h | h) <;> simp [h]
        · rintro (h | h | h) <;> simp [h]
theorem SS_ins (x : HT) : ∀ {l : List HT}, SS l → SS (ins x l)
  | [], _ => by simp [ins, SS]
  | y :: l, h => by
    have h' := SS.cons.1 h
    unfold ins
    split
    · rename_i hxy
      refine SS.cons.2 ⟨fun z hz => ?_, h⟩
      rcases List.mem_cons.1 hz with rfl | hz
      · exact hxy
      · exact hlt_trans hxy (h'.1 _ hz)
    · split
      · exact h
      · rename_i h1 h2
        refine SS.cons.2 ⟨fun z hz => ?_, SS_ins x h'.2⟩
        rcases (mem_ins x z l).1 hz with rfl | hz
        · cases hyz : hlt y z
          · exact absurd (hlt_total hyz (by simpa using h1)).symm h2
          · rfl
        · exact h'.1 _ hz
/-- the same, rising, each once -/
def srt (l : List HT) : List HT := l.foldr ins []
theorem mem_srt {z : HT} : ∀ {l : List HT}, z ∈ srt l ↔ z ∈ l
  | [] => by simp [srt]
  | x :: l => by
    have := @mem_srt z l
    simp only [srt, List.foldr_cons, mem_ins, List.mem_cons] at this ⊢
    rw [this]
theorem SS_srt : ∀ l : List HT, SS (srt l)
  | [] => List.Pairwise.nil
  | x :: l => SS_ins x (SS_srt l)
theorem srt_ext {l m : List HT} (h : ∀ x, x ∈ l ↔ x ∈ m) : srt l = srt m := SS_ext (SS_srt l) (SS_srt m) fun x => by rw [mem_srt, mem_srt, h]
theorem srt_of {l m : List HT} (hs : SS l) (h : ∀ x, x ∈ l ↔ x ∈ m) : l = srt m := SS_ext hs (SS_srt m) fun x => by rw [mem_srt, h]
theorem ins_len (x : HT) : ∀ l, (ins x l).length ≤ l.length + 1
  | [] => by simp [ins]
  | y :: l => by
    have := ins_len x l
    unfold ins
    split
    · simp
    · split <;> simp <;> omega
theorem srt_len : ∀ l : List HT, (srt l).length ≤ l.length
  | [] => by simp [srt]
  | x :: l => by
    have h1 := ins_len x (srt l)
    have h2 := srt_len l
    simp only [srt, List.foldr_cons, List.length_cons] at *
    omega
theorem ins_len_of {x : HT} : ∀ {l : List HT}, x ∉ l → (ins x l).length = l.length + 1
  | [], _ => by simp [ins]
  | y :: l, h => by
    simp only [List.mem_cons, not_or] at h
    have := ins_len_of h.2
    unfold ins
    split
    · simp
    · rw [if_neg h.1]; simp; omega
theorem srt_len_nodup : ∀ {l : List HT}, l.Nodup → (srt l).length = l.length
  | [], _ => by simp [srt]
  | x :: l, h => by
    rw [List.nodup_cons] at h
    have h2 := srt_len_nodup h.2
    have := ins_len_of (l := srt l) (x := x) (fun hm => h.1 (mem_srt.1 hm))
    simp only [srt, List.foldr_cons, List.length_cons] at *
    omega
theorem ins_len_mem {x : HT} : ∀ {l : List HT}, SS l → x ∈ l → (ins x l).length = l.length
  | [], _, h => by simp at h
  | y :: l, hs, h => by
    have h' := SS.cons.1 hs
    unfold ins
    split
    · rename_i hxy
      rcases List.mem_cons.1 h with rfl | h
      · rw [hlt_irrefl] at hxy; cases hxy
      · have := h'.1 _ h; rw [hlt_asymm hxy] at this; cases this
    · split
      · rfl
      · rename_i h1 h2
        rcases List.mem_cons.1 h with rfl | h
        · exact absurd rfl h2
        · simp [ins_len_mem h'.2 h]
theorem nodup_of_srt : ∀ {l : List HT}, (srt l).length = l.length → l.Nodup
  | [], _ => List.Pairwise.nil
  | x :: l, h => by
    have h2 := srt_len l
    by_cases hm : x ∈ l
    · have := ins_len_mem (SS_srt l) (mem_srt.2 hm)
      simp only [srt, List.foldr_cons, List.length_cons] at *
      omega
    · have h3 := ins_len_of (l := srt l) (x := x) (fun h => hm (mem_srt.1 h))
      simp only [srt, List.foldr_cons, List.length_cons] at *
      exact List.nodup_cons.2 ⟨hm, nodup_of_srt (by simp only [srt]; omega)⟩
theorem srt_nil : srt [] = [] := rfl
theorem srt_one (x : HT) : srt [x] = [x] := rfl
theorem srt_self {l : List HT} (h : SS l) : srt l = l := (srt_of h fun _ => Iff.rfl).symm

/-- one more in the midst -/
theorem SS_mid {l : List HT} {x : HT} {k : Nat} (hs : SS l) (h1 : ∀ y ∈ l.take k, hlt y x = true) (h2 : ∀ y ∈ l.drop k, hlt x y = true) : SS (l.take k ++ x :: l.drop k) := by
  unfold SS at *
  rw [← List.take_append_drop k l, List.pairwise_append] at hs
  rw [List.pairwise_append, List.pairwise_cons]
  refine ⟨hs.1, ⟨h2, hs.2.1⟩, fun y hy z hz => ?_⟩
  rcases List.mem_cons.1 hz with rfl | hz
  · exact h1 y hy
  · exact hs.2.2 y hy z hz
theorem SS.get {l : List HT} (h : SS l) {i j : Nat} (hij : i < j) {x y : HT} (hx : l[i]? = some x) (hy : l[j]? = some y) : hlt x y = true := by
  obtain ⟨h1, rfl⟩ := List.getElem?_eq_some_iff.1 hx
  obtain ⟨h2, rfl⟩ := List.getElem?_eq_some_iff.1 hy
  exact List.pairwise_iff_getElem.1 h i j h1 h2 hij
/-- one more at the end -/
theorem SS_snoc {l : List HT} {x : HT} (hs : SS l) (h : ∀ y ∈ l, hlt y x = true) : SS (l ++ [x]) := by
  have := SS_mid (k := l.length) hs (x := x) (by simpa using h) (by simp)
  simpa using this

/-- rising, but not strictly -/
def LE (l : List HT) : Prop := l.Pairwise fun a b => hlt b a = false
theorem lt_of_le_ne {a b : HT} (h : hlt b a = false) (hn : a ≠ b) : hlt a b = true := by
  cases hab : hlt a b
  · exact absurd (hlt_total hab h) hn
  · rfl
theorem lt_of_le_lt {a b c : HT} (h : hlt b a = false) (h' : hlt b c = true) : hlt a c = true := by
  by_cases e : a = b
  · subst e; exact h'
  · exact hlt_trans (lt_of_le_ne h e) h'
theorem LE.get {l : List HT} (h : LE l) {i j : Nat} (hij : i < j) {x y : HT} (hx : l[i]? = some x) (hy : l[j]? = some y) : hlt y x = false := by
  obtain ⟨h1, rfl⟩ := List.getElem?_eq_some_iff.1 hx
  obtain ⟨h2, rfl⟩ := List.getElem?_eq_some_iff.1 hy
  exact List.pairwise_iff_getElem.1 h i j h1 h2 hij
theorem mem_take_succ {l : List HT} {k : Nat} {x z : HT} (hx : l[k]? = some x) : z ∈ l.take (k + 1) ↔ z ∈ l.take k ∨ z = x := by
  rw [List.take_add_one, hx]
  simp
end Go.Proofs.YtgfkpemnkmebkaaDoor
/-
  The document's small functions on hashes: Compare, In, Equal.
-/
namespace Go.Proofs.YtgfkpemnkmebkaaDoor
open Go Go.Lite Go.RowKit

theorem addr_block (a : Addr) (k : Nat) : (a.add k).block = a.block := by unfold Addr.add; split <;> rfl
theorem roundQ_exit {σ : Type} (e : σ → Env) (I : σ → World → Prop) (μ : σ → World → Nat) (s : σ) (w : World) (Q : Post) (l : Nat) (ρ : Env) (w' : World) : roundQ e I μ s w Q (.exit l) ρ w' = Q (.exit l) ρ w' := rfl
theorem wrapI {x : Int} (h0 : -9223372036854775808 ≤ x) (h1 : x < 9223372036854775808) : IntKind.i64.wrap x = x := by
  simp only [IntKind.wrap, IntKind.bits, IntKind.signed]
  simp
  omega

theorem Cells.keep {S : Nat → Prop} {w w' : World} {a : Addr} {cs : Array Value} (h : Cells w a cs) (hk : Kept S w w') (hn : ¬ S a.block) : Cells w' a cs :=
  fun j v hj => hk.cell (h j v hj) (by rw [addr_block]; exact hn)
theorem Cells.blk {w : World} {b : Nat} {cs : Array Value} {t : TypeId} {fr : Nat × Nat} (h : w.heap[b]? = some (.cells cs t fr)) : Cells w ⟨b, 0, none⟩ cs :=
  fun j v hj => by rw [add_at, Nat.zero_add, cell_blk h]; exact hj

/-- a slice of hashes, to be read -/
structure HS (w : World) (A : Option Addr) (n : Nat) (l : List HT) : Prop where
  len : l.length = n
  at_ : ∀ (i : Nat) (h : HT), l[i]? = some h → ∃ a, A = some a ∧ a.block < w.heap.size ∧ Cells w (a.add (i * 32)) h.1
theorem HS.keep {S : Nat → Prop} {w w' : World} {A : Option Addr} {n : Nat} {l : List HT} (h : HS w A n l) (hk : Kept S w w') (hn : ∀ a, A = some a → ¬ S a.block) : HS w' A n l := ⟨h.len, fun i x hi => by
  obtain ⟨a, h1, h2, h3⟩ := h.at_ i x hi
  exact ⟨a, h1, Nat.lt_of_lt_of_le h2 hk.size, Cells.keep h3 hk (by rw [addr_block]; exact hn a h1)⟩⟩
theorem HS.same {w w' : World} {A : Option Addr} {n : Nat} {l : List HT} (h : HS w A n l) (hk : Kept Nil w w') : HS w' A n l := h.keep hk fun _ _ h => h

section
variable {w : World} {K : Value → World → Prop}
end
end Go.Proofs.YtgfkpemnkmebkaaDoor
/-
  Compare, the document's and the program's.
-/
namespace Go.Proofs.YtgfkpemnkmebkaaDoor
open Go Go.Lite Go.RowKit

/-- -1, 0, 1 -/
def cmpH (a b : HT) : Int := if hlt a b then -1 else if hlt b a then 1 else 0
theorem key_get {h : HT} {i : Nat} (hi : i < 32) : ∃ x : Int, h.1[i]? = some (.int .u8 x) ∧ (key h)[i]? = some x ∧ 0 ≤ x ∧ x < 256 := by
  have hs : i < h.1.size := by rw [h.2.1]; exact hi
  obtain ⟨x, hx, h1, h2⟩ := h.2.2 h.1[i] (by simp)
  refine ⟨x, by rw [Array.getElem?_eq_getElem hs, hx], ?_, h1, h2⟩
  unfold key
  rw [List.getElem?_map, Array.getElem?_toList, Array.getElem?_eq_getElem hs, hx]
  rfl

section
variable {w : World} {K : Value → World → Prop}
end
end Go.Proofs.YtgfkpemnkmebkaaDoor
/-
  The program's Compare.
-/
namespace Go.Proofs.YtgfkpemnkmebkaaDoor
open Go Go.Lite Go.RowKit

theorem byte_lt {x y : Int} (hx : 0 ≤ x ∧ x < 256) (hy : 0 ≤ y ∧ y < 256) : (x.toNat.toUInt8 < y.toNat.toUInt8) ↔ x < y := by
  rw [UInt8.lt_iff_toNat_lt]
  simp only [Nat.toUInt8, UInt8.toNat_ofNat']
  omega
theorem compareBytes_key : ∀ {a b : List Int}, a.length = b.length → (∀ x ∈ a, 0 ≤ x ∧ x < 256) → (∀ x ∈ b, 0 ≤ x ∧ x < 256) →
    Lib.compareBytes (Lib.bytesOf a) (Lib.bytesOf b) = if ltK a b then -1 else if ltK b a then 1 else 0
  | [], [], _, _, _ => rfl
  | [], _ :: _, h, _, _ => by simp at h
  | _ :: _, [], h, _, _ => by simp at h
  | x :: a, y :: b, h, ha, hb => by
    have hx := ha x (by simp)
    have hy := hb y (by simp)
    have ih := compareBytes_key (a := a) (b := b) (by simpa using h) (fun z hz => ha z (by simp [hz])) (fun z hz => hb z (by simp [hz]))
    simp only [Lib.bytesOf, List.map_cons, Lib.compareBytes, byte_lt hx hy, byte_lt hy hx, ltK]
    by_cases h1 : x < y
    · simp [h1]
    · by_cases h2 : y < x
      · simp [h1, h2]
      · simp only [h1, h2, if_false]
        exact ih
theorem key_bytes (h : HT) : ∀ x ∈ key h, 0 ≤ x ∧ x < 256 := by
  intro x hx
  simp only [key, List.mem_map] at hx
  obtain ⟨v, hv, rfl⟩ := hx
  obtain ⟨i, rfl, h1, h2⟩ := h.2.2 v hv
  exact ⟨h1, h2⟩
theorem compareBytes_hash (a b : HT) : Lib.compareBytes (Lib.bytesOf (key a)) (Lib.bytesOf (key b)) = cmpH a b :=
  compareBytes_key (by rw [key_len, key_len]) (key_bytes a) (key_bytes b)

section
variable {w : World} {K : Value → World → Prop}
theorem bytes_Compare_ok (a b : HT) {p q : Addr} {c c' : Nat} (ha : Cells w p a.1) (hb : Cells w q b.1) (hK : K (.int .i64 (cmpH a b)) w) :
    Ret Tryd.prog bytes_Compare.id #[.slice (some p) 32 c, .slice (some q) 32 c'] w K := by
  refine bytes_Compare.of ⟨.int .i64 (cmpH a b), w, ?_, _, rfl, hK⟩
  have hcell : ∀ (h : HT) (r : Addr), Cells w r h.1 → ∀ j x, (key h)[j]? = some x → w.cell? (r.add j) = some (.int .u8 x) := by
    intro h r hr j x hx
    have hj : j < 32 := by have := (List.getElem?_eq_some_iff.1 hx).1; rw [key_len] at this; exact this
    obtain ⟨y, hy, ky, _⟩ := key_get (h := h) hj
    rw [hx] at ky
    cases ky
    exact hr j _ hy
  have l1 := Lib.run_loadBytesX (P := Tryd.prog) w (key a) p .empty (hcell a p ha)
  have l2 := Lib.run_loadBytesX (P := Tryd.prog) w (key b) q .empty (hcell b q hb)
  rw [key_len] at l1 l2
  rw [run_callFunc_extern bytealg_Compare.at_ (by kernel_rfl) (by kernel_rfl) (by kernel_rfl) (e := Extern.BytealgCompare.compare) (by kernel_rfl)]
  have hr : (Extern.BytealgCompare.compare #[.slice (some p) 32 c, .slice (some q) 32 c']).run Tryd.prog w = .ok (.int .i64 (cmpH a b)) w := by
    change Sem.run Tryd.prog (do pure (goInt (Extern.BytealgCompare.cmp (← Extern.Bytes.bytesOf (.slice (some p) 32 c)) (← Extern.Bytes.bytesOf (.slice (some q) 32 c'))))) w = _
    simp only [Extern.Bytes.bytesOf, Sem.run_bind, l1, l2, Result.andThen_ok, Sem.run_pure, Lib.cmp_eq, goInt]
    rw [← compareBytes_hash]
    simp
  rw [hr]
  rfl
/-- Compare; the world has two blocks more -/
theorem dag_Compare_ok (a b : HT) (hK : K (.int .i64 (cmpH a b)) ((w.alloc (.cells a.1 T_api_Hash)).alloc (.cells b.1 T_api_Hash)).drew) : Ret Tryd.prog dag_Compare.id #[.agg a.1, .agg b.1] w K := by
  refine dag_Compare.of ?_
  unfold dag_Compare.W
  intro w3 w4 w5
  have ha : w5.heap[w.heap.size]? = some (.cells a.1 T_api_Hash (0, 0)) := old_blk (new_blk w _) _
  have hb : w5.heap[w3.heap.size]? = some (.cells b.1 T_api_Hash (0, 0)) := new_blk w3 _
  simp only [if_neg (show ¬ (32 : Nat) = 0 by omega), Nat.zero_mul, add_zero, Nat.sub_zero]
  exact bytes_Compare_ok a b (Cells.blk ha) (Cells.blk hb) ⟨_, rfl, hK⟩
end
end Go.Proofs.YtgfkpemnkmebkaaDoor
/-
  Rows of hashes: read, cut, appended.
-/
namespace Go.Proofs.YtgfkpemnkmebkaaDoor
open Go Go.Lite Go.RowKit

theorem addr_add (a : Addr) (m n : Nat) : (a.add m).add n = a.add (m + n) := by
  unfold Addr.add
  by_cases hm : m = 0 <;> by_cases hn : n = 0 <;> simp [hm, hn, Nat.add_assoc]
/-- the cells of hashes in a row -/
def hcells (l : List HT) : List Value := l.flatMap fun h => h.1.toList
theorem hcells_cons (h : HT) (l : List HT) : hcells (h :: l) = h.1.toList ++ hcells l := by simp [hcells]
theorem hcells_app (l m : List HT) : hcells (l ++ m) = hcells l ++ hcells m := by simp [hcells]
theorem hcells_len : ∀ l : List HT, (hcells l).length = l.length * 32
  | [] => rfl
  | h :: l => by
    have := h.2.1
    rw [hcells_cons, List.length_append, hcells_len l, Array.length_toList, this, List.length_cons]
    omega
theorem hcells_one (l : List HT) : ∀ u ∈ hcells l, u.oneCell' = true := by
  intro u hu
  simp only [hcells, List.mem_flatMap] at hu
  obtain ⟨h, _, hu⟩ := hu
  exact h.2.one u hu
theorem hcells_get : ∀ {l : List HT} {i : Nat} {h : HT}, l[i]? = some h → ∀ {j : Nat} {v : Value}, h.1[j]? = some v → (hcells l)[i * 32 + j]? = some v
  | [], _, _, hi, _, _, _ => by simp at hi
  | x :: l, 0, h, hi, j, v, hj => by
    simp only [List.getElem?_cons_zero, Option.some.injEq] at hi
    subst hi
    have hlt : j < x.1.toList.length := by simpa using (Array.getElem?_eq_some_iff.1 hj).1
    rw [hcells_cons, Nat.zero_mul, Nat.zero_add, List.getElem?_append_left hlt, Array.getElem?_toList, hj]
  | x :: l, i + 1, h, hi, j, v, hj => by
    simp only [List.getElem?_cons_succ] at hi
    have := x.2.1
    rw [hcells_cons, List.getElem?_append_right (by simp; omega), Array.length_toList, this, show (i + 1) * 32 + j - 32 = i * 32 + j by omega]
    exact hcells_get hi hj
theorem hcells_at {l : List HT} {j : Nat} {v : Value} (h : (hcells l)[j]? = some v) : ∃ x, l[j / 32]? = some x ∧ x.1[j % 32]? = some v := by
  have hj := (List.getElem?_eq_some_iff.1 h).1
  rw [hcells_len] at hj
  have hi : j / 32 < l.length := by omega
  refine ⟨l[j / 32], List.getElem?_eq_getElem hi, ?_⟩
  have hs := l[j / 32].2.1
  have hm : j % 32 < l[j / 32].1.size := by rw [hs]; omega
  obtain ⟨u, hu⟩ : ∃ u, l[j / 32].1[j % 32]? = some u := ⟨_, Array.getElem?_eq_getElem hm⟩
  have := hcells_get (List.getElem?_eq_getElem hi) hu
  rw [show j / 32 * 32 + j % 32 = j by omega, h] at this
  rw [hu, this]

theorem slHash : SlT Tryd.prog T_sl_api_Hash T_api_Hash 32 32 := ⟨by kernel_rfl, by kernel_rfl⟩
/-- a row of hashes of one's own -/
abbrev HRow (w : World) (B : Nat) (A : Option Addr) (n c : Nat) (l : List HT) : Prop := Row w B T_api_Hash 32 A n c (hcells l)

section
variable {w w' : World} {B : Nat} {A : Option Addr} {n c : Nat} {l : List HT}
theorem HRow.len (h : HRow w B A n c l) : l.length = n := by
  have := Row.len h
  rw [hcells_len] at this
  omega
theorem HRow.hs (h : HRow w B A n c l) : HS w A n l := ⟨h.len, fun i x hi => by
  have hlen := h.len
  have hil := (List.getElem?_eq_some_iff.1 hi).1
  obtain ⟨b, rfl⟩ := Row.some h (by omega)
  obtain ⟨_, cur, hcur⟩ := Row.blk h (k := b) rfl
  refine ⟨_, rfl, lt_blk hcur, fun j v hj => ?_⟩
  rw [addr_add]
  exact Row.cells h _ _ (hcells_get hi hj)⟩
theorem HRow.nil (w : World) (B : Nat) : HRow w B none 0 0 [] := Row.nil _ _ _ _
theorem HS.cells {a : Addr} (h : HS w (some a) n l) : ∀ j u, (hcells l)[j]? = some u → w.cell? (a.add j) = some u := by
  intro j u hj
  obtain ⟨x, hx, hu⟩ := hcells_at hj
  obtain ⟨a', ha, _, hc⟩ := h.at_ _ x hx
  cases ha
  have := hc _ _ hu
  rwa [addr_add, show j / 32 * 32 + j % 32 = j by omega] at this
theorem HS.nil (w : World) (A : Option Addr) : HS w A 0 [] := ⟨rfl, fun i x hi => by simp at hi⟩
theorem HS.none (h : HS w none n l) : n = 0 ∧ l = [] := by
  cases l with
  | nil => exact ⟨h.len.symm, rfl⟩
  | cons x l => obtain ⟨a, ha, _⟩ := h.at_ 0 x rfl; cases ha
theorem HS.drop (h : HS w A n l) {k : Nat} (hc : n ≤ c) (hk : k ≤ n) : HS w (if c = k then A else A.map (·.add (k * 32))) (n - k) (l.drop k) := ⟨by have := h.len; simp; omega, fun i x hi => by
  rw [List.getElem?_drop] at hi
  have hlen := h.len
  have := (List.getElem?_eq_some_iff.1 hi).1
  obtain ⟨a, rfl, hb, hcl⟩ := h.at_ _ x hi
  rw [if_neg (by omega)]
  refine ⟨_, rfl, by rw [addr_block]; exact hb, ?_⟩
  rw [addr_add, ← Nat.add_mul]
  exact hcl⟩
theorem HS.one {w : World} {b : Nat} {h : HT} {t : TypeId} {fr : Nat × Nat} (hb : w.heap[b]? = some (.cells h.1 t fr)) : HS w (some ⟨b, 0, Option.none⟩) 1 [h] := ⟨rfl, fun i x hi => by
  cases i with
  | zero =>
    simp only [List.getElem?_cons_zero, Option.some.injEq] at hi
    subst hi
    exact ⟨_, rfl, lt_blk hb, by rw [Nat.zero_mul, add_zero]; exact Cells.blk hb⟩
  | succ i => simp at hi⟩

/-- a slice is appended to a row of one's own -/
theorem append_hs (ty : Nat) (h : HRow w B A n c l) {A2 : Option Addr} {m cx : Nat} {l2 : List HT} (h2 : HS w A2 m l2) (hm : n + m ≤ 1000000) (hB : B ≤ w.heap.size) :
    ∃ A' c' w', (Builtin.append_ #[T_sl_api_Hash, T_sl_api_Hash] ty #[.slice A n c, .slice A2 m cx]).run Tryd.prog w = .ok (.slice A' (n + m) c') w' ∧
      HRow w' B A' (n + m) c' (l ++ l2) ∧ w.grownBy w' (blkOf A) ∧ (∀ k, blkOf A' = some k → blkOf A = some k ∨ w.heap.size ≤ k) := by
  cases A2 with
  | some a =>
    have hl2 := h2.len
    obtain ⟨A', c', w', hr, hrow, hg, hb⟩ := append_row (P := Tryd.prog) (t := T_sl_api_Hash) (bytes := 32) (ty := ty) slHash h (a := a) (m := m) (cx := cx) (news := hcells l2) (by rw [hcells_len, hl2]) h2.cells (hcells_one l2) (by omega) (by unfold maxLen; omega) hB
    refine ⟨A', c', w', hr, ?_, hg, hb⟩
    rw [← hcells_app] at hrow
    exact hrow
  | none =>
    obtain ⟨rfl, rfl⟩ := h2.none
    refine ⟨A, c, w, ?_, by simpa using h, ⟨rfl, rfl, rfl, Nat.le_refl _, fun _ _ _ => rfl⟩, fun k hk => .inl hk⟩
    obtain ⟨i, z, hi, hz, hs, hby, hzs⟩ := slHash.inf
    have hn : n ≤ c := by rcases Row.own h with ⟨_, h1, h2, _⟩ | ⟨_, _, _, _, _, h1, _⟩ <;> omega
    simp [Builtin.append_, run_underlying slHash.und, sizeOf, typeInfo, hi, Builtin.lenOf, Builtin.firstCells, hn]
    cases A <;> simp [storeCells]
end
end Go.Proofs.YtgfkpemnkmebkaaDoor
/-
  The document's Sorted.
-/
namespace Go.Proofs.YtgfkpemnkmebkaaDoor
open Go Go.Lite Go.RowKit

theorem HS.load {w : World} {A : Option Addr} {n : Nat} {l : List HT} (hl : HS w A n l) {i : Int} {x : HT} (h0 : 0 ≤ i) (hx : l[i.toNat]? = some x) {k : Array Value → Prop} (hk : k x.1) :
    (0 ≤ i ∧ i < (n : Int)) ∧ Is A fun a => ∃ t : Array Value, (t.size = 32 ∧ Cells w (a.add (i.toNat * 32)) t) ∧ k t := by
  obtain ⟨a, rfl, _, hc⟩ := hl.at_ _ x hx
  have := (List.getElem?_eq_some_iff.1 hx).1
  have := hl.len
  exact ⟨⟨h0, by omega⟩, x.1, ⟨x.2.1, hc⟩, hk⟩
theorem cmpH_lt {a b : HT} : (cmpH a b < 0) ↔ hlt a b = true := by
  unfold cmpH
  by_cases h : hlt a b = true
  · simp [h]
  · by_cases h' : hlt b a = true <;> simp [h, h']
theorem wrapP {n : Int} (h0 : 0 ≤ n) (h1 : n ≤ 2000000) : IntKind.i64.wrap (n + 1) = n + 1 := wrapI (by omega) (by omega)
theorem wrapM {n : Int} (h0 : 0 ≤ n) (h1 : n ≤ 2000000) : IntKind.i64.wrap (n - 1) = n - 1 := wrapI (by omega) (by omega)

/-- growing: all but the row's own block is kept -/
theorem Kept.growNew {w w' w'' : World} {A : Option Addr} (h : Kept Nil w w') (hg : w'.grownBy w'' (blkOf A)) (hr : ∀ k, blkOf A = some k → w.heap.size ≤ k) : Kept Nil w w'' :=
  Kept.grown h hg fun k hk hlt => absurd (hr k hk) (by omega)

section
variable {w : World} {K : Value → World → Prop}
end
end Go.Proofs.YtgfkpemnkmebkaaDoor
/-
  slices.Values, slices.AppendSeq, slices.Collect of hashes.
-/
namespace Go.Proofs.YtgfkpemnkmebkaaDoor
open Go Go.Lite Go.RowKit

theorem ne_loop {w : World} {k l : Nat} {cs : Array Value} {t : TypeId} {fr : Nat × Nat} {R : Loop} (h : w.heap[k]? = some (.cells cs t fr)) (h' : w.heap[l]? = some (.loop R)) : k ≠ l := by
  rintro rfl; rw [h] at h'; cases h'
theorem ne_mark {w : World} {k l : Nat} {cs : Array Value} {t : TypeId} {fr : Nat × Nat} {d : Option (List Deferred)} (h : w.heap[k]? = some (.cells cs t fr)) (h' : w.heap[l]? = some (.deferred d)) : k ≠ l := by
  rintro rfl; rw [h] at h'; cases h'
theorem Row.apart {w w' : World} {B : Nat} {e : TypeId} {size : Nat} {A : Option Addr} {n c : Nat} {xs : List Value} (h : Row w B e size A n c xs) {l : Nat} (hk : Kept (· = l) w w')
    (hl : ∀ cs t fr, w.heap[l]? ≠ some (.cells cs t fr)) : Row w' B e size A n c xs := Row.keep h hk fun k hb e => by
  subst e
  obtain ⟨_, cur, hc⟩ := Row.blk h hb
  exact hl _ _ _ hc

/-- what one is handed to go over hashes -/
abbrev encH (h : HT) : List Value := [.agg h.1]

section
variable {w : World} {K : Value → World → Prop}
theorem values_iter (p : Addr) {A : Option Addr} {n c : Nat} {l : List HT} (hn : n ≤ 1000000) :
    Iterates Tryd.prog slices_Values_of_api_Hash_fn1.id #[] #[.pointer (some p)] (l.map encH) (fun w => HS w A n l ∧ w.cell? p = some (.slice A n c)) := by
  intro y I D w0 hI hD hpre h0 hround
  refine slices_Values_of_api_Hash_fn1.of ?_
  obtain ⟨hl0, hp0⟩ := hpre 0 w0 h0
  have hlen := hl0.len
  refine ⟨A, n, c, hp0, ?_⟩
  refine slices_Values_of_api_Hash_fn1.loop1 (I := fun s w' => ∃ i : Nat, s = (i : Int) ∧ i ≤ n ∧ I i w') (μ := fun s _ => ((n : Int) - s).toNat) (s := 0) ⟨0, rfl, Nat.zero_le _, h0⟩ ?_
  rintro s w' ⟨i, rfl, hi, hw⟩
  refine Split.dec (fun hil0 => ?_) (fun hge => ?_)
  · have hil : i < n := by omega
    obtain ⟨x, hx⟩ : ∃ x, l[i]? = some x := ⟨_, List.getElem?_eq_getElem (by omega)⟩
    have hl := (hpre i w' hw).1
    refine hl.load (i := (i : Int)) (by omega) hx ?_
    intro w10
    obtain ⟨hwr, hb, hk⟩ := box_set (w := w') (z := (#[.int .u8 0, .int .u8 0, .int .u8 0, .int .u8 0, .int .u8 0, .int .u8 0, .int .u8 0, .int .u8 0, .int .u8 0, .int .u8 0, .int .u8 0, .int .u8 0, .int .u8 0, .int .u8 0, .int .u8 0, .int .u8 0, .int .u8 0, .int .u8 0, .int .u8 0, .int .u8 0, .int .u8 0, .int .u8 0, .int .u8 0, .int .u8 0, .int .u8 0, .int .u8 0, .int .u8 0, .int .u8 0, .int .u8 0, .int .u8 0, .int .u8 0, .int .u8 0] : Array Value)) (cs := x.1) (t := T_api_Hash) (by rw [x.2.1]; rfl)
    refine ⟨⟨x.2.1, x.2.one, fun j hj => hwr j (by rw [x.2.1]; exact hj)⟩, ?_⟩
    intro w13
    replace hb : w13.heap[w'.heap.size]? = some (.cells x.1 T_api_Hash (0, 0)) := hb
    replace hk : Kept Nil w' w13 := hk
    clear_value w13
    refine ⟨x.1, ⟨x.2.1, Cells.blk hb⟩, ?_⟩
    refine (hround i (encH x) w13 (by rw [List.getElem?_map, hx]; rfl) (hI i w' w13 hw hk)).mono ?_
    rintro b w'' ⟨ht, hf⟩
    cases b with
    | true =>
      refine Split.no rfl ?_
      rw [wrapP (n := (i : Int)) (by omega) (by omega)]
      exact ⟨(i : Int) + 1, rfl, ⟨i + 1, rfl, hil, ht rfl⟩, by simp only; omega⟩
    | false =>
      refine Split.yes rfl ?_
      exact Or.inr (hf rfl)
  · rw [roundQ_exit, slices_Values_of_api_Hash_fn1.x1_0]
    have e : i = n := by omega
    subst e
    refine Or.inl ?_
    rw [List.length_map, hlen]
    exact hw

theorem appendSeq_nil {gf : FuncId} {caps : Array Value} {xs : List HT} {fn : Func} (hfn : Tryd.prog.funcs[gf]? = some fn) (hb : fn.body.isSome) {Pre : World → Prop}
    (hit : Iterates Tryd.prog gf #[] caps (xs.map encH) Pre) (hp : ∀ w', Kept Nil w w' → Pre w') (hxs : xs.length ≤ 1000000)
    (hK : ∀ A c w', HRow w' w.heap.size A xs.length c xs → Kept Nil w w' → K (.slice A xs.length c) w') :
    Ret Tryd.prog slices_AppendSeq_of_api_Hash.id #[.slice none 0 0, .func (.func gf) #[] caps] w K := by
  refine slices_AppendSeq_of_api_Hash.of ?_
  unfold slices_AppendSeq_of_api_Hash.W
  intro w3
  have k3 : Kept Nil w w3 := (Kept.refl Nil w).alloc _
  have hb3 : w3.heap[w.heap.size]? = some (.cells #[.slice none 0 0] T_sl_api_Hash (0, 0)) := new_blk w _
  have hs3 : w.heap.size < w3.heap.size := lt_blk hb3
  clear_value w3
  let ρ0 : Env := [(2, .pointer (some (⟨w.heap.size, 0, none⟩ : Addr))), (4, .slice none 0 0), (6, .func (.func gf) #[] caps)]
  let J : Nat → World → Prop := fun i w' => ∃ A c, w'.heap[w.heap.size]? = some (.cells #[.slice A i c] T_sl_api_Hash (0, 0)) ∧ HRow w' w.heap.size A i c (xs.take i) ∧ Kept Nil w w' ∧ i ≤ xs.length ∧ ∀ k, blkOf A = some k → k ≠ w.heap.size
  refine range_iter (ρ := ρ0) (ρ0 := ρ0) ng mix slices_AppendSeq_of_api_Hash.k (t := 6) (ps := #[7]) (by kernel_rfl) (by decide) rfl hfn hb (.inl rfl) (fun i v _ h => h) rfl encH xs (fun _ => rfl) (by simp [dkey]) hit J (fun _ _ => False) ?_ (fun _ _ _ _ _ h => h.elim) (fun i w' h => hp w' (let ⟨_, _, _, _, h, _⟩ := h; h)) ?_ ?_ ?_ (fun _ _ h => h.elim) (fun _ _ _ h => h.elim)
  · rintro i w' w'' R hl ⟨A, c, h1, h2, h3, h4, h5⟩ hk
    exact ⟨A, c, hk.heap h1 (ne_loop h1 hl.loop), Row.apart h2 hk (fun cs t fr h => by rw [hl.loop] at h; cases h), h3.trans hk (fun k hk e => by omega), h4, h5⟩
  · intro R
    exact ⟨none, 0, old_blk (old_blk hb3 _) _, HRow.nil _ _, (k3.alloc _).alloc _, Nat.zero_le _, fun k hk => by cases hk⟩
  · rintro i x w' R hx ⟨A, c, h1, h2, h3, h4, h5⟩ hl
    have hil : i < xs.length := (List.getElem?_eq_some_iff.1 hx).1
    have e7 : putAll ρ0 ((#[7] : Array Nat).toList.zip (encH x)) = [(2, .pointer (some (⟨w.heap.size, 0, none⟩ : Addr))), (4, .slice none 0 0), (6, .func (.func gf) #[] caps), (7, .agg x.1)] := rfl
    rw [e7, slices_AppendSeq_of_api_Hash.a1]
    unfold slices_AppendSeq_of_api_Hash.A1
    intro w8
    obtain ⟨hwr, hbx, hkx⟩ := box_set (w := w') (z := (#[.int .u8 0, .int .u8 0, .int .u8 0, .int .u8 0, .int .u8 0, .int .u8 0, .int .u8 0, .int .u8 0, .int .u8 0, .int .u8 0, .int .u8 0, .int .u8 0, .int .u8 0, .int .u8 0, .int .u8 0, .int .u8 0, .int .u8 0, .int .u8 0, .int .u8 0, .int .u8 0, .int .u8 0, .int .u8 0, .int .u8 0, .int .u8 0, .int .u8 0, .int .u8 0, .int .u8 0, .int .u8 0, .int .u8 0, .int .u8 0, .int .u8 0, .int .u8 0] : Array Value)) (cs := x.1) (t := T_api_Hash) (by rw [x.2.1]; rfl)
    refine ⟨⟨x.2.1, x.2.one, fun j hj => hwr j (by rw [x.2.1]; exact hj)⟩, ?_⟩
    intro w11
    replace hbx : w11.heap[w'.heap.size]? = some (.cells x.1 T_api_Hash (0, 0)) := hbx
    replace hkx : Kept Nil w' w11 := hkx
    clear_value w11
    have hl11 := hl.keep hkx (fun h => h) (fun h => h)
    refine ⟨hl11, fun w2 R2 hk2 hl2 => ?_⟩
    have hbx2 := hk2.heap hbx (ne_loop hbx hl11.loop)
    have h1b := hkx.heap h1 (fun h => h)
    have h12 := hk2.heap h1b (ne_loop h1b hl11.loop)
    have h22 : HRow w2 w.heap.size A i c (xs.take i) := Row.apart (Row.keep h2 hkx (fun _ _ h => h)) hk2 (fun cs t fr h => by rw [hl11.loop] at h; cases h)
    have h32 : Kept Nil w w2 := (h3.trans hkx (fun _ _ h => h)).trans hk2 (fun k hk e => by omega)
    have hlt : w.heap.size < w2.heap.size := lt_blk h12
    rw [slices_AppendSeq_of_api_Hash.y1]
    unfold slices_AppendSeq_of_api_Hash.Y1
    refine ⟨A, i, c, by rw [cell_blk h12]; rfl, x.1, ⟨x.2.1, Cells.blk hbx2⟩, x.2.1, ?_⟩
    intro w16
    have k16 : Kept Nil w2 w16 := (Kept.refl _ _).alloc _
    have hbox : HS w16 (some ⟨w2.heap.size, 0, none⟩) 1 [x] := by
      refine HS.one (t := T_api_Hash) (fr := (0, 0)) ?_
      have e3 : w16 = w2.alloc (.cells x.1 T_api_Hash) := by
        show w2.alloc (.cells (x.1.toList ++ []).toArray T_api_Hash) = _
        simp
      rw [e3]
      exact new_blk w2 _
    clear_value w16
    have h216 : HRow w16 w.heap.size A i c (xs.take i) := Row.keep h22 k16 (fun _ _ h => h)
    have h116 := k16.heap h12 (fun h => h)
    have hs16 := k16.size
    obtain ⟨A', c', w18, hr, row18, hg, hb'⟩ := append_hs (cx := 1) T_sl_api_Hash h216 hbox (by omega) (by omega)
    have hgk : Kept (fun k => blkOf A = some k) w16 w18 := Kept.grown (Kept.refl _ _) hg (fun k hk _ => hk)
    have h118 := hgk.heap h116 (fun h => h5 _ h rfl)
    have hl18 : Live (w3.heap.size + 1) w3.heap.size R2 w18 := by
      have hl16 := hl2.keep k16 (fun h => h) (fun h => h)
      refine hl16.keep hgk ?_ ?_
      · intro h
        obtain ⟨_, cur, hc⟩ := Row.blk h216 h
        exact ne_loop hc hl16.loop rfl
      · intro h
        obtain ⟨_, cur, hc⟩ := Row.blk h216 h
        exact ne_mark hc hl16.mark rfl
    have k18 : Kept Nil w w18 := (h32.trans k16 (fun _ _ h => h)).trans hgk (fun k hk e => by
      obtain ⟨h, _⟩ := Row.blk h216 e
      omega)
    refine ⟨A', _, c', w18, hr, wr_blk h118 (by simp), ?_⟩
    intro w19
    have k19 : Kept (· = w.heap.size) w18 w19 := Kept.setCell (S := fun k => k = w.heap.size) (Kept.refl _ w18) (p := ⟨w.heap.size, 0, none⟩) (fun _ => rfl) _
    have hb19 : w19.heap[w.heap.size]? = some (.cells #[.slice A' (i + 1) c'] T_sl_api_Hash (0, 0)) := set_blk h118 0 _
    clear_value w19
    have hA' : ∀ k, blkOf A' = some k → k ≠ w.heap.size := fun k hk => by
      rcases hb' k hk with h | h
      · exact h5 k h
      · omega
    refine ⟨hl18.keep k19 (ne_loop h118 hl18.loop).symm (ne_mark h118 hl18.mark).symm, A', c', hb19, ?_, k18.trans k19 (fun k hk e => by omega), hil, hA'⟩
    rw [List.take_add_one, hx]
    exact Row.keep row18 k19 hA'
  · rintro w' R ⟨A, c, h1, h2, h3, h4, h5⟩ hl
    have e7 : addMark ρ0 w3.heap.size = [(2, .pointer (some (⟨w.heap.size, 0, none⟩ : Addr))), (4, .slice none 0 0), (6, .func (.func gf) #[] caps), (4294967296, .agg #[.pointer (some ⟨w3.heap.size, 0, none⟩)])] := rfl
    rw [e7, slices_AppendSeq_of_api_Hash.z1_normal]
    refine ⟨A, xs.length, c, by rw [cell_blk h1]; rfl, ⟨hl.mark, trivial⟩, ?_⟩
    have kp : Kept (· = w3.heap.size) w' (w'.putObj w3.heap.size (.deferred none)) := Kept.putAt _ _ _
    refine hK A c _ ?_ (h3.trans kp (fun k hk e => by omega))
    have := Row.apart h2 kp (fun cs t fr h => by rw [hl.mark] at h; cases h)
    rwa [List.take_of_length_le (Nat.le_refl _)] at this

theorem collect_ok {gf : FuncId} {caps : Array Value} {xs : List HT} {fn : Func} (hfn : Tryd.prog.funcs[gf]? = some fn) (hb : fn.body.isSome) {Pre : World → Prop}
    (hit : Iterates Tryd.prog gf #[] caps (xs.map encH) Pre) (hp : ∀ w', Kept Nil w w' → Pre w') (hxs : xs.length ≤ 1000000)
    (hK : ∀ A c w', HRow w' w.heap.size A xs.length c xs → Kept Nil w w' → K (.slice A xs.length c) w') :
    Ret Tryd.prog slices_Collect_of_api_Hash.id #[.func (.func gf) #[] caps] w K := by
  refine slices_Collect_of_api_Hash.of (appendSeq_nil hfn hb hit hp hxs fun A c w' h1 h2 => ⟨_, _, _, rfl, hK A c w' h1 h2⟩)
end
end Go.Proofs.YtgfkpemnkmebkaaDoor
/-
  slices.SortFunc of hashes, by the kit's contract.
-/
namespace Go.Proofs.YtgfkpemnkmebkaaDoor
open Go Go.Lite Go.RowKit Go.Sort

instance : Inhabited HT := ⟨⟨Array.replicate 32 (.int .u8 0), by simp, fun v hv => ⟨0, by simpa using hv, by omega, by omega⟩⟩⟩
abbrev encS (h : HT) : List Value := h.1.toList
theorem encS_len (h : HT) : (encS h).length = 32 := by have := h.2.1; simpa using this
theorem flat_cells (d : Array HT) : (flatK encS 32 d).toList = hcells d.toList := by
  apply List.ext_getElem?
  intro t
  by_cases ht : t < d.size * 32
  · have hi : t / 32 < d.size := by omega
    have hx : d.toList[t / 32]? = some d[t / 32] := by rw [Array.getElem?_toList, Array.getElem?_eq_getElem hi]
    have hs : t % 32 < d[t / 32].1.size := by rw [d[t / 32].2.1]; omega
    have h1 := hcells_get hx (Array.getElem?_eq_getElem hs)
    rw [show t / 32 * 32 + t % 32 = t by omega] at h1
    rw [h1]
    have h2 : t < (flatK encS 32 d).size := by rw [size_flatK]; exact ht
    have h3 := get_flatK encS 32 d t ht
    rw [getElem!_pos _ t h2] at h3
    rw [Array.getElem?_toList, Array.getElem?_eq_getElem h2, h3, getElem!_pos d _ hi]
    rw [getElem!_pos _ _ (by rw [encS_len]; omega)]
    simp [encS]
  · rw [List.getElem?_eq_none (by simp; omega), List.getElem?_eq_none (by rw [hcells_len]; simp; omega)]
theorem put_take {F cur : Array Value} {k : Nat} (hk : F.size = k) (h : k ≤ cur.size) : (putCells id 0 F cur).toList.take k = F.toList := by
  apply List.ext_getElem?
  intro i
  rw [List.getElem?_take]
  split
  · rename_i hi
    have h1 : i < cur.size := by omega
    have h2 : i < F.size := by omega
    rw [Array.getElem?_toList, Array.getElem?_toList, putCells, Array.getElem?_mapIdx, Array.getElem?_eq_getElem h1, Array.getElem?_eq_getElem h2]
    simp [h2]
  · rw [List.getElem?_eq_none (by simp; omega)]
theorem mapBlock_heap {w : World} {b : Nat} {f : Array Value → Array Value} {cur : Array Value} {t : TypeId} {fr : Nat × Nat} (h : w.heap[b]? = some (.cells cur t fr)) : (mapBlock w b f).heap[b]? = some (.cells (f cur) t fr) := by
  simp [mapBlock, Array.getElem?_modify, h, onCells]
theorem mapBlock_kept (w : World) (b : Nat) (f : Array Value → Array Value) : Kept (· = b) w (mapBlock w b f) :=
  ⟨rfl, rfl, rfl, by simp [mapBlock], fun k _ hn => by simp [mapBlock, Array.getElem?_modify, Ne.symm hn]⟩
theorem grow_kept (w : World) (os : Array Obj) : Kept Nil w (grow w os) :=
  ⟨rfl, rfl, rfl, by simp, fun k hk _ => heap_grow_old w os hk⟩
theorem ahead_kept (w : World) (m : Nat) : Kept Nil w (Sort.ahead w m) := ⟨rfl, rfl, rfl, Nat.le_refl _, fun _ _ _ => rfl⟩

section
variable {w : World} {B n c b : Nat} {l : List HT}
theorem sortWorld_row (row : HRow w B (some ⟨b, 0, none⟩) n c l) (m : Nat) (dk : Array HT) (os : Array Obj) (hd : dk.size = n) :
    HRow (sortWorldK encS 32 w b 0 m dk os) B (some ⟨b, 0, none⟩) n c dk.toList ∧ Kept (· = b) w (sortWorldK encS 32 w b 0 m dk os) := by
  have hka := ahead_kept w m
  have k1 := mapBlock_kept (Sort.ahead w m) b (putCells id 0 (flatK encS 32 dk))
  have kk := ((hka.mono (S' := fun k => k = b) (fun _ _ h => h.elim)).trans k1 (fun _ _ h => h)).trans (grow_kept _ os) (fun _ _ h => h.elim)
  refine ⟨?_, ?_⟩
  · rcases Row.own row with ⟨h, _⟩ | ⟨b', cur, hA, hB, hg, hnc, hcm, hcs, htk⟩
    · cases h
    · cases hA
      refine ⟨by rw [hcells_len, Array.length_toList, hd], .inr ⟨b, c, putCells id 0 (flatK encS 32 dk) cur, rfl, hB, ?_, hnc, hcm, by simp [putCells, hcs], ?_⟩⟩
      · have h1 : (mapBlock (Sort.ahead w m) b (putCells id 0 (flatK encS 32 dk))).heap[b]? = some (.cells (putCells id 0 (flatK encS 32 dk) cur) T_api_Hash (0, 0)) := mapBlock_heap hg
        exact (heap_grow_old _ os (lt_blk h1)).trans h1
      · rw [← flat_cells]
        refine put_take (by rw [size_flatK, hd]) ?_
        rw [hcs]
        exact Nat.mul_le_mul_right _ hnc
  · exact kk
theorem holdsK_row (row : HRow w B (some ⟨b, 0, none⟩) n c l) : HoldsK encS 32 w b 0 l.toArray := by
  intro j hj
  rw [size_flatK] at hj
  have hj' : j < l.length * 32 := by simpa using hj
  rw [Nat.zero_add]
  have hlen := Row.len row
  have hx : (flatK encS 32 l.toArray).toList[j]? = (hcells l)[j]? := by rw [flat_cells]
  have hjs : j < (flatK encS 32 l.toArray).size := by rw [size_flatK]; exact hj
  rw [Array.getElem?_toList, Array.getElem?_eq_getElem hjs] at hx
  have hc := Row.cell row hx.symm
  refine ⟨?_, ?_⟩
  · rw [hc, getElem!_pos _ j hjs]; rfl
  · exact (Row.wr row (j := j) (by rw [hcells_len]; exact hj')).2

theorem lt_cmp (x y : HT) : ltOf cmpH x y = hlt x y := by
  unfold ltOf
  cases h : hlt x y
  · exact decide_eq_false fun h' => by rw [cmpH_lt.1 h'] at h; cases h
  · exact decide_eq_true (cmpH_lt.2 h)
theorem le_trans' {x y z : HT} (h : hlt y x = false) (h' : hlt z y = false) : hlt z x = false := by
  cases hzx : hlt z x
  · rfl
  · exfalso
    by_cases e : y = z
    · subst e; rw [h] at hzx; cases hzx
    · have hyz := lt_of_le_ne h' e
      have := hlt_trans hyz hzx
      rw [h] at this; cases this
theorem swoH : SWO (ltOf cmpH) where
  irrefl x := by rw [lt_cmp]; exact hlt_irrefl x
  trans x y z h h' := by rw [lt_cmp] at *; exact hlt_trans h h'
  ntrans x y z h h' := by
    rw [lt_cmp] at *
    exact le_trans' h' h

theorem sort_ok {A : Option Addr} {K : Value → World → Prop} (row : HRow w B A n c l) (hn : n ≤ 1000000)
    (hK : ∀ l' w', LE l' → (∀ x, x ∈ l' ↔ x ∈ l) → HRow w' B A n c l' → Kept (fun k => blkOf A = some k) w w' → K (.tuple #[]) w') :
    Ret Tryd.prog slices_SortFunc_of_api_Hash.id #[.slice A n c, .func (.func dag_Compare.id) #[] #[]] w K := by
  have hlen := row.len
  by_cases h0 : n = 0
  · subst h0
    have h := AnyF.slices_SortFunc_none Tryd.sortL A c (.func (.func dag_Compare.id) #[] #[]) w
    refine Calls.mono h ?_
    rintro e w' ⟨rfl, rfl⟩
    have : l = [] := List.eq_nil_of_length_eq_zero hlen
    subst this
    exact ⟨_, rfl, hK [] _ List.Pairwise.nil (fun _ => Iff.rfl) row (Kept.refl _ _)⟩
  · obtain ⟨b, rfl⟩ := Row.some row (by omega)
    have hblk : b < w.heap.size := by
      obtain ⟨_, cur, hc⟩ := Row.blk row (k := b) rfl
      exact lt_blk hc
    have hsz : l.toArray.size = n := by simpa using hlen
    have eg : ∀ args w, (callFunc dag_Compare.id args).run Tryd.prog w = .ok (.enter dag_Compare.id args) w := enters_of dag_Compare.at_ (by kernel_rfl) rfl
    have hk : kdOf Tryd.prog T_api_Hash = .agg 32 := by kernel_rfl
    obtain ⟨e32, ha⟩ := kdOf_agg hk
    obtain ⟨i, hi⟩ := Go.Lite.info_of_underlying (P := Tryd.prog) (t := T_api_Hash) (by kernel_rfl)
    have hcmp : CmpLays Tryd.prog dag_Compare.id #[] encS 32 cmpH b 0 l.toArray.size w := fun m os dk _ x y => by
      have e : (#[.agg (encS x).toArray, .agg (encS y).toArray] ++ #[] : Array Value) = #[.agg x.1, .agg y.1] := by simp [encS]
      rw [e]
      have h := dag_Compare_ok (w := sortWorldK encS 32 w b 0 m dk os) x y (K := fun v w' => v = .int .i64 (cmpH x y) ∧ w' = (((sortWorldK encS 32 w b 0 m dk os).alloc (.cells x.1 T_api_Hash)).alloc (.cells y.1 T_api_Hash)).drew) ⟨rfl, rfl⟩
      refine Calls.mono h ?_
      rintro e w' ⟨v, rfl, rfl, rfl⟩
      refine ⟨rfl, 1, #[.cells x.1 T_api_Hash, .cells y.1 T_api_Hash], ?_⟩
      rw [alloc_eq_grow, alloc_eq_grow, grow_grow, drew_grow]
      rfl
    have h := AnyQ.slices_SortFunc_total Tryd.sortL 32 ha (fun w => by rw [e32]; exact Go.Lite.run_sizeOf hi w) encS encS_len (fun x => x.2.one) cmpH swoH dag_Compare.id #[] b 0 c l.toArray w eg hcmp (holdsK_row row) hblk (by omega)
      (fun x y h1 h2 => by rw [lt_cmp] at h1 h2; exact hlt_total h1 h2)
    rw [hsz] at h
    refine Calls.mono h ?_
    rintro e w' ⟨rfl, m, os, rfl⟩
    have hp := List.mergeSort_perm l.toArray.toList (fun x y => !(ltOf cmpH) y x)
    have hml : (l.toArray.toList.mergeSort fun x y => !(ltOf cmpH) y x).toArray.size = n := by
      have := hp.length_eq
      simp only [List.size_toArray]
      rw [this]
      simpa using hlen
    obtain ⟨h1, h2⟩ := sortWorld_row row m _ os hml
    refine ⟨_, rfl, hK _ _ ?_ (fun x => ?_) h1 (h2.mono fun k _ e => by rw [e]; rfl)⟩
    · have hs := List.pairwise_mergeSort (le := fun x y => !(ltOf cmpH) y x) (fun a b c h h' => by
        rw [lt_cmp] at *
        simp only [Bool.not_eq_true'] at *
        exact le_trans' h h') (fun a b => by
        rw [lt_cmp, lt_cmp]
        cases hab : hlt b a
        · rfl
        · rw [hlt_asymm hab]; rfl) l.toArray.toList
      refine List.Pairwise.imp ?_ hs
      intro a b hab
      rw [lt_cmp] at hab
      simpa using hab
    · simp
end
end Go.Proofs.YtgfkpemnkmebkaaDoor
/-
  slices.Compact of hashes; the program's Sorted.
-/
namespace Go.Proofs.YtgfkpemnkmebkaaDoor
open Go Go.Lite Go.RowKit

theorem hcells_set {l : List HT} {k : Nat} (hk : k < l.length) (x : HT) : hcells (l.set k x) = splice (hcells l) (k * 32) x.1.toList := by
  have h1 : l = l.take k ++ l[k] :: l.drop (k + 1) := by rw [← List.drop_eq_getElem_cons hk, List.take_append_drop]
  have e1 : (hcells (l.take k)).length = k * 32 := by rw [hcells_len, List.length_take]; omega
  have hx := x.2.1
  have hl := l[k].2.1
  have hs : l.set k x = l.take k ++ x :: l.drop (k + 1) := List.set_eq_take_append_cons_drop .. |>.trans (if_pos hk)
  rw [hs]
  conv => rhs; rw [h1]
  rw [hcells_app, hcells_app, hcells_cons, hcells_cons]
  generalize hcells (l.take k) = p at e1
  generalize hcells (l.drop (k + 1)) = r
  have eq : l[k].1.toList.length = 32 := by simpa using hl
  have ev : x.1.toList.length = 32 := by simpa using hx
  generalize l[k].1.toList = q at eq
  generalize x.1.toList = v at ev
  unfold splice
  rw [List.take_left' e1, ev, show p ++ (q ++ r) = (p ++ q) ++ r by simp, List.drop_left' (by rw [List.length_append, e1, eq])]
  simp
theorem HRow.setAt {w : World} {B n c b : Nat} {l : List HT} (row : HRow w B (some ⟨b, 0, none⟩) n c l) {k : Nat} (hk : k < n) (x : HT) :
    HRow (setCells w ⟨b, k * 32, none⟩ x.1.toList 0) B (some ⟨b, 0, none⟩) n c (l.set k x) := by
  have hlen := row.len
  have hx := x.2.1
  have := setCells_row x.1.toList (hcells l) w (k * 32) 0 row (by rw [hcells_len]; simp; omega)
  rw [Nat.add_zero] at this
  rw [← hcells_set (by omega)] at this
  exact this
theorem HRow.wrAt {w : World} {B n c b : Nat} {l : List HT} (row : HRow w B (some ⟨b, 0, none⟩) n c l) {k : Nat} (hk : k < n) (j : Nat) (hj : j < 32) : Wr w ((⟨b, k * 32, none⟩ : Addr).add j) := by
  rw [add_at]
  refine Row.wr row ?_
  rw [hcells_len, row.len]
  omega
theorem HRow.cap {w : World} {B : Nat} {A : Option Addr} {n c : Nat} {l : List HT} (row : HRow w B A n c l) : n ≤ c := by
  rcases Row.own row with ⟨_, h1, h2, _⟩ | ⟨_, _, _, _, _, h1, _⟩ <;> omega
/-- the first ones of a row, its rest laid anew -/
theorem HRow.cut {w w' : World} {B n c b : Nat} {l : List HT} (row : HRow w B (some ⟨b, 0, none⟩) n c l) {k : Nat} (hk : k ≤ n) (vs : List Value) (hv : vs.length = (n - k) * 32) (hw : w' = setCells w ⟨b, k * 32, none⟩ vs 0) :
    HRow w' B (some ⟨b, 0, none⟩) k c (l.take k) := by
  subst hw
  have hlen := row.len
  rcases Row.own row with ⟨h, _⟩ | ⟨b', cur, hA, hB, hg, hnc, hcm, hcs, htk⟩
  · cases h
  · cases hA
    have hle : n * 32 ≤ c * 32 := Nat.mul_le_mul_right _ hnc
    have hsz : k * 32 + 0 + vs.length ≤ cur.size := by omega
    have h1 := setCells_block vs cur w T_api_Hash (k * 32) 0 hg hsz
    refine ⟨by rw [hcells_len, List.length_take]; omega, .inr ⟨b, c, _, rfl, hB, h1, by omega, hcm, ?_, ?_⟩⟩
    · have := splice_len (xs := cur.toList) (k := k * 32 + 0) (vs := vs) (by simpa using hsz)
      rw [List.size_toArray, this]
      simpa using hcs
    · have e1 : (hcells (l.take k)).length = k * 32 := by rw [hcells_len, List.length_take]; omega
      have e2 : (hcells l).take (k * 32) = hcells (l.take k) := by
        conv => lhs; rw [← List.take_append_drop k l, hcells_app]
        rw [← e1, List.take_left']
        rfl
      rw [← e2, ← htk, List.take_take, Nat.min_eq_left (by omega)]
      unfold splice
      simp only [Nat.add_zero]
      rw [List.append_assoc, List.take_append_of_le_length (by simp; omega), List.take_take, Nat.min_self]

/-- clear of hashes -/
def zeroOne (P : Program) (e : TypeId) : Bool :=
  match P.info? e with
  | some i => match i.zero with
    | some z => z.cells.toList.all fun v => v.oneCell'
    | none => false
  | none => false
theorem run_clear_hash {w : World} {B n c b : Nat} {l : List HT} (row : HRow w B (some ⟨b, 0, none⟩) n c l) {k : Nat} (hk : k ≤ n) (ty : Nat) {A : Option Addr} {cx : Nat} (hA : k < n → A = some ⟨b, k * 32, none⟩) :
    ∃ w', (Builtin.clear_ #[T_sl_api_Hash] ty #[.slice A (n - k) cx]).run Tryd.prog w = .ok (.tuple #[]) w' ∧ HRow w' B (some ⟨b, 0, none⟩) k c (l.take k) ∧ Kept (· = b) w w' := by
  have hlen := row.len
  by_cases hkn : k < n
  · obtain ⟨i, z, hi, hz, hs, _, hzs⟩ := slHash.inf
    have hone : zeroOne Tryd.prog T_api_Hash = true := by kernel_rfl
    unfold zeroOne at hone
    rw [hi] at hone
    simp only [hz, List.all_eq_true] at hone
    rw [hA hkn]
    obtain ⟨m, hm⟩ : ∃ m, n - k = m + 1 := ⟨n - k - 1, by omega⟩
    have hvl : (Builtin.zeroCells z.cells (n - k)).toList.length = (n - k) * 32 := by simp [Builtin.zeroCells, hzs]
    have hst := run_storeCells_set (P := Tryd.prog) ⟨b, k * 32, none⟩ (Builtin.zeroCells z.cells (n - k)).toList 0 w (fun v hv => by
      simp only [Builtin.zeroCells, Array.toList_map, List.mem_map] at hv
      obtain ⟨t, ht, rfl⟩ := hv
      have : t % z.cells.size < z.cells.size := Nat.mod_lt _ (by omega)
      rw [getElem!_pos z.cells _ this]
      exact hone _ (by simp)) (fun j hj => by
      rw [Nat.zero_add, add_at]
      refine Row.wr row ?_
      rw [hcells_len]
      omega)
    refine ⟨_, ?_, row.cut hk _ hvl rfl, setCells_kept _ _ _ _⟩
    simp only [Builtin.clear_, hm]
    rw [hm] at hst
    simp [run_underlying slHash.und, zeroValue, typeInfo, hi, hz, hst]
  · have : n = k := by omega
    subst this
    refine ⟨w, ?_, by rw [List.take_of_length_le (by omega)]; exact row, Kept.refl _ _⟩
    rw [Nat.sub_self]
    cases A <;> simp [Builtin.clear_, run_underlying slHash.und]

end Go.Proofs.YtgfkpemnkmebkaaDoor
/-
  slices.Compact of hashes that rise; the program's Sorted.
-/
namespace Go.Proofs.YtgfkpemnkmebkaaDoor
open Go Go.Lite Go.RowKit

theorem srt_short : ∀ {l : List HT}, l.length < 2 → srt l = l
  | [], _ => rfl
  | [_], _ => rfl
  | _ :: _ :: _, h => by simp only [List.length_cons] at h; omega
section
variable {w : World} {B n c : Nat} {A : Option Addr} {l : List HT} {K : Value → World → Prop}
theorem compact_ok (row : HRow w B A n c l) (hle : LE l) (hn : n ≤ 400000)
    (hK : ∀ A' c' w', HRow w' B A' (srt l).length c' (srt l) → (∀ k, blkOf A' = some k → blkOf A = some k) → Kept (fun k => blkOf A = some k) w w' → K (.slice A' (srt l).length c') w') :
    Ret Tryd.prog slices_Compact_of_api_Hash.id #[.slice A n c] w K := by
  have hlen := row.len
  refine slices_Compact_of_api_Hash.of ?_
  refine Split.dec (fun h2 => ?_) (fun h2 => ?_)
  · have e : srt l = l := srt_short (by omega)
    have := hK A c w (by rw [e, hlen]; exact row) (fun k h => h) (Kept.refl _ _)
    rw [e, hlen] at this
    exact this
  obtain ⟨b, rfl⟩ := Row.some row (by omega)
  have hcap := row.cap
  refine slices_Compact_of_api_Hash.loop1 (I := fun s w' => ∃ k : Nat, s = (none, 0, 0, (k : Int)) ∧ 1 ≤ k ∧ k ≤ n ∧ SS (l.take k) ∧ Kept Nil w w') (μ := fun s _ => ((n : Int) - s.2.2.2).toNat) (s := (none, 0, 0, 1))
    ⟨1, rfl, Nat.le_refl _, by omega, ?_, Kept.refl _ _⟩ ?_
  · cases l with
    | nil => exact List.Pairwise.nil
    | cons x l => simp [SS]
  rintro s w' ⟨k, rfl, hk1, hkn, hss, kw⟩
  refine Split.dec (fun hil0 => ?_) (fun hge => ?_)
  · simp only at hil0
    have hkl : k < n := by omega
    obtain ⟨x, hx⟩ : ∃ x, l[k]? = some x := ⟨_, List.getElem?_eq_getElem (by omega)⟩
    obtain ⟨y, hy⟩ : ∃ y, l[k - 1]? = some y := ⟨_, List.getElem?_eq_getElem (by omega)⟩
    intro w5
    have k5 : Kept Nil w w5 := kw.drew
    clear_value w5
    have row5 : HRow w5 B (some ⟨b, 0, none⟩) n c l := Row.keep row k5 (fun _ _ h => h)
    simp only
    rw [wrapM (n := (k : Int)) (by omega) (by omega)]
    have hxy : hlt x y = false := hle.get (by omega) hy hx
    refine row5.hs.load (i := (k : Int)) (by omega) hx (row5.hs.load (i := (k : Int) - 1) (by omega) (by rw [show ((k : Int) - 1).toNat = k - 1 by omega]; exact hy) ⟨⟨x.2.ints, y.2.ints⟩, ?_⟩)
    rw [sameInts_eq]
    refine Split.dec (fun he => ?_) (fun he => ?_)
    · refine ⟨⟨by omega, by omega⟩, ?_⟩
      rw [Int.toNat_natCast]
      rw [if_neg (show ¬ c = k by omega)]
      simp only [Option.map_some, add_at, Nat.zero_add]
      refine slices_Compact_of_api_Hash.loop2 (I := fun s w' => ∃ (p j : Nat) (l' : List HT), s = ((p : Int), (j : Int)) ∧ 1 ≤ j ∧ k ≤ p ∧ p < k + j ∧ k + j ≤ n ∧ HRow w' B (some ⟨b, 0, none⟩) n c l' ∧ l'.drop (k + j - 1) = l.drop (k + j - 1) ∧ SS (l'.take p) ∧ (∀ z, z ∈ l'.take p ↔ z ∈ l.take (k + j)) ∧ Kept (· = b) w w')
        (μ := fun s _ => ((n : Int) - s.2).toNat) (s := ((k : Int), 1)) ⟨k, 1, l, rfl, Nat.le_refl _, Nat.le_refl _, by omega, by omega, row5, rfl, hss, fun z => ?_, k5.mono fun _ _ h => h.elim⟩ ?_
      · rw [mem_take_succ hx]
        constructor
        · exact .inl
        · rintro (h | rfl)
          · exact h
          · rw [he]
            have := mem_take_succ (z := y) hy
            rw [show k - 1 + 1 = k by omega] at this
            exact this.2 (.inr rfl)
      rintro s w1 ⟨p, j, l', rfl, hj1, hkp, hpj, hjn, row1, hdr, hs1, hm1, k1⟩
      have hlen' := row1.len
      refine Split.dec (fun hil1 => ?_) (fun hge1 => ?_)
      · simp only at hil1
        have hjl : k + j < n := by omega
        obtain ⟨u, hu⟩ : ∃ u, l[k + j]? = some u := ⟨_, List.getElem?_eq_getElem (by omega)⟩
        obtain ⟨v, hv⟩ : ∃ v, l[k + j - 1]? = some v := ⟨_, List.getElem?_eq_getElem (by omega)⟩
        have hu' : l'[k + j]? = some u := by
          have h := congrArg (fun m : List HT => m[1]?) hdr
          simp only [List.getElem?_drop] at h
          rw [show k + j - 1 + 1 = k + j by omega] at h
          rw [h, hu]
        have hv' : l'[k + j - 1]? = some v := by
          have h := congrArg (fun m : List HT => m[0]?) hdr
          simp only [List.getElem?_drop, Nat.add_zero] at h
          rw [h, hv]
        intro w18
        have k18 : Kept (· = b) w w18 := k1.drew
        have row18 : HRow w18 B (some ⟨b, 0, none⟩) n c l' := Row.keep row1 ((Kept.refl Nil w1).drew) (fun _ _ h => h)
        clear_value w18
        have hsub : HS w18 (some ⟨b, k * 32, none⟩) (n - k) (l'.drop k) := by
          have h := row18.hs.drop (c := c) hcap (k := k) (by omega)
          rw [if_neg (show ¬ c = k by omega)] at h
          simpa [add_at] using h
        have hsu : (l'.drop k)[(j : Int).toNat]? = some u := by rw [Int.toNat_natCast, List.getElem?_drop]; exact hu'
        have hsv : (l'.drop k)[((j : Int) - 1).toNat]? = some v := by
          rw [show ((j : Int) - 1).toNat = j - 1 by omega, List.getElem?_drop, show k + (j - 1) = k + j - 1 by omega]; exact hv'
        simp -zeta only
        rw [wrapM (n := (j : Int)) (by omega) (by omega)]
        have huv : hlt u v = false := hle.get (by omega) hv hu
        refine hsub.load (i := (j : Int)) (by omega) hsu (hsub.load (i := (j : Int) - 1) (by omega) hsv ⟨⟨u.2.ints, v.2.ints⟩, ?_⟩)
        rw [sameInts_eq, wrapP (n := (j : Int)) (by omega) (by omega)]
        have hmu : ∀ z, z ∈ l.take (k + (j + 1)) ↔ z ∈ l'.take p ∨ z = u := fun z => by
          rw [show k + (j + 1) = k + j + 1 by omega, mem_take_succ hu, hm1 z]
        by_cases heq : u = v
        · refine Split.no (by rw [decide_eq_true heq]; rfl) ?_
          refine ⟨((p : Int), (j : Int) + 1), rfl, ⟨p, j + 1, l', rfl, by omega, hkp, by omega, by omega, row18, ?_, hs1, fun z => ?_, k18⟩, by simp only; omega⟩
          · have h := congrArg (fun m : List HT => m.drop 1) hdr
            simp only [List.drop_drop] at h
            rw [show k + (j + 1) - 1 = k + j - 1 + 1 by omega]
            exact h
          · rw [hmu z]
            constructor
            · exact .inl
            · rintro (h | rfl)
              · exact h
              · refine (hm1 _).2 ?_
                rw [heq]
                exact List.mem_of_getElem? (i := k + j - 1) (by rw [List.getElem?_take, if_pos (by omega)]; exact hv)
        · refine Split.yes (by rw [decide_eq_false heq]; rfl) ?_
          refine hsub.load (i := (j : Int)) (by omega) hsu ⟨⟨by omega, by omega⟩, ⟨u.2.1, u.2.one, fun i hi => ?_⟩, ?_⟩
          · rw [Int.toNat_natCast, add_at, Nat.zero_add]
            exact row18.wrAt (by omega) i hi
          intro w28
          have hw28 : w28 = setCells w18 ⟨b, p * 32, none⟩ u.1.toList 0 := by
            show setCells w18 ((⟨b, 0, none⟩ : Addr).add ((p : Int).toNat * 32)) u.1.toList 0 = _
            rw [Int.toNat_natCast, add_at, Nat.zero_add]
          have row28 : HRow w28 B (some ⟨b, 0, none⟩) n c (l'.set p u) := by rw [hw28]; exact row18.setAt (by omega) u
          have k28 : Kept (· = b) w w28 := by rw [hw28]; exact k18.trans (setCells_kept _ _ _ _) (fun _ _ h => h)
          clear_value w28
          rw [wrapP (n := (p : Int)) (by omega) (by omega)]
          have htk : (l'.set p u).take (p + 1) = l'.take p ++ [u] := by
            rw [List.take_add_one, List.take_set_of_le (Nat.le_refl p), List.getElem?_set_self (by omega)]
            rfl
          refine ⟨((p : Int) + 1, (j : Int) + 1), rfl, ⟨p + 1, j + 1, l'.set p u, rfl, by omega, by omega, by omega, by omega, row28, ?_, ?_, fun z => ?_, k28⟩, by simp only; omega⟩
          · have h := congrArg (fun m : List HT => m.drop 1) hdr
            simp only [List.drop_drop] at h
            rw [List.drop_set, if_pos (by omega), show k + (j + 1) - 1 = k + j - 1 + 1 by omega]
            exact h
          · rw [htk]
            refine SS_snoc hs1 fun z hz => ?_
            obtain ⟨i, hi⟩ := List.mem_iff_getElem?.1 ((hm1 z).1 hz)
            rw [List.getElem?_take] at hi
            split at hi
            · rename_i hik
              have hvu : hlt v u = true := lt_of_le_ne huv (fun e => heq e.symm)
              by_cases e : i = k + j - 1
              · subst e; rw [hv] at hi; cases hi; exact hvu
              · exact lt_of_le_lt (hle.get (by omega) hi hv) hvu
            · cases hi
          · rw [htk, hmu z]
            simp
      · simp only at hge1
        have hj : k + j = n := by omega
        rw [roundQ_exit, slices_Compact_of_api_Hash.x2_2]
        unfold slices_Compact_of_api_Hash.X2_2
        refine ⟨⟨by omega, by omega⟩, ?_⟩
        rw [Int.toNat_natCast]
        obtain ⟨w2, hr, row2, k2⟩ := run_clear_hash row1 (k := p) (by omega) 0 (A := if c = p then some ⟨b, 0, none⟩ else (some ⟨b, 0, none⟩ : Option Addr).map (·.add (p * 32))) (cx := c - p) (fun hp => by
          rw [if_neg (by omega)]
          simp [add_at])
        refine ⟨_, w2, hr, ⟨by omega, by omega⟩, ?_⟩
        have e : l'.take p = srt l := srt_of hs1 fun z => by rw [hm1 z, hj, List.take_of_length_le (by omega)]
        have el : p = (srt l).length := by
          have h := row2.len
          rw [e] at h
          exact h.symm
        have e0 : (if c = 0 then (some ⟨b, 0, none⟩ : Option Addr) else (some ⟨b, 0, none⟩ : Option Addr).map (·.add (0 * 32))) = some ⟨b, 0, none⟩ := by
          rw [if_neg (by omega)]; simp [add_zero]
        rw [e0, Nat.sub_zero, Nat.sub_zero]
        rw [e, el] at row2
        have := hK (some ⟨b, 0, none⟩) c w2 row2 (fun k h => h) ((k1.trans k2 (fun _ _ h => h)).mono fun i _ h => by rw [h]; rfl)
        rw [← el] at this
        exact this
    · rw [wrapP (n := (k : Int)) (by omega) (by omega)]
      refine ⟨(none, 0, 0, (k : Int) + 1), rfl, ⟨k + 1, rfl, by omega, by omega, ?_, k5⟩, by simp only; omega⟩
      rw [List.take_add_one, hx]
      refine SS_snoc hss fun z hz => ?_
      have hyx : hlt y x = true := lt_of_le_ne hxy (fun e => he e.symm)
      obtain ⟨i, hi⟩ := List.mem_iff_getElem?.1 hz
      rw [List.getElem?_take] at hi
      split at hi
      · by_cases e : i = k - 1
        · subst e; rw [hy] at hi; cases hi; exact hyx
        · exact lt_of_le_lt (hle.get (by omega) hi hy) hyx
      · cases hi
  · simp only at hge
    have e : k = n := by omega
    subst e
    rw [roundQ_exit, slices_Compact_of_api_Hash.x1_0]
    rw [List.take_of_length_le (by omega)] at hss
    have e : srt l = l := srt_self hss
    have := hK (some ⟨b, 0, none⟩) c w' (by rw [e, hlen]; exact Row.keep row kw (fun _ _ h => h)) (fun k h => h) (kw.mono fun _ _ h => h.elim)
    rw [e, hlen] at this
    exact this

/-- the program's Sorted -/
theorem dag_Sorted_ok (hl : HS w A n l) (hn : n ≤ 400000)
    (hK : ∀ A' c' w', HRow w' w.heap.size A' (srt l).length c' (srt l) → Kept Nil w w' → K (.slice A' (srt l).length c') w') :
    Ret Tryd.prog dag_Sorted.id #[.slice A n c] w K := by
  have hlen := hl.len
  refine dag_Sorted.of ?_
  refine slices_Values_of_api_Hash.of ?_
  unfold slices_Values_of_api_Hash.W
  intro w2
  have k2 : Kept Nil w w2 := (Kept.refl _ _).alloc _
  have hb2 : w2.heap[w.heap.size]? = some (.cells #[.slice A n c] T_sl_api_Hash (0, 0)) := new_blk w _
  clear_value w2
  refine ⟨_, rfl, ?_⟩
  refine slices_SortedFunc_of_api_Hash.of ?_
  refine collect_ok (xs := l) slices_Values_of_api_Hash_fn1.at_ (by rfl) (values_iter (l := l) ⟨w.heap.size, 0, none⟩ (A := A) (n := n) (c := c) (by omega)) (fun w' hk => ⟨(hl.same k2).same hk, by rw [cell_blk (hk.heap hb2 (fun h => h))]; rfl⟩) (by omega) ?_
  intro A4 c4 w4 row4 k4
  refine ⟨A4, _, c4, rfl, ?_⟩
  refine sort_ok row4 (by omega) fun l5 w5 hle hmem row5 k5 => ⟨rfl, ?_⟩
  refine ⟨A4, _, c4, rfl, ?_⟩
  refine compact_ok row5 hle (by omega) fun A6 c6 w6 row6 hb6 k6 => ⟨A6, _, c6, rfl, ?_⟩
  have e : srt l5 = srt l := srt_ext hmem
  rw [e] at row6 ⊢
  have hA4 : ∀ k, blkOf A4 = some k → w.heap.size ≤ k := fun k hk => Nat.le_trans k2.size (Row.blk row4 hk).1
  refine hK A6 c6 w6 (Row.base row6 fun k hk => hA4 k (hb6 k hk)) ?_
  exact ((k2.trans k4 (fun _ _ h => h)).trans k5 (fun k hk h => absurd (hA4 k h) (by omega))).trans k6 (fun k hk h => absurd (hA4 k h) (by omega))
end
end Go.Proofs.YtgfkpemnkmebkaaDoor
/-
  Rows of bits: has, with, or.
-/
namespace Go.Proofs.YtgfkpemnkmebkaaDoor
open Go Go.Lite Go.RowKit

theorem wrapU64 {x : Nat} (h : x < 18446744073709551616) : IntKind.u64.wrap (x : Int) = (x : Int) := by
  simp only [IntKind.wrap, IntKind.bits, IntKind.signed]
  simp
  omega
theorem orU {x y : Nat} (hx : x < 18446744073709551616) (hy : y < 18446744073709551616) :
    IntKind.u64.wrap ((BitVec.ofInt 64 (x : Int) ||| BitVec.ofInt 64 (y : Int)).toNat : Int) = ((x ||| y : Nat) : Int) := by
  have h : (BitVec.ofInt 64 (x : Int) ||| BitVec.ofInt 64 (y : Int)).toNat = x ||| y := by
    rw [BitVec.ofInt_natCast, BitVec.ofInt_natCast, BitVec.toNat_or, BitVec.toNat_ofNat, BitVec.toNat_ofNat, Nat.mod_eq_of_lt (by omega), Nat.mod_eq_of_lt (by omega)]
  rw [h]
  exact wrapU64 (Nat.or_lt_two_pow (n := 64) hx hy)
theorem andU {x y : Nat} (hx : x < 18446744073709551616) (hy : y < 18446744073709551616) :
    IntKind.u64.wrap ((BitVec.ofInt 64 (x : Int) &&& BitVec.ofInt 64 (y : Int)).toNat : Int) = ((x &&& y : Nat) : Int) := by
  have h : (BitVec.ofInt 64 (x : Int) &&& BitVec.ofInt 64 (y : Int)).toNat = x &&& y := by
    rw [BitVec.ofInt_natCast, BitVec.ofInt_natCast, BitVec.toNat_and, BitVec.toNat_ofNat, BitVec.toNat_ofNat, Nat.mod_eq_of_lt (by omega), Nat.mod_eq_of_lt (by omega)]
  rw [h]
  exact wrapU64 (Nat.lt_of_le_of_lt Nat.and_le_left hx)
theorem powU {i : Nat} (hi : i < 64) : IntKind.u64.wrap ((1 : Int) * 2 ^ (min i 64)) = ((2 ^ i : Nat) : Int) := by
  rw [Nat.min_eq_left (by omega), Int.one_mul]
  have h : 2 ^ i < 18446744073709551616 := Nat.pow_lt_pow_right (by omega) (n := 64) hi
  have := wrapU64 h
  rw [← this]
  simp

/-- is a number in a row? -/
def bit (ws : List Nat) (i : Nat) : Bool := (ws.getD (i / 64) 0).testBit (i % 64)
def okW (ws : List Nat) : Prop := ∀ x ∈ ws, x < 18446744073709551616
theorem bit_nil (i : Nat) : bit [] i = false := by simp [bit]
theorem bit_app0 (ws : List Nat) (i : Nat) : bit (ws ++ [0]) i = bit ws i := by
  unfold bit
  congr 1
  simp only [List.getD_eq_getElem?_getD, List.getElem?_append]
  split
  · rfl
  · rename_i h
    rw [List.getElem?_eq_none (l := ws) (by omega)]
    cases i / 64 - ws.length <;> simp
theorem bit_set {ws : List Nat} {q : Nat} (hq : q < ws.length) (v i : Nat) : bit (ws.set q v) i = if i / 64 = q then v.testBit (i % 64) else bit ws i := by
  unfold bit
  simp only [List.getD_eq_getElem?_getD, List.getElem?_set]
  by_cases h : i / 64 = q
  · subst h; simp [hq]
  · rw [if_neg (fun e => h e.symm), if_neg h]
theorem okW_app {ws : List Nat} (h : okW ws) {x : Nat} (hx : x < 18446744073709551616) : okW (ws ++ [x]) := fun y hy => by
  rw [List.mem_append, List.mem_singleton] at hy
  rcases hy with hy | rfl
  · exact h y hy
  · exact hx
theorem okW_set {ws : List Nat} (h : okW ws) {x : Nat} (hx : x < 18446744073709551616) (q : Nat) : okW (ws.set q x) := fun y hy => by
  rcases List.mem_or_eq_of_mem_set hy with hy | rfl
  · exact h y hy
  · exact hx

def us (l : List Nat) : List Value := l.map fun x : Nat => .int .u64 (x : Int)
theorem us_len (l : List Nat) : (us l).length = l.length := by simp [us]
theorem us_get {l : List Nat} {j x : Nat} (h : l[j]? = some x) : (us l)[j]? = some (.int .u64 (x : Int)) := by simp [us, h]
theorem us_set (l : List Nat) (q v : Nat) : (us l).set q (.int .u64 (v : Int)) = us (l.set q v) := by simp [us, List.map_set]
theorem us_app (l m : List Nat) : us (l ++ m) = us l ++ us m := by simp [us]

/-- a slice of words, to be read -/
structure US (w : World) (A : Option Addr) (n : Nat) (l : List Nat) : Prop where
  len : l.length = n
  at_ : ∀ (i x : Nat), l[i]? = some x → ∃ a, A = some a ∧ a.block < w.heap.size ∧ w.cell? (a.add i) = some (.int .u64 (x : Int))
theorem US.keep {S : Nat → Prop} {w w' : World} {A : Option Addr} {n : Nat} {l : List Nat} (h : US w A n l) (hk : Kept S w w') (hn : ∀ a, A = some a → ¬ S a.block) : US w' A n l := ⟨h.len, fun i x hi => by
  obtain ⟨a, h1, h2, h3⟩ := h.at_ i x hi
  exact ⟨a, h1, Nat.lt_of_lt_of_le h2 hk.size, hk.cell h3 (by rw [addr_block]; exact hn a h1)⟩⟩
theorem US.load {w : World} {A : Option Addr} {n : Nat} {l : List Nat} (hl : US w A n l) {i : Int} {x : Nat} (h0 : 0 ≤ i) (hx : l[i.toNat]? = some x) {k : Int → Prop} (hk : k x) :
    (0 ≤ i ∧ i < (n : Int)) ∧ Is A fun a => ∃ t : Int, w.cell? (a.add (i.toNat * 1)) = some (.int .u64 t) ∧ k t := by
  obtain ⟨a, rfl, _, hc⟩ := hl.at_ _ x hx
  have := (List.getElem?_eq_some_iff.1 hx).1
  have := hl.len
  exact ⟨⟨h0, by omega⟩, x, by rw [Nat.mul_one]; exact hc, hk⟩
theorem slWord : SlT Tryd.prog T_dag_row T_uint64 1 8 := ⟨by kernel_rfl, by kernel_rfl⟩
/-- a row of words of one's own -/
abbrev URow (w : World) (B : Nat) (A : Option Addr) (n c : Nat) (l : List Nat) : Prop := Row w B T_uint64 1 A n c (us l)
section
variable {w w' : World} {B n c : Nat} {A : Option Addr} {l : List Nat}
theorem URow.len (h : URow w B A n c l) : l.length = n := by have := Row.len h; rw [us_len] at this; omega
theorem URow.us (h : URow w B A n c l) : US w A n l := ⟨h.len, fun i x hi => by
  have hlen := h.len
  have := (List.getElem?_eq_some_iff.1 hi).1
  obtain ⟨b, rfl⟩ := Row.some h (by omega)
  obtain ⟨_, cur, hcur⟩ := Row.blk h (k := b) rfl
  exact ⟨_, rfl, lt_blk hcur, by rw [add_at, Nat.zero_add]; exact Row.cell h (us_get hi)⟩⟩

theorem tdiv64 (i : Nat) : ((i : Int).tdiv 64) = ((i / 64 : Nat) : Int) := by
  rw [Int.tdiv_eq_ediv_of_nonneg (by omega)]; omega
theorem tmod64 (i : Nat) : ((i : Int).tmod 64) = ((i % 64 : Nat) : Int) := by
  rw [Int.tmod_eq_emod_of_nonneg (by omega)]; omega
/-- one word more -/
theorem append_word (h : URow w B A n c l) (hn : n ≤ 1000000) (hB : B ≤ w.heap.size) {t : Nat} (x : Nat) :
    ∃ A' c' w', (Builtin.append_ #[T_dag_row, T_dag_row] T_dag_row #[.slice A n c, .slice (some ⟨w.heap.size, 0, none⟩) 1 1]).run Tryd.prog (w.alloc (.cells #[.int .u64 (x : Int)] t)) = .ok (.slice A' (n + 1) c') w' ∧
      URow w' B A' (n + 1) c' (l ++ [x]) ∧ Kept (fun k => blkOf A = some k) w w' ∧ (∀ k, blkOf A' = some k → blkOf A = some k ∨ w.heap.size ≤ k) := by
  have k1 : Kept Nil w (w.alloc (.cells #[.int .u64 (x : Int)] t)) := (Kept.refl _ _).alloc _
  have hb := new_blk w (.cells #[.int .u64 (x : Int)] t)
  have h1 : URow (w.alloc (.cells #[.int .u64 (x : Int)] t)) B A n c l := Row.keep h k1 (fun _ _ h => h)
  obtain ⟨A', c', w', hr, hrow, hg, hb'⟩ := append_row (P := Tryd.prog) (t := T_dag_row) (ty := T_dag_row) (bytes := 8) slWord h1 (a := ⟨w.heap.size, 0, none⟩) (m := 1) (cx := 1) (news := us [x]) rfl
    (fun j u hj => by rw [add_at, Nat.zero_add, cell_blk hb]; simpa [us] using hj) (fun u hu => by simp [us] at hu; subst hu; rfl) (by omega) (by unfold maxLen; omega) (by have := k1.size; omega)
  refine ⟨A', c', w', hr, ?_, ?_, fun k hk => ?_⟩
  · show Row w' B T_uint64 1 A' (n + 1) c' (Proofs.YtgfkpemnkmebkaaDoor.us (l ++ [x]))
    rw [us_app]; exact hrow
  · exact (k1.mono (S' := fun k => blkOf A = some k) (fun _ _ h => h.elim)).trans (Kept.grown (S := fun k => blkOf A = some k) (Kept.refl _ _) hg (fun k hk _ => hk)) (fun _ _ h => h)
  · rcases hb' k hk with h | h
    · exact .inl h
    · have := k1.size; exact .inr (by omega)
theorem set_word {b : Nat} (h : URow w B (some ⟨b, 0, none⟩) n c l) {q : Nat} (hq : q < n) (x : Nat) :
    URow (w.setCell ⟨b, q, none⟩ (.int .u64 (x : Int))) B (some ⟨b, 0, none⟩) n c (l.set q x) := by
  have := Row.set h (j := q) (by rw [us_len, h.len]; exact hq) (.int .u64 (x : Int))
  rw [us_set] at this
  exact this

theorem row_with_ok {K : Value → World → Prop} (h : URow w B A n c l) (ho : okW l) (hn : n ≤ 100000) (hB : B ≤ w.heap.size) {i : Nat} (hi : i ≤ 1000000)
    (hK : ∀ A' n' c' l' w', URow w' B A' n' c' l' → okW l' → (n' ≤ n ∨ n' ≤ i / 64 + 1) → (∀ j, bit l' j = (bit l j || decide (j = i))) → Kept (fun k => blkOf A = some k) w w' → (∀ k, blkOf A' = some k → blkOf A = some k ∨ w.heap.size ≤ k) → K (.slice A' n' c') w') :
    Ret Tryd.prog dag_row_with.id #[.slice A n c, .int .i64 (i : Int)] w K := by
  refine dag_row_with.of ?_
  refine dag_row_with.loop1 (I := fun s w' => ∃ A' n' c' l', s = (A', n', c') ∧ URow w' B A' n' c' l' ∧ okW l' ∧ (n' ≤ n ∨ n' ≤ i / 64 + 1) ∧ (∀ j, bit l' j = bit l j) ∧ Kept (fun k => blkOf A = some k) w w' ∧ (∀ k, blkOf A' = some k → blkOf A = some k ∨ w.heap.size ≤ k))
    (μ := fun s _ => i / 64 + 1 - s.2.1) (s := (A, n, c)) ⟨A, n, c, l, rfl, h, ho, .inl (Nat.le_refl _), fun _ => rfl, Kept.refl _ _, fun k hk => .inl hk⟩ ?_
  rintro s w' ⟨A', n', c', l', rfl, row, ho', hn', hbit, kw, hb⟩
  unfold dag_row_with.B1
  rw [tdiv64, wrapI (by omega) (by omega)]
  refine ⟨by omega, ?_⟩
  refine Split.dec (fun hle => ?_) (fun hgt => ?_)
  · simp only at hle
    have hle' : n' ≤ i / 64 := by omega
    obtain ⟨A2, c2, w2, hr, row2, k2, hb2⟩ := append_word row (by omega) (Nat.le_trans hB kw.size) (t := T_uint64) 0
    intro w6
    refine ⟨A2, n' + 1, c2, w2, hr, ?_⟩
    refine ⟨(A2, n' + 1, c2), rfl, ⟨A2, n' + 1, c2, l' ++ [0], rfl, row2, okW_app ho' (by omega), by omega, fun j => by rw [bit_app0, hbit], ?_, fun k hk => ?_⟩, by simp only; omega⟩
    · exact kw.trans k2 (fun k hk e => by
        rcases hb k e with h | h
        · exact h
        · omega)
    · rcases hb2 k hk with h | h
      · exact hb k h
      · exact .inr (Nat.le_trans kw.size h)
  · simp only at hgt
    have hil : i / 64 < n' := by omega
    rw [roundQ_exit, dag_row_with.x1_0]
    unfold dag_row_with.X1_0
    intro w12
    have k12 : Kept Nil w' w12 := (Kept.refl _ _).drew
    have hdr : w12 = w'.drew := rfl
    clear_value w12
    have row12 : URow w12 B A' n' c' l' := Row.keep row k12 (fun _ _ h => h)
    have hlen := row.len
    rw [tdiv64, tmod64, wrapI (by omega) (by omega)]
    obtain ⟨b, rfl⟩ := Row.some row12 (by omega)
    obtain ⟨x, hx⟩ : ∃ x, l'[i / 64]? = some x := ⟨_, List.getElem?_eq_getElem (by omega)⟩
    refine ⟨by omega, row12.us.load (by omega) (by rw [Int.toNat_natCast]; exact hx) ⟨by omega, by omega, ⟨⟨by omega, by simp only; omega⟩, ?_⟩⟩⟩
    have hxl := ho' x (List.mem_of_getElem? hx)
    have hp : 2 ^ (i % 64) < 18446744073709551616 := Nat.pow_lt_pow_right (by omega) (n := 64) (Nat.mod_lt _ (by omega))
    simp only [Is, Int.toNat_natCast, Nat.mul_one, add_at, Nat.zero_add]
    rw [powU (Nat.mod_lt _ (by omega)), orU hxl hp]
    refine ⟨Row.wr row12 (by rw [us_len, hlen]; exact hil), ?_⟩
    have kset : Kept (fun k => blkOf A = some k) w (w12.setCell ⟨b, i / 64, none⟩ (.int .u64 ((x ||| 2 ^ (i % 64) : Nat) : Int))) :=
      Kept.setCell (kw.trans k12 (fun _ _ h => h.elim)) (p := ⟨b, i / 64, none⟩) (fun hlt => by
        rcases hb b rfl with h | h
        · exact h
        · exact absurd hlt (by simp only; omega)) _
    refine hK _ _ _ _ _ (set_word row12 hil _) (okW_set ho' (Nat.or_lt_two_pow (n := 64) hxl hp) _) hn' (fun j => ?_) kset hb
    rw [bit_set (by omega), hbit]
    have hbi : bit l' i = x.testBit (i % 64) := by unfold bit; rw [List.getD_eq_getElem?_getD, hx]; rfl
    by_cases e : j / 64 = i / 64
    · rw [if_pos e, Nat.testBit_or, Nat.testBit_two_pow]
      have hbj : bit l' j = x.testBit (j % 64) := by unfold bit; rw [e, List.getD_eq_getElem?_getD, hx]; rfl
      rw [← hbj, hbit]
      congr 1
      exact decide_eq_decide.2 ⟨fun h => by omega, fun h => by rw [h]⟩
    · rw [if_neg e, decide_eq_false (fun h => e (by rw [h]))]
      simp
end
end Go.Proofs.YtgfkpemnkmebkaaDoor
/-
  Rows of bits: or.
-/
namespace Go.Proofs.YtgfkpemnkmebkaaDoor
open Go Go.Lite Go.RowKit
section
variable {w w' : World} {B n c : Nat} {A : Option Addr} {l : List Nat}
theorem row_or_ok {K : Value → World → Prop} (h : URow w B A n c l) (ho : okW l) (hn : n ≤ 100000) (hB : B ≤ w.heap.size) {A2 : Option Addr} {n2 c2 : Nat} {v : List Nat} (hv : US w A2 n2 v) (hv' : okW v) (hn2 : n2 ≤ 100000)
    (hap : ∀ a, A2 = some a → ∀ k, blkOf A = some k → a.block ≠ k)
    (hK : ∀ A' n' c' l' w', URow w' B A' n' c' l' → okW l' → (n' ≤ n ∨ n' ≤ n2) → (∀ j, bit l' j = (bit l j || bit v j)) → Kept (fun k => blkOf A = some k) w w' → (∀ k, blkOf A' = some k → blkOf A = some k ∨ w.heap.size ≤ k) → K (.slice A' n' c') w') :
    Ret Tryd.prog dag_row_or.id #[.slice A n c, .slice A2 n2 c2] w K := by
  have hvlen := hv.len
  refine dag_row_or.of ?_
  refine dag_row_or.loop1 (I := fun s w' => ∃ (i : Nat) (A' : Option Addr) (n' c' : Nat) (l' : List Nat), s = (A', n', c', (i : Int)) ∧ i ≤ n2 ∧ URow w' B A' n' c' l' ∧ okW l' ∧ i ≤ n' ∧ n ≤ n' ∧ (n' ≤ n ∨ n' ≤ i) ∧ (∀ j, bit l' j = (bit l j || (decide (j / 64 < i) && bit v j))) ∧ Kept (fun k => blkOf A = some k) w w' ∧ (∀ k, blkOf A' = some k → blkOf A = some k ∨ w.heap.size ≤ k))
    (μ := fun s _ => ((n2 : Int) - s.2.2.2).toNat) (s := (A, n, c, 0)) ⟨0, A, n, c, l, rfl, Nat.zero_le _, h, ho, Nat.zero_le _, Nat.le_refl _, .inl (Nat.le_refl _), by simp, Kept.refl _ _, fun k hk => .inl hk⟩ ?_
  rintro s w' ⟨i, A', n', c', l', rfl, hi, row, ho', hin, hnn, hni, hbit, kw, hb⟩
  have hlen' := row.len
  refine Split.dec (fun hil0 => ?_) (fun hge => ?_)
  · simp only at hil0
    have hil : i < n2 := by omega
    obtain ⟨x, hx⟩ : ∃ x, v[i]? = some x := ⟨_, List.getElem?_eq_getElem (by omega)⟩
    have hxl := hv' x (List.mem_of_getElem? hx)
    have hvw : US w' A2 n2 v := hv.keep kw (fun a ha e => hap a ha _ e rfl)
    refine hvw.load (i := (i : Int)) (by omega) hx ?_
    -- a word is or-ed
    have step : ∀ (A2 : Option Addr) (n3 c3 : Nat) (l3 : List Nat) (w3 : World), URow w3 B A2 n3 c3 l3 → okW l3 → i < n3 → n ≤ n3 → (n3 ≤ n ∨ n3 ≤ i + 1) → (∀ j, bit l3 j = (bit l j || (decide (j / 64 < i) && bit v j))) → Kept (fun k => blkOf A = some k) w w3 → (∀ k, blkOf A2 = some k → blkOf A = some k ∨ w.heap.size ≤ k) →
        (0 ≤ (i : Int) ∧ (i : Int) < (n3 : Int)) ∧ Is A2 fun a => ∃ t : Int, w3.cell? (a.add ((i : Int).toNat * 1)) = some (.int .u64 t) ∧ (0 ≤ (i : Int) ∧ (i : Int) < (n3 : Int)) ∧ Is A2 fun a' => Wr w3 (a'.add ((i : Int).toNat * 1)) ∧
          ∃ (l4 : List Nat),
          URow (w3.setCell (a'.add ((i : Int).toNat * 1)) (.int .u64 (IntKind.u64.wrap ((BitVec.ofInt 64 t ||| BitVec.ofInt 64 (x : Int)).toNat)))) B A2 n3 c3 l4 ∧ okW l4 ∧ (∀ j, bit l4 j = (bit l j || (decide (j / 64 < i + 1) && bit v j))) ∧ Kept (fun k => blkOf A = some k) w (w3.setCell (a'.add ((i : Int).toNat * 1)) (.int .u64 (IntKind.u64.wrap ((BitVec.ofInt 64 t ||| BitVec.ofInt 64 (x : Int)).toNat)))) := by
      intro A2 n3 c3 l3 w3 row3 ho3 hi3 hn3 hn3' hbit3 k3 hb3
      have hlen3 := row3.len
      obtain ⟨b, rfl⟩ := Row.some row3 (by omega)
      obtain ⟨y, hy⟩ : ∃ y, l3[i]? = some y := ⟨_, List.getElem?_eq_getElem (by omega)⟩
      have hyl := ho3 y (List.mem_of_getElem? hy)
      refine row3.us.load (i := (i : Int)) (by omega) hy ⟨⟨by omega, by omega⟩, ?_⟩
      simp only [Is, Int.toNat_natCast, Nat.mul_one, add_at, Nat.zero_add]
      rw [orU hyl hxl]
      refine ⟨Row.wr row3 (by rw [us_len]; omega), l3.set i (y ||| x), set_word row3 hi3 _, okW_set ho3 (Nat.or_lt_two_pow (n := 64) hyl hxl) _, fun j => ?_, ?_⟩
      · rw [bit_set (by omega), hbit3]
        have hbv : j / 64 = i → bit v j = x.testBit (j % 64) := fun e => by unfold bit; rw [e, List.getD_eq_getElem?_getD, hx]; rfl
        have hby : j / 64 = i → bit l3 j = y.testBit (j % 64) := fun e => by unfold bit; rw [e, List.getD_eq_getElem?_getD, hy]; rfl
        by_cases e : j / 64 = i
        · rw [if_pos e, Nat.testBit_or, ← hby e, ← hbv e, hbit3]
          rw [decide_eq_false (show ¬ j / 64 < i by omega), decide_eq_true (show j / 64 < i + 1 by omega)]
          simp
        · rw [if_neg e]
          congr 2
          exact decide_eq_decide.2 (by omega)
      · refine Kept.setCell k3 (p := ⟨b, i, none⟩) (fun hlt => ?_) _
        rcases hb3 b rfl with h | h
        · exact h
        · exact absurd hlt (by simp only; omega)
    by_cases he : i = n'
    · refine Split.yes (by simp [he]) ?_
      obtain ⟨A2', c2', w2, hr, row2, k2, hb2⟩ := append_word row (by omega) (Nat.le_trans hB kw.size) (t := T_uint64) 0
      intro w10
      refine ⟨A2', n' + 1, c2', w2, hr, ?_⟩
      have st := step A2' (n' + 1) c2' (l' ++ [0]) w2 row2 (okW_app ho' (by omega)) (by omega) (by omega) (by omega) (fun j => by rw [bit_app0, hbit])
        (kw.trans k2 (fun k hk e => by
          rcases hb k e with h | h
          · exact h
          · omega)) (fun k hk => by
          rcases hb2 k hk with h | h
          · exact hb k h
          · exact .inr (Nat.le_trans kw.size h))
      clear step
      obtain ⟨s1, s2⟩ := st
      refine ⟨s1, ?_⟩
      cases A2' with
      | none => exact s2.elim
      | some a =>
        obtain ⟨t, s3, s4, s5, l4, s6, s7, s8, s9⟩ := s2
        refine ⟨t, s3, s4, s5, ?_⟩
        intro w16
        simp only
        rw [wrapP (n := (i : Int)) (by omega) (by omega)]
        exact ⟨(some a, n' + 1, c2', (i : Int) + 1), rfl, ⟨i + 1, some a, n' + 1, c2', l4, rfl, hil, s6, s7, by omega, by omega, by omega, s8, s9, fun k hk => by
          rcases hb2 k hk with h | h
          · exact hb k h
          · exact .inr (Nat.le_trans kw.size h)⟩, by simp only; omega⟩
    · refine Split.no (beq_eq_false_iff_ne.2 (by simp only; omega)) ?_
      have st := step A' n' c' l' w' row ho' (by omega) hnn (by omega) hbit kw hb
      clear step
      obtain ⟨s1, s2⟩ := st
      refine ⟨s1, ?_⟩
      cases A' with
      | none => exact s2.elim
      | some a =>
        obtain ⟨t, s3, s4, s5, l4, s6, s7, s8, s9⟩ := s2
        refine ⟨t, s3, s4, s5, ?_⟩
        intro w16
        simp only
        rw [wrapP (n := (i : Int)) (by omega) (by omega)]
        exact ⟨(some a, n', c', (i : Int) + 1), rfl, ⟨i + 1, some a, n', c', l4, rfl, hil, s6, s7, by omega, hnn, by omega, s8, s9, hb⟩, by simp only; omega⟩
  · simp only at hge
    have : i = n2 := by omega
    subst this
    rw [roundQ_exit, dag_row_or.x1_0]
    refine hK A' n' c' l' w' row ho' (by omega) (fun j => ?_) kw hb
    rw [hbit]
    congr 1
    by_cases e : j / 64 < i
    · rw [decide_eq_true e]; simp
    · rw [decide_eq_false e]
      unfold bit
      rw [List.getD_eq_getElem?_getD, List.getElem?_eq_none (by omega)]
      simp
end
end Go.Proofs.YtgfkpemnkmebkaaDoor
/-
  Rows of bits: all.
-/
namespace Go.Proofs.YtgfkpemnkmebkaaDoor
open Go Go.Lite Go.RowKit

/-- the lowest bit away -/
theorem and_pred : ∀ k m : Nat, (2 ^ k * (2 * m + 1)) &&& (2 ^ k * (2 * m + 1) - 1) = 2 ^ (k + 1) * m
  | 0, m => by
    apply Nat.eq_of_testBit_eq
    intro i
    rw [Nat.testBit_and]
    cases i with
    | zero => simp [Nat.testBit_zero]
    | succ i =>
      simp only [Nat.testBit_succ]
      rw [show (2 ^ 0 * (2 * m + 1)) / 2 = m by omega, show (2 ^ 0 * (2 * m + 1) - 1) / 2 = m by omega, show 2 ^ (0 + 1) * m / 2 = m by omega]
      simp
  | k + 1, m => by
    have ih := and_pred k m
    have hp : 0 < 2 ^ k * (2 * m + 1) := Nat.mul_pos (Nat.pow_pos (by omega)) (by omega)
    rw [show 2 ^ (k + 1) * (2 * m + 1) = 2 * (2 ^ k * (2 * m + 1)) by rw [Nat.pow_succ]; ac_rfl, show 2 ^ (k + 1 + 1) * m = 2 * (2 ^ (k + 1) * m) by rw [Nat.pow_succ 2 (k + 1)]; ac_rfl]
    generalize 2 ^ k * (2 * m + 1) = x at ih hp ⊢
    rw [← ih]
    apply Nat.eq_of_testBit_eq
    intro i
    rw [Nat.testBit_and]
    cases i with
    | zero => simp [Nat.testBit_zero]
    | succ i =>
      simp only [Nat.testBit_succ]
      rw [show 2 * x / 2 = x by omega, show (2 * x - 1) / 2 = x - 1 by omega, show 2 * (x &&& (x - 1)) / 2 = x &&& (x - 1) by omega, Nat.testBit_and]
theorem low_bit {x : Nat} (h0 : x ≠ 0) (hx : x < 18446744073709551616) : Lib.ctz 64 x < 64 ∧ x.testBit (Lib.ctz 64 x) = true ∧ ∀ t, (x &&& (x - 1)).testBit t = (x.testBit t && decide (t ≠ Lib.ctz 64 x)) := by
  obtain ⟨m, h1, h2⟩ := Lib.ctzFrom_spec 64 x (by omega) hx
  have e : Lib.ctz 64 x = Lib.ctzFrom 64 x := by unfold Lib.ctz; rw [if_neg h0]
  rw [e]
  generalize Lib.ctzFrom 64 x = k at h1 h2 ⊢
  have hand : x &&& (x - 1) = 2 ^ (k + 1) * m := by rw [h1]; exact and_pred k m
  have hb : ∀ t, x.testBit t = (decide (t ≥ k) && (2 * m + 1).testBit (t - k)) := fun t => by rw [h1, Nat.testBit_two_pow_mul]
  refine ⟨h2, by rw [hb]; simp, fun t => ?_⟩
  rw [hand, Nat.testBit_two_pow_mul, hb]
  by_cases ht : t = k
  · subst ht
    simp
    intro h
    omega
  · rw [decide_eq_true ht, Bool.and_true]
    by_cases hk : t ≥ k
    · obtain ⟨d, hd⟩ : ∃ d, t - k = d + 1 := ⟨t - k - 1, by omega⟩
      rw [decide_eq_true hk, decide_eq_true (show t ≥ k + 1 by omega), hd, show t - (k + 1) = d by omega, Nat.testBit_succ, show (2 * m + 1) / 2 = m by omega]
    · rw [decide_eq_false hk, decide_eq_false (show ¬ t ≥ k + 1 by omega)]
      simp
theorem and_lt {x : Nat} (h0 : x ≠ 0) : x &&& (x - 1) < x := Nat.lt_of_le_of_lt Nat.and_le_right (by omega)
/-- a word's bits -/
def lows (x : Nat) : List Nat := if h : x = 0 then [] else Lib.ctz 64 x :: lows (x &&& (x - 1))
termination_by x
decreasing_by exact and_lt h
theorem lows_zero : lows 0 = [] := by rw [lows]; simp
theorem lows_cons {x : Nat} (h0 : x ≠ 0) : lows x = Lib.ctz 64 x :: lows (x &&& (x - 1)) := by rw [lows, dif_neg h0]
theorem lows_spec : ∀ (x : Nat), x < 18446744073709551616 → (∀ t, t ∈ lows x ↔ x.testBit t = true) ∧ (lows x).Nodup ∧ ∀ t ∈ lows x, t < 64 := by
  intro x
  induction x using Nat.strongRecOn with
  | _ x ih =>
    intro hx
    by_cases h0 : x = 0
    · subst h0; rw [lows_zero]; simp
    · obtain ⟨h1, h2, h3⟩ := low_bit h0 hx
      obtain ⟨i1, i2, i3⟩ := ih _ (and_lt h0) (Nat.lt_trans (and_lt h0) hx)
      rw [lows_cons h0]
      refine ⟨fun t => ?_, ?_, fun t ht => ?_⟩
      · rw [List.mem_cons, i1, h3]
        by_cases e : t = Lib.ctz 64 x
        · rw [e, h2]; simp
        · simp [e]
      · rw [List.nodup_cons, i1, h3]
        exact ⟨by simp, i2⟩
      · rcases List.mem_cons.1 ht with rfl | ht
        · exact h1
        · exact i3 t ht
/-- a row's numbers -/
def nums : Nat → List Nat → List Nat
  | _, [] => []
  | k, x :: ws => (lows x).map (64 * k + ·) ++ nums (k + 1) ws
theorem bit_cons (x : Nat) (ws : List Nat) (j : Nat) : bit (x :: ws) j = if j < 64 then x.testBit j else bit ws (j - 64) := by
  unfold bit
  split
  · rename_i h
    rw [show j / 64 = 0 by omega, show j % 64 = j by omega]
    rfl
  · rename_i h
    rw [show j / 64 = (j - 64) / 64 + 1 by omega, show j % 64 = (j - 64) % 64 by omega]
    rfl
theorem mem_nums : ∀ (ws : List Nat) (k j : Nat), okW ws → (j ∈ nums k ws ↔ 64 * k ≤ j ∧ bit ws (j - 64 * k) = true)
  | [], k, j, _ => by simp [nums, bit]
  | x :: ws, k, j, ho => by
    obtain ⟨h1, _, h3⟩ := lows_spec x (ho x (by simp))
    have ih := mem_nums ws (k + 1) j (fun y hy => ho y (by simp [hy]))
    rw [nums, List.mem_append, ih, bit_cons, List.mem_map]
    constructor
    · rintro (⟨t, ht, rfl⟩ | ⟨h, hb⟩)
      · have := h3 t ht
        refine ⟨by omega, ?_⟩
        rw [if_pos (by omega), show 64 * k + t - 64 * k = t by omega]
        exact (h1 t).1 ht
      · refine ⟨by omega, ?_⟩
        rw [if_neg (by omega), show j - 64 * k - 64 = j - 64 * (k + 1) by omega]
        exact hb
    · rintro ⟨h, hb⟩
      split at hb
      · exact .inl ⟨j - 64 * k, (h1 _).2 hb, by omega⟩
      · refine .inr ⟨by omega, ?_⟩
        rw [show j - 64 * (k + 1) = j - 64 * k - 64 by omega]
        exact hb
theorem nodupN_len : ∀ {l m : List Nat}, l.Nodup → (∀ x ∈ l, x ∈ m) → l.length ≤ m.length
  | [], _, _, _ => Nat.zero_le _
  | x :: l, m, hn, h => by
    rw [List.nodup_cons] at hn
    have hx := h x (by simp)
    have := nodupN_len (l := l) (m := m.erase x) hn.2 (fun y hy => by
      have hne : y ≠ x := fun e => hn.1 (e ▸ hy)
      exact (List.mem_erase_of_ne hne).2 (h y (by simp [hy])))
    rw [List.length_erase_of_mem hx] at this
    have hpos : 0 < m.length := List.length_pos_of_mem hx
    simp only [List.length_cons]
    omega
/-- the library's table lies in its variable -/
def Tab (w : World) : Prop := TabAt (Tryd.tzL_ren.g 1) Lib.deBruijn64tab w
theorem Tab.keep {S : Nat → Prop} {w w' : World} (h : Tab w) (hk : Kept S w w') (hn : ¬ S (Tryd.tzL_ren.g 1)) : Tab w' := fun j hj => hk.cell (h j hj) hn
theorem Tab.same {w w' : World} (h : Tab w) (hk : Kept Nil w w') : Tab w' := h.keep hk fun h => h
theorem Tab.lt {w : World} (h : Tab w) : Tryd.tzL_ren.g 1 < w.heap.size := World.block_lt_of_cell? w _ (h 0 (by decide))

section
variable {w : World} {K : Value → World → Prop}
theorem tz_ok {x : Nat} (hx : x < 18446744073709551616) (hT : Tab w) (hK : K (.int .i64 (Lib.ctz 64 x : Nat)) w) : Ret Tryd.prog bits_TrailingZeros64.id #[.int .u64 (x : Int)] w K := by
  refine Calls.mono (Any7.bits_TrailingZeros64 Tryd.tzL x hx w (fun _ => hT)) ?_
  rintro e w' ⟨rfl, rfl⟩
  exact ⟨_, rfl, hK⟩
abbrev encI (i : Nat) : List Value := [.int .i64 (i : Int)]
theorem all_iter (p : Addr) {A : Option Addr} {n c : Nat} {l : List Nat} (hn : n ≤ 100000) (ho : okW l) :
    Iterates Tryd.prog dag_row_all_fn1.id #[] #[.pointer (some p)] ((nums 0 l).map encI) (fun w => US w A n l ∧ w.cell? p = some (.slice A n c) ∧ Tab w) := by
  intro y I D w0 hI hD hpre h0 hround
  refine dag_row_all_fn1.of ?_
  obtain ⟨hl0, hp0, _⟩ := hpre 0 w0 h0
  have hlen := hl0.len
  refine ⟨A, n, c, hp0, ?_⟩
  refine dag_row_all_fn1.loop1 (I := fun s w' => ∃ (i : Nat) (dn : List Nat), s = (i : Int) ∧ i ≤ n ∧ dn ++ nums i (l.drop i) = nums 0 l ∧ I dn.length w') (μ := fun s _ => ((n : Int) - s).toNat) (s := 0) ⟨0, [], rfl, Nat.zero_le _, rfl, h0⟩ ?_
  rintro s w' ⟨i, dn, rfl, hi, hdn, hw⟩
  refine Split.dec (fun hil0 => ?_) (fun hge => ?_)
  · have hil : i < n := by omega
    obtain ⟨x, hx⟩ : ∃ x, l[i]? = some x := ⟨_, List.getElem?_eq_getElem (by omega)⟩
    have hxl := ho x (List.mem_of_getElem? hx)
    have hl := (hpre _ w' hw).1
    have hdrop : l.drop i = x :: l.drop (i + 1) := by
      obtain ⟨h1, h2⟩ := List.getElem?_eq_some_iff.1 hx
      rw [List.drop_eq_getElem_cons h1, h2]
    rw [hdrop, nums] at hdn
    refine hl.load (i := (i : Int)) (by omega) hx ?_
    refine dag_row_all_fn1.loop2 (I := fun s w' => ∃ (v : Nat) (dn : List Nat), s = (v : Int) ∧ v < 18446744073709551616 ∧ dn ++ ((lows v).map (64 * i + ·) ++ nums (i + 1) (l.drop (i + 1))) = nums 0 l ∧ I dn.length w') (μ := fun s _ => s.toNat) (s := (x : Int)) ⟨x, dn, rfl, hxl, hdn, hw⟩ ?_
    clear hw hdn
    rintro s w1 ⟨v, dn1, rfl, hv, hdn1, hw1⟩
    by_cases h0 : v = 0
    · refine Split.no (by subst h0; rfl) ?_
      rw [roundQ_exit, dag_row_all_fn1.x2_2]
      unfold dag_row_all_fn1.X2_2
      rw [wrapP (n := (i : Int)) (by omega) (by omega)]
      rw [h0, lows_zero, List.map_nil, List.nil_append] at hdn1
      exact ⟨(i : Int) + 1, rfl, ⟨i + 1, dn1, rfl, hil, hdn1, hw1⟩, by simp only; omega⟩
    · refine Split.yes (bne_iff_ne.2 (by omega)) ?_
      have hpr := hpre _ w1 hw1
      obtain ⟨hk, hkb, hkr⟩ := low_bit h0 hv
      rw [lows_cons h0, List.map_cons, List.cons_append] at hdn1
      refine tz_ok hv hpr.2.2 ⟨_, rfl, ?_⟩
      have hget : ((nums 0 l).map encI)[dn1.length]? = some (encI (64 * i + Lib.ctz 64 v)) := by
        rw [List.getElem?_map, ← hdn1, List.getElem?_append_right (Nat.le_refl _), Nat.sub_self]
        rfl
      have hval : IntKind.i64.wrap (IntKind.i64.wrap ((64 : Int) * (i : Int)) + ((Lib.ctz 64 v : Nat) : Int)) = ((64 * i + Lib.ctz 64 v : Nat) : Int) := by
        rw [wrapI (x := (64 : Int) * (i : Int)) (by omega) (by omega), wrapI (by omega) (by omega)]
        omega
      rw [hval]
      refine (hround dn1.length _ w1 hget hw1).mono ?_
      rintro b w'' ⟨ht, hf⟩
      have hnew : IntKind.u64.wrap ((BitVec.ofInt 64 (v : Int) &&& BitVec.ofInt 64 (IntKind.u64.wrap ((v : Int) - (1 : Int)))).toNat : Int) = ((v &&& (v - 1) : Nat) : Int) := by
        have e1 : (v : Int) - 1 = ((v - 1 : Nat) : Int) := by omega
        rw [e1, wrapU64 (x := v - 1) (by omega), andU hv (by omega)]
      cases b with
      | true =>
        refine Split.no rfl ?_
        rw [hnew]
        have hlt := and_lt h0
        refine ⟨((v &&& (v - 1) : Nat) : Int), rfl, ⟨v &&& (v - 1), dn1 ++ [64 * i + Lib.ctz 64 v], rfl, by omega, by rw [List.append_assoc]; exact hdn1, ?_⟩, by simp only; omega⟩
        rw [List.length_append]
        exact ht rfl
      | false =>
        refine Split.yes rfl ?_
        exact Or.inr (hf rfl)
  · rw [roundQ_exit, dag_row_all_fn1.x1_0]
    have e : i = n := by omega
    subst e
    refine Or.inl ?_
    rw [List.drop_eq_nil_of_le (by omega), nums, List.append_nil] at hdn
    rw [List.length_map, ← hdn]
    exact hw
end
end Go.Proofs.YtgfkpemnkmebkaaDoor
/-
  Maps from hashes to numbers.
-/
namespace Go.Proofs.YtgfkpemnkmebkaaDoor
open Go Go.Lite Go.RowKit

/-- the first place of a hash -/
def pos (h : HT) : List HT → Nat → Option Nat
  | [], _ => none
  | x :: l, i => if h = x then some i else pos h l (i + 1)
theorem pos_none {h : HT} : ∀ {l : List HT} {i : Nat}, pos h l i = none ↔ h ∉ l
  | [], i => by simp [pos]
  | x :: l, i => by
    unfold pos
    split
    · rename_i e; simp [e]
    · rename_i e
      rw [pos_none (l := l)]
      simp [e]
theorem pos_some {h : HT} : ∀ {l : List HT} {i j : Nat}, pos h l i = some j → i ≤ j ∧ l[j - i]? = some h
  | [], i, j, e => by simp [pos] at e
  | x :: l, i, j, e => by
    unfold pos at e
    split at e
    · rename_i hx
      cases e
      subst hx
      exact ⟨Nat.le_refl _, by rw [Nat.sub_self]; rfl⟩
    · obtain ⟨h1, h2⟩ := pos_some e
      refine ⟨by omega, ?_⟩
      rw [show j - i = (j - (i + 1)) + 1 by omega]
      exact h2
theorem pos_of_get {h : HT} : ∀ {l : List HT} (i j : Nat), l.Nodup → l[j]? = some h → pos h l i = some (i + j)
  | [], i, j, _, e => by simp at e
  | x :: l, i, 0, _, e => by
    simp only [List.getElem?_cons_zero, Option.some.injEq] at e
    unfold pos
    rw [if_pos e.symm]
    simp
  | x :: l, i, j + 1, hn, e => by
    simp only [List.getElem?_cons_succ] at e
    rw [List.nodup_cons] at hn
    unfold pos
    rw [if_neg (fun hx => hn.1 (by rw [← hx]; exact List.mem_of_getElem? e)), pos_of_get (i + 1) j hn.2 e]
    congr 1
    omega

section
variable {w : World}
theorem undH : Tryd.prog.underlying T_api_Hash = some (.array 32 T_uint8) := by kernel_rfl
theorem undU : Tryd.prog.underlying T_uint8 = some (.int .u8) := by kernel_rfl
theorem infoU : ∃ i, Tryd.prog.info? T_uint8 = some i ∧ i.size = 1 := by
  have h : (match Tryd.prog.info? T_uint8 with | some i => Nat.beq i.size 1 | none => false) = true := by kernel_rfl
  split at h
  · rename_i i hi; exact ⟨i, hi, Nat.eq_of_beq_eq_true h⟩
  · cases h
theorem undM : Tryd.prog.underlying T_map_api_Hash_int = some (.map T_api_Hash T_int) := by kernel_rfl
theorem run_equalH (a b : HT) (w : World) : (Op.equal T_api_Hash (.agg a.1) (.agg b.1)).run Tryd.prog w = .ok (decide (a = b)) w := by
  obtain ⟨i, hi, h1⟩ := infoU
  have := run_eq_ints (P := Tryd.prog) 9998 w undH undU hi h1 a.2.ints b.2.ints
  rw [sameInts_eq] at this
  simp only [Op.equal, Op.maxDepth]
  exact this
theorem run_checkH (h : HT) (em : Bool) (w : World) : (Instr.checkKey em 10000 T_api_Hash (.agg h.1)).run Tryd.prog w = .ok () w := by
  obtain ⟨i, hi, h1⟩ := infoU
  have hc : Tryd.prog.cellsOf T_uint8 = 1 := by simp [Program.cellsOf, hi, h1]
  rw [show (10000 : Nat) = 9999 + 1 from rfl, Instr.checkKey]
  simp only [Sem.run_bind, run_underlying undH, Result.andThen_ok]
  simp only [Std.Legacy.Range.forIn_eq_forIn_range', Std.Legacy.Range.size, Nat.sub_zero, Nat.add_one_sub_one, Nat.div_one]
  have each : ∀ j ∈ List.range' 0 32, ∃ v, h.1[j]? = some v ∧ ∃ x : Int, v = .int .u8 x := fun j hj => by
    have hj' : j < h.1.size := by rw [h.2.1]; simpa using hj
    obtain ⟨x, hx, _⟩ := h.2.2 h.1[j] (by simp)
    exact ⟨_, Array.getElem?_eq_getElem hj', x, hx⟩
  generalize List.range' 0 32 = is at each
  induction is with
  | nil => simp
  | cons j is ih =>
    obtain ⟨v, hv, x, rfl⟩ := each j (by simp)
    have hagg : (isAgg T_uint8).run Tryd.prog w = .ok false w := by simp [isAgg, run_underlying undU]
    have p1 : (part T_uint8 h.1 (j * 1)).run Tryd.prog w = .ok (.int .u8 x) w := by simp [part, hagg, hv]
    have p2 : (Instr.checkKey em 9999 T_uint8 (.int .u8 x)).run Tryd.prog w = .ok () w := by
      rw [show (9999 : Nat) = 9998 + 1 from rfl, Instr.checkKey]
      simp [run_underlying undU]
    simp only [List.forIn_cons, Sem.run_bind, Go.Lite.run_sizeOf hi w, hc, Result.andThen_ok, p1, p2, Sem.run_pure]
    exact ih (fun y hy => each y (by simp [hy]))

/-- a map's entries: the hashes in a row, each with its place -/
def Ents (es : List MapEntry) (l : List HT) (i : Nat) : Prop := match es, l with
  | [], [] => True
  | e :: es, h :: l => (e.key = .agg h.1 ∧ e.val = .int .i64 (i : Int)) ∧ Ents es l (i + 1)
  | _, _ => False
theorem Ents.snoc : ∀ {es : List MapEntry} {l : List HT} {i : Nat} {e : MapEntry} {h : HT}, Ents es l i → e.key = .agg h.1 → e.val = .int .i64 ((i + l.length : Nat) : Int) → Ents (es ++ [e]) (l ++ [h]) i
  | [], [], i, e, h, _, h1, h2 => ⟨⟨h1, by simpa using h2⟩, trivial⟩
  | x :: es, y :: l, i, e, h, he, h1, h2 => ⟨he.1, Ents.snoc he.2 h1 (by rw [h2]; congr 2; simp; omega)⟩
  | [], _ :: _, _, _, _, he, _, _ => he.elim
  | _ :: _, [], _, _, _, he, _, _ => he.elim
theorem run_findAskH (h : HT) (w : World) : ∀ (es : List MapEntry) (l : List HT) (i : Nat), Ents es l i →
    (Instr.findAsking T_api_Hash (.agg h.1) es i).run Tryd.prog w = .ok ((pos h l i).map fun j => (j, .int .i64 (j : Int))) w
  | [], [], i, _ => by simp [Instr.findAsking, pos]
  | e :: es, x :: l, i, he => by
    have hq := run_equalH h x w
    have ih := run_findAskH h w es l (i + 1) he.2
    simp only [Instr.findAsking, he.1.1, Sem.run_bind, hq, Result.andThen_ok]
    by_cases hx : h = x
    · simp [hx, pos, he.1.2]
    · simp [hx, pos, ih]
  | [], _ :: _, _, he => he.elim
  | _ :: _, [], _, he => he.elim
theorem run_findKeyH (h : HT) (w : World) {es : List MapEntry} {l : List HT} (he : Ents es l 0) :
    (Instr.findKey T_api_Hash (.agg h.1) es).run Tryd.prog w = .ok ((pos h l 0).map fun j => (j, .int .i64 (j : Int))) w := by
  have h1 := run_findAskH h w es l 0 he
  simp only [Instr.findKey, Sem.run_bind, run_underlying undH, Result.andThen_ok]
  cases es with
  | nil =>
    cases l with
    | nil => simp [Instr.findNow, pos]
    | cons x l => exact he.elim
  | cons e es =>
    have : Instr.findNow (.array 32 T_uint8) (.agg h.1) (e :: es) 0 = none := by
      simp only [Instr.findNow, Instr.sameNow]
    rw [this]
    exact h1
theorem getMap {r : Nat} {es : Array MapEntry} {clock : Nat} (hb : w.heap[r]? = some (.map es clock)) : (getObj r).run Tryd.prog w = .ok (.map es clock) w := by
  simp [getObj, Sem.run, hb]
theorem setMap {r : Nat} {es : Array MapEntry} {clock : Nat} (o : Obj) (hb : w.heap[r]? = some (.map es clock)) : (setObj r o).run Tryd.prog w = .ok () { w with heap := w.heap.setIfInBounds r o } := by
  simp [setObj, Sem.run, hb]

/-- block m holds the map of hashes to their places -/
structure IsMap (w : World) (m : Nat) (l : List HT) : Prop where
  ex : ∃ es clock, w.heap[m]? = some (.map es clock) ∧ Ents es.toList l 0
theorem IsMap.keep {S : Nat → Prop} {w w' : World} {m : Nat} {l : List HT} (h : IsMap w m l) (hk : Kept S w w') (hn : ¬ S m) : IsMap w' m l := by
  obtain ⟨es, clock, h1, h2⟩ := h.ex
  exact ⟨es, clock, hk.heap h1 hn, h2⟩
theorem IsMap.lt {w : World} {m : Nat} {l : List HT} (h : IsMap w m l) : m < w.heap.size := by
  obtain ⟨es, clock, h1, _⟩ := h.ex
  exact lt_blk h1
theorem IsMap.look {m : Nat} {l : List HT} (hm : IsMap w m l) (h : HT) :
    (Instr.lookup T_map_api_Hash_int (.map (some m)) (.agg h.1) true).run Tryd.prog w = .ok (.tuple #[.int .i64 (((pos h l 0).getD 0 : Nat) : Int), .bool (pos h l 0).isSome]) w := by
  obtain ⟨es, clock, h1, h2⟩ := hm.ex
  have h3 := run_findKeyH h w h2
  simp only [Instr.lookup, Sem.run_bind, run_underlying undM, getMap h1, Result.andThen_ok, Sem.run_pure, run_checkH, h3]
  cases hp : pos h l 0 <;> simp
theorem IsMap.look1 {m : Nat} {l : List HT} (hm : IsMap w m l) (h : HT) :
    (Instr.lookup T_map_api_Hash_int (.map (some m)) (.agg h.1) false).run Tryd.prog w = .ok (.int .i64 (((pos h l 0).getD 0 : Nat) : Int)) w := by
  obtain ⟨es, clock, h1, h2⟩ := hm.ex
  have h3 := run_findKeyH h w h2
  simp only [Instr.lookup, Sem.run_bind, run_underlying undM, getMap h1, Result.andThen_ok, Sem.run_pure, run_checkH, h3]
  cases hp : pos h l 0 <;> simp
theorem IsMap.put {m : Nat} {l : List HT} (hm : IsMap w m l) {h : HT} (hn : h ∉ l) :
    ∃ w', (Instr.mapUpdate T_map_api_Hash_int (.map (some m)) (.agg h.1) (.int .i64 ((l.length : Nat) : Int))).run Tryd.prog w = .ok () w' ∧ IsMap w' m (l ++ [h]) ∧ Kept (· = m) w w' := by
  obtain ⟨es, clock, h1, h2⟩ := hm.ex
  have h3 := run_findKeyH h w h2
  rw [pos_none.2 hn] at h3
  refine ⟨{ w with heap := w.heap.setIfInBounds m (.map (es.push { key := .agg h.1, val := .int .i64 ((l.length : Nat) : Int), born := clock }) (clock + 1)) }, ?_, ⟨es.push { key := .agg h.1, val := .int .i64 ((l.length : Nat) : Int), born := clock }, clock + 1, ?_, ?_⟩, ?_⟩
  · simp only [Instr.mapUpdate, Sem.run_bind, run_underlying undM, getMap h1, Result.andThen_ok, run_checkH, h3, Option.map_none, setMap _ h1]
  · simp [lt_blk h1]
  · have := h2.snoc (e := { key := .agg h.1, val := .int .i64 ((l.length : Nat) : Int), born := clock }) (h := h) rfl (by simp)
    simpa using this
  · exact ⟨rfl, rfl, rfl, by simp, fun k _ hk => by simp [Ne.symm hk]⟩
end
end Go.Proofs.YtgfkpemnkmebkaaDoor
/-
  A graph, plainly: hashes with their parents, in the order in which they came (no program in sight).
-/
namespace Go.Proofs.YtgfkpemnkmebkaaDoor
open Go Go.Lite

structure DN where
  id : HT
  ps : List HT
abbrev DG := List DN
def ids (D : DG) : List HT := D.map (·.id)
/-- p is a parent of h -/
def Par (D : DG) (p h : HT) : Prop := ∃ nd ∈ D, nd.id = h ∧ p ∈ nd.ps
/-- a stands ahead of h -/
inductive Anc (D : DG) : HT → HT → Prop
  | one {p h : HT} : Par D p h → Anc D p h
  | more {a p h : HT} : Anc D a p → Par D p h → Anc D a h
theorem Anc.trans {D : DG} {a b c : HT} (h : Anc D a b) (h' : Anc D b c) : Anc D a c := by
  induction h' with
  | one hp => exact .more h hp
  | more _ hp ih => exact .more ih hp

structure WfD (D : DG) : Prop where
  pos : 0 < D.length
  nodup : (ids D).Nodup
  ss : ∀ nd ∈ D, SS nd.ps
  up : ∀ (i : Nat) nd p, D[i]? = some nd → p ∈ nd.ps → ∃ (j : Nat) (m : DN), j < i ∧ D[j]? = some m ∧ m.id = p
theorem ids_len (D : DG) : (ids D).length = D.length := by simp [ids]
theorem ids_get {D : DG} {i : Nat} {nd : DN} (h : D[i]? = some nd) : (ids D)[i]? = some nd.id := by simp [ids, h]
theorem ids_at {D : DG} {i : Nat} {h : HT} (e : (ids D)[i]? = some h) : ∃ nd, D[i]? = some nd ∧ nd.id = h := by
  unfold ids at e
  rw [List.getElem?_map] at e
  cases hd : D[i]? with
  | none => rw [hd] at e; cases e
  | some nd => rw [hd] at e; exact ⟨nd, rfl, by simpa using e⟩
theorem ids_mem {D : DG} {h : HT} : h ∈ ids D ↔ ∃ nd ∈ D, nd.id = h := by simp [ids]

section
variable {D : DG}
theorem WfD.inj (W : WfD D) {i j : Nat} {a b : DN} (ha : D[i]? = some a) (hb : D[j]? = some b) (e : a.id = b.id) : i = j := by
  have h1 := pos_of_get 0 i W.nodup (ids_get ha)
  have h2 := pos_of_get 0 j W.nodup (ids_get hb)
  rw [e, h2] at h1
  simpa using h1.symm
theorem WfD.pos_eq (W : WfD D) {i : Nat} {nd : DN} (h : D[i]? = some nd) : Proofs.YtgfkpemnkmebkaaDoor.pos nd.id (ids D) 0 = some i := by
  have := pos_of_get 0 i W.nodup (ids_get h)
  rwa [Nat.zero_add] at this
/-- by places -/
theorem Par.at_ (W : WfD D) {p h : HT} (hp : Par D p h) : ∃ (i j : Nat) (m nd : DN), i < j ∧ D[i]? = some m ∧ D[j]? = some nd ∧ m.id = p ∧ nd.id = h ∧ p ∈ nd.ps := by
  obtain ⟨nd, hnd, rfl, hps⟩ := hp
  obtain ⟨j, hj⟩ := List.mem_iff_getElem?.1 hnd
  obtain ⟨i, m, hij, hm, e⟩ := W.up j nd p hj hps
  exact ⟨i, j, m, nd, hij, hm, hj, e, rfl, hps⟩
theorem Anc.at_ (W : WfD D) {a h : HT} (hp : Anc D a h) : ∃ (i j : Nat) (m nd : DN), i < j ∧ D[i]? = some m ∧ D[j]? = some nd ∧ m.id = a ∧ nd.id = h := by
  induction hp with
  | one hp =>
    obtain ⟨i, j, m, nd, h1, h2, h3, h4, h5, _⟩ := hp.at_ W
    exact ⟨i, j, m, nd, h1, h2, h3, h4, h5⟩
  | more _ hp ih =>
    obtain ⟨i, j, m, nd, h1, h2, h3, h4, h5⟩ := ih
    obtain ⟨i', j', m', nd', h1', h2', h3', h4', h5', _⟩ := hp.at_ W
    have e := W.inj h3 h2' (by rw [h5, h4'])
    exact ⟨i, j', m, nd', by omega, h2, h3', h4, h5'⟩
theorem Anc.irrefl (W : WfD D) (a : HT) : ¬ Anc D a a := fun h => by
  obtain ⟨i, j, m, nd, h1, h2, h3, h4, h5⟩ := h.at_ W
  have := W.inj h2 h3 (by rw [h4, h5])
  omega
theorem Anc.mem (W : WfD D) {a h : HT} (hp : Anc D a h) : a ∈ ids D ∧ h ∈ ids D := by
  obtain ⟨i, j, m, nd, _, h2, h3, h4, h5⟩ := hp.at_ W
  exact ⟨ids_mem.2 ⟨m, List.mem_of_getElem? h2, h4⟩, ids_mem.2 ⟨nd, List.mem_of_getElem? h3, h5⟩⟩
/-- one's ancestors, by one's parents -/
theorem anc_iff (W : WfD D) {i : Nat} {nd : DN} (h : D[i]? = some nd) (a : HT) : Anc D a nd.id ↔ ∃ p ∈ nd.ps, a = p ∨ Anc D a p := by
  have key : ∀ {p}, Par D p nd.id → p ∈ nd.ps := fun ⟨nd', hm, e, hp⟩ => by
    obtain ⟨j, hj⟩ := List.mem_iff_getElem?.1 hm
    have := W.inj h hj e.symm
    subst this
    rw [h] at hj
    cases hj
    exact hp
  constructor
  · intro ha
    generalize he : nd.id = x at ha
    cases ha with
    | one hp => subst he; exact ⟨a, key hp, .inl rfl⟩
    | more ha' hp => subst he; exact ⟨_, key hp, .inr ha'⟩
  · rintro ⟨p, hp, e⟩
    have hpar : Par D p nd.id := ⟨nd, List.mem_of_getElem? h, rfl, hp⟩
    rcases e with rfl | e
    · exact .one hpar
    · exact .more e hpar

/-- one more -/
theorem par_snoc {nd : DN} {p h : HT} : Par (D ++ [nd]) p h ↔ Par D p h ∨ (nd.id = h ∧ p ∈ nd.ps) := by
  unfold Par
  constructor
  · rintro ⟨m, hm, e, hp⟩
    rw [List.mem_append, List.mem_singleton] at hm
    rcases hm with hm | rfl
    · exact .inl ⟨m, hm, e, hp⟩
    · exact .inr ⟨e, hp⟩
  · rintro (⟨m, hm, e, hp⟩ | ⟨e, hp⟩)
    · exact ⟨m, by simp [hm], e, hp⟩
    · exact ⟨nd, by simp, e, hp⟩
theorem anc_snoc (W : WfD D) {nd : DN} (hn : nd.id ∉ ids D) {a h : HT} (hh : h ∈ ids D) : Anc (D ++ [nd]) a h ↔ Anc D a h := by
  constructor
  · intro ha
    induction ha with
    | one hp =>
      rcases par_snoc.1 hp with hp | ⟨e, _⟩
      · exact .one hp
      · subst e; exact absurd hh hn
    | more _ hp ih =>
      rcases par_snoc.1 hp with hp | ⟨e, _⟩
      · exact .more (ih (Anc.mem W (.one hp)).1) hp
      · subst e; exact absurd hh hn
  · intro ha
    induction ha with
    | one hp => exact .one (par_snoc.2 (.inl hp))
    | more ha' hp ih => exact .more (ih (Anc.mem W ha').2) (par_snoc.2 (.inl hp))
theorem ids_snoc (D : DG) (nd : DN) : ids (D ++ [nd]) = ids D ++ [nd.id] := by simp [ids]
theorem WfD.snoc (W : WfD D) {nd : DN} (hn : nd.id ∉ ids D) (hps : ∀ p ∈ nd.ps, p ∈ ids D) (hs : SS nd.ps) : WfD (D ++ [nd]) where
  pos := by simp
  nodup := by
    rw [ids_snoc, List.nodup_append]
    refine ⟨W.nodup, by simp, fun a ha b hb => ?_⟩
    rw [List.mem_singleton] at hb
    subst hb
    exact fun e => hn (e ▸ ha)
  ss := fun m hm => by
    rw [List.mem_append, List.mem_singleton] at hm
    rcases hm with hm | rfl
    · exact W.ss m hm
    · exact hs
  up := fun i m p hi hp => by
    rw [List.getElem?_append] at hi
    split at hi
    · rename_i hlt
      obtain ⟨j, q, h1, h2, h3⟩ := W.up i m p hi hp
      exact ⟨j, q, h1, by rw [List.getElem?_append_left (by omega)]; exact h2, h3⟩
    · rename_i hge
      have : m = nd := by
        cases hk : i - D.length with
        | zero => rw [hk] at hi; simpa using hi.symm
        | succ k => rw [hk] at hi; simp at hi
      subst this
      obtain ⟨q, hq, e⟩ := ids_mem.1 (hps p hp)
      obtain ⟨j, hj⟩ := List.mem_iff_getElem?.1 hq
      have hjl := (List.getElem?_eq_some_iff.1 hj).1
      exact ⟨j, q, by omega, by rw [List.getElem?_append_left hjl]; exact hj, e⟩
end
theorem WfD.root (r : HT) : WfD [⟨r, []⟩] where
  pos := by simp
  nodup := by simp [ids]
  ss := fun nd h => by simp at h; subst h; exact List.Pairwise.nil
  up := fun i nd p h hp => by
    cases i with
    | zero => simp at h; subst h; simp at hp
    | succ i => simp at h

/-- what comes of one that comes -/
def addC (D : DG) (h : HT) (l : List HT) : Int :=
  if h ∈ ids D then 7 else if (srt l).length = 0 ∨ (srt l).length ≠ l.length then 9 else if ∃ p ∈ srt l, p ∉ ids D then 6 else 0
def addD (D : DG) (h : HT) (l : List HT) : DG := if addC D h l = 0 then D ++ [⟨h, srt l⟩] else D
theorem addC_ok {D : DG} {h : HT} {l : List HT} (e : addC D h l = 0) : h ∉ ids D ∧ l ≠ [] ∧ l.Nodup ∧ ∀ p ∈ srt l, p ∈ ids D := by
  unfold addC at e
  split at e
  · cases e
  · rename_i h1
    split at e
    · cases e
    · rename_i h2
      split at e
      · cases e
      · rename_i h3
        simp only [not_or, Decidable.not_not] at h2
        refine ⟨h1, fun hl => h2.1 (by rw [hl]; rfl), nodup_of_srt h2.2, fun p hp => Classical.byContradiction fun hn => h3 ⟨p, hp, hn⟩⟩
theorem WfD.add {D : DG} (W : WfD D) (h : HT) (l : List HT) : WfD (addD D h l) := by
  unfold addD
  split
  · rename_i e
    obtain ⟨h1, _, _, h4⟩ := addC_ok e
    exact W.snoc h1 h4 (SS_srt l)
  · exact W
/-! what a graph answers -/
open Classical in
noncomputable def pick (D : DG) (is : HT → Prop) : List HT := srt ((ids D).filter fun a => decide (is a))
theorem mem_pick {D : DG} {is : HT → Prop} {a : HT} : a ∈ pick D is ↔ a ∈ ids D ∧ is a := by
  unfold pick; rw [mem_srt, List.mem_filter]; simp
theorem pick_of {D : DG} {is : HT → Prop} {l : List HT} (h : ∀ a, a ∈ l ↔ a ∈ ids D ∧ is a) : srt l = pick D is := srt_ext fun x => by
  rw [h, List.mem_filter]; simp
theorem pick_len (D : DG) (is : HT → Prop) : (pick D is).length ≤ D.length := by
  unfold pick
  refine Nat.le_trans (srt_len _) (Nat.le_trans (List.length_filter_le _ _) ?_)
  rw [ids_len]; exact Nat.le_refl _
noncomputable def pastsL (D : DG) (l : List HT) : List HT := pick D fun a => ∃ h ∈ l, Anc D a h
noncomputable def childL (D : DG) (h : HT) : List HT := pick D fun a => Par D h a
end Go.Proofs.YtgfkpemnkmebkaaDoor
/-
  Rows of hashes with their parents; the document's graph in memory.
-/
namespace Go.Proofs.YtgfkpemnkmebkaaDoor
open Go Go.Lite Go.RowKit

/-- a slice of hashes with lists, to be read; F: where all that lies -/
structure NS (w : World) (F : Nat → Prop) (A : Option Addr) (n : Nat) (l : List DN) : Prop where
  len : l.length = n
  at_ : ∀ (i : Nat) nd, l[i]? = some nd → ∃ a pA pn pc, A = some a ∧ a.block < w.heap.size ∧ F a.block ∧ Cells w (a.add (i * 33)) (nd.id.1.push (.slice pA pn pc)) ∧ HS w pA pn nd.ps ∧ ∀ b, pA = some b → F b.block
section
variable {w w' : World} {F F' S : Nat → Prop} {A : Option Addr} {n : Nat} {l : List DN}
theorem slNode : SlT Tryd.prog T_sl_plexusref10_Node T_plexusref10_Node 33 56 := ⟨by kernel_rfl, by kernel_rfl⟩
/-- block r holds the document's graph D; F: what it reads of and never changes -/
structure IsR (w : World) (F : Nat → Prop) (r : Nat) (D : DG) : Prop where
  ex : ∃ (A : Option Addr) (c : Nat) (cs : Array Value) (t : TypeId), w.heap[r]? = some (.cells cs t (0, 0)) ∧ cs[0]? = some (.slice A D.length c) ∧ NS w F A D.length D
  far : ¬ F r
variable {r : Nat} {D : DG} {K : Value → World → Prop}
end
end Go.Proofs.YtgfkpemnkmebkaaDoor
/-
  The document's Add.
-/
namespace Go.Proofs.YtgfkpemnkmebkaaDoor
open Go Go.Lite Go.RowKit

section
variable {w w' : World} {F F' S : Nat → Prop} {A : Option Addr} {n c B : Nat} {l : List DN} {news : List Value} {r : Nat} {D : DG} {K : Value → World → Prop}
end
end Go.Proofs.YtgfkpemnkmebkaaDoor
/-
  The document's Past.
-/
namespace Go.Proofs.YtgfkpemnkmebkaaDoor
open Go Go.Lite Go.RowKit

section
variable {w w' w'' : World} {F S : Nat → Prop} {D : DG} {l out : List HT} {A1 A2 : Option Addr} {c1 c2 r : Nat} {K : Value → World → Prop}
theorem hbox (w : World) (x : HT) : HS (w.alloc (.cells (x.1.toList ++ []).toArray T_api_Hash)) (some ⟨w.heap.size, 0, none⟩) 1 [x] := by
  refine HS.one (t := T_api_Hash) (fr := (0, 0)) ?_
  rw [List.append_nil, Array.toArray_toList]
  exact new_blk w _

end
end Go.Proofs.YtgfkpemnkmebkaaDoor
/-
  The document's Before, Apart, Future, Anticone, Children, Tips.
-/
namespace Go.Proofs.YtgfkpemnkmebkaaDoor
open Go Go.Lite Go.RowKit

section
variable {w w' w'' : World} {F S : Nat → Prop} {D : DG} {is : HT → Prop} {i : Nat} {l out : List HT} {A : Option Addr} {c r : Nat} {K : Value → World → Prop}
end
end Go.Proofs.YtgfkpemnkmebkaaDoor
/-
  The program's graph in memory; find, Has, Len, Root.
-/
namespace Go.Proofs.YtgfkpemnkmebkaaDoor
open Go Go.Lite Go.RowKit

/-- where a node lies, and its rows -/
structure NM where
  b : Nat
  pA : Option Addr
  pn : Nat
  pc : Nat
  cA : Option Addr
  cn : Nat
  cc : Nat
  rA : Option Addr
  rn : Nat
  rc : Nat
  ws : List Nat
def ncell (h : HT) (m : NM) : Array Value := h.1 ++ #[.slice m.pA m.pn m.pc, .slice m.cA m.cn m.cc, .slice m.rA m.rn m.rc]
theorem ncell_size (h : HT) (m : NM) : (ncell h m).size = 35 := by unfold ncell; rw [Array.size_append, h.2.1]; rfl
theorem ncell_id (h : HT) (m : NM) {j : Nat} {v : Value} (hj : h.1[j]? = some v) : (ncell h m)[j]? = some v := by
  unfold ncell
  rw [Array.getElem?_append_left (Array.getElem?_eq_some_iff.1 hj).1]
  exact hj
theorem ncell_33 (h : HT) (m : NM) : (ncell h m)[33]? = some (.slice m.cA m.cn m.cc) := by
  unfold ncell; rw [Array.getElem?_append_right (by rw [h.2.1]; omega), h.2.1]; rfl
theorem ncell_34 (h : HT) (m : NM) : (ncell h m)[34]? = some (.slice m.rA m.rn m.rc) := by
  unfold ncell; rw [Array.getElem?_append_right (by rw [h.2.1]; omega), h.2.1]; rfl
theorem ncell_inj {h h' : HT} {m m' : NM} (e : ncell h m = ncell h' m') : h = h' := by
  apply Subtype.ext
  have h1 := h.2.1
  have h2 := h'.2.1
  have := congrArg (fun a : Array Value => a.toList.take 32) e
  unfold ncell at this
  simp only [Array.toList_append] at this
  rw [List.take_left' (by simpa using h1), List.take_left' (by simpa using h2)] at this
  exact Array.ext' this

/-- a node: what it says (ch: its children) -/
structure NodeAt (w : World) (S F : Nat → Prop) (D : DG) (ch : List HT) (nd : DN) (m : NM) : Prop where
  blk : w.heap[m.b]? = some (.cells (ncell nd.id m) T_dag_node (0, 0))
  footB : S m.b
  ps : HS w m.pA m.pn nd.ps
  psF : ∀ a, m.pA = some a → F a.block
  ch : HRow w 0 m.cA m.cn m.cc ch
  chF : ∀ k, blkOf m.cA = some k → S k
  past : US w m.rA m.rn m.ws
  pastF : ∀ a, m.rA = some a → F a.block
  ok : okW m.ws
  bits : ∀ j, bit m.ws j = true ↔ ∃ nj, D[j]? = some nj ∧ Anc D nj.id nd.id
  small : m.rn ≤ 200
/-- a graph: S, what it may change; F, what it reads of and never changes; C, the children -/
structure GV (w : World) (S F : Nat → Prop) (g : Nat) (D : DG) (C : HT → List HT) (bl c mb : Nat) (M : List NM) : Prop where
  top : w.heap[g]? = some (.cells #[.slice (some ⟨bl, 0, none⟩) D.length c, .map (some mb)] T_dag_Graph (0, 0))
  row : Row w 0 T_p_dag_node 1 (some ⟨bl, 0, none⟩) D.length c (M.map fun m => .pointer (some ⟨m.b, 0, none⟩))
  map : IsMap w mb (ids D)
  len : M.length = D.length
  node : ∀ (i : Nat) nd m, D[i]? = some nd → M[i]? = some m → NodeAt w S F D (C nd.id) nd m
  apart : ∀ (i j : Nat) m m', M[i]? = some m → M[j]? = some m' → i ≠ j → ∀ k, blkOf m.cA = some k → blkOf m'.cA ≠ some k
  footG : S g
  footL : S bl
  footM : S mb
  dis : ∀ k, S k → ¬ F k
  low : ∀ k, S k ∨ F k → k < w.heap.size
def IsG (w : World) (S F : Nat → Prop) (g : Nat) (D : DG) : Prop := ∃ bl c mb M, GV w S F g D (childL D) bl c mb M

section
variable {w w' : World} {S F S' F' : Nat → Prop} {g bl c mb : Nat} {D : DG} {C : HT → List HT} {M : List NM} {K : Value → World → Prop}
theorem NodeAt.keep {ch : List HT} {nd : DN} {m : NM} {S0 : Nat → Prop} (h : NodeAt w S F D ch nd m) (hk : Kept S0 w w') (hS : ∀ k, S k → ¬ S0 k) (hF : ∀ k, F k → ¬ S0 k) : NodeAt w' S F D ch nd m :=
  ⟨hk.heap h.blk (hS _ h.footB), h.footB, h.ps.keep hk (fun a ha => hF _ (h.psF a ha)), h.psF, Row.keep h.ch hk (fun k hb => hS k (h.chF k hb)), h.chF, h.past.keep hk (fun a ha => hF _ (h.pastF a ha)), h.pastF, h.ok, h.bits, h.small⟩
theorem GV.keep {S0 : Nat → Prop} (h : GV w S F g D C bl c mb M) (hk : Kept S0 w w') (hS : ∀ k, S k → ¬ S0 k) (hF : ∀ k, F k → ¬ S0 k) : GV w' S F g D C bl c mb M :=
  ⟨hk.heap h.top (hS _ h.footG), Row.keep h.row hk (fun k e => by cases e; exact hS _ h.footL), h.map.keep hk (hS _ h.footM), h.len, fun i nd m h1 h2 => (h.node i nd m h1 h2).keep hk hS hF, h.apart, h.footG, h.footL, h.footM, h.dis, fun k hk' => Nat.lt_of_lt_of_le (h.low k hk') hk.size⟩
theorem GV.same (h : GV w S F g D C bl c mb M) (hk : Kept Nil w w') : GV w' S F g D C bl c mb M := h.keep hk (fun _ _ h => h) (fun _ _ h => h)
theorem IsG.keep {S0 : Nat → Prop} (h : IsG w S F g D) (hk : Kept S0 w w') (hS : ∀ k, S k → ¬ S0 k) (hF : ∀ k, F k → ¬ S0 k) : IsG w' S F g D := let ⟨bl, c, mb, M, h⟩ := h; ⟨bl, c, mb, M, h.keep hk hS hF⟩
theorem IsG.same (h : IsG w S F g D) (hk : Kept Nil w w') : IsG w' S F g D := h.keep hk (fun _ _ h => h) (fun _ _ h => h)
theorem GV.get (h : GV w S F g D C bl c mb M) {i : Nat} {nd : DN} (hi : D[i]? = some nd) : ∃ m, M[i]? = some m ∧ NodeAt w S F D (C nd.id) nd m := by
  have := (List.getElem?_eq_some_iff.1 hi).1
  have hl := h.len
  exact ⟨M[i], List.getElem?_eq_getElem (by omega), h.node i nd _ hi (List.getElem?_eq_getElem (by omega))⟩
theorem GV.nodes (h : GV w S F g D C bl c mb M) : w.cell? ((⟨g, 0, none⟩ : Addr).add 0) = some (.slice (some ⟨bl, 0, none⟩) D.length c) := by rw [add_zero, cell_blk h.top]; rfl
theorem GV.at_ (h : GV w S F g D C bl c mb M) : w.cell? ((⟨g, 0, none⟩ : Addr).add 1) = some (.map (some mb)) := by rw [add_at, cell_blk h.top]; rfl
theorem GV.ptr (h : GV w S F g D C bl c mb M) {i : Nat} {m : NM} (hm : M[i]? = some m) : w.cell? ((⟨bl, 0, none⟩ : Addr).add (i * 1)) = some (.pointer (some ⟨m.b, 0, none⟩)) := by
  rw [add_at, Nat.zero_add, Nat.mul_one]
  exact Row.cell h.row (by rw [List.getElem?_map, hm]; rfl)

theorem dag_there (h : GV w S F g D C bl c mb M) (hK : K (.bool true) w) : Ret Tryd.prog dag_Graph_there.id #[.pointer (some ⟨g, 0, none⟩)] w K :=
  dag_Graph_there.of (Split.yes rfl ⟨some mb, h.at_, hK⟩)
/-- what find answers -/
def Found (D : DG) (M : List NM) (h : HT) (x : Option Addr) : Prop := (x = none ∧ h ∉ ids D) ∨ ∃ (i : Nat) (nd : DN) (m : NM), D[i]? = some nd ∧ nd.id = h ∧ M[i]? = some m ∧ x = some ⟨m.b, 0, none⟩
theorem Found.isSome {h : HT} {x : Option Addr} (f : Found D M h x) : (!x.isNone) = decide (h ∈ ids D) := by
  rcases f with ⟨rfl, hn⟩ | ⟨i, nd, m, h1, h2, _, rfl⟩
  · rw [decide_eq_false hn]; rfl
  · rw [decide_eq_true (ids_mem.2 ⟨nd, List.mem_of_getElem? h1, h2⟩)]; rfl
theorem dag_find (G : GV w S F g D C bl c mb M) (h : HT) (hK : ∀ w' x, Kept Nil w w' → Found D M h x → K (.pointer x) w') :
    Ret Tryd.prog dag_Graph_find.id #[.pointer (some ⟨g, 0, none⟩), .agg h.1] w K := by
  refine dag_Graph_find.of ?_
  unfold dag_Graph_find.W
  intro w3
  have k3 : Kept Nil w w3 := (Kept.refl _ _).alloc _
  have hb3 : w3.heap[w.heap.size]? = some (.cells h.1 T_api_Hash (0, 0)) := new_blk w _
  clear_value w3
  refine dag_there (G.same k3) ⟨true, rfl, Split.yes rfl ?_⟩
  intro w7
  have k7 : Kept Nil w3 w7 := (Kept.refl _ _).drew
  clear_value w7
  have kw : Kept Nil w w7 := k3.trans k7 (fun _ _ h => h)
  have G7 := G.same kw
  refine ⟨some mb, G7.at_, h.1, ⟨h.2.1, Cells.blk (k7.heap hb3 (fun h => h))⟩, _, _, G7.map.look h, ?_⟩
  cases hp : pos h (ids D) 0 with
  | none => exact Split.no rfl (hK w7 none kw (.inl ⟨rfl, pos_none.1 hp⟩))
  | some i =>
    obtain ⟨_, hi⟩ := pos_some hp
    obtain ⟨nd, h1, h2⟩ := ids_at hi
    rw [Nat.sub_zero] at h1
    obtain ⟨m, hm, _⟩ := G7.get h1
    have hil := (List.getElem?_eq_some_iff.1 h1).1
    refine Split.yes rfl ⟨_, _, _, G7.nodes, ⟨by simp, by simp only [Option.getD_some]; omega⟩, some ⟨m.b, 0, none⟩, ?_, hK w7 _ kw (.inr ⟨i, nd, m, h1, h2, hm, rfl⟩)⟩
    rw [Option.getD_some, Int.toNat_natCast]
    exact G7.ptr hm
theorem dag_Has (G : GV w S F g D C bl c mb M) (h : HT) (hK : ∀ w', Kept Nil w w' → K (.bool (decide (h ∈ ids D))) w') :
    Ret Tryd.prog dag_Graph_Has.id #[.pointer (some ⟨g, 0, none⟩), .agg h.1] w K := by
  refine dag_Graph_Has.of ?_
  unfold dag_Graph_Has.W
  intro w3
  have k3 : Kept Nil w w3 := (Kept.refl _ _).alloc _
  have hb3 : w3.heap[w.heap.size]? = some (.cells h.1 T_api_Hash (0, 0)) := new_blk w _
  clear_value w3
  refine ⟨h.1, ⟨h.2.1, Cells.blk hb3⟩, dag_find (G.same k3) h fun w6 x k6 hx => ⟨x, rfl, ?_⟩⟩
  rw [hx.isSome]
  exact hK w6 (k3.trans k6 (fun _ _ h => h))
end
end Go.Proofs.YtgfkpemnkmebkaaDoor
/-
  pick, by each of its three askers. Written by our dg2.py.
-/
namespace Go.Proofs.YtgfkpemnkmebkaaDoor
open Go Go.Lite Go.RowKit
section
variable {w w' : World} {S F : Nat → Prop} {g bl c mb : Nat} {D : DG} {C : HT → List HT} {M : List NM} {K : Value → World → Prop}
end
end Go.Proofs.YtgfkpemnkmebkaaDoor
/-
  The program's Before, Parents, Children, Tips, Future, Anticone.
-/
namespace Go.Proofs.YtgfkpemnkmebkaaDoor
open Go Go.Lite Go.RowKit

section
variable {w w' : World} {S F : Nat → Prop} {g bl c mb : Nat} {D : DG} {C : HT → List HT} {M : List NM} {K : Value → World → Prop}
theorem node_past {D : DG} {nd : DN} {m : NM} {ch : List HT} (N : NodeAt w S F D ch nd m) : w.cell? ((⟨m.b, 0, none⟩ : Addr).add 34) = some (.slice m.rA m.rn m.rc) := by
  rw [add_at, Nat.zero_add, cell_blk N.blk]; exact ncell_34 _ _
theorem node_ch {D : DG} {nd : DN} {m : NM} {ch : List HT} (N : NodeAt w S F D ch nd m) : w.cell? ((⟨m.b, 0, none⟩ : Addr).add 33) = some (.slice m.cA m.cn m.cc) := by
  rw [add_at, Nat.zero_add, cell_blk N.blk]; exact ncell_33 _ _
end
end Go.Proofs.YtgfkpemnkmebkaaDoor
/-
  The program's Past.
-/
namespace Go.Proofs.YtgfkpemnkmebkaaDoor
open Go Go.Lite Go.RowKit

def idAt (D : DG) (j : Nat) : HT := match D[j]? with | some nd => nd.id | none => default
theorem nums_nodup : ∀ (ws : List Nat) (k : Nat), okW ws → (nums k ws).Nodup
  | [], _, _ => List.Pairwise.nil
  | x :: ws, k, ho => by
    have hx := ho x (by simp)
    have ho' : okW ws := fun y hy => ho y (by simp [hy])
    obtain ⟨_, h2, h3⟩ := lows_spec x hx
    rw [nums, List.nodup_append]
    refine ⟨List.Pairwise.map _ (fun a b hab e => hab (by omega)) h2, nums_nodup ws (k + 1) ho', fun a ha b hb e => ?_⟩
    rw [List.mem_map] at ha
    obtain ⟨t, ht, rfl⟩ := ha
    have := ((mem_nums ws (k + 1) b ho').1 hb).1
    have := h3 t ht
    omega

section
variable {w w' : World} {S F : Nat → Prop} {g bl c mb : Nat} {D : DG} {C : HT → List HT} {M : List NM} {K : Value → World → Prop}
theorem dag_Past (G : GV w S F g D C bl c mb M) (W : WfD D) (hD : D.length ≤ 10000) (hT : Tab w) {A : Option Addr} {n cx : Nat} {l : List HT} (hl : HS w A n l) (hn : n ≤ 10000)
    (hK : ∀ A' c' w', HRow w' w.heap.size A' (pastsL D l).length c' (pastsL D l) → Kept Nil w w' → K (.slice A' (pastsL D l).length c') w') :
    Ret Tryd.prog dag_Graph_Past.id #[.pointer (some ⟨g, 0, none⟩), .slice A n cx] w K := by
  have hlen := hl.len
  refine dag_Graph_Past.of ?_
  unfold dag_Graph_Past.W
  intro w3
  have k3 : Kept Nil w w3 := (Kept.refl _ _).alloc _
  have hg3 : w3.heap[w.heap.size]? = some (.cells #[.pointer (some ⟨g, 0, none⟩)] T_p_dag_Graph (0, 0)) := new_blk w _
  have hs3 : w.heap.size < w3.heap.size := lt_blk hg3
  clear_value w3
  refine dag_Graph_Past.loop1 (I := fun s w' => ∃ (i : Nat) (A' : Option Addr) (n' c' : Nat) (ws : List Nat), s = (A', n', c', (i : Int)) ∧ i ≤ n ∧ URow w' w3.heap.size A' n' c' ws ∧ okW ws ∧ n' ≤ 200 ∧ (∀ j, bit ws j = true ↔ ∃ h ∈ l.take i, ∃ nj, D[j]? = some nj ∧ Anc D nj.id h) ∧ Kept Nil w3 w')
    (μ := fun s _ => ((n : Int) - s.2.2.2).toNat) (s := (none, 0, 0, 0)) ⟨0, none, 0, 0, [], rfl, Nat.zero_le _, Row.nil _ _ _ _, by simp [okW], by omega, by simp [bit_nil], Kept.refl _ _⟩ ?_
  rintro s w' ⟨i, A', n', c', ws, rfl, hi, row, ho, hn', hbit, kw⟩
  have kk : Kept Nil w w' := k3.trans kw (fun _ _ h => h)
  refine Split.dec (fun hil0 => ?_) (fun hge => ?_)
  · simp only at hil0
    have hil : i < n := by omega
    obtain ⟨h, hh⟩ : ∃ h, l[i]? = some h := ⟨_, List.getElem?_eq_getElem (by omega)⟩
    refine (hl.same kk).load (i := (i : Int)) (by omega) hh ?_
    intro w12
    obtain ⟨hwr, hbx, hkx⟩ := box_set (w := w') (z := (#[.int .u8 0, .int .u8 0, .int .u8 0, .int .u8 0, .int .u8 0, .int .u8 0, .int .u8 0, .int .u8 0, .int .u8 0, .int .u8 0, .int .u8 0, .int .u8 0, .int .u8 0, .int .u8 0, .int .u8 0, .int .u8 0, .int .u8 0, .int .u8 0, .int .u8 0, .int .u8 0, .int .u8 0, .int .u8 0, .int .u8 0, .int .u8 0, .int .u8 0, .int .u8 0, .int .u8 0, .int .u8 0, .int .u8 0, .int .u8 0, .int .u8 0, .int .u8 0] : Array Value)) (cs := h.1) (t := T_api_Hash) (by rw [h.2.1]; rfl)
    refine ⟨⟨h.2.1, h.2.one, fun j hj => hwr j (by rw [h.2.1]; exact hj)⟩, ?_⟩
    intro w15
    replace hbx : w15.heap[w'.heap.size]? = some (.cells h.1 T_api_Hash (0, 0)) := hbx
    replace hkx : Kept Nil w' w15 := hkx
    clear_value w15
    have k15 : Kept Nil w3 w15 := kw.trans hkx (fun _ _ h => h)
    refine ⟨some ⟨g, 0, none⟩, by rw [cell_blk (k15.heap hg3 (fun h => h))]; rfl, h.1, ⟨h.2.1, Cells.blk hbx⟩, ?_⟩
    refine dag_find (G.same (k3.trans k15 (fun _ _ h => h))) h fun w19 x k19 hx => ⟨x, rfl, ?_⟩
    have k319 : Kept Nil w3 w19 := k15.trans k19 (fun _ _ h => h)
    have kw19 : Kept Nil w w19 := k3.trans k319 (fun _ _ h => h)
    have row19 : URow w19 w3.heap.size A' n' c' ws := Row.keep row (hkx.trans k19 (fun _ _ h => h)) (fun _ _ h => h)
    rcases hx with ⟨rfl, hno⟩ | ⟨q, nd, m', hq, rfl, hm', rfl⟩
    · refine Split.no rfl ?_
      simp only
      rw [wrapP (n := (i : Int)) (by omega) (by omega)]
      refine ⟨(A', n', c', (i : Int) + 1), rfl, ⟨i + 1, A', n', c', ws, rfl, hil, row19, ho, hn', fun j => ?_, k319⟩, by simp only; omega⟩
      rw [hbit]
      constructor
      · rintro ⟨h', h1, h2⟩; exact ⟨h', (mem_take_succ hh).2 (.inl h1), h2⟩
      · rintro ⟨h', h1, nj, h2, h3⟩
        rcases (mem_take_succ hh).1 h1 with h1 | rfl
        · exact ⟨h', h1, nj, h2, h3⟩
        · exact absurd (h3.mem W).2 hno
    · obtain ⟨m, hm, N⟩ := (G.same kw19).get hq
      rw [hm'] at hm
      cases hm
      refine Split.yes rfl ⟨_, _, _, node_past N, ?_⟩
      have hsm := N.small
      have hA' : ∀ k, blkOf A' = some k → w3.heap.size ≤ k := fun k hk => (Row.blk row19 hk).1
      refine row_or_ok row19 ho (by omega) k319.size N.past N.ok (by omega) (fun a ha k hk e => ?_) fun A2 n2 c2 l2 w24 row24 ho24 hn24 hbit24 k24 hb24 => ⟨A2, n2, c2, rfl, ?_⟩
      · have h1 := G.low a.block (.inr (N.pastF a ha))
        have h2 := hA' k hk
        omega
      · simp only
        rw [wrapP (n := (i : Int)) (by omega) (by omega)]
        refine ⟨(A2, n2, c2, (i : Int) + 1), rfl, ⟨i + 1, A2, n2, c2, l2, rfl, hil, row24, ho24, by omega, fun j => ?_, k319.trans k24 (fun k hk e => absurd (hA' k e) (by omega))⟩, by simp only; omega⟩
        rw [hbit24, Bool.or_eq_true, hbit, N.bits]
        constructor
        · rintro (⟨h', h1, h2⟩ | h2)
          · exact ⟨h', (mem_take_succ hh).2 (.inl h1), h2⟩
          · exact ⟨nd.id, (mem_take_succ hh).2 (.inr rfl), h2⟩
        · rintro ⟨h', h1, h2⟩
          rcases (mem_take_succ hh).1 h1 with h1 | rfl
          · exact .inl ⟨h', h1, h2⟩
          · exact .inr h2
  · simp only at hge
    have hie : i = n := by omega
    subst hie
    rw [List.take_of_length_le (by omega)] at hbit
    rw [roundQ_exit, dag_Graph_Past.x1_0]
    unfold dag_Graph_Past.X1_0
    intro w32
    have k32 : Kept Nil w' w32 := (Kept.refl _ _).alloc _
    have ho32 : w32.heap[w'.heap.size]? = some (.cells #[.slice none 0 0] T_sl_api_Hash (0, 0)) := new_blk w' _
    clear_value w32
    refine dag_row_all.of ?_
    unfold dag_row_all.W
    intro w34
    have k34 : Kept Nil w32 w34 := (Kept.refl _ _).alloc _
    have hr34 : w34.heap[w32.heap.size]? = some (.cells #[.slice A' n' c'] T_dag_row (0, 0)) := new_blk w32 _
    clear_value w34
    refine ⟨_, rfl, ?_⟩
    have ho34 := k34.heap ho32 (fun h => h)
    have k334 : Kept Nil w3 w34 := (kw.trans k32 (fun _ _ h => h)).trans k34 (fun _ _ h => h)
    have kw34 : Kept Nil w w34 := k3.trans k334 (fun _ _ h => h)
    have row34 : URow w34 w3.heap.size A' n' c' ws := Row.keep (Row.keep row k32 (fun _ _ h => h)) k34 (fun _ _ h => h)
    have hg34 := k334.heap hg3 (fun h => h)
    have hob : w.heap.size < w'.heap.size := Nat.lt_of_lt_of_le hs3 kw.size
    have hs34 : w'.heap.size < w34.heap.size := lt_blk ho34
    have hs32 : w32.heap.size < w34.heap.size := lt_blk hr34
    -- the numbers are places
    have hplace : ∀ j ∈ nums 0 ws, ∃ nj, D[j]? = some nj := fun j hj => by
      have := ((mem_nums ws 0 j ho).1 hj).2
      rw [Nat.mul_zero, Nat.sub_zero] at this
      obtain ⟨_, _, nj, h1, _⟩ := (hbit j).1 this
      exact ⟨nj, h1⟩
    have hnl : (nums 0 ws).length ≤ D.length := by
      have := nodupN_len (m := List.range D.length) (nums_nodup ws 0 ho) (fun j hj => by
        obtain ⟨nj, h1⟩ := hplace j hj
        exact List.mem_range.2 (List.getElem?_eq_some_iff.1 h1).1)
      rwa [List.length_range] at this
    let xs := nums 0 ws
    let ρ0 : Env := [(2, .pointer (some (⟨w.heap.size, 0, none⟩ : Addr))), (4, .slice none 0 0), (9, .pointer (some (⟨w'.heap.size, 0, none⟩ : Addr))), (30, .func (.func dag_row_all_fn1.id) #[] #[.pointer (some (⟨w32.heap.size, 0, none⟩ : Addr))])]
    let J : Nat → World → Prop := fun i v => ∃ A c, v.heap[w'.heap.size]? = some (.cells #[.slice A i c] T_sl_api_Hash (0, 0)) ∧ HRow v w34.heap.size A i c ((xs.take i).map (idAt D)) ∧ Kept (· = w'.heap.size) w34 v ∧ i ≤ xs.length
    have hpre : ∀ i v, J i v → US v A' n' ws ∧ v.cell? ⟨w32.heap.size, 0, none⟩ = some (.slice A' n' c') ∧ Tab v := by
      rintro i v ⟨A, c, h1, h2, h3, h4⟩
      refine ⟨row34.us.keep h3 (fun a ha e => ?_), by rw [cell_blk (h3.heap hr34 (by have := lt_blk ho32; omega))]; rfl, (hT.same kw34).keep h3 (fun e => by have := hT.lt; omega)⟩
      have hk : blkOf A' = some a.block := by rw [ha]; rfl
      obtain ⟨_, cur, hc⟩ := Row.blk row hk
      have := lt_blk hc
      omega
    refine range_iter (ρ := ρ0) (ρ0 := ρ0) ng mix dag_Graph_Past.k (t := 30) (ps := #[31]) (by kernel_rfl) (by decide) rfl dag_row_all_fn1.at_ rfl (.inl rfl) (fun i v _ h => h) rfl encI xs (fun _ => rfl) (by simp [dkey]) (all_iter ⟨w32.heap.size, 0, none⟩ (c := c') (by omega) ho) J (fun _ _ => False) ?_ (fun _ _ _ _ _ h => h.elim) hpre ?_ ?_ ?_ (fun _ _ h => h.elim) (fun _ _ _ h => h.elim)
    · rintro i v v' R hlv ⟨A, c, h1, h2, h3, h4⟩ hk
      exact ⟨A, c, hk.heap h1 (ne_loop h1 hlv.loop), Row.apart h2 hk (fun cs t fr h => by rw [hlv.loop] at h; cases h), h3.trans hk (fun k hk e => by omega), h4⟩
    · intro R
      exact ⟨none, 0, old_blk (old_blk ho34 _) _, HRow.nil _ _, (((Kept.refl _ _).alloc _).alloc _), Nat.zero_le _⟩
    · rintro i x v R hx hj hlv
      have hJ := hj
      obtain ⟨A, c, h1, h2, h3, h4⟩ := hj
      have hil : i < xs.length := (List.getElem?_eq_some_iff.1 hx).1
      have e7 : putAll ρ0 ((#[31] : Array Nat).toList.zip (encI x)) = [(2, .pointer (some (⟨w.heap.size, 0, none⟩ : Addr))), (4, .slice none 0 0), (9, .pointer (some (⟨w'.heap.size, 0, none⟩ : Addr))), (30, .func (.func dag_row_all_fn1.id) #[] #[.pointer (some (⟨w32.heap.size, 0, none⟩ : Addr))]), (31, .int .i64 (x : Int))] := rfl
      rw [e7, dag_Graph_Past.a1]
      unfold dag_Graph_Past.A1
      refine ⟨hlv, fun w2 R2 hk2 hl2 => ?_⟩
      have h12 := hk2.heap h1 (ne_loop h1 hlv.loop)
      have h22 : HRow w2 w34.heap.size A i c ((xs.take i).map (idAt D)) := Row.apart h2 hk2 (fun cs t fr h => by rw [hlv.loop] at h; cases h)
      have h32 : Kept (· = w'.heap.size) w34 w2 := h3.trans hk2 (fun k hk e => by omega)
      clear hJ h1 h2 h3
      rw [dag_Graph_Past.y1]
      unfold dag_Graph_Past.Y1
      intro w44
      have k44 : Kept Nil w2 w44 := (Kept.refl _ _).drew
      clear_value w44
      have h144 := k44.heap h12 (fun h => h)
      have k3444 : Kept (· = w'.heap.size) w34 w44 := h32.trans k44 (fun _ _ h => h.elim)
      obtain ⟨nj, hnj⟩ := hplace x (List.mem_of_getElem? hx)
      have hxl := (List.getElem?_eq_some_iff.1 hnj).1
      have kww : Kept Nil w w44 := kw34.trans k3444 (fun k hk e => by omega)
      obtain ⟨m, hm, N⟩ := (G.same kww).get hnj
      refine ⟨A, i, c, by rw [cell_blk h144]; rfl, some ⟨g, 0, none⟩, by rw [cell_blk (k3444.heap hg34 (by omega))]; rfl, ?_⟩
      refine ⟨_, _, _, (G.same kww).nodes, ⟨by omega, by omega⟩, some ⟨m.b, 0, none⟩, by rw [Int.toNat_natCast]; exact (G.same kww).ptr hm, ?_⟩
      refine ⟨nj.id.1, ⟨nj.id.2.1, fun j v hj => ?_⟩, nj.id.2.1, ?_⟩
      · rw [add_zero, add_at, Nat.zero_add, cell_blk N.blk]
        exact ncell_id _ _ hj
      intro w53
      have k53 : Kept Nil w44 w53 := (Kept.refl _ _).alloc _
      have hbox : HS w53 (some ⟨w44.heap.size, 0, none⟩) 1 [nj.id] := hbox w44 nj.id
      clear_value w53
      have h153 := k53.heap h144 (fun h => h)
      refine ⟨by rw [cell_blk h153]; rfl, ?_⟩
      have h253 : HRow w53 w34.heap.size A i c ((xs.take i).map (idAt D)) := Row.keep (Row.keep h22 k44 (fun _ _ h => h)) k53 (fun _ _ h => h)
      have hsz53 : w34.heap.size ≤ w53.heap.size := Nat.le_trans k3444.size k53.size
      have hxs : xs.length ≤ D.length := hnl
      obtain ⟨A2, c2, w55, hr, row55, hg55, hb55⟩ := append_hs (cx := 1) T_sl_api_Hash h253 hbox (by omega) hsz53
      have hgk : Kept (fun k => blkOf A = some k) w53 w55 := Kept.grown (Kept.refl _ _) hg55 (fun k hk _ => hk)
      have hAob : ∀ k, blkOf A = some k → w34.heap.size ≤ k := fun k hk => (Row.blk h253 hk).1
      have h155 := hgk.heap h153 (fun e => by have := hAob _ e; omega)
      have hl55 : Live (w34.heap.size + 1) w34.heap.size R2 w55 := by
        have hl53 := (hl2.keep k44 (fun h => h) (fun h => h)).keep k53 (fun h => h) (fun h => h)
        refine hl53.keep hgk ?_ ?_
        · intro h
          obtain ⟨_, cur, hc⟩ := Row.blk h253 h
          exact ne_loop hc hl53.loop rfl
        · intro h
          obtain ⟨_, cur, hc⟩ := Row.blk h253 h
          exact ne_mark hc hl53.mark rfl
      refine ⟨A2, _, c2, w55, hr, wr_blk h155 (by simp), ?_⟩
      intro w56
      have k56 : Kept (· = w'.heap.size) w55 w56 := Kept.setCell (S := fun k => k = w'.heap.size) (Kept.refl _ w55) (p := ⟨w'.heap.size, 0, none⟩) (fun _ => rfl) _
      have hb56 : w56.heap[w'.heap.size]? = some (.cells #[.slice A2 (i + 1) c2] T_sl_api_Hash (0, 0)) := set_blk h155 0 _
      clear_value w56
      refine ⟨hl55.keep k56 (by omega) (by omega), A2, c2, hb56, ?_, ((k3444.trans k53 (fun _ _ h => h.elim)).trans hgk (fun k hk e => absurd (hAob k e) (by omega))).trans k56 (fun _ _ h => h), hil⟩
      have e : (xs.take (i + 1)).map (idAt D) = (xs.take i).map (idAt D) ++ [nj.id] := by
        rw [List.take_add_one, hx]
        simp [idAt, hnj]
      rw [e]
      exact Row.keep row55 k56 (fun k hk e => by have := (Row.blk row55 hk).1; omega)
    · rintro v R ⟨A, c, h1, h2, h3, h4⟩ hlv
      have e7 : addMark ρ0 w34.heap.size = [(2, .pointer (some (⟨w.heap.size, 0, none⟩ : Addr))), (4, .slice none 0 0), (9, .pointer (some (⟨w'.heap.size, 0, none⟩ : Addr))), (30, .func (.func dag_row_all_fn1.id) #[] #[.pointer (some (⟨w32.heap.size, 0, none⟩ : Addr))]), (4294967296, .agg #[.pointer (some ⟨w34.heap.size, 0, none⟩)])] := rfl
      rw [e7, dag_Graph_Past.z1_normal]
      rw [List.take_of_length_le (Nat.le_refl _)] at h2
      have hxs : xs.length ≤ D.length := hnl
      refine ⟨A, xs.length, c, by rw [cell_blk h1]; rfl, dag_Sorted_ok h2.hs (by omega) fun A2 c2 w59 row59 k59 => ⟨A2, _, c2, rfl, ⟨k59.heap hlv.mark (fun h => h), trivial⟩, ?_⟩⟩
      have hmk := k59.heap hlv.mark (fun h => h)
      have kp : Kept (· = w34.heap.size) w59 (w59.putObj w34.heap.size (.deferred none)) := Kept.putAt _ _ _
      have e : srt (xs.map (idAt D)) = pastsL D l := pick_of fun a => by
        rw [List.mem_map]
        constructor
        · rintro ⟨j, hj, rfl⟩
          have hb := ((mem_nums ws 0 j ho).1 hj).2
          rw [Nat.mul_zero, Nat.sub_zero] at hb
          obtain ⟨h', h1', nj, h2', h3'⟩ := (hbit j).1 hb
          have : idAt D j = nj.id := by unfold idAt; rw [h2']
          rw [this]
          exact ⟨(h3'.mem W).1, h', h1', h3'⟩
        · rintro ⟨ha, h', hh', hanc⟩
          obtain ⟨nj, hnm, rfl⟩ := ids_mem.1 ha
          obtain ⟨j, hj⟩ := List.mem_iff_getElem?.1 hnm
          refine ⟨j, (mem_nums ws 0 j ho).2 ⟨by omega, ?_⟩, by unfold idAt; rw [hj]⟩
          rw [Nat.mul_zero, Nat.sub_zero]
          exact (hbit j).2 ⟨h', hh', nj, hj, hanc⟩
      rw [e] at row59 ⊢
      have kall : Kept Nil w w59 := (kw34.trans h3 (fun k hk e => by omega)).trans k59 (fun _ _ h => h)
      have hws : w.heap.size ≤ v.heap.size := Nat.le_trans kw34.size h3.size
      refine hK A2 c2 _ (Row.base (Row.apart row59 kp (fun cs t fr h => by rw [hmk] at h; cases h)) fun b hb => Nat.le_trans hws (Row.blk row59 hb).1) (kall.trans kp (fun k hk e => by omega))
end
end Go.Proofs.YtgfkpemnkmebkaaDoor
/-
  Are all there? And a node whose children are laid anew.
-/
namespace Go.Proofs.YtgfkpemnkmebkaaDoor
open Go Go.Lite Go.RowKit

section
variable {w w' : World} {S F : Nat → Prop} {g bl c mb gb : Nat} {D : DG} {C : HT → List HT} {M : List NM} {K : Value → World → Prop}
theorem contains_ok (G : GV w S F g D C bl c mb M) (hg : w.heap[gb]? = some (.cells #[.pointer (some ⟨g, 0, none⟩)] T_p_dag_Graph (0, 0))) {A : Option Addr} {n cx : Nat} {l : List HT} (hl : HS w A n l) (hn : n ≤ 400000)
    (hK : ∀ w' (x : Bool), (x = true ↔ ∃ p ∈ l, p ∉ ids D) → Kept Nil w w' → K (.bool x) w') :
    Ret Tryd.prog slices_ContainsFunc_of_api_Hash.id #[.slice A n cx, .func (.func dag_Graph_Add_fn1.id) #[] #[.pointer (some ⟨gb, 0, none⟩)]] w K := by
  have hlen := hl.len
  refine slices_ContainsFunc_of_api_Hash__dag_Graph_Add_fn1.of (slices_IndexFunc_of_api_Hash__dag_Graph_Add_fn1.of ?_)
  refine slices_IndexFunc_of_api_Hash__dag_Graph_Add_fn1.loop1 (I := fun s w' => ∃ i : Nat, s = (0, (i : Int)) ∧ i ≤ n ∧ (∀ p ∈ l.take i, p ∈ ids D) ∧ Kept Nil w w') (μ := fun s _ => ((n : Int) - s.2).toNat) (s := (0, 0)) ⟨0, rfl, Nat.zero_le _, by simp, Kept.refl _ _⟩ ?_
  rintro s w' ⟨i, rfl, hi, hall, kw⟩
  refine Split.dec (fun hil0 => ?_) (fun hge => ?_)
  · simp only at hil0
    have hil : i < n := by omega
    obtain ⟨x, hx⟩ : ∃ x, l[i]? = some x := ⟨_, List.getElem?_eq_getElem (by omega)⟩
    refine (hl.same kw).load (i := (i : Int)) (by omega) hx ?_
    refine dag_Graph_Add_fn1.of ?_
    unfold dag_Graph_Add_fn1.W
    intro w3
    have k3 : Kept Nil w' w3 := (Kept.refl _ _).alloc _
    have hb3 : w3.heap[w'.heap.size]? = some (.cells x.1 T_api_Hash (0, 0)) := new_blk w' _
    clear_value w3
    have kw3 := kw.trans k3 (fun _ _ h => h)
    refine ⟨some ⟨g, 0, none⟩, by rw [cell_blk (kw3.heap hg (fun h => h))]; rfl, x.1, ⟨x.2.1, Cells.blk hb3⟩, dag_Has (G.same kw3) x fun w7 k7 => ⟨_, rfl, _, rfl, ?_⟩⟩
    have kw7 := kw3.trans k7 (fun _ _ h => h)
    by_cases hm : x ∈ ids D
    · refine Split.no (by rw [decide_eq_true hm]; rfl) ?_
      simp only
      rw [wrapP (n := (i : Int)) (by omega) (by omega)]
      refine ⟨(0, (i : Int) + 1), rfl, ⟨i + 1, rfl, hil, fun p hp => ?_, kw7⟩, by simp only; omega⟩
      rcases (mem_take_succ hx).1 hp with hp | rfl
      · exact hall p hp
      · exact hm
    · refine Split.yes (by rw [decide_eq_false hm]; rfl) ?_
      refine ⟨(i : Int), rfl, ?_⟩
      exact hK w7 _ ⟨fun _ => ⟨x, List.mem_of_getElem? hx, hm⟩, fun _ => decide_eq_true (by omega)⟩ kw7
  · simp only at hge
    rw [roundQ_exit, slices_IndexFunc_of_api_Hash__dag_Graph_Add_fn1.x1_0]
    rw [List.take_of_length_le (by omega)] at hall
    exact ⟨-1, rfl, hK w' _ ⟨fun h => absurd (of_decide_eq_true h) (by omega), fun ⟨p, hp, hn⟩ => absurd (hall p hp) hn⟩ kw⟩

theorem ne_typ {w : World} {a b : Nat} {ca cb : Array Value} {ta tb : TypeId} {fa fb : Nat × Nat} (ha : w.heap[a]? = some (.cells ca ta fa)) (hb : w.heap[b]? = some (.cells cb tb fb)) (hne : ta ≠ tb) : a ≠ b := by
  rintro rfl
  rw [ha] at hb
  simp only [Option.some.injEq, Obj.cells.injEq] at hb
  exact hne hb.2.1
/-- a node's children are laid anew -/
theorem GV.upd (G : GV w S F g D C bl c mb M) (W : WfD D) {q : Nat} {nd : DN} {m : NM} (hq : D[q]? = some nd) (hm : M[q]? = some m) {A5 : Option Addr} {n5 c5 : Nat} {ch' : List HT}
    (kT : Kept (fun k => blkOf m.cA = some k ∨ k = m.b) w w') (hb : w'.heap[m.b]? = some (.cells (ncell nd.id { m with cA := A5, cn := n5, cc := c5 }) T_dag_node (0, 0))) (hrow : HRow w' w.heap.size A5 n5 c5 ch') :
    GV w' (fun k => S k ∨ blkOf A5 = some k) F g D (fun x => if x = nd.id then ch' else C x) bl c mb (M.set q { m with cA := A5, cn := n5, cc := c5 }) := by
  have N := G.node q nd m hq hm
  have hql : q < M.length := (List.getElem?_eq_some_iff.1 hm).1
  have hch : ∀ k, blkOf m.cA = some k → ∃ cur, w.heap[k]? = some (.cells cur T_api_Hash (0, 0)) := fun k hk => (Row.blk N.ch hk).2
  have hF : ∀ k, F k → ¬ (blkOf m.cA = some k ∨ k = m.b) := fun k hk e => by
    rcases e with e | rfl
    · exact G.dis k (N.chF k e) hk
    · exact G.dis _ N.footB hk
  have typ : ∀ {k : Nat} {cs : Array Value} {t : TypeId}, w.heap[k]? = some (.cells cs t (0, 0)) → t ≠ T_api_Hash → t ≠ T_dag_node → ¬ (blkOf m.cA = some k ∨ k = m.b) := fun h h1 h2 e => by
    rcases e with e | rfl
    · obtain ⟨cur, hc⟩ := hch _ e
      exact ne_typ h hc h1 rfl
    · exact ne_typ h N.blk h2 rfl
  have hA5 : ∀ k, blkOf A5 = some k → w.heap.size ≤ k := fun k hk => (Row.blk hrow hk).1
  have hget : ∀ (i : Nat) m', (M.set q { m with cA := A5, cn := n5, cc := c5 })[i]? = some m' → (i = q ∧ m' = { m with cA := A5, cn := n5, cc := c5 }) ∨ (i ≠ q ∧ M[i]? = some m') := fun i m' h => by
    by_cases e : i = q
    · subst e
      rw [List.getElem?_set_self hql] at h
      exact .inl ⟨rfl, (Option.some.inj h).symm⟩
    · rw [List.getElem?_set_ne (Ne.symm e)] at h
      exact .inr ⟨e, h⟩
  refine ⟨?_, ?_, ?_, by simpa using G.len, ?_, ?_, .inl G.footG, .inl G.footL, .inl G.footM, ?_, ?_⟩
  · exact kT.heap G.top (typ G.top (by decide) (by decide))
  · have hmap : (M.set q { m with cA := A5, cn := n5, cc := c5 }).map (fun m => Value.pointer (some ⟨m.b, 0, none⟩)) = M.map fun m => Value.pointer (some ⟨m.b, 0, none⟩) := by
      apply List.ext_getElem?
      intro i
      rw [List.getElem?_map, List.getElem?_map]
      by_cases e : i = q
      · subst e
        rw [List.getElem?_set_self hql, hm]
        rfl
      · rw [List.getElem?_set_ne (Ne.symm e)]
    rw [hmap]
    refine Row.keep G.row kT (fun k e => ?_)
    cases e
    obtain ⟨_, cur, hc⟩ := Row.blk G.row (k := bl) rfl
    exact typ hc (by decide) (by decide)
  · refine G.map.keep kT (fun e => ?_)
    obtain ⟨es, clock, hmp, _⟩ := G.map.ex
    rcases e with e | e
    · obtain ⟨cur, hc⟩ := hch _ e
      rw [hc] at hmp; cases hmp
    · rw [e, N.blk] at hmp; cases hmp
  · intro i nd' m' hi hm'
    rcases hget i m' hm' with ⟨rfl, rfl⟩ | ⟨hne, hm''⟩
    · rw [hq] at hi
      cases hi
      rw [if_pos rfl]
      exact ⟨hb, .inl N.footB, N.ps.keep kT (fun a ha => hF _ (N.psF a ha)), N.psF, Row.base hrow (fun _ _ => Nat.zero_le _), fun k hk => .inr hk, N.past.keep kT (fun a ha => hF _ (N.pastF a ha)), N.pastF, N.ok, N.bits, N.small⟩
    · have N' := G.node i nd' m' hi hm''
      have hid : nd'.id ≠ nd.id := fun e => hne (W.inj hi hq e)
      rw [if_neg hid]
      have hbne : m'.b ≠ m.b := fun e => by
        have h1 := N'.blk
        rw [e, N.blk] at h1
        simp only [Option.some.injEq, Obj.cells.injEq] at h1
        exact hid (ncell_inj h1.1).symm
      refine ⟨kT.heap N'.blk (fun e => ?_), .inl N'.footB, N'.ps.keep kT (fun a ha => hF _ (N'.psF a ha)), N'.psF, Row.keep N'.ch kT (fun k hk e => ?_), fun k hk => .inl (N'.chF k hk), N'.past.keep kT (fun a ha => hF _ (N'.pastF a ha)), N'.pastF, N'.ok, N'.bits, N'.small⟩
      · rcases e with e | e
        · obtain ⟨cur, hc⟩ := hch _ e
          exact ne_typ N'.blk hc (by decide) rfl
        · exact hbne e
      · rcases e with e | rfl
        · exact G.apart i q m' m hm'' hm hne k hk e
        · obtain ⟨cur, hc⟩ := (Row.blk N'.ch hk).2
          exact ne_typ hc N.blk (by decide) rfl
  · intro i j m1 m2 h1 h2 hij k hk1 hk2
    rcases hget i m1 h1 with ⟨rfl, rfl⟩ | ⟨hi, h1'⟩
    · rcases hget j m2 h2 with ⟨rfl, rfl⟩ | ⟨hj, h2'⟩
      · exact hij rfl
      · have := hA5 k hk1
        have hjl : j < D.length := by rw [← G.len]; exact (List.getElem?_eq_some_iff.1 h2').1
        obtain ⟨cur, hc⟩ := (Row.blk (G.node j _ m2 (List.getElem?_eq_getElem hjl) h2').ch hk2).2
        have := lt_blk hc
        omega
    · rcases hget j m2 h2 with ⟨rfl, rfl⟩ | ⟨hj, h2'⟩
      · have := hA5 k hk2
        have hil : i < D.length := by rw [← G.len]; exact (List.getElem?_eq_some_iff.1 h1').1
        obtain ⟨cur, hc⟩ := (Row.blk (G.node i _ m1 (List.getElem?_eq_getElem hil) h1').ch hk1).2
        have := lt_blk hc
        omega
      · exact G.apart i j m1 m2 h1' h2' hij k hk1 hk2
  · intro k hk hf
    rcases hk with hk | hk
    · exact G.dis k hk hf
    · have := hA5 k hk
      have := G.low k (.inr hf)
      omega
  · intro k hk
    rcases hk with (hk | hk) | hk
    · exact Nat.lt_of_lt_of_le (G.low k (.inl hk)) kT.size
    · obtain ⟨cur, hc⟩ := (Row.blk hrow hk).2
      exact lt_blk hc
    · exact Nat.lt_of_lt_of_le (G.low k (.inr hk)) kT.size
end
end Go.Proofs.YtgfkpemnkmebkaaDoor
/-
  The program's Add: the loop over the parents.
-/
namespace Go.Proofs.YtgfkpemnkmebkaaDoor
open Go Go.Lite Go.RowKit

theorem ncell_set33 (h : HT) (m : NM) (A : Option Addr) (n c : Nat) : (ncell h m).setIfInBounds 33 (.slice A n c) = ncell h { m with cA := A, cn := n, cc := c } := by
  have hs := h.2.1
  apply Array.ext_getElem?
  intro i
  unfold ncell
  rw [Array.getElem?_setIfInBounds, Array.getElem?_append, Array.getElem?_append]
  by_cases h1 : i < h.1.size
  · rw [if_neg (by omega), if_pos h1, if_pos h1]
  · rw [if_neg h1, if_neg h1]
    by_cases h2 : i = 33
    · subst h2
      rw [if_pos rfl, if_pos (by simp; omega), hs]
      rfl
    · rw [if_neg (Ne.symm h2), hs]
      match i - 32, show i - 32 ≠ 1 by omega with
      | 0, _ => rfl
      | 2, _ => rfl
      | (k + 3), _ => rfl
theorem ncell_set34 (h : HT) (m : NM) (A : Option Addr) (n c : Nat) : (ncell h m).setIfInBounds 34 (.slice A n c) = ncell h { m with rA := A, rn := n, rc := c } := by
  have hs := h.2.1
  apply Array.ext_getElem?
  intro i
  unfold ncell
  rw [Array.getElem?_setIfInBounds, Array.getElem?_append, Array.getElem?_append]
  by_cases h1 : i < h.1.size
  · rw [if_neg (by omega), if_pos h1, if_pos h1]
  · rw [if_neg h1, if_neg h1]
    by_cases h2 : i = 34
    · subst h2
      rw [if_pos rfl, if_pos (by simp; omega), hs]
      rfl
    · rw [if_neg (Ne.symm h2), hs]
      match i - 32, show i - 32 ≠ 2 by omega with
      | 0, _ => rfl
      | 1, _ => rfl
      | (k + 3), _ => rfl
section
variable {w w0 w' : World} {S F F1 S' : Nat → Prop} {g bl c mb gb ib nb : Nat} {D : DG} {C : HT → List HT} {M : List NM} {K : Value → World → Prop}
/-- the children, as far as the loop has come -/
noncomputable def kidsTo (D : DG) (h : HT) (l : List HT) : HT → List HT := fun x => if x ∈ l then srt (childL D x ++ [h]) else childL D x
/-- the loop of Add, i parents done -/
structure AL (w0 w' : World) (S F1 S' : Nat → Prop) (g : Nat) (D : DG) (h : HT) (l : List HT) (gb ib nb : Nat) (pA : Option Addr) (pc i bl c mb : Nat) (M : List NM) (rA : Option Addr) (rn rc : Nat) (ws : List Nat) : Prop where
  G : GV w' S' F1 g D (kidsTo D h (l.take i)) bl c mb M
  sub : ∀ k, S k → S' k
  new : ∀ k, S' k → S k ∨ w0.heap.size ≤ k
  node : w'.heap[nb]? = some (.cells (ncell h ⟨nb, pA, l.length, pc, none, 0, 0, rA, rn, rc, ws⟩) T_dag_node (0, 0))
  noN : ¬ S' nb
  row : URow w' nb rA rn rc ws
  ok : okW ws
  small : rn ≤ 200
  noR : ∀ k, blkOf rA = some k → ¬ S' k
  bits : ∀ j, bit ws j = true ↔ ∃ p ∈ l.take i, ∃ nj, D[j]? = some nj ∧ (nj.id = p ∨ Anc D nj.id p)
  gbx : w'.heap[gb]? = some (.cells #[.pointer (some ⟨g, 0, none⟩)] T_p_dag_Graph (0, 0))
  ibx : w'.heap[ib]? = some (.cells h.1 T_api_Hash (0, 0))
  noG : ¬ S' gb
  noI : ¬ S' ib
  hl : HS w' pA l.length l
  kp : Kept S w0 w'

theorem add_round {h : HT} {l : List HT} {pA : Option Addr} {pc i : Nat} {rA : Option Addr} {rn rc : Nat} {ws : List Nat} {Q : Post}
    (L : AL w0 w' S F1 S' g D h l gb ib nb pA pc i bl c mb M rA rn rc ws) (W : WfD D) (hD : D.length ≤ 10000) (hss : SS l) (hin : ∀ p ∈ l, p ∈ ids D) (hF1 : ∀ k, F1 k → k < nb) (hpF : ∀ a, pA = some a → F1 a.block) (h0 : w0.heap.size ≤ nb) (hil : i < l.length) (hll : l.length ≤ 10000)
    (hQ : ∀ S2 M rA rn rc ws v, AL w0 v S F1 S2 g D h l gb ib nb pA pc (i + 1) bl c mb M rA rn rc ws → Q .normal (dag_Graph_Add.e1 ⟨gb, 0, none⟩ ⟨ib, 0, none⟩ 0 ⟨nb, 0, none⟩ pA l.length pc (l.length : Int) ((i : Int) + 1)) v) :
    dag_Graph_Add.B1 ⟨gb, 0, none⟩ ⟨ib, 0, none⟩ 0 ⟨nb, 0, none⟩ pA l.length pc (l.length : Int) (i : Int) Q w' := by
  obtain ⟨p, hp⟩ : ∃ p, l[i]? = some p := ⟨_, List.getElem?_eq_getElem hil⟩
  have hpl := List.mem_of_getElem? hp
  have hpid := hin p hpl
  refine Split.yes (decide_eq_true (by omega)) ?_
  refine L.hl.load (i := (i : Int)) (by omega) hp ?_
  intro w33
  obtain ⟨hwr, hbx, hkx⟩ := box_set (w := w') (z := (#[.int .u8 0, .int .u8 0, .int .u8 0, .int .u8 0, .int .u8 0, .int .u8 0, .int .u8 0, .int .u8 0, .int .u8 0, .int .u8 0, .int .u8 0, .int .u8 0, .int .u8 0, .int .u8 0, .int .u8 0, .int .u8 0, .int .u8 0, .int .u8 0, .int .u8 0, .int .u8 0, .int .u8 0, .int .u8 0, .int .u8 0, .int .u8 0, .int .u8 0, .int .u8 0, .int .u8 0, .int .u8 0, .int .u8 0, .int .u8 0, .int .u8 0, .int .u8 0] : Array Value)) (cs := p.1) (t := T_api_Hash) (by rw [p.2.1]; rfl)
  refine ⟨⟨p.2.1, p.2.one, fun j hj => hwr j (by rw [p.2.1]; exact hj)⟩, ?_⟩
  intro w36
  replace hbx : w36.heap[w'.heap.size]? = some (.cells p.1 T_api_Hash (0, 0)) := hbx
  replace k36 : Kept Nil w' w36 := hkx
  clear_value w36
  refine ⟨some ⟨g, 0, none⟩, by rw [cell_blk (k36.heap L.gbx (fun h => h))]; rfl, p.1, ⟨p.2.1, Cells.blk hbx⟩, ?_⟩
  refine dag_find (L.G.same k36) p fun w40 x k40 hx => ⟨x, rfl, ?_⟩
  rcases hx with ⟨rfl, hno⟩ | ⟨q, nd, m', hq, hnd, hm', rfl⟩
  · exact absurd hpid hno
  intro w42
  have k42 : Kept Nil w' w42 := (k36.trans k40 (fun _ _ h => h)).drew
  have hbx42 : w42.heap[w'.heap.size]? = some (.cells p.1 T_api_Hash (0, 0)) := k40.heap hbx (fun h => h)
  clear_value w42
  have hs42 := k42.size
  have G42 := L.G.same k42
  obtain ⟨m, hm, N42⟩ := G42.get hq
  rw [hm'] at hm
  cases hm
  have hn42 := k42.heap L.node (fun h => h)
  have row42 : URow w42 nb rA rn rc ws := Row.keep L.row k42 (fun _ _ h => h)
  refine ⟨rA, rn, rc, by rw [add_at, Nat.zero_add, cell_blk hn42]; exact ncell_34 _ _, ?_⟩
  refine ⟨_, _, _, node_past N42, some ⟨g, 0, none⟩, by rw [cell_blk (k42.heap L.gbx (fun h => h))]; rfl, ?_⟩
  refine ⟨some mb, G42.at_, p.1, ⟨p.2.1, Cells.blk hbx42⟩, _, G42.map.look1 p, ?_⟩
  rw [show pos p (ids D) 0 = some q by rw [← hnd]; exact W.pos_eq hq, Option.getD_some]
  have hql := (List.getElem?_eq_some_iff.1 hq).1
  have hsm := N42.small
  have hsmr := L.small
  -- the rows' blocks
  have hrA : ∀ k, blkOf rA = some k → nb ≤ k ∧ k < w'.heap.size := fun k hk => by
    obtain ⟨h1, cur, hc⟩ := Row.blk L.row hk
    exact ⟨h1, lt_blk hc⟩
  have hnbl : nb < w'.heap.size := lt_blk L.node
  have tyR : ∀ {v : World} {A : Option Addr} {n c : Nat} {l : List Nat} {B : Nat}, URow v B A n c l → ∀ {k : Nat} {cs : Array Value} {t : TypeId}, v.heap[k]? = some (.cells cs t (0, 0)) → t ≠ T_uint64 → ¬ blkOf A = some k := fun hr _ _ _ hk hne e => by
    obtain ⟨_, cur, hc⟩ := Row.blk hr e
    exact ne_typ hk hc hne rfl
  refine row_or_ok row42 L.ok (by omega) (by omega) N42.past N42.ok (by omega) (fun a ha k hk e => ?_) fun A2 n2 c2 l2 w52 row52 ho52 hn52 hbit52 k52 hb52 => ⟨A2, n2, c2, rfl, ?_⟩
  · have h1 := hF1 a.block (N42.pastF a ha)
    have h2 := (hrA k hk).1
    omega
  have hnF : ∀ k, F1 k → ¬ blkOf rA = some k := fun k hk e => by have := hF1 k hk; have := (hrA k e).1; omega
  have G52 := G42.keep k52 (fun k hk e => L.noR k e hk) hnF
  have hbx52 := k52.heap hbx42 (tyR row42 hbx42 (by decide))
  have hg42 := k42.heap L.gbx (fun h => h)
  have hg52 := k52.heap hg42 (tyR row42 hg42 (by decide))
  have hi42 := k42.heap L.ibx (fun h => h)
  have hi52 := k52.heap hi42 (tyR row42 hi42 (by decide))
  have hn52' := k52.heap hn42 (tyR row42 hn42 (by decide))
  have hs52 := k52.size
  have hl52 := G52.map.look1 p
  rw [show pos p (ids D) 0 = some q by rw [← hnd]; exact W.pos_eq hq, Option.getD_some] at hl52
  refine ⟨hl52, ⟨p.1, rfl, p.2.1, Cells.blk hbx52⟩, G52.at_, by rw [cell_blk hg52]; rfl, ?_⟩
  have hA2 : ∀ k, blkOf A2 = some k → blkOf rA = some k ∨ w42.heap.size ≤ k := hb52
  refine row_with_ok row52 ho52 (by omega) (by omega) (by omega) fun A3 n3 c3 l3 w55 row55 ho55 hn55 hbit55 k55 hb55 => ⟨A3, n3, c3, rfl, ?_⟩
  have hnoA2S : ∀ k, blkOf A2 = some k → ¬ S' k := fun k hk hs => by
    rcases hA2 k hk with h | h
    · exact L.noR k h hs
    · have := L.G.low k (.inl hs); omega
  have hnoA2F : ∀ k, F1 k → ¬ blkOf A2 = some k := fun k hf hk => by
    have := hF1 k hf
    have := (Row.blk row52 hk).1
    omega
  have G55 := G52.keep k55 (fun k hk e => hnoA2S k e hk) hnoA2F
  have hg55 := k55.heap hg52 (tyR row52 hg52 (by decide))
  have hi55 := k55.heap hi52 (tyR row52 hi52 (by decide))
  have hn55' := k55.heap hn52' (tyR row52 hn52' (by decide))
  have hs55 := k55.size
  have hsz35 := ncell_size h ⟨nb, pA, l.length, pc, none, 0, 0, rA, rn, rc, ws⟩
  refine ⟨by rw [add_at, Nat.zero_add]; exact wr_blk hn55' (by omega), ?_⟩
  intro w57 w58
  have k57 : Kept (· = nb) w55 w57 := by
    show Kept (· = nb) w55 (w55.setCell ((⟨nb, 0, none⟩ : Addr).add 34) (.slice A3 n3 c3))
    exact Kept.setCell (S := fun k => k = nb) (Kept.refl _ w55) (by rw [addr_block]; exact fun _ => rfl) _
  have hn57 : w57.heap[nb]? = some (.cells (ncell h ⟨nb, pA, l.length, pc, none, 0, 0, A3, n3, c3, l3⟩) T_dag_node (0, 0)) := by
    show (w55.setCell ((⟨nb, 0, none⟩ : Addr).add 34) (.slice A3 n3 c3)).heap[nb]? = _
    rw [add_at, Nat.zero_add, set_blk hn55' 34, ncell_set34]
    rfl
  have k58 : Kept (· = nb) w55 w58 := k57.drew
  have hn58 : w58.heap[nb]? = some (.cells (ncell h ⟨nb, pA, l.length, pc, none, 0, 0, A3, n3, c3, l3⟩) T_dag_node (0, 0)) := hn57
  clear_value w58
  clear hn57 k57
  have hs58 := k58.size
  have G58 := G55.keep k58 (fun k hk e => L.noN (e ▸ hk)) (fun k hk e => by have := hF1 k hk; omega)
  have hg58 := k58.heap hg55 (ne_typ hg55 hn55' (by decide))
  have hi58 := k58.heap hi55 (ne_typ hi55 hn55' (by decide))
  have row58 : URow w58 nb A3 n3 c3 l3 := Row.keep row55 k58 (fun k hk e => by
    subst e
    exact tyR row55 hn55' (by decide) hk)
  obtain ⟨m, hm, N58⟩ := G58.get hq
  rw [hm'] at hm
  cases hm
  refine ⟨m'.cA, m'.cn, m'.cc, node_ch N58, h.1, ⟨h.2.1, Cells.blk hi58⟩, h.2.1, ?_⟩
  intro w62
  have k62 : Kept Nil w58 w62 := (Kept.refl _ _).alloc _
  have hbox62 : HS w62 (some ⟨w58.heap.size, 0, none⟩) 1 [h] := hbox w58 h
  clear_value w62
  have G62 := G58.same k62
  obtain ⟨m, hm, N62⟩ := G62.get hq
  rw [hm'] at hm
  cases hm
  refine ⟨node_ch N62, ?_⟩
  have hchl := N62.ch.len
  have hkids : kidsTo D h (l.take i) nd.id = childL D p := by
    unfold kidsTo
    rw [hnd, if_neg]
    intro hmem
    obtain ⟨j, hj⟩ := List.mem_iff_getElem?.1 hmem
    rw [List.getElem?_take] at hj
    split at hj
    · have := hss.get (by omega) hj hp
      rw [hlt_irrefl] at this
      cases this
    · cases hj
  have hcl := pick_len D fun a => Par D p a
  have hcn : m'.cn ≤ 10000 := by
    rw [← hchl, hkids]
    unfold childL
    omega
  obtain ⟨A7, c7, w64, hr64, row64, hg64, hb64⟩ := append_hs (cx := 1) T_sl_api_Hash N62.ch hbox62 (by omega) (Nat.zero_le _)
  have k64 : Kept (fun k => blkOf m'.cA = some k) w62 w64 := Kept.grown (Kept.refl _ _) hg64 (fun k hk _ => hk)
  refine ⟨A7, _, c7, w64, hr64, ?_⟩
  have hs62 := k62.size
  have hs64 := k64.size
  refine dag_Sorted_ok row64.hs (by omega) fun A5 c5 w66 row66 k66 => ⟨A5, _, c5, rfl, ?_⟩
  have hs66 := k66.size
  have hmb64 := k64.heap N62.blk (fun e => by
    obtain ⟨_, cur, hc⟩ := Row.blk N62.ch e
    exact ne_typ N62.blk hc (by decide) rfl)
  have hmb66 := k66.heap hmb64 (fun h => h)
  refine ⟨by rw [add_at, Nat.zero_add]; exact wr_blk hmb66 (by rw [ncell_size]; omega), ?_⟩
  intro w69
  have k69 : Kept (· = m'.b) w66 w69 := by
    show Kept (· = m'.b) w66 (w66.setCell ((⟨m'.b, 0, none⟩ : Addr).add 33) (.slice A5 (srt (kidsTo D h (l.take i) nd.id ++ [h])).length c5))
    exact Kept.setCell (S := fun k => k = m'.b) (Kept.refl _ w66) (by rw [addr_block]; exact fun _ => rfl) _
  have hmb69 : w69.heap[m'.b]? = some (.cells (ncell nd.id { m' with cA := A5, cn := (srt (kidsTo D h (l.take i) nd.id ++ [h])).length, cc := c5 }) T_dag_node (0, 0)) := by
    show (w66.setCell ((⟨m'.b, 0, none⟩ : Addr).add 33) (.slice A5 (srt (kidsTo D h (l.take i) nd.id ++ [h])).length c5)).heap[m'.b]? = _
    rw [add_at, Nat.zero_add, set_blk hmb66 33, ncell_set33]
  clear_value w69
  -- from the node's past on: the children alone
  have kT : Kept (fun k => blkOf m'.cA = some k ∨ k = m'.b) w58 w69 :=
    (((k62.mono (S' := fun k => blkOf m'.cA = some k ∨ k = m'.b) (fun _ _ h => h.elim)).trans k64 (fun _ _ h => .inl h)).trans k66 (fun _ _ h => h.elim)).trans k69 (fun _ _ h => .inr h)
  have hrow69 : HRow w69 w58.heap.size A5 (srt (kidsTo D h (l.take i) nd.id ++ [h])).length c5 (srt (kidsTo D h (l.take i) nd.id ++ [h])) :=
    Row.base (Row.keep row66 k69 (fun k hk e => by
      subst e
      obtain ⟨_, cur, hc⟩ := Row.blk row66 hk
      exact ne_typ hmb66 hc (by decide) rfl)) (fun k hk => by have := (Row.blk row66 hk).1; omega)
  have G69 := G58.upd W hq hm' kT hmb69 hrow69
  have hA5 : ∀ k, blkOf A5 = some k → w58.heap.size ≤ k := fun k hk => (Row.blk hrow69 hk).1
  have hTS : ∀ k, (blkOf m'.cA = some k ∨ k = m'.b) → S' k := fun k e => by
    rcases e with e | rfl
    · exact N58.chF k e
    · exact N58.footB
  have hkf : (fun x => if x = nd.id then srt (kidsTo D h (l.take i) nd.id ++ [h]) else kidsTo D h (l.take i) x) = kidsTo D h (l.take (i + 1)) := by
    funext x
    by_cases hx : x = nd.id
    · rw [if_pos hx, hkids, hx, hnd]
      unfold kidsTo
      rw [if_pos ((mem_take_succ hp).2 (.inr rfl))]
    · rw [if_neg hx]
      unfold kidsTo
      have : x ∈ l.take (i + 1) ↔ x ∈ l.take i := by
        rw [mem_take_succ hp]
        exact ⟨fun e => e.resolve_right (fun e => hx (by rw [hnd]; exact e)), .inl⟩
      by_cases hm : x ∈ l.take i
      · rw [if_pos hm, if_pos (this.2 hm)]
      · rw [if_neg hm, if_neg (fun e => hm (this.1 e))]
  rw [hkf] at G69
  rw [wrapP (n := (i : Int)) (by omega) (by omega)]
  have hnb58 : nb < w58.heap.size := lt_blk hn58
  have kall : Kept S w0 w69 := by
    have k1 := L.kp.trans k42 (fun _ _ h => h.elim)
    have k2 := k1.trans k52 (fun k hk e => absurd (hrA k e).1 (by omega))
    have k3 := k2.trans k55 (fun k hk e => absurd (Row.blk row52 e).1 (by omega))
    have k4 := k3.trans k58 (fun k hk e => by omega)
    exact k4.trans kT (fun k hk e => by
      rcases L.new k (hTS k e) with h | h
      · exact h
      · omega)
  refine hQ _ _ A3 n3 c3 l3 w69 ⟨G69, fun k hk => .inl (L.sub k hk), fun k hk => ?_, kT.heap hn58 (fun e => L.noN (hTS _ e)), fun e => ?_, Row.keep row58 kT (fun k hk e => ?_), ho55, by omega, fun k hk e => ?_, fun j => ?_,
    kT.heap hg58 (fun e => L.noG (hTS _ e)), kT.heap hi58 (fun e => L.noI (hTS _ e)), fun e => ?_, fun e => ?_, ?_, kall⟩
  · rcases hk with hk | hk
    · exact L.new k hk
    · have := hA5 k hk
      have := L.kp.size
      exact .inr (by omega)
  · rcases e with e | e
    · exact L.noN e
    · have := hA5 _ e; omega
  · have hs := hTS k e
    rcases hb55 k hk with h | h
    · exact hnoA2S k h hs
    · have := L.G.low k (.inl hs); omega
  · have hk3 : k < w55.heap.size := by
      obtain ⟨_, cur, hc⟩ := Row.blk row55 hk
      exact lt_blk hc
    rcases e with e | e
    · rcases hb55 k hk with h | h
      · exact hnoA2S k h e
      · have := L.G.low k (.inl e); omega
    · have := hA5 _ e; omega
  · rw [hbit55, Bool.or_eq_true, hbit52, Bool.or_eq_true, L.bits, N42.bits, decide_eq_true_iff]
    constructor
    · rintro ((⟨p', h1, h2⟩ | ⟨nj, h1, h2⟩) | rfl)
      · exact ⟨p', (mem_take_succ hp).2 (.inl h1), h2⟩
      · exact ⟨p, (mem_take_succ hp).2 (.inr rfl), nj, h1, .inr (hnd ▸ h2)⟩
      · exact ⟨p, (mem_take_succ hp).2 (.inr rfl), nd, hq, .inl hnd⟩
    · rintro ⟨p', h1, nj, h2, h3⟩
      rcases (mem_take_succ hp).1 h1 with h1 | rfl
      · exact .inl (.inl ⟨p', h1, nj, h2, h3⟩)
      · rcases h3 with h3 | h3
        · exact .inr (W.inj h2 hq (h3.trans hnd.symm))
        · exact .inl (.inr ⟨nj, h2, hnd ▸ h3⟩)
  · rcases e with e | e
    · exact L.noG e
    · have := hA5 _ e; have := lt_blk hg58; omega
  · rcases e with e | e
    · exact L.noI e
    · have := hA5 _ e; have := lt_blk hi58; omega
  · have hb : ∀ a, pA = some a → F1 a.block ∧ a.block < nb := fun a ha => ⟨hpF a ha, hF1 _ (hpF a ha)⟩
    have k1 := L.hl.same k42
    have k2 := k1.keep k52 (fun a ha => hnF _ (hb a ha).1)
    have k3 := k2.keep k55 (fun a ha => hnoA2F _ (hb a ha).1)
    have k4 := k3.keep k58 (fun a ha e => by have := (hb a ha).2; omega)
    exact k4.keep kT (fun a ha e => L.G.dis _ (hTS _ e) (hb a ha).1)
end
end Go.Proofs.YtgfkpemnkmebkaaDoor
/-
  The program's Add, whole.
-/
namespace Go.Proofs.YtgfkpemnkmebkaaDoor
open Go Go.Lite Go.RowKit

theorem slPtr : SlT Tryd.prog T_sl_p_dag_node T_p_dag_node 1 8 := ⟨by kernel_rfl, by kernel_rfl⟩
theorem bldDag : bld Tryd.prog T_dag_node = some ([(0, 32), (32, 1), (33, 1), (34, 1)], List.replicate 32 (.int .u8 0) ++ [.slice none 0 0, .slice none 0 0, .slice none 0 0]) := by kernel_rfl
theorem builtDag (h : HT) (b : Nat) (A : Option Addr) (n c : Nat) : Tryd.prog.built T_dag_node [(0, .agg h.1), (1, .slice A n c)] = some (ncell h ⟨b, A, n, c, none, 0, 0, none, 0, 0, []⟩) := by
  have hs := h.2.1
  rw [built_of bldDag, fill_part (off := 0) (size := 32) rfl (by simpa [Value.cells] using hs) (by simp), fill_part (off := 32) (size := 1) rfl rfl (by
    rw [List.size_toArray, splice_len (by simp [Value.cells, hs])]
    simp)]
  simp only [Instr.fill, Option.some.injEq]
  apply Array.ext'
  unfold splice ncell
  simp [Value.cells, hs]
  rw [List.drop_append]
  simp [hs]
theorem builtRoot (h : HT) (b : Nat) : Tryd.prog.built T_dag_node [(0, .agg h.1)] = some (ncell h ⟨b, none, 0, 0, none, 0, 0, none, 0, 0, []⟩) := by
  have hs := h.2.1
  rw [built_of bldDag, fill_part (off := 0) (size := 32) rfl (by simpa [Value.cells] using hs) (by simp)]
  simp only [Instr.fill, Option.some.injEq]
  apply Array.ext'
  unfold splice ncell
  simp [Value.cells, hs]

/-! the children of a graph with one more -/
section
variable {D : DG} {h : HT} {l : List HT}
theorem child_snoc (W : WfD D) (hn : h ∉ ids D) {x : HT} : kidsTo D h l x = childL (D ++ [⟨h, l⟩]) x := by
  have hmem : ∀ a, a ∈ childL (D ++ [⟨h, l⟩]) x ↔ (a ∈ childL D x ∨ (a = h ∧ x ∈ l)) := fun a => by
    unfold childL
    rw [mem_pick, mem_pick, par_snoc, ids_snoc, List.mem_append, List.mem_singleton]
    constructor
    · rintro ⟨h1, h2 | ⟨h2, h3⟩⟩
      · exact .inl ⟨(Anc.mem W (.one h2)).2, h2⟩
      · exact .inr ⟨h2.symm, h3⟩
    · rintro (⟨h1, h2⟩ | ⟨rfl, h2⟩)
      · exact ⟨.inl h1, .inl h2⟩
      · exact ⟨.inr rfl, .inr ⟨rfl, h2⟩⟩
  unfold kidsTo
  by_cases hxl : x ∈ l
  · rw [if_pos hxl]
    refine (srt_of (l := childL (D ++ [⟨h, l⟩]) x) (SS_srt _) fun a => ?_).symm
    rw [hmem, List.mem_append, List.mem_singleton]
    exact ⟨fun e => e.imp (fun e => e) (fun e => e.1), fun e => e.imp (fun e => e) (fun e => ⟨e, hxl⟩)⟩
  · rw [if_neg hxl]
    refine SS_ext (SS_srt _) (SS_srt _) fun a => ?_
    have := hmem a
    unfold childL pick at this ⊢
    rw [this]
    exact ⟨.inl, fun e => e.resolve_right (fun e => hxl e.2)⟩
theorem child_new (W : WfD D) (hn : h ∉ ids D) (hin : ∀ p ∈ l, p ∈ ids D) : childL (D ++ [⟨h, l⟩]) h = [] := by
  cases hc : childL (D ++ [⟨h, l⟩]) h with
  | nil => rfl
  | cons b t =>
    exfalso
    have : b ∈ childL (D ++ [⟨h, l⟩]) h := by rw [hc]; simp
    rcases par_snoc.1 (mem_pick.1 this).2 with h1 | ⟨_, h2⟩
    · exact hn (Anc.mem W (.one h1)).1
    · exact hn (hin h h2)
theorem bits_old (W : WfD D) (hn : h ∉ ids D) {x : HT} (hx : x ∈ ids D) (j : Nat) : (∃ nj, (D ++ [⟨h, l⟩])[j]? = some nj ∧ Anc (D ++ [⟨h, l⟩]) nj.id x) ↔ ∃ nj, D[j]? = some nj ∧ Anc D nj.id x := by
  constructor
  · rintro ⟨nj, h1, h2⟩
    have h2' := (anc_snoc W (nd := ⟨h, l⟩) hn hx).1 h2
    rw [List.getElem?_append] at h1
    split at h1
    · exact ⟨nj, h1, h2'⟩
    · exfalso
      have : nj = ⟨h, l⟩ := by
        cases hk : j - D.length with
        | zero => rw [hk] at h1; simpa using h1.symm
        | succ k => rw [hk] at h1; simp at h1
      subst this
      exact hn (h2'.mem W).1
  · rintro ⟨nj, h1, h2⟩
    exact ⟨nj, by rw [List.getElem?_append_left (List.getElem?_eq_some_iff.1 h1).1]; exact h1, (anc_snoc W (nd := ⟨h, l⟩) hn hx).2 h2⟩
theorem bits_new (W : WfD D) (hn : h ∉ ids D) (hin : ∀ p ∈ l, p ∈ ids D) (hs : SS l) (j : Nat) :
    (∃ nj, (D ++ [⟨h, l⟩])[j]? = some nj ∧ Anc (D ++ [⟨h, l⟩]) nj.id h) ↔ ∃ p ∈ l, ∃ nj, D[j]? = some nj ∧ (nj.id = p ∨ Anc D nj.id p) := by
  have W' : WfD (D ++ [⟨h, l⟩]) := W.snoc (nd := ⟨h, l⟩) hn hin hs
  have hget : (D ++ [⟨h, l⟩])[D.length]? = some ⟨h, l⟩ := by rw [List.getElem?_append_right (Nat.le_refl _), Nat.sub_self]; rfl
  have key : ∀ a, Anc (D ++ [⟨h, l⟩]) a h ↔ ∃ p ∈ l, a = p ∨ Anc D a p := fun a => by
    rw [anc_iff W' hget a]
    constructor
    · rintro ⟨p, hp, e⟩
      exact ⟨p, hp, e.imp (fun e => e) (fun e => (anc_snoc W (nd := ⟨h, l⟩) hn (hin p hp)).1 e)⟩
    · rintro ⟨p, hp, e⟩
      exact ⟨p, hp, e.imp (fun e => e) (fun e => (anc_snoc W (nd := ⟨h, l⟩) hn (hin p hp)).2 e)⟩
  constructor
  · rintro ⟨nj, h1, h2⟩
    obtain ⟨p, hp, e⟩ := (key _).1 h2
    have hid : nj.id ∈ ids D := by
      rcases e with e | e
      · rw [e]; exact hin p hp
      · exact (e.mem W).1
    rw [List.getElem?_append] at h1
    split at h1
    · exact ⟨p, hp, nj, h1, e⟩
    · exfalso
      have : nj = ⟨h, l⟩ := by
        cases hk : j - D.length with
        | zero => rw [hk] at h1; simpa using h1.symm
        | succ k => rw [hk] at h1; simp at h1
      subst this
      exact hn hid
  · rintro ⟨p, hp, nj, h1, e⟩
    exact ⟨nj, by rw [List.getElem?_append_left (List.getElem?_eq_some_iff.1 h1).1]; exact h1, (key _).2 ⟨p, hp, e⟩⟩
end

section
variable {w w' : World} {S F F' : Nat → Prop} {g bl c mb : Nat} {D : DG} {C : HT → List HT} {M : List NM} {K : Value → World → Prop}
theorem GV.monoF (G : GV w S F g D C bl c mb M) (hf : ∀ k, F k → F' k) (hd : ∀ k, S k → ¬ F' k) (hl : ∀ k, F' k → k < w.heap.size) : GV w S F' g D C bl c mb M :=
  ⟨G.top, G.row, G.map, G.len, fun i nd m h1 h2 => by
    have N := G.node i nd m h1 h2
    exact ⟨N.blk, N.footB, N.ps, fun a ha => hf _ (N.psF a ha), N.ch, N.chF, N.past, fun a ha => hf _ (N.pastF a ha), N.ok, N.bits, N.small⟩, G.apart, G.footG, G.footL, G.footM, hd, fun k hk => hk.elim (fun h => G.low k (.inl h)) (hl k)⟩

/-- the end of Add: the new node comes in -/
theorem add_end {w0 : World} {F1 S' : Nat → Prop} {h : HT} {l : List HT} {gb ib nb : Nat} {pA : Option Addr} {pc i : Nat} {rA : Option Addr} {rn rc : Nat} {ws : List Nat}
    (L : AL w0 w S F1 S' g D h l gb ib nb pA pc i bl c mb M rA rn rc ws) (W : WfD D) (hD : D.length ≤ 5000) (hss : SS l) (hin : ∀ p ∈ l, p ∈ ids D) (hn : h ∉ ids D) (hF1 : ∀ k, F1 k → k < nb) (hpF : ∀ a, pA = some a → F1 a.block) (h0 : w0.heap.size ≤ nb) (hil : l.length ≤ i)
    (hK : ∀ v S2 F2, IsG v S2 F2 g (D ++ [⟨h, l⟩]) → Kept S w0 v → (∀ k, S2 k → S k ∨ w0.heap.size ≤ k) → (∀ k, F2 k → F1 k ∨ w0.heap.size ≤ k) → K (.int .i64 0) v) :
    dag_Graph_Add.X1_1 ⟨gb, 0, none⟩ ⟨ib, 0, none⟩ 0 ⟨nb, 0, none⟩ pA l.length pc (l.length : Int) (i : Int) K w := by
  have hti : l.take i = l := List.take_of_length_le hil
  have hG := L.G
  rw [hti] at hG
  have hbits := L.bits
  rw [hti] at hbits
  unfold dag_Graph_Add.X1_1
  intro w77
  have k77 : Kept Nil w w77 := (Kept.refl _ _).drew
  clear_value w77
  have G77 := hG.same k77
  have hg77 := k77.heap L.gbx (fun h => h)
  have hn77 := k77.heap L.node (fun h => h)
  have row77 : URow w77 nb rA rn rc ws := Row.keep L.row k77 (fun _ _ h => h)
  refine ⟨some ⟨g, 0, none⟩, by rw [cell_blk hg77]; rfl, some mb, G77.at_, h.1, ⟨h.2.1, Cells.blk (k77.heap L.ibx (fun h => h))⟩, some ⟨g, 0, none⟩, by rw [cell_blk hg77]; rfl, ?_⟩
  refine ⟨_, _, _, G77.nodes, ?_⟩
  obtain ⟨w85, hr85, map85, k85⟩ := G77.map.put hn
  rw [ids_len] at hr85
  refine ⟨w85, hr85, ?_⟩
  intro w86
  have k86 : Kept (· = mb) w77 w86 := k85.drew
  have map86 : IsMap w86 mb (ids D ++ [h]) := map85.keep ((Kept.refl Nil w85).drew) (fun h => h)
  clear_value w86
  -- a block of cells is not the map's
  have tyM : ∀ {v : World} {k : Nat} {cs : Array Value} {t : TypeId}, IsMap v mb (ids D) → v.heap[k]? = some (.cells cs t (0, 0)) → k ≠ mb := fun hm hk e => by
    obtain ⟨es, clock, hmp, _⟩ := hm.ex
    rw [e, hmp] at hk
    cases hk
  have hg86 := k86.heap hg77 (tyM G77.map hg77)
  have hn86 := k86.heap hn77 (tyM G77.map hn77)
  have htop86 := k86.heap G77.top (tyM G77.map G77.top)
  have row86 : Row w86 0 T_p_dag_node 1 (some ⟨bl, 0, none⟩) D.length c (M.map fun m => .pointer (some ⟨m.b, 0, none⟩)) := Row.keep G77.row k86 (fun k hk e => by
    obtain ⟨_, cur, hc⟩ := Row.blk G77.row hk
    exact tyM G77.map hc e)
  have rowr86 : URow w86 nb rA rn rc ws := Row.keep row77 k86 (fun k hk e => by
    obtain ⟨_, cur, hc⟩ := Row.blk row77 hk
    exact tyM G77.map hc e)
  refine ⟨some ⟨g, 0, none⟩, by rw [cell_blk hg86]; rfl, some ⟨g, 0, none⟩, by rw [cell_blk hg86]; rfl, ?_⟩
  refine ⟨some ⟨bl, 0, none⟩, D.length, c, by rw [add_zero, cell_blk htop86]; rfl, ?_⟩
  intro w91
  have k91 : Kept Nil w86 w91 := (Kept.refl _ _).alloc _
  have hb91 : w91.heap[w86.heap.size]? = some (.cells #[.pointer (some ⟨nb, 0, none⟩)] T_p_dag_node (0, 0)) := new_blk w86 _
  clear_value w91
  have hg91 := k91.heap hg86 (fun h => h)
  have htop91 := k91.heap htop86 (fun h => h)
  refine ⟨by rw [add_zero, cell_blk htop91]; rfl, by rw [cell_blk hg91]; rfl, by rw [cell_blk hg91]; rfl, ?_⟩
  have row91 : Row w91 0 T_p_dag_node 1 (some ⟨bl, 0, none⟩) D.length c (M.map fun m => .pointer (some ⟨m.b, 0, none⟩)) := Row.keep row86 k91 (fun _ _ h => h)
  obtain ⟨A98, c98, w93, hr93, row93, hgr93, hb93⟩ := append_row (P := Tryd.prog) (t := T_sl_p_dag_node) (ty := T_sl_p_dag_node) (bytes := 8) slPtr row91 (a := ⟨w86.heap.size, 0, none⟩) (m := 1) (cx := 1) (news := [.pointer (some ⟨nb, 0, none⟩)]) rfl
    (fun j u hj => by rw [add_at, Nat.zero_add, cell_blk hb91]; simpa using hj) (fun u hu => by simp at hu; subst hu; rfl) (by omega) (by unfold maxLen; omega) (Nat.zero_le _)
  have k93 : Kept (· = bl) w91 w93 := Kept.grown (S := fun k => k = bl) (Kept.refl _ _) hgr93 (fun k hk _ => by cases hk; rfl)
  refine ⟨A98, _, c98, w93, hr93, ?_⟩
  have tyL : ∀ {k : Nat} {cs : Array Value} {t : TypeId}, w91.heap[k]? = some (.cells cs t (0, 0)) → t ≠ T_p_dag_node → k ≠ bl := fun hk hne => by
    obtain ⟨_, cur, hc⟩ := Row.blk row91 (k := bl) rfl
    exact ne_typ hk hc hne
  have hg93 := k93.heap hg91 (tyL hg91 (by decide))
  have htop93 := k93.heap htop91 (tyL htop91 (by decide))
  refine ⟨by rw [cell_blk hg93]; rfl, by rw [add_zero]; exact wr_blk htop93 (by simp), ?_⟩
  intro w95
  have k95 : Kept (· = g) w93 w95 := by
    show Kept (· = g) w93 (w93.setCell ((⟨g, 0, none⟩ : Addr).add 0) (.slice A98 (D.length + 1) c98))
    exact Kept.setCell (S := fun k => k = g) (Kept.refl _ w93) (by rw [addr_block]; exact fun _ => rfl) _
  have htop95 : w95.heap[g]? = some (.cells #[.slice A98 (D.length + 1) c98, .map (some mb)] T_dag_Graph (0, 0)) := by
    show (w93.setCell ((⟨g, 0, none⟩ : Addr).add 0) (.slice A98 (D.length + 1) c98)).heap[g]? = _
    rw [add_zero, set_blk htop93 0]
    rfl
  clear_value w95
  obtain ⟨b98, rfl⟩ := Row.some row93 (by omega)
  -- all in one: but for the graph's own three blocks
  have hs86 := k86.size
  have hs91 := k91.size
  have kall : Kept (fun k => k = g ∨ k = bl ∨ k = mb) w77 w95 :=
    (((k86.mono (S' := fun k => k = g ∨ k = bl ∨ k = mb) (fun _ _ h => .inr (.inr h))).trans k91 (fun _ _ h => h.elim)).trans k93 (fun _ _ h => .inr (.inl h))).trans k95 (fun _ _ h => .inl h)
  have hTF : ∀ k, F1 k → ¬ (k = g ∨ k = bl ∨ k = mb) := fun k hk e => by
    rcases e with rfl | rfl | rfl
    · exact G77.dis _ G77.footG hk
    · exact G77.dis _ G77.footL hk
    · exact G77.dis _ G77.footM hk
  have ty : ∀ {k : Nat} {cs : Array Value} {t : TypeId}, w77.heap[k]? = some (.cells cs t (0, 0)) → t ≠ T_dag_Graph → t ≠ T_p_dag_node → ¬ (k = g ∨ k = bl ∨ k = mb) := fun hk h1 h2 e => by
    rcases e with e | e | e
    · rw [e] at hk
      exact ne_typ hk G77.top h1 rfl
    · rw [e] at hk
      obtain ⟨_, cur, hc⟩ := Row.blk G77.row (k := bl) rfl
      exact ne_typ hk hc h2 rfl
    · exact tyM G77.map hk e
  have hrow95 : Row w95 0 T_p_dag_node 1 (some ⟨b98, 0, none⟩) (D.length + 1) c98 ((M.map fun m => .pointer (some ⟨m.b, 0, none⟩)) ++ [.pointer (some ⟨nb, 0, none⟩)]) := Row.keep row93 k95 (fun k hk e => by
    obtain ⟨_, cur, hc⟩ := Row.blk row93 hk
    exact ne_typ hc htop93 (by decide) e)
  have map95 : IsMap w95 mb (ids D ++ [h]) := by
    obtain ⟨es, clock, hmp, _⟩ := map86.ex
    have h1 := map86.keep k91 (fun h => h)
    have h2 := h1.keep k93 (fun e => by
      obtain ⟨_, cur, hc⟩ := Row.blk row91 (k := bl) rfl
      obtain ⟨_, _, hm', _⟩ := h1.ex
      rw [e, hc] at hm'
      cases hm')
    exact h2.keep k95 (fun e => by
      obtain ⟨_, _, hm', _⟩ := h2.ex
      rw [e, htop93] at hm'
      cases hm')
  have hn95 := kall.heap hn77 (ty hn77 (by decide) (by decide))
  have rowr95 : URow w95 nb rA rn rc ws := Row.keep row77 kall (fun k hk e => by
    obtain ⟨_, cur, hc⟩ := Row.blk row77 hk
    exact ty hc (by decide) (by decide) e)
  have hlen98 : (D ++ [(⟨h, l⟩ : DN)]).length = D.length + 1 := by simp
  have hb98 : b98 = bl ∨ w91.heap.size ≤ b98 := by
    rcases hb93 b98 rfl with e | e
    · exact .inl (by cases e; rfl)
    · exact .inr e
  have hsz := L.kp.size
  have hs77 := k77.size
  have hnbl := lt_blk hn77
  have hrAn : ∀ k, blkOf rA = some k → nb ≤ k ∧ k < w95.heap.size := fun k hk => by
    obtain ⟨h1, cur, hc⟩ := Row.blk rowr95 hk
    exact ⟨h1, lt_blk hc⟩
  have hget : ∀ {X : Type} (xs : List X) (y : X) (j : Nat) (z : X), (xs ++ [y])[j]? = some z → (j < xs.length ∧ xs[j]? = some z) ∨ (j = xs.length ∧ z = y) := fun xs y j z e => by
    rw [List.getElem?_append] at e
    split at e
    · rename_i hlt; exact .inl ⟨hlt, e⟩
    · rename_i hge
      cases hk : j - xs.length with
      | zero => rw [hk] at e; exact .inr ⟨by omega, by simpa using e.symm⟩
      | succ k => rw [hk] at e; simp at e
  refine hK w95 (fun k => S' k ∨ k = nb ∨ k = b98) (fun k => F1 k ∨ blkOf rA = some k) ⟨b98, c98, mb, M ++ [⟨nb, pA, l.length, pc, none, 0, 0, rA, rn, rc, ws⟩], ?_⟩ ?_ ?_ ?_
  · refine ⟨by rw [hlen98]; exact htop95, ?_, by rw [ids_snoc]; exact map95, by simp [hG.len], fun j nd m h1 h2 => ?_, fun j j' m m' h1 h2 hne k hk hk' => ?_, .inl hG.footG, .inr (.inr rfl), .inl hG.footM, fun k hk hf => ?_, fun k hk => ?_⟩
    · rw [hlen98, List.map_append]
      exact hrow95
    · rcases hget _ _ _ _ h1 with ⟨hj, h1'⟩ | ⟨hj, rfl⟩
      · rcases hget _ _ _ _ h2 with ⟨_, h2'⟩ | ⟨hj', _⟩
        · have N := G77.node j nd m h1' h2'
          have hid : nd.id ∈ ids D := ids_mem.2 ⟨nd, List.mem_of_getElem? h1', rfl⟩
          have hF : ∀ k, F1 k → ¬ (k = g ∨ k = bl ∨ k = mb) := hTF
          rw [← child_snoc W hn]
          refine ⟨kall.heap N.blk (ty N.blk (by decide) (by decide)), .inl N.footB, N.ps.keep kall (fun a ha => hF _ (N.psF a ha)), fun a ha => .inl (N.psF a ha), Row.keep N.ch kall (fun k hk e => ?_), fun k hk => .inl (N.chF k hk), N.past.keep kall (fun a ha => hF _ (N.pastF a ha)), fun a ha => .inl (N.pastF a ha), N.ok, fun j => ?_, N.small⟩
          · obtain ⟨cur, hc⟩ := (Row.blk N.ch hk).2
            exact ty hc (by decide) (by decide) e
          · rw [N.bits, bits_old W hn hid]
        · rw [hG.len] at hj'; omega
      · rcases hget _ _ _ _ h2 with ⟨hj', _⟩ | ⟨_, rfl⟩
        · rw [hG.len] at hj'; omega
        · rw [child_new W hn hin]
          refine ⟨hn95, .inr (.inl rfl), (L.hl.same k77).keep kall (fun a ha => hTF _ (hpF a ha)), fun a ha => .inl (hpF a ha), HRow.nil _ _, (fun k hk => by cases hk), rowr95.us, fun a ha => .inr (congrArg blkOf ha), L.ok, fun j => ?_, L.small⟩
          rw [hbits, bits_new W hn hin hss]
    · rcases hget _ _ _ _ h1 with ⟨_, h1'⟩ | ⟨_, rfl⟩
      · rcases hget _ _ _ _ h2 with ⟨_, h2'⟩ | ⟨_, rfl⟩
        · exact hG.apart j j' m m' h1' h2' hne k hk hk'
        · cases hk'
      · cases hk
    · rcases hk with hk | rfl | rfl
      · rcases hf with hf | hf
        · exact hG.dis k hk hf
        · exact L.noR k hf hk
      · rcases hf with hf | hf
        · have := hF1 k hf; omega
        · obtain ⟨_, cur, hc⟩ := Row.blk rowr95 hf
          exact ne_typ hn95 hc (by decide) rfl
      · rcases hf with hf | hf
        · rcases hb98 with e | e
          · rw [e] at hf; exact hG.dis _ hG.footL hf
          · have := hF1 _ hf; omega
        · obtain ⟨_, cur, hc⟩ := Row.blk rowr95 hf
          obtain ⟨_, cur', hc'⟩ := Row.blk hrow95 (k := k) rfl
          exact ne_typ hc' hc (by decide) rfl
    · have hs95 := kall.size
      rcases hk with (hk | rfl | rfl) | hk | hk
      · have := G77.low k (.inl hk); omega
      · exact lt_blk hn95
      · obtain ⟨_, cur', hc'⟩ := Row.blk hrow95 (k := k) rfl
        exact lt_blk hc'
      · have := G77.low k (.inr hk); omega
      · exact (hrAn k hk).2
  · exact (L.kp.trans k77 (fun _ _ h => h.elim)).trans kall (fun k hk e => by
      have hs : S' k := by
        rcases e with rfl | rfl | rfl
        · exact hG.footG
        · exact hG.footL
        · exact hG.footM
      rcases L.new k hs with h | h
      · exact h
      · omega)
  · intro k hk
    rcases hk with hk | rfl | rfl
    · exact L.new k hk
    · exact .inr h0
    · rcases hb98 with e | e
      · rw [e]; exact L.new _ hG.footL
      · exact .inr (by omega)
  · intro k hk
    rcases hk with hk | hk
    · exact .inl hk
    · exact .inr (by have := (hrAn k hk).1; omega)

theorem dag_Add (G : GV w S F g D (childL D) bl c mb M) (W : WfD D) (hD : D.length ≤ 5000) {A : Option Addr} {n cx : Nat} {lp : List HT} (hl : HS w A n lp) (hn : n ≤ 10000) (h : HT)
    (hK : ∀ v S2 F2, IsG v S2 F2 g (addD D h lp) → Kept S w v → (∀ k, S2 k → S k ∨ w.heap.size ≤ k) → (∀ k, F2 k → F k ∨ w.heap.size ≤ k) → K (.int .i64 (addC D h lp)) v) :
    Ret Tryd.prog dag_Graph_Add.id #[.pointer (some ⟨g, 0, none⟩), .agg h.1, .slice A n cx] w K := by
  have hlen := hl.len
  have hno : ∀ v, Kept Nil w v → ∀ e, addC D h lp = e → e ≠ 0 → K (.int .i64 e) v := fun v k e he hne => by
    have := hK v S F ?_ (k.mono fun _ _ h => h.elim) (fun _ h => .inl h) (fun _ h => .inl h)
    · rw [he] at this; exact this
    · unfold addD
      rw [if_neg (by rw [he]; exact hne)]
      exact ⟨bl, c, mb, M, G.same k⟩
  refine dag_Graph_Add.of ?_
  unfold dag_Graph_Add.W
  intro w4 w5
  have k4 : Kept Nil w w4 := (Kept.refl _ _).alloc _
  have hg4 : w4.heap[w.heap.size]? = some (.cells #[.pointer (some ⟨g, 0, none⟩)] T_p_dag_Graph (0, 0)) := new_blk w _
  have k5 : Kept Nil w4 w5 := (Kept.refl _ _).alloc _
  have hi5 : w5.heap[w4.heap.size]? = some (.cells h.1 T_api_Hash (0, 0)) := new_blk w4 _
  have hg5 := k5.heap hg4 (fun h => h)
  clear_value w5
  have kw5 : Kept Nil w w5 := k4.trans k5 (fun _ _ h => h)
  have hgl : w.heap.size < w4.heap.size := lt_blk hg4
  have hil5 : w4.heap.size < w5.heap.size := lt_blk hi5
  clear_value w4
  refine dag_Sorted_ok (hl.same kw5) (by omega) fun A13 c13 w7 row7 k7 => ⟨A13, _, c13, rfl, ?_⟩
  have kw7 : Kept Nil w w7 := kw5.trans k7 (fun _ _ h => h)
  have hg7 := k7.heap hg5 (fun h => h)
  have hi7 := k7.heap hi5 (fun h => h)
  have G7 := G.same kw7
  have hsl : (srt lp).length ≤ n := by have := srt_len lp; omega
  refine ⟨some ⟨g, 0, none⟩, by rw [cell_blk hg7]; rfl, dag_there G7 ⟨true, rfl, Split.no rfl ?_⟩⟩
  refine ⟨some ⟨g, 0, none⟩, by rw [cell_blk hg7]; rfl, h.1, ⟨h.2.1, Cells.blk hi7⟩, dag_Has G7 h fun w16 k16 => ⟨_, rfl, ?_⟩⟩
  have kw16 := kw7.trans k16 (fun _ _ h => h)
  by_cases hm : h ∈ ids D
  · refine Split.yes (decide_eq_true hm) (hno w16 kw16 7 ?_ (by omega))
    unfold addC
    rw [if_pos hm]
  refine Split.no (decide_eq_false hm) ?_
  by_cases h0 : (srt lp).length = 0
  · refine Split.yes (by simp [h0]) (hno w16 kw16 9 ?_ (by omega))
    unfold addC
    rw [if_neg hm, if_pos (.inl h0)]
  refine Split.no (beq_eq_false_iff_ne.2 (by omega)) ?_
  by_cases h1 : (srt lp).length ≠ n
  · refine Split.yes (bne_iff_ne.2 (by omega)) (hno w16 kw16 9 ?_ (by omega))
    unfold addC
    rw [if_neg hm, if_pos (.inr (by omega))]
  replace h1 : (srt lp).length = n := by omega
  refine Split.no (by rw [h1]; simp) ?_
  have hg16 := k16.heap hg7 (fun h => h)
  have row16 := Row.keep row7 k16 (fun _ _ h => h)
  refine contains_ok (G.same kw16) hg16 (HRow.hs row16) (by omega) fun w19 x hx k19 => ⟨x, rfl, ?_⟩
  have kw19 := kw16.trans k19 (fun _ _ h => h)
  cases x with
  | true =>
    refine Split.yes rfl (hno w19 kw19 6 ?_ (by omega))
    unfold addC
    rw [if_neg hm, if_neg (by omega), if_pos (hx.1 rfl)]
  | false =>
    have hin : ∀ p ∈ srt lp, p ∈ ids D := fun p hp => Classical.byContradiction fun hno' => by have := hx.2 ⟨p, hp, hno'⟩; cases this
    have hc0 : addC D h lp = 0 := by
      unfold addC
      rw [if_neg hm, if_neg (by omega), if_neg (fun ⟨p, hp, hpn⟩ => hpn (hin p hp))]
    have hD' : addD D h lp = D ++ [⟨h, srt lp⟩] := by unfold addD; rw [if_pos hc0]
    rw [hc0, hD'] at hK
    refine Split.no rfl ?_
    have hi19 := k19.heap (k16.heap hi7 (fun h => h)) (fun h => h)
    have hg19 := k19.heap hg16 (fun h => h)
    have row19 : HRow w19 w5.heap.size A13 (srt lp).length c13 (srt lp) := Row.keep row16 k19 (fun _ _ h => h)
    refine ⟨h.1, ⟨h.2.1, Cells.blk hi19⟩, ?_⟩
    rw [builtDag h w19.heap.size]
    refine Is.mk rfl ?_
    intro w23
    have k23 : Kept Nil w19 w23 := (Kept.refl _ _).alloc _
    have hn23 : w23.heap[w19.heap.size]? = some (.cells (ncell h ⟨w19.heap.size, A13, (srt lp).length, c13, none, 0, 0, none, 0, 0, []⟩) T_dag_node (0, 0)) := new_blk w19 _
    clear_value w23
    have kw23 := kw19.trans k23 (fun _ _ h => h)
    have hA13 : ∀ k, blkOf A13 = some k → w5.heap.size ≤ k ∧ k < w19.heap.size := fun k hk => by
      obtain ⟨e1, cur, hc⟩ := Row.blk row19 hk
      exact ⟨e1, lt_blk hc⟩
    have hs5 := kw5.size
    have hs19 := kw19.size
    have hF1 : ∀ k, (F k ∨ blkOf A13 = some k) → k < w19.heap.size := fun k hk => by
      rcases hk with hk | hk
      · have := G.low k (.inr hk); omega
      · exact (hA13 k hk).2
    have hSlt : ∀ k, S k → k < w.heap.size := fun k hk => G.low k (.inl hk)
    have G23 : GV w23 S (fun k => F k ∨ blkOf A13 = some k) g D (childL D) bl c mb M := (G.same kw23).monoF (fun _ h => .inl h) (fun k hs e => by
      rcases e with e | e
      · exact G.dis k hs e
      · have := hSlt k hs; have := (hA13 k e).1; omega) (fun k hk => by have := hF1 k hk; have := k23.size; omega)
    have hkids : kidsTo D h ((srt lp).take 0) = childL D := by
      funext y
      unfold kidsTo
      rw [if_neg (by simp)]
    have L0 : AL w w23 S (fun k => F k ∨ blkOf A13 = some k) S g D h (srt lp) w.heap.size w4.heap.size w19.heap.size A13 c13 0 bl c mb M none 0 0 [] :=
      ⟨by rw [hkids]; exact G23, fun _ h => h, fun _ h => .inl h, hn23, fun e => by have := hSlt _ e; omega, Row.nil _ _ _ _, by simp [okW], by omega, (fun k hk => by cases hk), fun j => by simp [bit_nil], k23.heap hg19 (fun h => h), k23.heap hi19 (fun h => h),
        fun e => by have := hSlt _ e; omega, fun e => by have := hSlt _ e; omega, (row19.hs).same k23, kw23.mono fun _ _ h => h.elim⟩
    refine dag_Graph_Add.loop1 (I := fun s v => ∃ (i : Nat) (S2 : Nat → Prop) (M2 : List NM) (rA : Option Addr) (rn rc : Nat) (ws : List Nat), s = (i : Int) ∧ i ≤ (srt lp).length ∧ AL w v S (fun k => F k ∨ blkOf A13 = some k) S2 g D h (srt lp) w.heap.size w4.heap.size w19.heap.size A13 c13 i bl c mb M2 rA rn rc ws)
      (μ := fun s _ => (((srt lp).length : Int) - s).toNat) (s := 0) ⟨0, S, M, none, 0, 0, [], rfl, Nat.zero_le _, L0⟩ ?_
    rintro s v ⟨i, S2, M2, rA, rn, rc, ws, rfl, hi, L⟩
    have hpF : ∀ a, A13 = some a → F a.block ∨ blkOf A13 = some a.block := fun a ha => .inr (by rw [ha]; rfl)
    by_cases hil : i < (srt lp).length
    · refine add_round L W (by omega) (SS_srt _) hin hF1 hpF (by omega) hil (by omega) fun S3 M3 rA3 rn3 rc3 ws3 v3 L3 => ?_
      exact ⟨(i : Int) + 1, rfl, ⟨i + 1, S3, M3, rA3, rn3, rc3, ws3, rfl, hil, L3⟩, by simp only; omega⟩
    · refine Split.no (decide_eq_false (by omega)) ?_
      rw [roundQ_exit, dag_Graph_Add.x1_1]
      refine add_end L W hD (SS_srt _) hin hm hF1 hpF (by omega) (by omega) fun v2 S4 F4 hI hkp hS4 hF4 => hK v2 S4 F4 hI hkp hS4 (fun k hk => ?_)
      rcases hF4 k hk with (e | e) | e
      · exact .inl e
      · exact .inr (by have := (hA13 k e).1; omega)
      · exact .inr e
end
end Go.Proofs.YtgfkpemnkmebkaaDoor
/-
  The program's New, Root, All.
-/
namespace Go.Proofs.YtgfkpemnkmebkaaDoor
open Go Go.Lite Go.RowKit

def rootM (nb : Nat) : NM := ⟨nb, none, 0, 0, none, 0, 0, none, 0, 0, []⟩
/-- a graph in the making -/
structure NP (w v : World) (r : HT) (A B E : Option Nat) (l : List HT) : Prop where
  kp : Kept Nil w v
  node : ∀ b, A = some b → w.heap.size ≤ b ∧ v.heap[b]? = some (.cells (ncell r (rootM b)) T_dag_node (0, 0))
  list : ∀ b, B = some b → w.heap.size ≤ b ∧ ∃ nb, A = some nb ∧ v.heap[b]? = some (.cells #[.pointer (some ⟨nb, 0, none⟩)] T_p_dag_node (0, 0))
  map : ∀ b, E = some b → w.heap.size ≤ b ∧ IsMap v b l
section
variable {w v : World} {r : HT} {A B E : Option Nat} {l : List HT} {K : Value → World → Prop}
theorem NP.grow (h : NP w v r A B E l) (o : Obj) : NP w (v.alloc o) r A B E l :=
  ⟨h.kp.alloc o, fun b e => ⟨(h.node b e).1, old_blk (h.node b e).2 o⟩, fun b e => ⟨(h.list b e).1, let ⟨nb, h1, h2⟩ := (h.list b e).2; ⟨nb, h1, old_blk h2 o⟩⟩, fun b e => ⟨(h.map b e).1, (h.map b e).2.keep ((Kept.refl Nil v).alloc o) (fun h => h)⟩⟩
theorem NP.addNode (h : NP w v r none none E l) : NP w (v.alloc (.cells (ncell r (rootM v.heap.size)) T_dag_node)) r (some v.heap.size) none E l :=
  have g := h.grow (.cells (ncell r (rootM v.heap.size)) T_dag_node)
  ⟨g.kp, fun b e => by cases e; exact ⟨h.kp.size, new_blk v _⟩, fun b e => (by cases e), g.map⟩
theorem NP.addList {nb : Nat} (h : NP w v r (some nb) none E l) : NP w (v.alloc (.cells #[.pointer (some ⟨nb, 0, none⟩)] T_p_dag_node)) r (some nb) (some v.heap.size) E l :=
  have g := h.grow (.cells #[.pointer (some ⟨nb, 0, none⟩)] T_p_dag_node)
  ⟨g.kp, g.node, fun b e => by cases e; exact ⟨h.kp.size, nb, rfl, new_blk v _⟩, g.map⟩
theorem NP.addMap (h : NP w v r A B none []) : NP w (v.alloc (.map #[] 0)) r A B (some v.heap.size) [] :=
  have g := h.grow (.map #[] 0)
  ⟨g.kp, g.node, g.list, fun b e => by cases e; exact ⟨h.kp.size, ⟨#[], 0, new_blk v _, trivial⟩⟩⟩
theorem NP.put {mb : Nat} (h : NP w v r A B (some mb) []) : ∃ v', (Instr.mapUpdate T_map_api_Hash_int (.map (some mb)) (.agg r.1) (.int .i64 0)).run Tryd.prog v = .ok () v' ∧ NP w v' r A B (some mb) [r] := by
  obtain ⟨h1, h2⟩ := h.map mb rfl
  obtain ⟨v', hr, hm, hk⟩ := h2.put (h := r) (by simp)
  have tyM : ∀ {k : Nat} {cs : Array Value} {t : TypeId}, v.heap[k]? = some (.cells cs t (0, 0)) → ¬ (k = mb) := fun hk e => by
    obtain ⟨es, clock, hmp, _⟩ := h2.ex
    rw [e, hmp] at hk
    cases hk
  refine ⟨v', hr, h.kp.trans hk (fun k hk e => by omega), fun b e => ⟨(h.node b e).1, hk.heap (h.node b e).2 (tyM (h.node b e).2)⟩, fun b e => ⟨(h.list b e).1, ?_⟩, fun b e => by cases e; exact ⟨h1, hm⟩⟩
  obtain ⟨nb, e1, e2⟩ := (h.list b e).2
  exact ⟨nb, e1, hk.heap e2 (tyM e2)⟩
theorem root_none (r : HT) {a b : HT} : ¬ Par [(⟨r, []⟩ : DN)] a b := fun ⟨nd, h1, _, h2⟩ => by
  simp at h1
  subst h1
  simp at h2
theorem root_anc (r : HT) {a b : HT} : ¬ Anc [(⟨r, []⟩ : DN)] a b := fun h => by
  cases h with
  | one h => exact root_none r h
  | more _ h => exact root_none r h
theorem NP.fin {w0 : World} {nb lb mb : Nat} (h : NP w v r (some nb) (some lb) (some mb) [r]) (hw : w0.heap.size ≤ w.heap.size) :
    IsG (v.alloc (.cells #[.slice (some ⟨lb, 0, none⟩) 1 1, .map (some mb)] T_dag_Graph)) (fun k => w0.heap.size ≤ k ∧ k < (v.alloc (.cells #[.slice (some ⟨lb, 0, none⟩) 1 1, .map (some mb)] T_dag_Graph)).heap.size) (fun _ => False) v.heap.size [⟨r, []⟩] := by
  have g := h.grow (.cells #[.slice (some ⟨lb, 0, none⟩) 1 1, .map (some mb)] T_dag_Graph)
  have htop := new_blk v (.cells #[.slice (some ⟨lb, 0, none⟩) 1 1, .map (some mb)] T_dag_Graph)
  generalize v.alloc (.cells #[.slice (some ⟨lb, 0, none⟩) 1 1, .map (some mb)] T_dag_Graph) = u at g htop
  have hs := h.kp.size
  obtain ⟨n1, n2⟩ := g.node nb rfl
  obtain ⟨l1, nb', e, l2⟩ := g.list lb rfl
  cases e
  obtain ⟨m1, m2⟩ := g.map mb rfl
  have hch : childL [⟨r, []⟩] r = [] := by
    cases hc : childL [⟨r, []⟩] r with
    | nil => rfl
    | cons b t => exact absurd (mem_pick.1 (show b ∈ childL [⟨r, []⟩] r by rw [hc]; simp)).2 (root_none r)
  refine ⟨lb, 1, mb, [rootM nb], htop, Row.made (n := 1) (cur := #[.pointer (some ⟨nb, 0, none⟩)]) l2 (Nat.zero_le _) rfl (by decide), m2, rfl, fun i nd m hi hm => ?_, fun i j m m' h1 h2 hne k hk => ?_, ⟨by omega, lt_blk htop⟩, ⟨by omega, lt_blk l2⟩, ⟨by omega, m2.lt⟩, fun _ _ h => h, fun k hk => hk.elim (fun h => h.2) (fun h => h.elim)⟩
  · cases i with
    | zero =>
      simp at hi hm
      subst hi
      subst hm
      refine ⟨n2, ⟨Nat.le_trans hw n1, lt_blk n2⟩, HS.nil _ _, (fun a ha => by cases ha), ?_, (fun k hk => by cases hk), ⟨rfl, fun i x hx => by simp [rootM] at hx⟩, (fun a ha => by cases ha), by simp [okW, rootM], fun j => ?_, by simp [rootM]⟩
      · show HRow u 0 none 0 0 (childL [⟨r, []⟩] r)
        rw [hch]
        exact HRow.nil _ _
      · show bit [] j = true ↔ _
        rw [bit_nil]
        exact ⟨(fun h => by cases h), fun ⟨nj, _, h⟩ => absurd h (root_anc r)⟩
    | succ i => simp at hi
  · have hm : m = rootM nb := by
      have := List.mem_of_getElem? h1
      simpa using this
    subst hm
    cases hk

theorem dag_New_ok (r : HT) (hK : ∀ v gb, IsG v (fun k => w.heap.size ≤ k ∧ k < v.heap.size) (fun _ => False) gb [⟨r, []⟩] → Kept Nil w v → K (.pointer (some ⟨gb, 0, none⟩)) v) :
    Ret Tryd.prog dag_New.id #[.agg r.1] w K := by
  refine dag_New.of ?_
  unfold dag_New.W
  intro w2 w3
  have k2 : Kept Nil w w2 := (Kept.refl _ _).alloc _
  have hb2 : w2.heap[w.heap.size]? = some (.cells r.1 T_api_Hash (0, 0)) := new_blk w _
  have k3 : Kept Nil w w3 := k2.drew
  have hb3 : w3.heap[w.heap.size]? = some (.cells r.1 T_api_Hash (0, 0)) := hb2
  clear_value w3
  have N3 : NP w3 w3 r none none none [] := ⟨Kept.refl _ _, (fun b e => by cases e), (fun b e => by cases e), (fun b e => by cases e)⟩
  have hcs : ∀ {v : World}, Kept Nil w3 v → ∃ cs : Array Value, (.agg r.1 : Value) = .agg cs ∧ cs.size = 32 ∧ Cells v (⟨w.heap.size, 0, none⟩ : Addr) cs := fun k => ⟨r.1, rfl, r.2.1, Cells.blk (k.heap hb3 (fun h => h))⟩
  have hfin : ∀ {v : World} {nb lb mb : Nat}, NP w3 v r (some nb) (some lb) (some mb) [r] → K (.pointer (some ⟨v.heap.size, 0, none⟩)) (v.alloc (.cells #[.slice (some ⟨lb, 0, none⟩) 1 1, .map (some mb)] T_dag_Graph)) := fun h => hK _ _ (h.fin k3.size) ((k3.trans h.kp (fun _ _ h => h)).alloc _)
  refine ⟨r.1, ⟨r.2.1, Cells.blk hb3⟩, ?_⟩
  have hnode : ∀ b, Tryd.prog.built T_dag_node [(0, .agg r.1)] = some (ncell r (rootM b)) := fun b => builtRoot r b
  rw [hnode 0]
  refine Is.mk rfl ?_
  refine ⟨r.1, ⟨r.2.1, Cells.blk hb3⟩, ?_⟩
  refine ⟨?_, ?_⟩
  · have N7 : NP w3 (w3.alloc (.cells (ncell r (rootM w3.heap.size)) T_dag_node)) r (some w3.heap.size) none none [] := N3.addNode
    refine ⟨hcs N7.kp, ?_, ?_⟩
    · have N8 := N7.addList
      have N9 := N8.addMap
      obtain ⟨v, hr, N10⟩ := N9.put
      exact ⟨hcs N8.kp, hcs N9.kp, v, hr, hfin N10⟩
    · have N12 := N7.addMap
      refine ⟨hcs N12.kp, ?_, ?_⟩
      · have N13 := N12.addList
        obtain ⟨v, hr, N14⟩ := N13.put
        exact ⟨hcs N13.kp, v, hr, hfin N14⟩
      · obtain ⟨v, hr, N16⟩ := N12.put
        exact ⟨v, hr, hfin N16.addList⟩
  · have N19 := N3.addMap
    refine ⟨hcs N19.kp, hcs N19.kp, ?_, ?_⟩
    · have N20 : NP w3 ((w3.alloc (.map #[] 0)).alloc (.cells (ncell r (rootM (w3.alloc (.map #[] 0)).heap.size)) T_dag_node)) r (some (w3.alloc (.map #[] 0)).heap.size) none (some w3.heap.size) [] := N19.addNode
      refine ⟨hcs N20.kp, ?_, ?_⟩
      · have N21 := N20.addList
        obtain ⟨v, hr, N22⟩ := N21.put
        exact ⟨hcs N21.kp, v, hr, hfin N22⟩
      · obtain ⟨v, hr, N24⟩ := N20.put
        exact ⟨v, hr, hfin N24.addList⟩
    · obtain ⟨v, hr, N27⟩ := N19.put
      exact ⟨v, hr, hcs N27.kp, hfin N27.addNode.addList⟩
end
end Go.Proofs.YtgfkpemnkmebkaaDoor
/-
  The program's Root, All, Copy.
-/
namespace Go.Proofs.YtgfkpemnkmebkaaDoor
open Go Go.Lite Go.RowKit

section
variable {w w' : World} {S S' F : Nat → Prop} {g bl c mb : Nat} {D : DG} {C : HT → List HT} {M : List NM} {K : Value → World → Prop}
end
end Go.Proofs.YtgfkpemnkmebkaaDoor
/-
  The program's Copy.
-/
namespace Go.Proofs.YtgfkpemnkmebkaaDoor
open Go Go.Lite Go.RowKit

section
variable {w w' : World} {S S' F : Nat → Prop} {g bl c mb : Nat} {D : DG} {C : HT → List HT} {M : List NM} {K : Value → World → Prop}
end
end Go.Proofs.YtgfkpemnkmebkaaDoor
/-
  The laws' small parts: few, known.
-/
namespace Go.Proofs.YtgfkpemnkmebkaaDoor
open Go Go.Lite Go.RowKit

/-- a box that is written whole -/
theorem set_box {w : World} {b : Nat} {z cs : Array Value} {t : TypeId} (h : w.heap[b]? = some (.cells z t (0, 0))) (hz : z.size = cs.size) :
    (∀ j, j < cs.size → Wr w ((⟨b, 0, none⟩ : Addr).add j)) ∧ (setCells w ⟨b, 0, none⟩ cs.toList 0).heap[b]? = some (.cells cs t (0, 0)) ∧ Kept (· = b) w (setCells w ⟨b, 0, none⟩ cs.toList 0) := by
  refine ⟨fun j hj => ?_, ?_, setCells_kept _ _ _ _⟩
  · rw [add_at, Nat.zero_add]
    exact wr_blk h (by omega)
  · have h1 := setCells_block cs.toList z w t 0 0 h (by simp; omega)
    rw [h1, splice_all (by simp [hz])]

/-- a number, and zeros -/
def hx (i : Nat) (hi : i < 256) : HT := ⟨#[.int .u8 (i : Int), .int .u8 0, .int .u8 0, .int .u8 0, .int .u8 0, .int .u8 0, .int .u8 0, .int .u8 0, .int .u8 0, .int .u8 0, .int .u8 0, .int .u8 0, .int .u8 0, .int .u8 0, .int .u8 0, .int .u8 0, .int .u8 0, .int .u8 0, .int .u8 0, .int .u8 0, .int .u8 0, .int .u8 0, .int .u8 0, .int .u8 0, .int .u8 0, .int .u8 0, .int .u8 0, .int .u8 0, .int .u8 0, .int .u8 0, .int .u8 0, .int .u8 0], rfl, fun v hv => by
  simp only [List.mem_cons, List.not_mem_nil, or_false] at hv
  rcases hv with rfl | hv
  · exact ⟨i, rfl, by omega, by omega⟩
  · exact ⟨0, by simpa using hv, by omega, by omega⟩⟩
theorem hx_inj {i j : Nat} {hi : i < 256} {hj : j < 256} (h : i ≠ j) : hx i hi ≠ hx j hj := fun e => by
  have := congrArg (fun a : HT => a.1[0]?) e
  simp [hx] at this
  omega

section
variable {w w' : World} {K : Value → World → Prop}
end
end Go.Proofs.YtgfkpemnkmebkaaDoor
/-
  known.
-/
namespace Go.Proofs.YtgfkpemnkmebkaaDoor
open Go Go.Lite Go.RowKit

theorem HS.lay {w : World} {b : Nat} {l : List HT} {t : TypeId} (hb : w.heap[b]? = some (.cells (hcells l).toArray t (0, 0))) : HS w (some ⟨b, 0, Option.none⟩) l.length l :=
  ⟨rfl, fun i x hi => ⟨_, rfl, lt_blk hb, fun j v hj => by
    rw [add_at, add_at, Nat.zero_add, cell_blk hb]
    simpa using hcells_get hi hj⟩⟩

/-! the chapter's rows -/
section
variable {r a b c : HT} (hra : r ≠ a) (hrb : r ≠ b) (hrc : r ≠ c) (hab : a ≠ b) (hac : a ≠ c) (hbc : b ≠ c)
abbrev kD (r a b c : HT) : DG := [⟨r, []⟩, ⟨a, [r]⟩, ⟨b, [r]⟩, ⟨c, srt [a, b]⟩]
include hra in
theorem k1 : addC [⟨r, []⟩] a [r] = 0 ∧ addD [⟨r, []⟩] a [r] = [⟨r, []⟩, ⟨a, [r]⟩] := by
  have h : addC [⟨r, []⟩] a [r] = 0 := by
    unfold addC
    rw [if_neg (by simp [ids]; exact fun e => hra e.symm), srt_one, if_neg (by simp), if_neg (by simp [ids])]
  exact ⟨h, by unfold addD; rw [if_pos h, srt_one]; rfl⟩
include hrb hab in
theorem k2 : addC [⟨r, []⟩, ⟨a, [r]⟩] b [r] = 0 ∧ addD [⟨r, []⟩, ⟨a, [r]⟩] b [r] = [⟨r, []⟩, ⟨a, [r]⟩, ⟨b, [r]⟩] := by
  have h : addC [⟨r, []⟩, ⟨a, [r]⟩] b [r] = 0 := by
    unfold addC
    rw [if_neg (by simp [ids]; exact ⟨fun e => hrb e.symm, fun e => hab e.symm⟩), srt_one, if_neg (by simp), if_neg (by simp [ids])]
  exact ⟨h, by unfold addD; rw [if_pos h, srt_one]; rfl⟩
include hrc hab hac hbc in
theorem k3 : addC [⟨r, []⟩, ⟨a, [r]⟩, ⟨b, [r]⟩] c [a, b] = 0 ∧ addD [⟨r, []⟩, ⟨a, [r]⟩, ⟨b, [r]⟩] c [a, b] = kD r a b c := by
  have hl : (srt [a, b]).length = 2 := srt_len_nodup (by simp [hab])
  have h : addC [⟨r, []⟩, ⟨a, [r]⟩, ⟨b, [r]⟩] c [a, b] = 0 := by
    unfold addC
    rw [if_neg (by simp [ids]; exact ⟨fun e => hrc e.symm, fun e => hac e.symm, fun e => hbc e.symm⟩), hl, if_neg (by simp), if_neg]
    rintro ⟨p, hp, hn⟩
    rw [mem_srt] at hp
    simp at hp
    simp [ids] at hn
    rcases hp with rfl | rfl
    · exact hn.2.1 rfl
    · exact hn.2.2 rfl
  exact ⟨h, by unfold addD; rw [if_pos h]; rfl⟩
include hra hrb hrc hab hac hbc in
theorem kW : WfD (kD r a b c) := by
  have W1 := (WfD.root r).add a [r]
  rw [(k1 hra).2] at W1
  have W2 := W1.add b [r]
  rw [(k2 hrb hab).2] at W2
  have W3 := W2.add c [a, b]
  rw [(k3 hrc hab hac hbc).2] at W3
  exact W3
include hra hrb hrc hab hac hbc in
theorem kAnc : (∀ x, ¬ Anc (kD r a b c) x r) ∧ (∀ x, Anc (kD r a b c) x a ↔ x = r) ∧ (∀ x, Anc (kD r a b c) x b ↔ x = r) ∧ (∀ x, Anc (kD r a b c) x c ↔ x = a ∨ x = b ∨ x = r) := by
  have W := kW hra hrb hrc hab hac hbc
  have hr : ∀ x, ¬ Anc (kD r a b c) x r := fun x h => by
    obtain ⟨p, hp, _⟩ := (anc_iff W (i := 0) (nd := ⟨r, []⟩) rfl x).1 h
    simp at hp
  have ha : ∀ x, Anc (kD r a b c) x a ↔ x = r := fun x => by
    rw [anc_iff W (i := 1) (nd := ⟨a, [r]⟩) rfl x]
    constructor
    · rintro ⟨p, hp, e⟩
      simp at hp
      subst hp
      exact e.resolve_right (hr x)
    · rintro rfl
      exact ⟨_, by simp, .inl rfl⟩
  have hb : ∀ x, Anc (kD r a b c) x b ↔ x = r := fun x => by
    rw [anc_iff W (i := 2) (nd := ⟨b, [r]⟩) rfl x]
    constructor
    · rintro ⟨p, hp, e⟩
      simp at hp
      subst hp
      exact e.resolve_right (hr x)
    · rintro rfl
      exact ⟨_, by simp, .inl rfl⟩
  refine ⟨hr, ha, hb, fun x => ?_⟩
  rw [anc_iff W (i := 3) (nd := ⟨c, srt [a, b]⟩) rfl x]
  constructor
  · rintro ⟨p, hp, e⟩
    rw [mem_srt] at hp
    simp at hp
    rcases hp with rfl | rfl
    · rcases e with e | e
      · exact .inl e
      · exact .inr (.inr ((ha x).1 e))
    · rcases e with e | e
      · exact .inr (.inl e)
      · exact .inr (.inr ((hb x).1 e))
  · rintro (rfl | rfl | rfl)
    · exact ⟨_, mem_srt.2 (by simp), .inl rfl⟩
    · exact ⟨_, mem_srt.2 (by simp), .inl rfl⟩
    · exact ⟨a, mem_srt.2 (by simp), .inr ((ha _).2 rfl)⟩
end

section
variable {w w' : World} {K : Value → World → Prop}
end
end Go.Proofs.YtgfkpemnkmebkaaDoor
/-
  Both graphs side by side; begin.
-/
namespace Go.Proofs.YtgfkpemnkmebkaaDoor
open Go Go.Lite Go.RowKit

/-- the program's graph and the document's, the same, apart in memory -/
structure Both (w : World) (S F : Nat → Prop) (g : Nat) (FR : Nat → Prop) (r : Nat) (D : DG) : Prop where
  G : IsG w S F g D
  R : IsR w FR r D
  rS : ¬ S r
  rF : ¬ F r
  fS : ∀ k, FR k → ¬ S k
  low : ∀ k, FR k → k < w.heap.size
section
variable {w v w' : World} {S F S2 F2 FR : Nat → Prop} {g r : Nat} {D D' : DG} {K : Value → World → Prop}
end
end Go.Proofs.YtgfkpemnkmebkaaDoor
