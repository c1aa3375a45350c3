/-
  DERIVED: THE SHELF's CONTRACTS AT THIS DUMP, IN PLAIN WORDS (tools/lay-plain.mjs out of 'YtljckpecmlnbiaaDoorShelf.lean', which tools/lay-shelf.mjs wrote): THE SAME DECLARATIONS UNDER THE SAME NAMES: 'import', 'namespace', 'open', 'def', 'theorem' AND NOTHING ELSE: no command of the shelf's: FOR A HAND-IN. Each laying: the table of numbers ('.._ren') and one theorem, a field a fact of the dump's own or the kernel's comparison; each contract: ONE APPLICATION.
-/
import Derived.Test.YtljckpecmlnbiaaDoorProg
import Derived.Shelf.SlSortCmp.NoneTotal
import Derived.Shelf.SlMaps.Clone
import Derived.Shelf.Spec.TrailingZeros
import Derived.Test.YtljckpecmlnbiaaDoorMA
import Derived.Test.YtljckpecmlnbiaaDoorMB
import Derived.Lib.BytesEntry
import Derived.Test.YtljckpecmlnbiaaDoorMC
import Derived.Test.YtljckpecmlnbiaaDoorMD
namespace Go.Proofs
open Go.Shelf
def Tryd.sortL_ren : Go.Shelf.Ren := ⟨fun | 6 => 65 | 15 => 70 | 14 => 69 | 28 => 80 | 29 => 81 | 20 => 72 | 21 => 73 | 22 => 74 | 23 => 75 | 24 => 76 | 25 => 77 | 26 => 78 | 27 => 79 | 46 => 82 | 47 => 83 | 48 => 84 | 49 => 85 | 50 => 86 | 57 => 87 | n => n, fun | 22 => 25 | 24 => 23 | 25 => 83 | 3 => 3 | 39 => 95 | 0 => 0 | 53 => 111 | 55 => 88 | 4 => 4 | 46 => 105 | 45 => 104 | 50 => 87 | 5 => 5 | 9 => 9 | 66 => 112 | 70 => 116 | 76 => 118 | 77 => 119 | n => n, fun | n => n⟩
theorem Tryd.sortL : Go.Proofs.SlLaysF0.n6 Tryd.prog Tryd.sortL_ren := {
  mixed := by kernel_rfl
  f6 := ⟨Tryd.f65.name, by decide, Tryd.func65.trans (congrArg some (by kernel_rfl))⟩
  f14 := ⟨Tryd.f69.name, by decide, Tryd.func69.trans (congrArg some (by kernel_rfl))⟩
  f15 := Tryd.func70.trans (congrArg some (by kernel_rfl))
  f20 := ⟨Tryd.f72.name, by decide, Tryd.func72.trans (congrArg some (by kernel_rfl))⟩
  f21 := ⟨Tryd.f73.name, by decide, Tryd.func73.trans (congrArg some (by kernel_rfl))⟩
  f22 := ⟨Tryd.f74.name, by decide, Tryd.func74.trans (congrArg some (by kernel_rfl))⟩
  f23 := ⟨Tryd.f75.name, by decide, Tryd.func75.trans (congrArg some (by kernel_rfl))⟩
  f24 := ⟨Tryd.f76.name, by decide, Tryd.func76.trans (congrArg some (by kernel_rfl))⟩
  f25 := ⟨Tryd.f77.name, by decide, Tryd.func77.trans (congrArg some (by kernel_rfl))⟩
  f26 := ⟨Tryd.f78.name, by decide, Tryd.func78.trans (congrArg some (by kernel_rfl))⟩
  f27 := ⟨Tryd.f79.name, by decide, Tryd.func79.trans (congrArg some (by kernel_rfl))⟩
  f28 := Tryd.func80.trans (congrArg some (by kernel_rfl))
  f29 := Tryd.func81.trans (congrArg some (by kernel_rfl))
  f46 := ⟨Tryd.f82.name, by decide, Tryd.func82.trans (congrArg some (by kernel_rfl))⟩
  f47 := Tryd.func83.trans (congrArg some (by kernel_rfl))
  f48 := Tryd.func84.trans (congrArg some (by kernel_rfl))
  f49 := ⟨Tryd.f85.name, by decide, Tryd.func85.trans (congrArg some (by kernel_rfl))⟩
  f50 := ⟨Tryd.f86.name, by decide, Tryd.func86.trans (congrArg some (by kernel_rfl))⟩
  f57 := ⟨Tryd.f87.name, by decide, Tryd.func87.trans (congrArg some (by kernel_rfl))⟩
  t0 := Tryd.underlying0
  a0 := Tryd.isAgg0
  z0 := Tryd.sizeOf0
  v0 := Tryd.zeroValue0
  t3 := Tryd.underlying3
  a3 := Tryd.isAgg3
  z3 := Tryd.sizeOf3
  v3 := Tryd.zeroValue3
  t4 := Tryd.underlying4
  a4 := Tryd.isAgg4
  z4 := Tryd.sizeOf4
  v4 := Tryd.zeroValue4
  t5 := Tryd.underlying5
  a5 := Tryd.isAgg5
  z5 := Tryd.sizeOf5
  v5 := Tryd.zeroValue5
  t9 := Tryd.underlying9
  a9 := Tryd.isAgg9
  z9 := Tryd.sizeOf9
  v9 := Tryd.zeroValue9
  t22 := Tryd.underlying25
  a22 := Tryd.isAgg25
  z22 := Tryd.sizeOf25
  v22 := Tryd.zeroValue25
  t25 := Tryd.underlying83
  a25 := Tryd.isAgg83
  z25 := Tryd.sizeOf83
  v25 := Tryd.zeroValue83
  t39 := Tryd.underlying95
  a39 := Tryd.isAgg95
  z39 := Tryd.sizeOf95
  v39 := Tryd.zeroValue95
  t45 := Tryd.underlying104
  a45 := Tryd.isAgg104
  z45 := Tryd.sizeOf104
  v45 := Tryd.zeroValue104
  t46 := Tryd.underlying105
  a46 := Tryd.isAgg105
  z46 := Tryd.sizeOf105
  v46 := Tryd.zeroValue105
  t50 := Tryd.underlying87
  a50 := Tryd.isAgg87
  z50 := Tryd.sizeOf87
  v50 := Tryd.zeroValue87
  t53 := Tryd.underlying111
  a53 := Tryd.isAgg111
  z53 := Tryd.sizeOf111
  v53 := Tryd.zeroValue111
  t55 := Tryd.underlying88
  a55 := Tryd.isAgg88
  z55 := Tryd.sizeOf88
  v55 := Tryd.zeroValue88
  t66 := Tryd.underlying112
  a66 := Tryd.isAgg112
  z66 := Tryd.sizeOf112
  v66 := Tryd.zeroValue112
  t70 := Tryd.underlying116
  a70 := Tryd.isAgg116
  z70 := Tryd.sizeOf116
  v70 := Tryd.zeroValue116
  t76 := Tryd.underlying118
  a76 := Tryd.isAgg118
  z76 := Tryd.sizeOf118
  v76 := Tryd.zeroValue118
  t77 := Tryd.underlying119
  a77 := Tryd.isAgg119
  z77 := Tryd.sizeOf119
  v77 := Tryd.zeroValue119 }
def Tryd.cloneL_ren : Go.Shelf.Ren := ⟨fun | 5 => 47 | 7 => 62 | n => n, fun | 23 => 56 | 25 => 23 | 3 => 3 | 4 => 4 | 20 => 20 | n => n, fun | n => n⟩
theorem Tryd.cloneL : Go.Proofs.SlLaysW.n5 Tryd.prog Tryd.cloneL_ren := {
  mixed := by kernel_rfl
  f5 := ⟨Tryd.f47.name, by decide, Tryd.func47.trans (congrArg some (by kernel_rfl))⟩
  f7 := Tryd.func62.trans (congrArg some (by kernel_rfl))
  t4 := Tryd.underlying4
  a4 := Tryd.isAgg4
  z4 := Tryd.sizeOf4
  v4 := Tryd.zeroValue4
  t20 := Tryd.underlying20
  a20 := Tryd.isAgg20
  z20 := Tryd.sizeOf20
  v20 := Tryd.zeroValue20
  t23 := Tryd.underlying56
  a23 := Tryd.isAgg56
  z23 := Tryd.sizeOf56
  v23 := Tryd.zeroValue56 }
def Tryd.tzL_ren : Go.Shelf.Ren := ⟨fun | 29 => 55 | n => n, fun | 22 => 88 | 3 => 3 | 4 => 4 | 25 => 95 | 54 => 94 | 0 => 0 | 5 => 5 | n => n, fun | 1 => 0 | n => n⟩
theorem Tryd.tzL : Go.Proofs.Lays7.n29 Tryd.prog Tryd.tzL_ren := {
  mixed := by kernel_rfl
  f29 := Tryd.func55.trans (congrArg some (by kernel_rfl))
  t0 := Tryd.underlying0
  a0 := Tryd.isAgg0
  z0 := Tryd.sizeOf0
  v0 := Tryd.zeroValue0
  i0 := by kernel_rfl
  t3 := Tryd.underlying3
  a3 := Tryd.isAgg3
  z3 := Tryd.sizeOf3
  v3 := Tryd.zeroValue3
  i3 := by kernel_rfl
  t4 := Tryd.underlying4
  a4 := Tryd.isAgg4
  z4 := Tryd.sizeOf4
  v4 := Tryd.zeroValue4
  i4 := by kernel_rfl
  t5 := Tryd.underlying5
  a5 := Tryd.isAgg5
  z5 := Tryd.sizeOf5
  v5 := Tryd.zeroValue5
  i5 := by kernel_rfl
  t22 := Tryd.underlying88
  a22 := Tryd.isAgg88
  z22 := Tryd.sizeOf88
  v22 := Tryd.zeroValue88
  i22 := by kernel_rfl
  t25 := Tryd.underlying95
  a25 := Tryd.isAgg95
  z25 := Tryd.sizeOf95
  v25 := Tryd.zeroValue95
  i25 := by kernel_rfl
  t54 := Tryd.underlying94
  a54 := Tryd.isAgg94
  z54 := Tryd.sizeOf94
  g1 := by kernel_rfl }
end Go.Proofs
/-
  Runs of cells that are written; boxes; calls of a loop's body.
-/
namespace Go.Lite
open Go.RowKit

theorem YieldsTo.mono {P : Program} {l : Nat} {args : Array Value} {w : World} {R R' : Bool → World → Prop} (h : YieldsTo P l args w R) (hr : ∀ b w', R b w' → R' b w') : YieldsTo P l args w R' := by
  obtain ⟨g, tmps, assign, body, h1, h2⟩ := h
  exact ⟨g, tmps, assign, body, h1, fun r m => RoundIn.mono (h2 r m) fun e w' ⟨b, he, hb⟩ => ⟨b, he, hr _ _ hb⟩⟩

/-- xs, with vs laid in at k -/
def splice (xs : List Value) (k : Nat) (vs : List Value) : List Value := xs.take k ++ vs ++ xs.drop (k + vs.length)
theorem splice_nil (xs : List Value) (k : Nat) : splice xs k [] = xs := by simp [splice]
theorem splice_cons {xs : List Value} {k : Nat} (hk : k < xs.length) (v : Value) (vs : List Value) : splice xs k (v :: vs) = splice (xs.set k v) (k + 1) vs := by
  unfold splice
  rw [List.take_add_one, List.take_set_of_le (Nat.le_refl k), List.getElem?_set_self hk, List.drop_set]
  rw [if_pos (by omega), List.length_cons, show k + (vs.length + 1) = k + 1 + vs.length by omega]
  simp
theorem splice_len {xs : List Value} {k : Nat} {vs : List Value} (h : k + vs.length ≤ xs.length) : (splice xs k vs).length = xs.length := by
  unfold splice; simp; omega
theorem splice_all {xs vs : List Value} (h : vs.length = xs.length) : splice xs 0 vs = vs := by
  unfold splice; simp [h]

section
variable {w : World} {B : Nat} {e : TypeId} {size n c b : Nat}
theorem setCells_row : ∀ (vs : List Value) (xs : List Value) (w : World) (o i : Nat), Row w B e size (some ⟨b, 0, none⟩) n c xs → o + i + vs.length ≤ xs.length →
    Row (setCells w ⟨b, o, none⟩ vs i) B e size (some ⟨b, 0, none⟩) n c (splice xs (o + i) vs)
  | [], xs, w, o, i, h, _ => by rw [splice_nil]; exact h
  | v :: vs, xs, w, o, i, h, hl => by
    rw [List.length_cons] at hl
    rw [splice_cons (by omega)]
    simp only [setCells]
    rw [add_at]
    have h1 := Row.set h (j := o + i) (by omega) v
    have := setCells_row vs (xs.set (o + i) v) _ o (i + 1) h1 (by rw [List.length_set]; omega)
    rwa [show o + (i + 1) = o + i + 1 by omega] at this
theorem setCells_kept : ∀ (vs : List Value) (w : World) (o i : Nat), Kept (· = b) w (setCells w ⟨b, o, none⟩ vs i)
  | [], w, o, i => Kept.refl _ _
  | v :: vs, w, o, i => by
    simp only [setCells]
    rw [add_at]
    exact (Kept.setCell (S := fun k => k = b) (Kept.refl _ w) (p := ⟨b, o + i, none⟩) (fun _ => rfl) v).trans (setCells_kept vs _ o (i + 1)) (fun _ _ h => h)
theorem setCells_block : ∀ (vs : List Value) (cur : Array Value) (w : World) (t : TypeId) (o i : Nat), w.heap[b]? = some (.cells cur t (0, 0)) → o + i + vs.length ≤ cur.size →
    (setCells w ⟨b, o, none⟩ vs i).heap[b]? = some (.cells (splice cur.toList (o + i) vs).toArray t (0, 0))
  | [], cur, w, t, o, i, h, _ => by rw [splice_nil]; simpa [setCells] using h
  | v :: vs, cur, w, t, o, i, h, hl => by
    rw [List.length_cons] at hl
    rw [splice_cons (by simp; omega)]
    simp only [setCells]
    rw [add_at]
    have h1 := set_blk h (o + i) v
    have := setCells_block vs _ _ t o (i + 1) h1 (by simp; omega)
    rw [show o + (i + 1) = o + i + 1 by omega] at this
    rw [this]
    simp
/-- a new box that is written whole -/
theorem box_set {z cs : Array Value} {t : TypeId} (hz : z.size = cs.size) :
    (∀ j, j < cs.size → Wr (w.alloc (.cells z t)) ((⟨w.heap.size, 0, none⟩ : Addr).add j)) ∧
    (setCells (w.alloc (.cells z t)) ⟨w.heap.size, 0, none⟩ cs.toList 0).heap[w.heap.size]? = some (.cells cs t (0, 0)) ∧
    Kept Nil w (setCells (w.alloc (.cells z t)) ⟨w.heap.size, 0, none⟩ cs.toList 0) := by
  refine ⟨fun j hj => ?_, ?_, ?_⟩
  · rw [add_at, Nat.zero_add]
    exact wr_blk (new_blk w _) (by omega)
  · have h := setCells_block cs.toList z (w.alloc (.cells z t)) t 0 0 (new_blk w _) (by simp; omega)
    rw [h, splice_all (by simp [hz])]
  · exact ((Kept.refl Nil w).alloc _).trans (setCells_kept cs.toList _ 0 0) (fun k hk e => absurd hk (by omega))
end
end Go.Lite
/-
  Structs that are built of parts.
-/
namespace Go.Lite

theorem foldSet : ∀ (vs : List Value) (off k : Nat) (cells : Array Value), off + k + vs.length ≤ cells.size →
    ((vs.zipIdx k).foldl (fun (cs : Array Value) (p : Value × Nat) => cs.setIfInBounds (off + p.2) p.1) cells) = (splice cells.toList (off + k) vs).toArray
  | [], off, k, cells, _ => by rw [splice_nil]; simp
  | v :: vs, off, k, cells, h => by
    rw [List.length_cons] at h
    rw [splice_cons (by simp; omega), List.zipIdx_cons, List.foldl_cons]
    have := foldSet vs off (k + 1) (cells.setIfInBounds (off + k) v) (by simp; omega)
    rw [this, Array.toList_setIfInBounds]
    rfl
theorem fill_part {place : Nat → Option (Nat × Nat)} {cells : Array Value} {i off size : Nat} {v : Value} {rest : List (Nat × Value)} (hp : place i = some (off, size)) (hs : v.cells.size = size) (hle : off + size ≤ cells.size) :
    Instr.fill place cells ((i, v) :: rest) = Instr.fill place (splice cells.toList off v.cells.toList).toArray rest := by
  rw [Instr.fill, hp]
  simp only
  rw [if_neg (by simp; omega)]
  congr 1
  have h := foldSet v.cells.toList off 0 cells (by simp; omega)
  rw [Nat.add_zero] at h
  rw [← h, ← Array.foldl_toList, Array.toList_zipIdx]

/-- a struct's fields (where, how many cells) and its zero -/
def bld (P : Program) (t : TypeId) : Option (List (Nat × Nat) × List Value) :=
  match P.info? t, P.underlying t with
  | some it, some (.struct fields) =>
    match it.zero, fields.toList.mapM (fun f => (P.info? f.type).map fun i => (f.offset, i.size)) with
    | some z, some places => some (places, z.cells.toList)
    | _, _ => none
  | _, _ => none
theorem built_of {P : Program} {t : TypeId} {pl : List (Nat × Nat)} {z : List Value} (h : bld P t = some (pl, z)) (parts : List (Nat × Value)) :
    P.built t parts = Instr.fill (pl.toArray[·]?) z.toArray parts := by
  unfold bld at h
  split at h
  · rename_i it fields h1 h2
    split at h
    · rename_i z' pl' h3 h4
      simp only [Option.some.injEq, Prod.mk.injEq] at h
      obtain ⟨rfl, rfl⟩ := h
      unfold Program.built
      rw [h1, h2]
      simp only [h3, h4]
    · cases h
  · cases h
end Go.Lite
/-
  Marks of several ranges over functions.
-/
namespace Go.Lite

theorem find_snoc {ρ : Env} {k i : Nat} (v : Value) (h : i ≠ k) : find (ρ ++ [(k, v)]) i = find ρ i := by
  induction ρ with
  | nil =>
    simp only [List.nil_append, find]
    cases hb : Nat.beq k i
    · rfl
    · exact absurd (Nat.eq_of_beq_eq_true hb).symm h
  | cons p ρ ih =>
    obtain ⟨j, u⟩ := p
    simp only [List.cons_append, find]
    cases Nat.beq j i
    · exact ih
    · rfl
theorem find_snoc_same {ρ : Env} {k : Nat} (v : Value) (h : find ρ k = none) : find (ρ ++ [(k, v)]) k = some v := by
  induction ρ with
  | nil => simp [find]
  | cons p ρ ih =>
    obtain ⟨j, u⟩ := p
    simp only [List.cons_append, find] at *
    cases hb : Nat.beq j k
    · rw [hb] at h
      exact ih h
    · rw [hb] at h
      cases h
/-- no mark, or a place of marks that holds none: the same -/
theorem Holds.mark0 {r : Option Nat} {ds : List Deferred} {P : Program} {n : Nat} {c : Code} {Q : Post} {ρ : Env} {w : World} (hd : find ρ dkey = none) (h : Holds r ds P n c Q (ρ ++ [(dkey, .agg #[])]) w) : Holds r ds P n c Q ρ w := fun a hs => h a ⟨hs.size, by
    have := hs.defers
    unfold marks at *
    rw [find_snoc_same _ hd]
    rw [hd] at this
    exact this, fun i v hi hv => hs.vals i v hi (by rw [← hv, find_snoc _ hi])⟩

def marksA : List Nat → Array Value
  | [] => #[]
  | D :: l => #[.pointer (some ⟨D, 0, none⟩)] ++ marksA l
theorem marksOf_A : ∀ l, marksOf (.agg (marksA l)) = l
  | [] => rfl
  | D :: l => by
    have ih := marksOf_A l
    simp only [marksA, marksOf] at *
    simp [ih]
theorem marksOk_of : ∀ (l : List Nat) (w : World), l.Nodup → (∀ D ∈ l, w.heap[D]? = some (.deferred (some []))) → MarksOk l w
  | [], _, _, _ => trivial
  | D :: l, w, hn, h => by
    rw [List.nodup_cons] at hn
    refine ⟨h D (by simp), marksOk_of l _ hn.2 fun E hE => ?_⟩
    have hne : D ≠ E := fun e => hn.1 (by rw [e]; exact hE)
    exact (World.putObj_heap_other hne.symm).trans (h E (by simp [hE]))
theorem takeAll_kept : ∀ (l : List Nat) (w : World), Kept (· ∈ l) w (takeAll l w)
  | [], w => Kept.refl _ w
  | D :: l, w => ((Kept.putAt w D (.deferred none)).mono (S' := fun k => k ∈ D :: l) (fun k _ e => by subst e; simp)).trans (takeAll_kept l _) (fun k _ h => by simp [h])
end Go.Lite
/-
  Hashes: 32 cells, each a byte.
-/
namespace Go.Proofs.YtljckpecmlnbiaaDoor
open Go Go.Lite Go.RowKit

/-- the cells of a hash -/
def isH (cs : Array Value) : Prop := cs.size = 32 ∧ ∀ v ∈ cs.toList, ∃ i : Int, v = .int .u8 i ∧ 0 ≤ i ∧ i < 256
/-- a hash -/
abbrev HT := { cs : Array Value // isH cs }
def key (h : HT) : List Int := h.1.toList.map unInt
theorem isH.ints {cs : Array Value} (h : isH cs) : isInts .u8 32 cs := ⟨h.1, fun v hv => let ⟨i, e, _⟩ := h.2 v hv; ⟨i, e⟩⟩
theorem ints_inj : ∀ {a b : List Value}, (∀ v ∈ a, ∃ i : Int, v = .int .u8 i) → (∀ v ∈ b, ∃ i : Int, v = .int .u8 i) → a.map unInt = b.map unInt → a = b
  | [], [], _, _, _ => rfl
  | [], _ :: _, _, _, h => by simp at h
  | _ :: _, [], _, _, h => by simp at h
  | x :: a, y :: b, ha, hb, h => by
    obtain ⟨i, rfl⟩ := ha x (by simp)
    obtain ⟨j, rfl⟩ := hb y (by simp)
    simp only [List.map_cons, List.cons.injEq, unInt] at h
    rw [h.1, ints_inj (fun v hv => ha v (by simp [hv])) (fun v hv => hb v (by simp [hv])) h.2]
theorem key_inj {a b : HT} (h : key a = key b) : a = b := by
  apply Subtype.ext
  apply Array.ext'
  exact ints_inj (fun v hv => a.2.ints.2 v hv) (fun v hv => b.2.ints.2 v hv) h
instance : DecidableEq HT := fun a b => if h : key a = key b then isTrue (key_inj h) else isFalse fun e => h (by rw [e])
theorem sameInts_eq (a b : HT) : sameInts a.1 b.1 = decide (a = b) := by
  unfold sameInts
  by_cases e : a = b
  · subst e; simp
  · rw [decide_eq_false e]
    have : ¬ (key a = key b) := fun h => e (key_inj h)
    simpa [key] using this
theorem isH.one {cs : Array Value} (h : isH cs) : ∀ v ∈ cs.toList, v.oneCell' = true := fun v hv => by
  obtain ⟨i, rfl, _⟩ := h.2 v hv
  rfl
/-- the order: byte by byte -/
def ltK : List Int → List Int → Bool
  | [], [] => false
  | [], _ :: _ => true
  | _ :: _, [] => false
  | x :: a, y :: b => if x < y then true else if y < x then false else ltK a b
def hlt (a b : HT) : Bool := ltK (key a) (key b)
theorem ltK_irrefl : ∀ a, ltK a a = false
  | [] => rfl
  | x :: a => by simp [ltK, ltK_irrefl a]
theorem ltK_trans : ∀ {a b c}, ltK a b = true → ltK b c = true → ltK a c = true
  | [], [], _, h, _ => by simp [ltK] at h
  | [], _ :: _, [], _, h => by simp [ltK] at h
  | [], _ :: _, _ :: _, _, _ => rfl
  | _ :: _, [], _, h, _ => by simp [ltK] at h
  | _ :: _, _ :: _, [], _, h => by simp [ltK] at h
  | x :: a, y :: b, z :: c, h, h' => by
    simp only [ltK] at *
    by_cases h1 : x < y
    · by_cases h2 : y < z
      · rw [if_pos (by omega)]
      · rw [if_neg h2] at h'
        by_cases h3 : z < y
        · rw [if_pos h3] at h'; cases h'
        · rw [if_pos (by omega)]
    · rw [if_neg h1] at h
      by_cases h2 : y < x
      · rw [if_pos h2] at h; cases h
      · rw [if_neg h2] at h
        by_cases h3 : y < z
        · rw [if_pos (by omega)]
        · rw [if_neg h3] at h'
          by_cases h4 : z < y
          · rw [if_pos h4] at h'; cases h'
          · rw [if_neg h4] at h'
            rw [if_neg (by omega), if_neg (by omega)]
            exact ltK_trans h h'
theorem ltK_total : ∀ {a b}, a.length = b.length → ltK a b = false → ltK b a = false → a = b
  | [], [], _, _, _ => rfl
  | [], _ :: _, h, _, _ => by simp at h
  | _ :: _, [], h, _, _ => by simp at h
  | x :: a, y :: b, hl, h, h' => by
    simp only [ltK] at *
    by_cases h1 : x < y
    · rw [if_pos h1] at h; cases h
    · rw [if_neg h1] at h
      by_cases h2 : y < x
      · rw [if_pos h2] at h'; cases h'
      · rw [if_neg h2] at h h'
        rw [if_neg h1] at h'
        have : x = y := by omega
        rw [this, ltK_total (by simpa using hl) h h']
theorem key_len (a : HT) : (key a).length = 32 := by have := a.2.1; simpa [key] using this
theorem hlt_total {a b : HT} (h : hlt a b = false) (h' : hlt b a = false) : a = b := key_inj (ltK_total (by rw [key_len, key_len]) h h')
theorem hlt_trans {a b c : HT} (h : hlt a b = true) (h' : hlt b c = true) : hlt a c = true := ltK_trans h h'
theorem hlt_irrefl (a : HT) : hlt a a = false := ltK_irrefl _
theorem hlt_asymm {a b : HT} (h : hlt a b = true) : hlt b a = false := by
  cases h' : hlt b a
  · rfl
  · have := hlt_trans h h'; rw [hlt_irrefl] at this; cases this
end Go.Proofs.YtljckpecmlnbiaaDoor
/-
  Sorted hashes, each once (no program in sight).
-/
namespace Go.Proofs.YtljckpecmlnbiaaDoor
open Go Go.Lite

/-- rising -/
def SS (l : List HT) : Prop := l.Pairwise fun a b => hlt a b = true
theorem SS.nodup {l : List HT} (h : SS l) : l.Nodup := List.Pairwise.imp (fun {a b} hab e => by subst e; rw [hlt_irrefl] at hab; cases hab) h
theorem SS.cons {x : HT} {l : List HT} : SS (x :: l) ↔ (∀ y ∈ l, hlt x y = true) ∧ SS l := List.pairwise_cons
theorem SS_ext : ∀ {l m : List HT}, SS l → SS m → (∀ x, x ∈ l ↔ x ∈ m) → l = m
  | [], [], _, _, _ => rfl
  | [], y :: m, _, _, h => by have := (h y).2 (by simp); simp at this
  | x :: l, [], _, _, h => by have := (h x).1 (by simp); simp at this
  | x :: l, y :: m, hl, hm, h => by
    rw [SS.cons] at hl hm
    have hxy : x = y := by
      have h1 := (h x).1 (by simp)
      have h2 := (h y).2 (by simp)
      rcases List.mem_cons.1 h1 with h1 | h1
      · exact h1
      · rcases List.mem_cons.1 h2 with h2 | h2
        · exact h2.symm
        · have a := hl.1 _ h2
          have b := hm.1 _ h1
          rw [hlt_asymm a] at b
          cases b
    subst hxy
    congr 1
    refine SS_ext hl.2 hm.2 fun z => ?_
    have hz := h z
    constructor
    · intro hzl
      rcases List.mem_cons.1 (hz.1 (by simp [hzl])) with e | e
      · subst e; have := hl.1 _ hzl; rw [hlt_irrefl] at this; cases this
      · exact e
    · intro hzm
      rcases List.mem_cons.1 (hz.2 (by simp [hzm])) with e | e
      · subst e; have := hm.1 _ hzm; rw [hlt_irrefl] at this; cases this
      · exact e

def ins (x : HT) : List HT → List HT
  | [] => [x]
  | y :: l => if hlt x y then x :: y :: l else if x = y then y :: l else y :: ins x l
theorem mem_ins (x z : HT) : ∀ l, z ∈ ins x l ↔ z = x ∨ z ∈ l
  | [] => by simp [ins]
  | y :: l => by
    unfold ins
    split
    · simp
    · split
      · rename_i e; subst e; simp
      · simp only [List.mem_cons, mem_ins x z l]
        constructor
        · rintro (h | h | h) <;> simp [h]
        · rintro (h | h | h) <;> simp [h]
theorem SS_ins (x : HT) : ∀ {l : List HT}, SS l → SS (ins x l)
  | [], _ => by simp [ins, SS]
  | y :: l, h => by
    have h' := SS.cons.1 h
    unfold ins
    split
    · rename_i hxy
      refine SS.cons.2 ⟨fun z hz => ?_, h⟩
      rcases List.mem_cons.1 hz with rfl | hz
      · exact hxy
      · exact hlt_trans hxy (h'.1 _ hz)
    · split
      · exact h
      · rename_i h1 h2
        refine SS.cons.2 ⟨fun z hz => ?_, SS_ins x h'.2⟩
        rcases (mem_ins x z l).1 hz with rfl | hz
        · cases hyz : hlt y z
          · exact absurd (hlt_total hyz (by simpa using h1)).symm h2
          · rfl
        · exact h'.1 _ hz
/-- the same, rising, each once -/
def srt (l : List HT) : List HT := l.foldr ins []
theorem mem_srt {z : HT} : ∀ {l : List HT}, z ∈ srt l ↔ z ∈ l
  | [] => by simp [srt]
  | x :: l => by
    have := @mem_srt z l
    simp only [srt, List.foldr_cons, mem_ins, List.mem_cons] at this ⊢
    rw [this]
theorem SS_srt : ∀ l : List HT, SS (srt l)
  | [] => List.Pairwise.nil
  | x :: l => SS_ins x (SS_srt l)
theorem srt_ext {l m : List HT} (h : ∀ x, x ∈ l ↔ x ∈ m) : srt l = srt m := SS_ext (SS_srt l) (SS_srt m) fun x => by rw [mem_srt, mem_srt, h]
theorem srt_of {l m : List HT} (hs : SS l) (h : ∀ x, x ∈ l ↔ x ∈ m) : l = srt m := SS_ext hs (SS_srt m) fun x => by rw [mem_srt, h]
theorem ins_len (x : HT) : ∀ l, (ins x l).length ≤ l.length + 1
  | [] => by simp [ins]
  | y :: l => by
    have := ins_len x l
    unfold ins
    split
    · simp
    · split <;> simp <;> omega
theorem srt_len : ∀ l : List HT, (srt l).length ≤ l.length
  | [] => by simp [srt]
  | x :: l => by
    have h1 := ins_len x (srt l)
    have h2 := srt_len l
    simp only [srt, List.foldr_cons, List.length_cons] at *
    omega
theorem ins_len_of {x : HT} : ∀ {l : List HT}, x ∉ l → (ins x l).length = l.length + 1
  | [], _ => by simp [ins]
  | y :: l, h => by
    simp only [List.mem_cons, not_or] at h
    have := ins_len_of h.2
    unfold ins
    split
    · simp
    · rw [if_neg h.1]; simp; omega
theorem srt_len_nodup : ∀ {l : List HT}, l.Nodup → (srt l).length = l.length
  | [], _ => by simp [srt]
  | x :: l, h => by
    rw [List.nodup_cons] at h
    have h2 := srt_len_nodup h.2
    have := ins_len_of (l := srt l) (x := x) (fun hm => h.1 (mem_srt.1 hm))
    simp only [srt, List.foldr_cons, List.length_cons] at *
    omega
theorem ins_len_mem {x : HT} : ∀ {l : List HT}, SS l → x ∈ l → (ins x l).length = l.length
  | [], _, h => by simp at h
  | y :: l, hs, h => by
    have h' := SS.cons.1 hs
    unfold ins
    split
    · rename_i hxy
      rcases List.mem_cons.1 h with rfl | h
      · rw [hlt_irrefl] at hxy; cases hxy
      · have := h'.1 _ h; rw [hlt_asymm hxy] at this; cases this
    · split
      · rfl
      · rename_i h1 h2
        rcases List.mem_cons.1 h with rfl | h
        · exact absurd rfl h2
        · simp [ins_len_mem h'.2 h]
theorem nodup_of_srt : ∀ {l : List HT}, (srt l).length = l.length → l.Nodup
  | [], _ => List.Pairwise.nil
  | x :: l, h => by
    have h2 := srt_len l
    by_cases hm : x ∈ l
    · have := ins_len_mem (SS_srt l) (mem_srt.2 hm)
      simp only [srt, List.foldr_cons, List.length_cons] at *
      omega
    · have h3 := ins_len_of (l := srt l) (x := x) (fun h => hm (mem_srt.1 h))
      simp only [srt, List.foldr_cons, List.length_cons] at *
      exact List.nodup_cons.2 ⟨hm, nodup_of_srt (by simp only [srt]; omega)⟩
theorem srt_nil : srt [] = [] := rfl
theorem srt_one (x : HT) : srt [x] = [x] := rfl
theorem srt_eq_nil {l : List HT} : srt l = [] ↔ l = [] := by
  constructor
  · intro h
    cases l with
    | nil => rfl
    | cons x l => have : x ∈ srt (x :: l) := mem_srt.2 (by simp); rw [h] at this; simp at this
  · rintro rfl; rfl
theorem srt_self {l : List HT} (h : SS l) : srt l = l := (srt_of h fun _ => Iff.rfl).symm

/-- one more in the midst -/
theorem SS_mid {l : List HT} {x : HT} {k : Nat} (hs : SS l) (h1 : ∀ y ∈ l.take k, hlt y x = true) (h2 : ∀ y ∈ l.drop k, hlt x y = true) : SS (l.take k ++ x :: l.drop k) := by
  unfold SS at *
  rw [← List.take_append_drop k l, List.pairwise_append] at hs
  rw [List.pairwise_append, List.pairwise_cons]
  refine ⟨hs.1, ⟨h2, hs.2.1⟩, fun y hy z hz => ?_⟩
  rcases List.mem_cons.1 hz with rfl | hz
  · exact h1 y hy
  · exact hs.2.2 y hy z hz
theorem SS.get {l : List HT} (h : SS l) {i j : Nat} (hij : i < j) {x y : HT} (hx : l[i]? = some x) (hy : l[j]? = some y) : hlt x y = true := by
  obtain ⟨h1, rfl⟩ := List.getElem?_eq_some_iff.1 hx
  obtain ⟨h2, rfl⟩ := List.getElem?_eq_some_iff.1 hy
  exact List.pairwise_iff_getElem.1 h i j h1 h2 hij
/-- one more at the end -/
theorem SS_snoc {l : List HT} {x : HT} (hs : SS l) (h : ∀ y ∈ l, hlt y x = true) : SS (l ++ [x]) := by
  have := SS_mid (k := l.length) hs (x := x) (by simpa using h) (by simp)
  simpa using this

/-- rising, but not strictly -/
def LE (l : List HT) : Prop := l.Pairwise fun a b => hlt b a = false
theorem SS.le {l : List HT} (h : SS l) : LE l := List.Pairwise.imp (fun hab => hlt_asymm hab) h
theorem lt_of_le_ne {a b : HT} (h : hlt b a = false) (hn : a ≠ b) : hlt a b = true := by
  cases hab : hlt a b
  · exact absurd (hlt_total hab h) hn
  · rfl
theorem lt_of_le_lt {a b c : HT} (h : hlt b a = false) (h' : hlt b c = true) : hlt a c = true := by
  by_cases e : a = b
  · subst e; exact h'
  · exact hlt_trans (lt_of_le_ne h e) h'
theorem LE.get {l : List HT} (h : LE l) {i j : Nat} (hij : i < j) {x y : HT} (hx : l[i]? = some x) (hy : l[j]? = some y) : hlt y x = false := by
  obtain ⟨h1, rfl⟩ := List.getElem?_eq_some_iff.1 hx
  obtain ⟨h2, rfl⟩ := List.getElem?_eq_some_iff.1 hy
  exact List.pairwise_iff_getElem.1 h i j h1 h2 hij
theorem mem_take_succ {l : List HT} {k : Nat} {x z : HT} (hx : l[k]? = some x) : z ∈ l.take (k + 1) ↔ z ∈ l.take k ∨ z = x := by
  rw [List.take_add_one, hx]
  simp
end Go.Proofs.YtljckpecmlnbiaaDoor
/-
  The document's small functions on hashes: Compare, In, Equal.
-/
namespace Go.Proofs.YtljckpecmlnbiaaDoor
open Go Go.Lite Go.RowKit

theorem addr_block (a : Addr) (k : Nat) : (a.add k).block = a.block := by unfold Addr.add; split <;> rfl
theorem roundQ_exit {σ : Type} (e : σ → Env) (I : σ → World → Prop) (μ : σ → World → Nat) (s : σ) (w : World) (Q : Post) (l : Nat) (ρ : Env) (w' : World) : roundQ e I μ s w Q (.exit l) ρ w' = Q (.exit l) ρ w' := rfl
theorem roundQ_ret {σ : Type} (e : σ → Env) (I : σ → World → Prop) (μ : σ → World → Nat) (s : σ) (w : World) (Q : Post) (ρ : Env) (w' : World) : roundQ e I μ s w Q .ret ρ w' = Q .ret ρ w' := rfl
theorem wrapI {x : Int} (h0 : -9223372036854775808 ≤ x) (h1 : x < 9223372036854775808) : IntKind.i64.wrap x = x := by
  simp only [IntKind.wrap, IntKind.bits, IntKind.signed]
  simp
  omega

theorem Cells.keep {S : Nat → Prop} {w w' : World} {a : Addr} {cs : Array Value} (h : Cells w a cs) (hk : Kept S w w') (hn : ¬ S a.block) : Cells w' a cs :=
  fun j v hj => hk.cell (h j v hj) (by rw [addr_block]; exact hn)
theorem Cells.blk {w : World} {b : Nat} {cs : Array Value} {t : TypeId} {fr : Nat × Nat} (h : w.heap[b]? = some (.cells cs t fr)) : Cells w ⟨b, 0, none⟩ cs :=
  fun j v hj => by rw [add_at, Nat.zero_add, cell_blk h]; exact hj

/-- a slice of hashes, to be read -/
structure HS (w : World) (A : Option Addr) (n : Nat) (l : List HT) : Prop where
  len : l.length = n
  at_ : ∀ (i : Nat) (h : HT), l[i]? = some h → ∃ a, A = some a ∧ a.block < w.heap.size ∧ Cells w (a.add (i * 32)) h.1
theorem HS.keep {S : Nat → Prop} {w w' : World} {A : Option Addr} {n : Nat} {l : List HT} (h : HS w A n l) (hk : Kept S w w') (hn : ∀ a, A = some a → ¬ S a.block) : HS w' A n l := ⟨h.len, fun i x hi => by
  obtain ⟨a, h1, h2, h3⟩ := h.at_ i x hi
  exact ⟨a, h1, Nat.lt_of_lt_of_le h2 hk.size, Cells.keep h3 hk (by rw [addr_block]; exact hn a h1)⟩⟩
theorem HS.same {w w' : World} {A : Option Addr} {n : Nat} {l : List HT} (h : HS w A n l) (hk : Kept Nil w w') : HS w' A n l := h.keep hk fun _ _ h => h

section
variable {w : World} {K : Value → World → Prop}
/-- In -/
theorem ref_In {A : Option Addr} {n c : Nat} {l : List HT} (h : HT) (hl : HS w A n l) (hn : n ≤ 1000000) (hK : ∀ w', Kept Nil w w' → K (.bool (decide (h ∈ l))) w') :
    Ret Tryd.prog ref10_In.id #[.slice A n c, .agg h.1] w K := by
  refine ref10_In.of ?_
  unfold ref10_In.W
  intro w3
  have k3 : Kept Nil w w3 := (Kept.refl Nil w).alloc _
  have hb3 : w3.heap[w.heap.size]? = some (.cells h.1 T_api_Hash (0, 0)) := new_blk w _
  clear_value w3
  have hlen := hl.len
  refine ref10_In.loop1 (I := fun s w' => ∃ i : Nat, s = (false, (i : Int)) ∧ i ≤ n ∧ Kept Nil w3 w' ∧ h ∉ l.take i) (μ := fun s _ => ((n : Int) - s.2).toNat) (s := (false, 0)) ⟨0, rfl, Nat.zero_le _, Kept.refl _ _, by simp⟩ ?_
  rintro s w' ⟨i, rfl, hi, kw, hno⟩
  refine Split.dec (fun hlt => ?_) (fun hge => ?_)
  · simp only at hlt
    have hil : i < n := by omega
    obtain ⟨x, hx⟩ : ∃ x, l[i]? = some x := ⟨_, List.getElem?_eq_getElem (by omega)⟩
    have kk : Kept Nil w w'.drew := (k3.trans kw (fun _ _ h => h)).drew
    obtain ⟨a, rfl, _, hc⟩ := (hl.same kk).at_ i x hx
    intro w8
    have k8 : Kept Nil w3 w8 := kw.drew
    refine ⟨⟨by simp only; omega, by simp only; omega⟩, x.1, ⟨x.2.1, hc⟩, h.1, ⟨h.2.1, Cells.blk (k8.heap hb3 (fun h => h))⟩, ⟨x.2.ints, h.2.ints⟩, ?_⟩
    rw [sameInts_eq]
    have kw8 : Kept Nil w w8 := kk
    refine Split.dec (fun he => ?_) (fun he => ?_)
    · have := hK w8 kw8
      rw [decide_eq_true (by rw [← he]; exact List.mem_of_getElem? hx)] at this
      exact this
    · simp only
      rw [wrapI (x := (i : Int) + 1) (by omega) (by omega)]
      refine ⟨(false, (i : Int) + 1), rfl, ⟨i + 1, rfl, hil, k8, ?_⟩, by simp only; omega⟩
      rw [List.take_add_one, hx]
      simp only [Option.toList_some, List.mem_append, List.mem_singleton, not_or]
      exact ⟨hno, fun e => he e.symm⟩
  · simp only at hge
    rw [roundQ_exit, ref10_In.x1_0]
    have := hK w' (k3.trans kw (fun _ _ h => h))
    rw [List.take_of_length_le (by omega)] at hno
    rw [decide_eq_false hno] at this
    exact this
/-- Equal -/
theorem ref_Equal {A A' : Option Addr} {n n' c c' : Nat} {l l' : List HT} (hl : HS w A n l) (hl' : HS w A' n' l') (hn : n ≤ 1000000) (hK : ∀ w', Kept Nil w w' → K (.bool (decide (l = l'))) w') :
    Ret Tryd.prog ref10_Equal.id #[.slice A n c, .slice A' n' c'] w K := by
  have hlen := hl.len
  have hlen' := hl'.len
  refine ref10_Equal.of ?_
  by_cases hne : n = n'
  · subst hne
    refine Split.no (by simp) ?_
    refine ref10_Equal.loop1 (I := fun s w' => ∃ i : Nat, s = (false, (i : Int)) ∧ i ≤ n ∧ Kept Nil w w' ∧ l.take i = l'.take i) (μ := fun s _ => ((n : Int) - s.2).toNat) (s := (false, 0)) ⟨0, rfl, Nat.zero_le _, Kept.refl _ _, by simp⟩ ?_
    rintro s w' ⟨i, rfl, hi, kw, heq⟩
    refine Split.dec (fun hlt => ?_) (fun hge => ?_)
    · simp only at hlt
      have hil : i < n := by omega
      obtain ⟨x, hx⟩ : ∃ x, l[i]? = some x := ⟨_, List.getElem?_eq_getElem (by omega)⟩
      obtain ⟨y, hy⟩ : ∃ y, l'[i]? = some y := ⟨_, List.getElem?_eq_getElem (by omega)⟩
      have kk : Kept Nil w w'.drew := kw.drew
      obtain ⟨a, rfl, _, hc⟩ := (hl.same kk).at_ i x hx
      obtain ⟨a', rfl, _, hc'⟩ := (hl'.same kk).at_ i y hy
      intro w7
      have k7 : Kept Nil w w7 := kk
      have hb : 0 ≤ (i : Int) ∧ (i : Int) < (n : Int) := ⟨by omega, by omega⟩
      refine ⟨hb, x.1, ⟨x.2.1, hc⟩, hb, y.1, ⟨y.2.1, hc'⟩, ⟨x.2.ints, y.2.ints⟩, ?_⟩
      rw [sameInts_eq]
      by_cases he : x = y
      · refine Split.no (by simp [he]) ?_
        simp only
        rw [wrapI (x := (i : Int) + 1) (by omega) (by omega)]
        refine ⟨(false, (i : Int) + 1), rfl, ⟨i + 1, rfl, hil, k7, ?_⟩, by simp only; omega⟩
        rw [List.take_add_one, List.take_add_one, hx, hy, heq, he]
      · refine Split.yes (by simp [he]) ?_
        have := hK w7 k7
        rw [decide_eq_false (fun e => he (by rw [e, hy] at hx; exact (Option.some.inj hx).symm))] at this
        exact this
    · simp only at hge
      rw [roundQ_exit, ref10_Equal.x1_0]
      have := hK w' kw
      rw [List.take_of_length_le (by omega), List.take_of_length_le (by omega)] at heq
      rw [decide_eq_true heq] at this
      exact this
  · refine Split.yes (by simp; omega) ?_
    have := hK w (Kept.refl _ _)
    rw [decide_eq_false (fun e => hne (by rw [← hlen, ← hlen', e]))] at this
    exact this
end
end Go.Proofs.YtljckpecmlnbiaaDoor
/-
  Compare, the document's and the program's.
-/
namespace Go.Proofs.YtljckpecmlnbiaaDoor
open Go Go.Lite Go.RowKit

/-- -1, 0, 1 -/
def cmpH (a b : HT) : Int := if hlt a b then -1 else if hlt b a then 1 else 0
theorem ltK_drop : ∀ (i : Nat) (a b : List Int), a.take i = b.take i → ltK a b = ltK (a.drop i) (b.drop i)
  | 0, a, b, _ => rfl
  | i + 1, [], [], _ => rfl
  | i + 1, [], y :: b, h => by simp at h
  | i + 1, x :: a, [], h => by simp at h
  | i + 1, x :: a, y :: b, h => by
    simp only [List.take_succ_cons, List.cons.injEq] at h
    obtain ⟨rfl, h⟩ := h
    simp only [ltK, List.drop_succ_cons]
    rw [if_neg (by omega), if_neg (by omega)]
    exact ltK_drop i a b h
theorem key_get {h : HT} {i : Nat} (hi : i < 32) : ∃ x : Int, h.1[i]? = some (.int .u8 x) ∧ (key h)[i]? = some x ∧ 0 ≤ x ∧ x < 256 := by
  have hs : i < h.1.size := by rw [h.2.1]; exact hi
  obtain ⟨x, hx, h1, h2⟩ := h.2.2 h.1[i] (by simp)
  refine ⟨x, by rw [Array.getElem?_eq_getElem hs, hx], ?_, h1, h2⟩
  unfold key
  rw [List.getElem?_map, Array.getElem?_toList, Array.getElem?_eq_getElem hs, hx]
  rfl

section
variable {w : World} {K : Value → World → Prop}
theorem ref_Compare (a b : HT) (hK : ∀ w', Kept Nil w w' → K (.int .i64 (cmpH a b)) w') : Ret Tryd.prog ref10_Compare.id #[.agg a.1, .agg b.1] w K := by
  refine ref10_Compare.of ?_
  unfold ref10_Compare.W
  intro w3 w4
  have k3 : Kept Nil w w3 := (Kept.refl Nil w).alloc _
  have k4 : Kept Nil w w4 := k3.alloc _
  have ha4 : w4.heap[w.heap.size]? = some (.cells a.1 T_api_Hash (0, 0)) := old_blk (new_blk w _) _
  have hb4 : w4.heap[w3.heap.size]? = some (.cells b.1 T_api_Hash (0, 0)) := new_blk w3 _
  clear_value w4
  refine ref10_Compare.loop1 (I := fun s w' => ∃ i : Nat, s = (0, (i : Int)) ∧ i ≤ 32 ∧ Kept Nil w4 w' ∧ (key a).take i = (key b).take i) (μ := fun s _ => (32 - s.2).toNat) (s := (0, 0)) ⟨0, rfl, by omega, Kept.refl _ _, by simp⟩ ?_
  rintro s w' ⟨i, rfl, hi, kw, heq⟩
  refine Split.dec (fun hil0 => ?_) (fun hge => ?_)
  · simp only at hil0
    have hil : i < 32 := by omega
    obtain ⟨x, hx, kx, _⟩ := key_get (h := a) hil
    obtain ⟨y, hy, ky, _⟩ := key_get (h := b) hil
    have e1 : hlt a b = ltK ((key a).drop i) ((key b).drop i) := ltK_drop i _ _ heq
    have e2 : hlt b a = ltK ((key b).drop i) ((key a).drop i) := ltK_drop i _ _ heq.symm
    have da : (key a).drop i = x :: (key a).drop (i + 1) := by
      obtain ⟨h1, h2⟩ := List.getElem?_eq_some_iff.1 kx
      rw [List.drop_eq_getElem_cons h1, h2]
    have db : (key b).drop i = y :: (key b).drop (i + 1) := by
      obtain ⟨h1, h2⟩ := List.getElem?_eq_some_iff.1 ky
      rw [List.drop_eq_getElem_cons h1, h2]
    rw [da, db] at e1 e2
    simp only [ltK] at e1 e2
    intro w9
    have k9 : Kept Nil w4 w9 := kw.drew
    clear_value w9
    have hb : 0 ≤ (i : Int) ∧ (i : Int) < 32 := ⟨by omega, by omega⟩
    have ca : ∀ {w' : World}, Kept Nil w4 w' → w'.cell? ((⟨w.heap.size, 0, none⟩ : Addr).add ((i : Int).toNat * 1)) = some (.int .u8 x) := fun k => by
      rw [add_at, Nat.zero_add, Nat.mul_one, Int.toNat_natCast, cell_blk (k.heap ha4 (fun h => h))]; exact hx
    have cb : ∀ {w' : World}, Kept Nil w4 w' → w'.cell? ((⟨w3.heap.size, 0, none⟩ : Addr).add ((i : Int).toNat * 1)) = some (.int .u8 y) := fun k => by
      rw [add_at, Nat.zero_add, Nat.mul_one, Int.toNat_natCast, cell_blk (k.heap hb4 (fun h => h))]; exact hy
    refine ⟨hb, x, ca k9, hb, y, cb k9, Split.dec (fun hxy => ?_) (fun hxy => ?_)⟩
    · have := hK w9 (k4.trans k9 (fun _ _ h => h))
      rw [show cmpH a b = -1 by unfold cmpH; rw [e1, if_pos hxy]; rfl] at this
      exact this
    · intro w12
      have k12 : Kept Nil w4 w12 := k9.drew
      clear_value w12
      refine ⟨hb, x, ca k12, hb, y, cb k12, Split.dec (fun hyx => ?_) (fun hyx => ?_)⟩
      · have := hK w12 (k4.trans k12 (fun _ _ h => h))
        rw [show cmpH a b = 1 by unfold cmpH; rw [e1, e2, if_neg hxy, if_pos (show y < x from hyx), if_pos (show y < x from hyx)]; rfl] at this
        exact this
      · simp only
        rw [wrapI (x := (i : Int) + 1) (by omega) (by omega)]
        refine ⟨(0, (i : Int) + 1), rfl, ⟨i + 1, rfl, hil, k12, ?_⟩, by simp only; omega⟩
        have : x = y := by omega
        rw [List.take_add_one, List.take_add_one, kx, ky, heq, this]
  · simp only at hge
    rw [roundQ_exit, ref10_Compare.x1_0]
    have := hK w' (k4.trans kw (fun _ _ h => h))
    have hab : a = b := by
      apply key_inj
      rw [List.take_of_length_le (by rw [key_len]; omega), List.take_of_length_le (by rw [key_len]; omega)] at heq
      exact heq
    rw [show cmpH a b = 0 by unfold cmpH; rw [hab, hlt_irrefl]; rfl] at this
    exact this
end
end Go.Proofs.YtljckpecmlnbiaaDoor
/-
  The program's Compare.
-/
namespace Go.Proofs.YtljckpecmlnbiaaDoor
open Go Go.Lite Go.RowKit

theorem byte_lt {x y : Int} (hx : 0 ≤ x ∧ x < 256) (hy : 0 ≤ y ∧ y < 256) : (x.toNat.toUInt8 < y.toNat.toUInt8) ↔ x < y := by
  rw [UInt8.lt_iff_toNat_lt]
  simp only [Nat.toUInt8, UInt8.toNat_ofNat']
  omega
theorem compareBytes_key : ∀ {a b : List Int}, a.length = b.length → (∀ x ∈ a, 0 ≤ x ∧ x < 256) → (∀ x ∈ b, 0 ≤ x ∧ x < 256) →
    Lib.compareBytes (Lib.bytesOf a) (Lib.bytesOf b) = if ltK a b then -1 else if ltK b a then 1 else 0
  | [], [], _, _, _ => rfl
  | [], _ :: _, h, _, _ => by simp at h
  | _ :: _, [], h, _, _ => by simp at h
  | x :: a, y :: b, h, ha, hb => by
    have hx := ha x (by simp)
    have hy := hb y (by simp)
    have ih := compareBytes_key (a := a) (b := b) (by simpa using h) (fun z hz => ha z (by simp [hz])) (fun z hz => hb z (by simp [hz]))
    simp only [Lib.bytesOf, List.map_cons, Lib.compareBytes, byte_lt hx hy, byte_lt hy hx, ltK]
    by_cases h1 : x < y
    · simp [h1]
    · by_cases h2 : y < x
      · simp [h1, h2]
      · simp only [h1, h2, if_false]
        exact ih
theorem key_bytes (h : HT) : ∀ x ∈ key h, 0 ≤ x ∧ x < 256 := by
  intro x hx
  simp only [key, List.mem_map] at hx
  obtain ⟨v, hv, rfl⟩ := hx
  obtain ⟨i, rfl, h1, h2⟩ := h.2.2 v hv
  exact ⟨h1, h2⟩
theorem compareBytes_hash (a b : HT) : Lib.compareBytes (Lib.bytesOf (key a)) (Lib.bytesOf (key b)) = cmpH a b :=
  compareBytes_key (by rw [key_len, key_len]) (key_bytes a) (key_bytes b)

section
variable {w : World} {K : Value → World → Prop}
theorem bytes_Compare_ok (a b : HT) {p q : Addr} {c c' : Nat} (ha : Cells w p a.1) (hb : Cells w q b.1) (hK : K (.int .i64 (cmpH a b)) w) :
    Ret Tryd.prog bytes_Compare.id #[.slice (some p) 32 c, .slice (some q) 32 c'] w K := by
  refine bytes_Compare.of ⟨.int .i64 (cmpH a b), w, ?_, _, rfl, hK⟩
  have hcell : ∀ (h : HT) (r : Addr), Cells w r h.1 → ∀ j x, (key h)[j]? = some x → w.cell? (r.add j) = some (.int .u8 x) := by
    intro h r hr j x hx
    have hj : j < 32 := by have := (List.getElem?_eq_some_iff.1 hx).1; rw [key_len] at this; exact this
    obtain ⟨y, hy, ky, _⟩ := key_get (h := h) hj
    rw [hx] at ky
    cases ky
    exact hr j _ hy
  have l1 := Lib.run_loadBytesX (P := Tryd.prog) w (key a) p .empty (hcell a p ha)
  have l2 := Lib.run_loadBytesX (P := Tryd.prog) w (key b) q .empty (hcell b q hb)
  rw [key_len] at l1 l2
  rw [run_callFunc_extern bytealg_Compare.at_ (by kernel_rfl) (by kernel_rfl) (by kernel_rfl) (e := Extern.BytealgCompare.compare) (by kernel_rfl)]
  have hr : (Extern.BytealgCompare.compare #[.slice (some p) 32 c, .slice (some q) 32 c']).run Tryd.prog w = .ok (.int .i64 (cmpH a b)) w := by
    change Sem.run Tryd.prog (do pure (goInt (Extern.BytealgCompare.cmp (← Extern.Bytes.bytesOf (.slice (some p) 32 c)) (← Extern.Bytes.bytesOf (.slice (some q) 32 c'))))) w = _
    simp only [Extern.Bytes.bytesOf, Sem.run_bind, l1, l2, Result.andThen_ok, Sem.run_pure, Lib.cmp_eq, goInt]
    rw [← compareBytes_hash]
    simp
  rw [hr]
  rfl
/-- Compare; the world has two blocks more -/
theorem dag_Compare_ok (a b : HT) (hK : K (.int .i64 (cmpH a b)) ((w.alloc (.cells a.1 T_api_Hash)).alloc (.cells b.1 T_api_Hash)).drew) : Ret Tryd.prog dag_Compare.id #[.agg a.1, .agg b.1] w K := by
  refine dag_Compare.of ?_
  unfold dag_Compare.W
  intro w3 w4 w5
  have ha : w5.heap[w.heap.size]? = some (.cells a.1 T_api_Hash (0, 0)) := old_blk (new_blk w _) _
  have hb : w5.heap[w3.heap.size]? = some (.cells b.1 T_api_Hash (0, 0)) := new_blk w3 _
  simp only [if_neg (show ¬ (32 : Nat) = 0 by omega), Nat.zero_mul, add_zero, Nat.sub_zero]
  exact bytes_Compare_ok a b (Cells.blk ha) (Cells.blk hb) ⟨_, rfl, hK⟩
end
end Go.Proofs.YtljckpecmlnbiaaDoor
/-
  Rows of hashes: read, cut, appended.
-/
namespace Go.Proofs.YtljckpecmlnbiaaDoor
open Go Go.Lite Go.RowKit

theorem addr_add (a : Addr) (m n : Nat) : (a.add m).add n = a.add (m + n) := by
  unfold Addr.add
  by_cases hm : m = 0 <;> by_cases hn : n = 0 <;> simp [hm, hn, Nat.add_assoc]
/-- the cells of hashes in a row -/
def hcells (l : List HT) : List Value := l.flatMap fun h => h.1.toList
theorem hcells_nil : hcells [] = [] := rfl
theorem hcells_cons (h : HT) (l : List HT) : hcells (h :: l) = h.1.toList ++ hcells l := by simp [hcells]
theorem hcells_app (l m : List HT) : hcells (l ++ m) = hcells l ++ hcells m := by simp [hcells]
theorem hcells_len : ∀ l : List HT, (hcells l).length = l.length * 32
  | [] => rfl
  | h :: l => by
    have := h.2.1
    rw [hcells_cons, List.length_append, hcells_len l, Array.length_toList, this, List.length_cons]
    omega
theorem hcells_one (l : List HT) : ∀ u ∈ hcells l, u.oneCell' = true := by
  intro u hu
  simp only [hcells, List.mem_flatMap] at hu
  obtain ⟨h, _, hu⟩ := hu
  exact h.2.one u hu
theorem hcells_get : ∀ {l : List HT} {i : Nat} {h : HT}, l[i]? = some h → ∀ {j : Nat} {v : Value}, h.1[j]? = some v → (hcells l)[i * 32 + j]? = some v
  | [], _, _, hi, _, _, _ => by simp at hi
  | x :: l, 0, h, hi, j, v, hj => by
    simp only [List.getElem?_cons_zero, Option.some.injEq] at hi
    subst hi
    have hlt : j < x.1.toList.length := by simpa using (Array.getElem?_eq_some_iff.1 hj).1
    rw [hcells_cons, Nat.zero_mul, Nat.zero_add, List.getElem?_append_left hlt, Array.getElem?_toList, hj]
  | x :: l, i + 1, h, hi, j, v, hj => by
    simp only [List.getElem?_cons_succ] at hi
    have := x.2.1
    rw [hcells_cons, List.getElem?_append_right (by simp; omega), Array.length_toList, this, show (i + 1) * 32 + j - 32 = i * 32 + j by omega]
    exact hcells_get hi hj
theorem hcells_at {l : List HT} {j : Nat} {v : Value} (h : (hcells l)[j]? = some v) : ∃ x, l[j / 32]? = some x ∧ x.1[j % 32]? = some v := by
  have hj := (List.getElem?_eq_some_iff.1 h).1
  rw [hcells_len] at hj
  have hi : j / 32 < l.length := by omega
  refine ⟨l[j / 32], List.getElem?_eq_getElem hi, ?_⟩
  have hs := l[j / 32].2.1
  have hm : j % 32 < l[j / 32].1.size := by rw [hs]; omega
  obtain ⟨u, hu⟩ : ∃ u, l[j / 32].1[j % 32]? = some u := ⟨_, Array.getElem?_eq_getElem hm⟩
  have := hcells_get (List.getElem?_eq_getElem hi) hu
  rw [show j / 32 * 32 + j % 32 = j by omega, h] at this
  rw [hu, this]

theorem slHash : SlT Tryd.prog T_sl_api_Hash T_api_Hash 32 32 := ⟨by kernel_rfl, by kernel_rfl⟩
/-- a row of hashes of one's own -/
abbrev HRow (w : World) (B : Nat) (A : Option Addr) (n c : Nat) (l : List HT) : Prop := Row w B T_api_Hash 32 A n c (hcells l)

section
variable {w w' : World} {B : Nat} {A : Option Addr} {n c : Nat} {l : List HT}
theorem HRow.len (h : HRow w B A n c l) : l.length = n := by
  have := Row.len h
  rw [hcells_len] at this
  omega
theorem HRow.hs (h : HRow w B A n c l) : HS w A n l := ⟨h.len, fun i x hi => by
  have hlen := h.len
  have hil := (List.getElem?_eq_some_iff.1 hi).1
  obtain ⟨b, rfl⟩ := Row.some h (by omega)
  obtain ⟨_, cur, hcur⟩ := Row.blk h (k := b) rfl
  refine ⟨_, rfl, lt_blk hcur, fun j v hj => ?_⟩
  rw [addr_add]
  exact Row.cells h _ _ (hcells_get hi hj)⟩
theorem HRow.nil (w : World) (B : Nat) : HRow w B none 0 0 [] := Row.nil _ _ _ _
theorem HS.cells {a : Addr} (h : HS w (some a) n l) : ∀ j u, (hcells l)[j]? = some u → w.cell? (a.add j) = some u := by
  intro j u hj
  obtain ⟨x, hx, hu⟩ := hcells_at hj
  obtain ⟨a', ha, _, hc⟩ := h.at_ _ x hx
  cases ha
  have := hc _ _ hu
  rwa [addr_add, show j / 32 * 32 + j % 32 = j by omega] at this
theorem HS.nil (w : World) (A : Option Addr) : HS w A 0 [] := ⟨rfl, fun i x hi => by simp at hi⟩
theorem HS.none (h : HS w none n l) : n = 0 ∧ l = [] := by
  cases l with
  | nil => exact ⟨h.len.symm, rfl⟩
  | cons x l => obtain ⟨a, ha, _⟩ := h.at_ 0 x rfl; cases ha
theorem HS.take (h : HS w A n l) {k : Nat} (hk : k ≤ n) : HS w A k (l.take k) := ⟨by have := h.len; simp; omega, fun i x hi => by
  rw [List.getElem?_take] at hi
  split at hi
  · exact h.at_ i x hi
  · cases hi⟩
theorem HS.drop (h : HS w A n l) {k : Nat} (hc : n ≤ c) (hk : k ≤ n) : HS w (if c = k then A else A.map (·.add (k * 32))) (n - k) (l.drop k) := ⟨by have := h.len; simp; omega, fun i x hi => by
  rw [List.getElem?_drop] at hi
  have hlen := h.len
  have := (List.getElem?_eq_some_iff.1 hi).1
  obtain ⟨a, rfl, hb, hcl⟩ := h.at_ _ x hi
  rw [if_neg (by omega)]
  refine ⟨_, rfl, by rw [addr_block]; exact hb, ?_⟩
  rw [addr_add, ← Nat.add_mul]
  exact hcl⟩
theorem HS.one {w : World} {b : Nat} {h : HT} {t : TypeId} {fr : Nat × Nat} (hb : w.heap[b]? = some (.cells h.1 t fr)) : HS w (some ⟨b, 0, Option.none⟩) 1 [h] := ⟨rfl, fun i x hi => by
  cases i with
  | zero =>
    simp only [List.getElem?_cons_zero, Option.some.injEq] at hi
    subst hi
    exact ⟨_, rfl, lt_blk hb, by rw [Nat.zero_mul, add_zero]; exact Cells.blk hb⟩
  | succ i => simp at hi⟩

/-- a slice is appended to a row of one's own -/
theorem append_hs (ty : Nat) (h : HRow w B A n c l) {A2 : Option Addr} {m cx : Nat} {l2 : List HT} (h2 : HS w A2 m l2) (hm : n + m ≤ 1000000) (hB : B ≤ w.heap.size) :
    ∃ A' c' w', (Builtin.append_ #[T_sl_api_Hash, T_sl_api_Hash] ty #[.slice A n c, .slice A2 m cx]).run Tryd.prog w = .ok (.slice A' (n + m) c') w' ∧
      HRow w' B A' (n + m) c' (l ++ l2) ∧ w.grownBy w' (blkOf A) ∧ (∀ k, blkOf A' = some k → blkOf A = some k ∨ w.heap.size ≤ k) := by
  cases A2 with
  | some a =>
    have hl2 := h2.len
    obtain ⟨A', c', w', hr, hrow, hg, hb⟩ := append_row (P := Tryd.prog) (t := T_sl_api_Hash) (bytes := 32) (ty := ty) slHash h (a := a) (m := m) (cx := cx) (news := hcells l2) (by rw [hcells_len, hl2]) h2.cells (hcells_one l2) (by omega) (by unfold maxLen; omega) hB
    refine ⟨A', c', w', hr, ?_, hg, hb⟩
    rw [← hcells_app] at hrow
    exact hrow
  | none =>
    obtain ⟨rfl, rfl⟩ := h2.none
    refine ⟨A, c, w, ?_, by simpa using h, ⟨rfl, rfl, rfl, Nat.le_refl _, fun _ _ _ => rfl⟩, fun k hk => .inl hk⟩
    obtain ⟨i, z, hi, hz, hs, hby, hzs⟩ := slHash.inf
    have hn : n ≤ c := by rcases Row.own h with ⟨_, h1, h2, _⟩ | ⟨_, _, _, _, _, h1, _⟩ <;> omega
    simp [Builtin.append_, run_underlying slHash.und, sizeOf, typeInfo, hi, Builtin.lenOf, Builtin.firstCells, hn]
    cases A <;> simp [storeCells]
end
end Go.Proofs.YtljckpecmlnbiaaDoor
/-
  The document's Sorted.
-/
namespace Go.Proofs.YtljckpecmlnbiaaDoor
open Go Go.Lite Go.RowKit

theorem HS.load {w : World} {A : Option Addr} {n : Nat} {l : List HT} (hl : HS w A n l) {i : Int} {x : HT} (h0 : 0 ≤ i) (hx : l[i.toNat]? = some x) {k : Array Value → Prop} (hk : k x.1) :
    (0 ≤ i ∧ i < (n : Int)) ∧ Is A fun a => ∃ t : Array Value, (t.size = 32 ∧ Cells w (a.add (i.toNat * 32)) t) ∧ k t := by
  obtain ⟨a, rfl, _, hc⟩ := hl.at_ _ x hx
  have := (List.getElem?_eq_some_iff.1 hx).1
  have := hl.len
  exact ⟨⟨h0, by omega⟩, x.1, ⟨x.2.1, hc⟩, hk⟩
theorem cmpH_lt {a b : HT} : (cmpH a b < 0) ↔ hlt a b = true := by
  unfold cmpH
  by_cases h : hlt a b = true
  · simp [h]
  · by_cases h' : hlt b a = true <;> simp [h, h']
theorem wrapP {n : Int} (h0 : 0 ≤ n) (h1 : n ≤ 2000000) : IntKind.i64.wrap (n + 1) = n + 1 := wrapI (by omega) (by omega)
theorem wrapM {n : Int} (h0 : 0 ≤ n) (h1 : n ≤ 2000000) : IntKind.i64.wrap (n - 1) = n - 1 := wrapI (by omega) (by omega)

/-- growing: all but the row's own block is kept -/
theorem Kept.growNew {w w' w'' : World} {A : Option Addr} (h : Kept Nil w w') (hg : w'.grownBy w'' (blkOf A)) (hr : ∀ k, blkOf A = some k → w.heap.size ≤ k) : Kept Nil w w'' :=
  Kept.grown h hg fun k hk hlt => absurd (hr k hk) (by omega)

section
variable {w : World} {K : Value → World → Prop}
theorem ref_Sorted {A : Option Addr} {n c : Nat} {l : List HT} (hl : HS w A n l) (hn : n ≤ 400000)
    (hK : ∀ A' c' w', HRow w' w.heap.size A' (srt l).length c' (srt l) → Kept Nil w w' → K (.slice A' (srt l).length c') w') :
    Ret Tryd.prog ref10_Sorted.id #[.slice A n c] w K := by
  refine ref10_Sorted.of ?_
  have hlen := hl.len
  refine ref10_Sorted.loop1 (I := fun s w' => ∃ (i : Nat) (out : List HT) (B : Option Addr) (m : Nat), s = (B, out.length, m, (i : Int)) ∧ i ≤ n ∧ HRow w' w.heap.size B out.length m out ∧ SS out ∧ (∀ x, x ∈ out ↔ x ∈ l.take i) ∧ out.length ≤ i ∧ Kept Nil w w')
    (μ := fun s _ => ((n : Int) - s.2.2.2).toNat) (s := (none, 0, 0, 0)) ⟨0, [], none, 0, rfl, Nat.zero_le _, HRow.nil _ _, List.Pairwise.nil, by simp, by simp, Kept.refl _ _⟩ ?_
  rintro s w' ⟨i, out, B, m, rfl, hi, row, hss, hmem, hol, kw⟩
  refine Split.dec (fun hil0 => ?_) (fun hge => ?_)
  · simp only at hil0
    have hil : i < n := by omega
    obtain ⟨x, hx⟩ : ∃ x, l[i]? = some x := ⟨_, List.getElem?_eq_getElem (by omega)⟩
    refine (hl.same kw).load (i := (i : Int)) (by omega) hx (ref_In x row.hs (by simp only; omega) fun w9 k9 => ⟨_, rfl, ?_⟩)
    simp only
    have kw9 : Kept Nil w w9 := kw.trans k9 (fun _ _ h => h)
    have row9 : HRow w9 w.heap.size B out.length m out := Row.keep row k9 (fun _ _ h => h)
    have htk : l.take (i + 1) = l.take i ++ [x] := by rw [List.take_add_one, hx]; rfl
    refine Split.dec (fun hin => ?_) (fun hno => ?_)
    · rw [wrapP (n := (i : Int)) (by omega) (by omega)]
      refine ⟨(B, out.length, m, (i : Int) + 1), rfl, ⟨i + 1, out, B, m, rfl, hil, row9, hss, fun y => ?_, by omega, kw9⟩, by simp only; omega⟩
      rw [htk, List.mem_append, List.mem_singleton, ← hmem y]
      constructor
      · exact .inl
      · rintro (h | rfl)
        · exact h
        · exact hin
    · refine ref10_Sorted.loop2 (I := fun s w' => ∃ k : Nat, s = (k : Int) ∧ k ≤ out.length ∧ (∀ y ∈ out.drop k, hlt x y = true) ∧ Kept Nil w9 w') (μ := fun s _ => s.toNat) (s := (out.length : Int)) ⟨out.length, rfl, Nat.le_refl _, by simp, Kept.refl _ _⟩ ?_
      rintro s w1 ⟨k, rfl, hk, hdrop, k1⟩
      have hlx : HS w1 A n l := (hl.same kw9).same k1
      have rowx : HRow w1 w.heap.size B out.length m out := Row.keep row9 k1 (fun _ _ h => h)
      have kx : Kept Nil w w1 := kw9.trans k1 (fun _ _ h => h)
      -- the end of the inner loop
      have hexit : ∀ w1, HS w1 A n l → HRow w1 w.heap.size B out.length m out → Kept Nil w w1 → (∀ y ∈ out.take k, hlt y x = true) →
          ref10_Sorted.X2_2 A n c none 0 0 B out.length m (i : Int) (k : Int) (roundQ (ref10_Sorted.e1 A n c none 0 0) (fun s w' => ∃ (i : Nat) (out : List HT) (B : Option Addr) (m : Nat), s = (B, out.length, m, (i : Int)) ∧ i ≤ n ∧ HRow w' w.heap.size B out.length m out ∧ SS out ∧ (∀ x, x ∈ out ↔ x ∈ l.take i) ∧ out.length ≤ i ∧ Kept Nil w w') (fun s _ => ((n : Int) - s.2.2.2).toNat) (B, out.length, m, (i : Int)) w' (ref10_Sorted.q1 K)) w1 := by
        intro w1 hlx rowx kx htake
        have hcap : out.length ≤ m := by rcases Row.own rowx with ⟨_, h1, h2, _⟩ | ⟨_, _, _, _, _, h1, _⟩ <;> omega
        have hsz := kx.size
        unfold ref10_Sorted.X2_2
        refine ⟨⟨by omega, by omega⟩, ?_⟩
        have hs1 : HS w1 (if m = 0 then B else B.map (·.add (0 * 32))) ((k : Int).toNat - 0) (out.take k) := by
          have h := rowx.hs.take hk
          rw [Nat.sub_zero, Int.toNat_natCast]
          have e : (if m = 0 then B else B.map (·.add (0 * 32))) = B := by
            split
            · rfl
            · cases B <;> simp [add_zero]
          rw [e]
          exact h
        obtain ⟨A1, c1, w2, hr1, row2, hg2, hb2⟩ := append_hs (cx := m - 0) T_sl_api_Hash (HRow.nil w1 w.heap.size) hs1 (by simp; omega) hsz
        have k2 : Kept Nil w1 w2 := Kept.growNew (Kept.refl _ _) hg2 (fun k hk => by cases hk)
        rw [Nat.zero_add, Nat.sub_zero, Int.toNat_natCast] at hr1 row2
        rw [List.nil_append] at row2
        refine ⟨A1, _, c1, w2, by rw [Nat.sub_zero, Int.toNat_natCast]; exact hr1, ?_⟩
        have hl2 := hlx.same k2
        refine hl2.load (i := (i : Int)) (by omega) hx ⟨x.2.1, ?_⟩
        intro w3
        have k3 : Kept Nil w2 w3 := (Kept.refl _ _).alloc _
        have hbox : HS w3 (some ⟨w2.heap.size, 0, none⟩) 1 [x] := by
          refine HS.one (t := T_api_Hash) (fr := (0, 0)) ?_
          have e3 : w3 = w2.alloc (.cells x.1 T_api_Hash) := by
            show w2.alloc (.cells (x.1.toList ++ []).toArray T_api_Hash) = _
            simp
          rw [e3]
          exact new_blk w2 _
        clear_value w3
        have row3 : HRow w3 w.heap.size A1 k c1 (out.take k) := Row.keep row2 k3 (fun _ _ h => h)
        have hsz3 : w.heap.size ≤ w3.heap.size := Nat.le_trans (Nat.le_trans hsz k2.size) k3.size
        obtain ⟨A4, c4, w4, hr4, row4, hg4, hb4⟩ := append_hs (cx := 1) T_sl_api_Hash row3 hbox (by omega) hsz3
        have k4 : Kept Nil w1 w4 := Kept.growNew (k2.trans k3 (fun _ _ h => h)) hg4 (fun k hk => by rcases hb2 k hk with h | h; cases h; exact h)
        refine ⟨A4, _, c4, w4, hr4, ⟨by omega, by omega⟩, ?_⟩
        have hs4 : HS w4 (if m = (k : Int).toNat then B else B.map (·.add ((k : Int).toNat * 32))) (out.length - (k : Int).toNat) (out.drop k) := by
          rw [Int.toNat_natCast]
          exact (rowx.hs.same k4).drop hcap hk
        have hdl : (out.length - (k : Int).toNat) = out.length - k := by rw [Int.toNat_natCast]
        obtain ⟨A5, c5, w5, hr5, row5, hg5, hb5⟩ := append_hs (cx := m - (k : Int).toNat) T_sl_api_Hash row4 hs4 (by omega) (Nat.le_trans hsz k4.size)
        have k5 : Kept Nil w1 w5 := Kept.growNew k4 hg5 (fun b hb => by
          rcases hb4 b hb with h | h
          · rcases hb2 b h with h | h
            · cases h
            · exact h
          · exact Nat.le_trans (Nat.le_trans k2.size k3.size) h)
        refine ⟨A5, _, c5, w5, hr5, ?_⟩
        rw [wrapP (n := (i : Int)) (by omega) (by omega)]
        have hnew : out.take k ++ [x] ++ out.drop k = out.take k ++ x :: out.drop k := by simp
        have hnl : (out.take k ++ x :: out.drop k).length = out.length + 1 := by simp; omega
        rw [hnew] at row5
        have e5 : k + 1 + (out.length - (k : Int).toNat) = (out.take k ++ x :: out.drop k).length := by rw [hnl]; omega
        rw [e5] at row5 ⊢
        refine ⟨(A5, (out.take k ++ x :: out.drop k).length, c5, (i : Int) + 1), rfl, ⟨i + 1, _, A5, c5, rfl, hil, row5, SS_mid hss htake hdrop, fun y => ?_, by omega, kx.trans k5 (fun _ _ h => h)⟩, by simp only; omega⟩
        rw [show y ∈ l.take (i + 1) ↔ y ∈ out ∨ y = x by rw [htk, List.mem_append, List.mem_singleton, hmem y], List.mem_append, List.mem_cons]
        constructor
        · rintro (h | rfl | h)
          · exact .inl (List.mem_of_mem_take h)
          · exact .inr rfl
          · exact .inl (List.mem_of_mem_drop h)
        · rintro (h | rfl)
          · rw [← List.take_append_drop k out, List.mem_append] at h
            rcases h with h | h
            · exact .inl h
            · exact .inr (.inr h)
          · exact .inr (.inl rfl)
      unfold ref10_Sorted.B2
      intro w2
      have k2 : Kept Nil w1 w2 := (Kept.refl _ _).drew
      clear_value w2
      have hl2 := hlx.same k2
      have row2 : HRow w2 w.heap.size B out.length m out := Row.keep rowx k2 (fun _ _ h => h)
      have kx2 := kx.trans k2 (fun _ _ h => h)
      refine Split.dec (fun hpos => ?_) (fun hneg => ?_)
      · have hk0 : 0 < k := by omega
        obtain ⟨y, hy⟩ : ∃ y, out[k - 1]? = some y := ⟨_, List.getElem?_eq_getElem (by omega)⟩
        rw [wrapM (n := (k : Int)) (by omega) (by omega)]
        refine hl2.load (i := (i : Int)) (by omega) hx (row2.hs.load (by omega) (by rw [show ((k : Int) - 1).toNat = k - 1 by omega]; exact hy) (ref_Compare x y fun w3 k3 => ⟨_, rfl, ?_⟩))
        refine Split.dec (fun hc => ?_) (fun hc => ?_)
        · refine ⟨(k : Int) - 1, rfl, ⟨k - 1, by omega, by omega, fun z hz => ?_, (k1.trans k2 (fun _ _ h => h)).trans k3 (fun _ _ h => h)⟩, by simp only; omega⟩
          have hd : out.drop (k - 1) = y :: out.drop k := by
            obtain ⟨h1, h2⟩ := List.getElem?_eq_some_iff.1 hy
            rw [List.drop_eq_getElem_cons h1, h2, show k - 1 + 1 = k by omega]
          rw [hd] at hz
          rcases List.mem_cons.1 hz with rfl | hz
          · exact cmpH_lt.1 hc
          · exact hdrop z hz
        · rw [roundQ_exit, ref10_Sorted.x2_2]
          refine hexit w3 (hl2.same k3) (Row.keep row2 k3 (fun _ _ h => h)) (kx2.trans k3 (fun _ _ h => h)) fun z hz => ?_
          have hyx : hlt y x = true := by
            have h1 : hlt x y = false := by
              cases h : hlt x y
              · rfl
              · exact absurd (cmpH_lt.2 h) hc
            refine lt_of_le_ne h1 fun e => hno ?_
            rw [← e]
            exact List.mem_of_getElem? hy
          obtain ⟨j, hj⟩ := List.mem_iff_getElem?.1 hz
          rw [List.getElem?_take] at hj
          split at hj
          · rename_i hjk
            by_cases e : j = k - 1
            · subst e; rw [hy] at hj; cases hj; exact hyx
            · exact hlt_trans (hss.get (by omega) hj hy) hyx
          · cases hj
      · rw [roundQ_exit, ref10_Sorted.x2_2]
        have hk0 : k = 0 := by omega
        refine hexit w2 hl2 row2 kx2 fun z hz => ?_
        rw [hk0] at hz
        simp at hz
  · simp only at hge
    have : i = n := by omega
    subst this
    rw [roundQ_exit, ref10_Sorted.x1_0]
    have e : out = srt l := srt_of hss fun x => by rw [hmem, List.take_of_length_le (by omega)]
    rw [e] at row
    have := hK B m w' row kw
    rw [← e] at this
    exact this
end
end Go.Proofs.YtljckpecmlnbiaaDoor
/-
  slices.Values, slices.AppendSeq, slices.Collect of hashes.
-/
namespace Go.Proofs.YtljckpecmlnbiaaDoor
open Go Go.Lite Go.RowKit

theorem ne_loop {w : World} {k l : Nat} {cs : Array Value} {t : TypeId} {fr : Nat × Nat} {R : Loop} (h : w.heap[k]? = some (.cells cs t fr)) (h' : w.heap[l]? = some (.loop R)) : k ≠ l := by
  rintro rfl; rw [h] at h'; cases h'
theorem ne_mark {w : World} {k l : Nat} {cs : Array Value} {t : TypeId} {fr : Nat × Nat} {d : Option (List Deferred)} (h : w.heap[k]? = some (.cells cs t fr)) (h' : w.heap[l]? = some (.deferred d)) : k ≠ l := by
  rintro rfl; rw [h] at h'; cases h'
theorem Row.apart {w w' : World} {B : Nat} {e : TypeId} {size : Nat} {A : Option Addr} {n c : Nat} {xs : List Value} (h : Row w B e size A n c xs) {l : Nat} (hk : Kept (· = l) w w')
    (hl : ∀ cs t fr, w.heap[l]? ≠ some (.cells cs t fr)) : Row w' B e size A n c xs := Row.keep h hk fun k hb e => by
  subst e
  obtain ⟨_, cur, hc⟩ := Row.blk h hb
  exact hl _ _ _ hc

/-- what one is handed to go over hashes -/
abbrev encH (h : HT) : List Value := [.agg h.1]

section
variable {w : World} {K : Value → World → Prop}
theorem values_iter (p : Addr) {A : Option Addr} {n c : Nat} {l : List HT} (hn : n ≤ 1000000) :
    Iterates Tryd.prog slices_Values_of_api_Hash_fn1.id #[] #[.pointer (some p)] (l.map encH) (fun w => HS w A n l ∧ w.cell? p = some (.slice A n c)) := by
  intro y I D w0 hI hD hpre h0 hround
  refine slices_Values_of_api_Hash_fn1.of ?_
  obtain ⟨hl0, hp0⟩ := hpre 0 w0 h0
  have hlen := hl0.len
  refine ⟨A, n, c, hp0, ?_⟩
  refine slices_Values_of_api_Hash_fn1.loop1 (I := fun s w' => ∃ i : Nat, s = (i : Int) ∧ i ≤ n ∧ I i w') (μ := fun s _ => ((n : Int) - s).toNat) (s := 0) ⟨0, rfl, Nat.zero_le _, h0⟩ ?_
  rintro s w' ⟨i, rfl, hi, hw⟩
  refine Split.dec (fun hil0 => ?_) (fun hge => ?_)
  · have hil : i < n := by omega
    obtain ⟨x, hx⟩ : ∃ x, l[i]? = some x := ⟨_, List.getElem?_eq_getElem (by omega)⟩
    have hl := (hpre i w' hw).1
    refine hl.load (i := (i : Int)) (by omega) hx ?_
    intro w10
    obtain ⟨hwr, hb, hk⟩ := box_set (w := w') (z := (#[.int .u8 0, .int .u8 0, .int .u8 0, .int .u8 0, .int .u8 0, .int .u8 0, .int .u8 0, .int .u8 0, .int .u8 0, .int .u8 0, .int .u8 0, .int .u8 0, .int .u8 0, .int .u8 0, .int .u8 0, .int .u8 0, .int .u8 0, .int .u8 0, .int .u8 0, .int .u8 0, .int .u8 0, .int .u8 0, .int .u8 0, .int .u8 0, .int .u8 0, .int .u8 0, .int .u8 0, .int .u8 0, .int .u8 0, .int .u8 0, .int .u8 0, .int .u8 0] : Array Value)) (cs := x.1) (t := T_api_Hash) (by rw [x.2.1]; rfl)
    refine ⟨⟨x.2.1, x.2.one, fun j hj => hwr j (by rw [x.2.1]; exact hj)⟩, ?_⟩
    intro w13
    replace hb : w13.heap[w'.heap.size]? = some (.cells x.1 T_api_Hash (0, 0)) := hb
    replace hk : Kept Nil w' w13 := hk
    clear_value w13
    refine ⟨x.1, ⟨x.2.1, Cells.blk hb⟩, ?_⟩
    refine (hround i (encH x) w13 (by rw [List.getElem?_map, hx]; rfl) (hI i w' w13 hw hk)).mono ?_
    rintro b w'' ⟨ht, hf⟩
    cases b with
    | true =>
      refine Split.no rfl ?_
      rw [wrapP (n := (i : Int)) (by omega) (by omega)]
      exact ⟨(i : Int) + 1, rfl, ⟨i + 1, rfl, hil, ht rfl⟩, by simp only; omega⟩
    | false =>
      refine Split.yes rfl ?_
      exact Or.inr (hf rfl)
  · rw [roundQ_exit, slices_Values_of_api_Hash_fn1.x1_0]
    have e : i = n := by omega
    subst e
    refine Or.inl ?_
    rw [List.length_map, hlen]
    exact hw

theorem appendSeq_nil {gf : FuncId} {caps : Array Value} {xs : List HT} {fn : Func} (hfn : Tryd.prog.funcs[gf]? = some fn) (hb : fn.body.isSome) {Pre : World → Prop}
    (hit : Iterates Tryd.prog gf #[] caps (xs.map encH) Pre) (hp : ∀ w', Kept Nil w w' → Pre w') (hxs : xs.length ≤ 1000000)
    (hK : ∀ A c w', HRow w' w.heap.size A xs.length c xs → Kept Nil w w' → K (.slice A xs.length c) w') :
    Ret Tryd.prog slices_AppendSeq_of_api_Hash.id #[.slice none 0 0, .func (.func gf) #[] caps] w K := by
  refine slices_AppendSeq_of_api_Hash.of ?_
  unfold slices_AppendSeq_of_api_Hash.W
  intro w3
  have k3 : Kept Nil w w3 := (Kept.refl Nil w).alloc _
  have hb3 : w3.heap[w.heap.size]? = some (.cells #[.slice none 0 0] T_sl_api_Hash (0, 0)) := new_blk w _
  have hs3 : w.heap.size < w3.heap.size := lt_blk hb3
  clear_value w3
  let ρ0 : Env := [(2, .pointer (some (⟨w.heap.size, 0, none⟩ : Addr))), (4, .slice none 0 0), (6, .func (.func gf) #[] caps)]
  let J : Nat → World → Prop := fun i w' => ∃ A c, w'.heap[w.heap.size]? = some (.cells #[.slice A i c] T_sl_api_Hash (0, 0)) ∧ HRow w' w.heap.size A i c (xs.take i) ∧ Kept Nil w w' ∧ i ≤ xs.length ∧ ∀ k, blkOf A = some k → k ≠ w.heap.size
  refine range_iter (ρ := ρ0) (ρ0 := ρ0) ng mix slices_AppendSeq_of_api_Hash.k (t := 6) (ps := #[7]) (by kernel_rfl) (by decide) rfl hfn hb (.inl rfl) (fun i v _ h => h) rfl encH xs (fun _ => rfl) (by simp [dkey]) hit J (fun _ _ => False) ?_ (fun _ _ _ _ _ h => h.elim) (fun i w' h => hp w' (let ⟨_, _, _, _, h, _⟩ := h; h)) ?_ ?_ ?_ (fun _ _ h => h.elim) (fun _ _ _ h => h.elim)
  · rintro i w' w'' R hl ⟨A, c, h1, h2, h3, h4, h5⟩ hk
    exact ⟨A, c, hk.heap h1 (ne_loop h1 hl.loop), Row.apart h2 hk (fun cs t fr h => by rw [hl.loop] at h; cases h), h3.trans hk (fun k hk e => by omega), h4, h5⟩
  · intro R
    exact ⟨none, 0, old_blk (old_blk hb3 _) _, HRow.nil _ _, (k3.alloc _).alloc _, Nat.zero_le _, fun k hk => by cases hk⟩
  · rintro i x w' R hx ⟨A, c, h1, h2, h3, h4, h5⟩ hl
    have hil : i < xs.length := (List.getElem?_eq_some_iff.1 hx).1
    have e7 : putAll ρ0 ((#[7] : Array Nat).toList.zip (encH x)) = [(2, .pointer (some (⟨w.heap.size, 0, none⟩ : Addr))), (4, .slice none 0 0), (6, .func (.func gf) #[] caps), (7, .agg x.1)] := rfl
    rw [e7, slices_AppendSeq_of_api_Hash.a1]
    unfold slices_AppendSeq_of_api_Hash.A1
    intro w8
    obtain ⟨hwr, hbx, hkx⟩ := box_set (w := w') (z := (#[.int .u8 0, .int .u8 0, .int .u8 0, .int .u8 0, .int .u8 0, .int .u8 0, .int .u8 0, .int .u8 0, .int .u8 0, .int .u8 0, .int .u8 0, .int .u8 0, .int .u8 0, .int .u8 0, .int .u8 0, .int .u8 0, .int .u8 0, .int .u8 0, .int .u8 0, .int .u8 0, .int .u8 0, .int .u8 0, .int .u8 0, .int .u8 0, .int .u8 0, .int .u8 0, .int .u8 0, .int .u8 0, .int .u8 0, .int .u8 0, .int .u8 0, .int .u8 0] : Array Value)) (cs := x.1) (t := T_api_Hash) (by rw [x.2.1]; rfl)
    refine ⟨⟨x.2.1, x.2.one, fun j hj => hwr j (by rw [x.2.1]; exact hj)⟩, ?_⟩
    intro w11
    replace hbx : w11.heap[w'.heap.size]? = some (.cells x.1 T_api_Hash (0, 0)) := hbx
    replace hkx : Kept Nil w' w11 := hkx
    clear_value w11
    have hl11 := hl.keep hkx (fun h => h) (fun h => h)
    refine ⟨hl11, fun w2 R2 hk2 hl2 => ?_⟩
    have hbx2 := hk2.heap hbx (ne_loop hbx hl11.loop)
    have h1b := hkx.heap h1 (fun h => h)
    have h12 := hk2.heap h1b (ne_loop h1b hl11.loop)
    have h22 : HRow w2 w.heap.size A i c (xs.take i) := Row.apart (Row.keep h2 hkx (fun _ _ h => h)) hk2 (fun cs t fr h => by rw [hl11.loop] at h; cases h)
    have h32 : Kept Nil w w2 := (h3.trans hkx (fun _ _ h => h)).trans hk2 (fun k hk e => by omega)
    have hlt : w.heap.size < w2.heap.size := lt_blk h12
    rw [slices_AppendSeq_of_api_Hash.y1]
    unfold slices_AppendSeq_of_api_Hash.Y1
    refine ⟨A, i, c, by rw [cell_blk h12]; rfl, x.1, ⟨x.2.1, Cells.blk hbx2⟩, x.2.1, ?_⟩
    intro w16
    have k16 : Kept Nil w2 w16 := (Kept.refl _ _).alloc _
    have hbox : HS w16 (some ⟨w2.heap.size, 0, none⟩) 1 [x] := by
      refine HS.one (t := T_api_Hash) (fr := (0, 0)) ?_
      have e3 : w16 = w2.alloc (.cells x.1 T_api_Hash) := by
        show w2.alloc (.cells (x.1.toList ++ []).toArray T_api_Hash) = _
        simp
      rw [e3]
      exact new_blk w2 _
    clear_value w16
    have h216 : HRow w16 w.heap.size A i c (xs.take i) := Row.keep h22 k16 (fun _ _ h => h)
    have h116 := k16.heap h12 (fun h => h)
    have hs16 := k16.size
    obtain ⟨A', c', w18, hr, row18, hg, hb'⟩ := append_hs (cx := 1) T_sl_api_Hash h216 hbox (by omega) (by omega)
    have hgk : Kept (fun k => blkOf A = some k) w16 w18 := Kept.grown (Kept.refl _ _) hg (fun k hk _ => hk)
    have h118 := hgk.heap h116 (fun h => h5 _ h rfl)
    have hl18 : Live (w3.heap.size + 1) w3.heap.size R2 w18 := by
      have hl16 := hl2.keep k16 (fun h => h) (fun h => h)
      refine hl16.keep hgk ?_ ?_
      · intro h
        obtain ⟨_, cur, hc⟩ := Row.blk h216 h
        exact ne_loop hc hl16.loop rfl
      · intro h
        obtain ⟨_, cur, hc⟩ := Row.blk h216 h
        exact ne_mark hc hl16.mark rfl
    have k18 : Kept Nil w w18 := (h32.trans k16 (fun _ _ h => h)).trans hgk (fun k hk e => by
      obtain ⟨h, _⟩ := Row.blk h216 e
      omega)
    refine ⟨A', _, c', w18, hr, wr_blk h118 (by simp), ?_⟩
    intro w19
    have k19 : Kept (· = w.heap.size) w18 w19 := Kept.setCell (S := fun k => k = w.heap.size) (Kept.refl _ w18) (p := ⟨w.heap.size, 0, none⟩) (fun _ => rfl) _
    have hb19 : w19.heap[w.heap.size]? = some (.cells #[.slice A' (i + 1) c'] T_sl_api_Hash (0, 0)) := set_blk h118 0 _
    clear_value w19
    have hA' : ∀ k, blkOf A' = some k → k ≠ w.heap.size := fun k hk => by
      rcases hb' k hk with h | h
      · exact h5 k h
      · omega
    refine ⟨hl18.keep k19 (ne_loop h118 hl18.loop).symm (ne_mark h118 hl18.mark).symm, A', c', hb19, ?_, k18.trans k19 (fun k hk e => by omega), hil, hA'⟩
    rw [List.take_add_one, hx]
    exact Row.keep row18 k19 hA'
  · rintro w' R ⟨A, c, h1, h2, h3, h4, h5⟩ hl
    have e7 : addMark ρ0 w3.heap.size = [(2, .pointer (some (⟨w.heap.size, 0, none⟩ : Addr))), (4, .slice none 0 0), (6, .func (.func gf) #[] caps), (4294967296, .agg #[.pointer (some ⟨w3.heap.size, 0, none⟩)])] := rfl
    rw [e7, slices_AppendSeq_of_api_Hash.z1_normal]
    refine ⟨A, xs.length, c, by rw [cell_blk h1]; rfl, ⟨hl.mark, trivial⟩, ?_⟩
    have kp : Kept (· = w3.heap.size) w' (w'.putObj w3.heap.size (.deferred none)) := Kept.putAt _ _ _
    refine hK A c _ ?_ (h3.trans kp (fun k hk e => by omega))
    have := Row.apart h2 kp (fun cs t fr h => by rw [hl.mark] at h; cases h)
    rwa [List.take_of_length_le (Nat.le_refl _)] at this

theorem collect_ok {gf : FuncId} {caps : Array Value} {xs : List HT} {fn : Func} (hfn : Tryd.prog.funcs[gf]? = some fn) (hb : fn.body.isSome) {Pre : World → Prop}
    (hit : Iterates Tryd.prog gf #[] caps (xs.map encH) Pre) (hp : ∀ w', Kept Nil w w' → Pre w') (hxs : xs.length ≤ 1000000)
    (hK : ∀ A c w', HRow w' w.heap.size A xs.length c xs → Kept Nil w w' → K (.slice A xs.length c) w') :
    Ret Tryd.prog slices_Collect_of_api_Hash.id #[.func (.func gf) #[] caps] w K := by
  refine slices_Collect_of_api_Hash.of (appendSeq_nil hfn hb hit hp hxs fun A c w' h1 h2 => ⟨_, _, _, rfl, hK A c w' h1 h2⟩)
end
end Go.Proofs.YtljckpecmlnbiaaDoor
/-
  slices.SortFunc of hashes, by the kit's contract.
-/
namespace Go.Proofs.YtljckpecmlnbiaaDoor
open Go Go.Lite Go.RowKit Go.Sort

instance : Inhabited HT := ⟨⟨Array.replicate 32 (.int .u8 0), by simp, fun v hv => ⟨0, by simpa using hv, by omega, by omega⟩⟩⟩
abbrev encS (h : HT) : List Value := h.1.toList
theorem encS_len (h : HT) : (encS h).length = 32 := by have := h.2.1; simpa using this
theorem flat_cells (d : Array HT) : (flatK encS 32 d).toList = hcells d.toList := by
  apply List.ext_getElem?
  intro t
  by_cases ht : t < d.size * 32
  · have hi : t / 32 < d.size := by omega
    have hx : d.toList[t / 32]? = some d[t / 32] := by rw [Array.getElem?_toList, Array.getElem?_eq_getElem hi]
    have hs : t % 32 < d[t / 32].1.size := by rw [d[t / 32].2.1]; omega
    have h1 := hcells_get hx (Array.getElem?_eq_getElem hs)
    rw [show t / 32 * 32 + t % 32 = t by omega] at h1
    rw [h1]
    have h2 : t < (flatK encS 32 d).size := by rw [size_flatK]; exact ht
    have h3 := get_flatK encS 32 d t ht
    rw [getElem!_pos _ t h2] at h3
    rw [Array.getElem?_toList, Array.getElem?_eq_getElem h2, h3, getElem!_pos d _ hi]
    rw [getElem!_pos _ _ (by rw [encS_len]; omega)]
    simp [encS]
  · rw [List.getElem?_eq_none (by simp; omega), List.getElem?_eq_none (by rw [hcells_len]; simp; omega)]
theorem put_take {F cur : Array Value} {k : Nat} (hk : F.size = k) (h : k ≤ cur.size) : (putCells id 0 F cur).toList.take k = F.toList := by
  apply List.ext_getElem?
  intro i
  rw [List.getElem?_take]
  split
  · rename_i hi
    have h1 : i < cur.size := by omega
    have h2 : i < F.size := by omega
    rw [Array.getElem?_toList, Array.getElem?_toList, putCells, Array.getElem?_mapIdx, Array.getElem?_eq_getElem h1, Array.getElem?_eq_getElem h2]
    simp [h2]
  · rw [List.getElem?_eq_none (by simp; omega)]
theorem mapBlock_heap {w : World} {b : Nat} {f : Array Value → Array Value} {cur : Array Value} {t : TypeId} {fr : Nat × Nat} (h : w.heap[b]? = some (.cells cur t fr)) : (mapBlock w b f).heap[b]? = some (.cells (f cur) t fr) := by
  simp [mapBlock, Array.getElem?_modify, h, onCells]
theorem mapBlock_kept (w : World) (b : Nat) (f : Array Value → Array Value) : Kept (· = b) w (mapBlock w b f) :=
  ⟨rfl, rfl, rfl, by simp [mapBlock], fun k _ hn => by simp [mapBlock, Array.getElem?_modify, Ne.symm hn]⟩
theorem grow_kept (w : World) (os : Array Obj) : Kept Nil w (grow w os) :=
  ⟨rfl, rfl, rfl, by simp, fun k hk _ => heap_grow_old w os hk⟩
theorem ahead_kept (w : World) (m : Nat) : Kept Nil w (Sort.ahead w m) := ⟨rfl, rfl, rfl, Nat.le_refl _, fun _ _ _ => rfl⟩

section
variable {w : World} {B n c b : Nat} {l : List HT}
theorem sortWorld_row (row : HRow w B (some ⟨b, 0, none⟩) n c l) (m : Nat) (dk : Array HT) (os : Array Obj) (hd : dk.size = n) :
    HRow (sortWorldK encS 32 w b 0 m dk os) B (some ⟨b, 0, none⟩) n c dk.toList ∧ Kept (· = b) w (sortWorldK encS 32 w b 0 m dk os) := by
  have hka := ahead_kept w m
  have k1 := mapBlock_kept (Sort.ahead w m) b (putCells id 0 (flatK encS 32 dk))
  have kk := ((hka.mono (S' := fun k => k = b) (fun _ _ h => h.elim)).trans k1 (fun _ _ h => h)).trans (grow_kept _ os) (fun _ _ h => h.elim)
  refine ⟨?_, ?_⟩
  · rcases Row.own row with ⟨h, _⟩ | ⟨b', cur, hA, hB, hg, hnc, hcm, hcs, htk⟩
    · cases h
    · cases hA
      refine ⟨by rw [hcells_len, Array.length_toList, hd], .inr ⟨b, c, putCells id 0 (flatK encS 32 dk) cur, rfl, hB, ?_, hnc, hcm, by simp [putCells, hcs], ?_⟩⟩
      · have h1 : (mapBlock (Sort.ahead w m) b (putCells id 0 (flatK encS 32 dk))).heap[b]? = some (.cells (putCells id 0 (flatK encS 32 dk) cur) T_api_Hash (0, 0)) := mapBlock_heap hg
        exact (heap_grow_old _ os (lt_blk h1)).trans h1
      · rw [← flat_cells]
        refine put_take (by rw [size_flatK, hd]) ?_
        rw [hcs]
        exact Nat.mul_le_mul_right _ hnc
  · exact kk
theorem holdsK_row (row : HRow w B (some ⟨b, 0, none⟩) n c l) : HoldsK encS 32 w b 0 l.toArray := by
  intro j hj
  rw [size_flatK] at hj
  have hj' : j < l.length * 32 := by simpa using hj
  rw [Nat.zero_add]
  have hlen := Row.len row
  have hx : (flatK encS 32 l.toArray).toList[j]? = (hcells l)[j]? := by rw [flat_cells]
  have hjs : j < (flatK encS 32 l.toArray).size := by rw [size_flatK]; exact hj
  rw [Array.getElem?_toList, Array.getElem?_eq_getElem hjs] at hx
  have hc := Row.cell row hx.symm
  refine ⟨?_, ?_⟩
  · rw [hc, getElem!_pos _ j hjs]; rfl
  · exact (Row.wr row (j := j) (by rw [hcells_len]; exact hj')).2

theorem lt_cmp (x y : HT) : ltOf cmpH x y = hlt x y := by
  unfold ltOf
  cases h : hlt x y
  · exact decide_eq_false fun h' => by rw [cmpH_lt.1 h'] at h; cases h
  · exact decide_eq_true (cmpH_lt.2 h)
theorem le_trans' {x y z : HT} (h : hlt y x = false) (h' : hlt z y = false) : hlt z x = false := by
  cases hzx : hlt z x
  · rfl
  · exfalso
    by_cases e : y = z
    · subst e; rw [h] at hzx; cases hzx
    · have hyz := lt_of_le_ne h' e
      have := hlt_trans hyz hzx
      rw [h] at this; cases this
theorem swoH : SWO (ltOf cmpH) where
  irrefl x := by rw [lt_cmp]; exact hlt_irrefl x
  trans x y z h h' := by rw [lt_cmp] at *; exact hlt_trans h h'
  ntrans x y z h h' := by
    rw [lt_cmp] at *
    exact le_trans' h' h

theorem sort_ok {A : Option Addr} {K : Value → World → Prop} (row : HRow w B A n c l) (hn : n ≤ 1000000)
    (hK : ∀ l' w', LE l' → (∀ x, x ∈ l' ↔ x ∈ l) → HRow w' B A n c l' → Kept (fun k => blkOf A = some k) w w' → K (.tuple #[]) w') :
    Ret Tryd.prog slices_SortFunc_of_api_Hash.id #[.slice A n c, .func (.func dag_Compare.id) #[] #[]] w K := by
  have hlen := row.len
  by_cases h0 : n = 0
  · subst h0
    have h := AnyF.slices_SortFunc_none Tryd.sortL A c (.func (.func dag_Compare.id) #[] #[]) w
    refine Calls.mono h ?_
    rintro e w' ⟨rfl, rfl⟩
    have : l = [] := List.eq_nil_of_length_eq_zero hlen
    subst this
    exact ⟨_, rfl, hK [] _ List.Pairwise.nil (fun _ => Iff.rfl) row (Kept.refl _ _)⟩
  · obtain ⟨b, rfl⟩ := Row.some row (by omega)
    have hblk : b < w.heap.size := by
      obtain ⟨_, cur, hc⟩ := Row.blk row (k := b) rfl
      exact lt_blk hc
    have hsz : l.toArray.size = n := by simpa using hlen
    have eg : ∀ args w, (callFunc dag_Compare.id args).run Tryd.prog w = .ok (.enter dag_Compare.id args) w := enters_of dag_Compare.at_ (by kernel_rfl) rfl
    have hk : kdOf Tryd.prog T_api_Hash = .agg 32 := by kernel_rfl
    obtain ⟨e32, ha⟩ := kdOf_agg hk
    obtain ⟨i, hi⟩ := Go.Lite.info_of_underlying (P := Tryd.prog) (t := T_api_Hash) (by kernel_rfl)
    have hcmp : CmpLays Tryd.prog dag_Compare.id #[] encS 32 cmpH b 0 l.toArray.size w := fun m os dk _ x y => by
      have e : (#[.agg (encS x).toArray, .agg (encS y).toArray] ++ #[] : Array Value) = #[.agg x.1, .agg y.1] := by simp [encS]
      rw [e]
      have h := dag_Compare_ok (w := sortWorldK encS 32 w b 0 m dk os) x y (K := fun v w' => v = .int .i64 (cmpH x y) ∧ w' = (((sortWorldK encS 32 w b 0 m dk os).alloc (.cells x.1 T_api_Hash)).alloc (.cells y.1 T_api_Hash)).drew) ⟨rfl, rfl⟩
      refine Calls.mono h ?_
      rintro e w' ⟨v, rfl, rfl, rfl⟩
      refine ⟨rfl, 1, #[.cells x.1 T_api_Hash, .cells y.1 T_api_Hash], ?_⟩
      rw [alloc_eq_grow, alloc_eq_grow, grow_grow, drew_grow]
      rfl
    have h := AnyQ.slices_SortFunc_total Tryd.sortL 32 ha (fun w => by rw [e32]; exact Go.Lite.run_sizeOf hi w) encS encS_len (fun x => x.2.one) cmpH swoH dag_Compare.id #[] b 0 c l.toArray w eg hcmp (holdsK_row row) hblk (by omega)
      (fun x y h1 h2 => by rw [lt_cmp] at h1 h2; exact hlt_total h1 h2)
    rw [hsz] at h
    refine Calls.mono h ?_
    rintro e w' ⟨rfl, m, os, rfl⟩
    have hp := List.mergeSort_perm l.toArray.toList (fun x y => !(ltOf cmpH) y x)
    have hml : (l.toArray.toList.mergeSort fun x y => !(ltOf cmpH) y x).toArray.size = n := by
      have := hp.length_eq
      simp only [List.size_toArray]
      rw [this]
      simpa using hlen
    obtain ⟨h1, h2⟩ := sortWorld_row row m _ os hml
    refine ⟨_, rfl, hK _ _ ?_ (fun x => ?_) h1 (h2.mono fun k _ e => by rw [e]; rfl)⟩
    · have hs := List.pairwise_mergeSort (le := fun x y => !(ltOf cmpH) y x) (fun a b c h h' => by
        rw [lt_cmp] at *
        simp only [Bool.not_eq_true'] at *
        exact le_trans' h h') (fun a b => by
        rw [lt_cmp, lt_cmp]
        cases hab : hlt b a
        · rfl
        · rw [hlt_asymm hab]; rfl) l.toArray.toList
      refine List.Pairwise.imp ?_ hs
      intro a b hab
      rw [lt_cmp] at hab
      simpa using hab
    · simp
end
end Go.Proofs.YtljckpecmlnbiaaDoor
/-
  slices.Compact of hashes; the program's Sorted.
-/
namespace Go.Proofs.YtljckpecmlnbiaaDoor
open Go Go.Lite Go.RowKit

theorem hcells_set {l : List HT} {k : Nat} (hk : k < l.length) (x : HT) : hcells (l.set k x) = splice (hcells l) (k * 32) x.1.toList := by
  have h1 : l = l.take k ++ l[k] :: l.drop (k + 1) := by rw [← List.drop_eq_getElem_cons hk, List.take_append_drop]
  have e1 : (hcells (l.take k)).length = k * 32 := by rw [hcells_len, List.length_take]; omega
  have hx := x.2.1
  have hl := l[k].2.1
  have hs : l.set k x = l.take k ++ x :: l.drop (k + 1) := List.set_eq_take_append_cons_drop .. |>.trans (if_pos hk)
  rw [hs]
  conv => rhs; rw [h1]
  rw [hcells_app, hcells_app, hcells_cons, hcells_cons]
  generalize hcells (l.take k) = p at e1
  generalize hcells (l.drop (k + 1)) = r
  have eq : l[k].1.toList.length = 32 := by simpa using hl
  have ev : x.1.toList.length = 32 := by simpa using hx
  generalize l[k].1.toList = q at eq
  generalize x.1.toList = v at ev
  unfold splice
  rw [List.take_left' e1, ev, show p ++ (q ++ r) = (p ++ q) ++ r by simp, List.drop_left' (by rw [List.length_append, e1, eq])]
  simp
theorem HRow.setAt {w : World} {B n c b : Nat} {l : List HT} (row : HRow w B (some ⟨b, 0, none⟩) n c l) {k : Nat} (hk : k < n) (x : HT) :
    HRow (setCells w ⟨b, k * 32, none⟩ x.1.toList 0) B (some ⟨b, 0, none⟩) n c (l.set k x) := by
  have hlen := row.len
  have hx := x.2.1
  have := setCells_row x.1.toList (hcells l) w (k * 32) 0 row (by rw [hcells_len]; simp; omega)
  rw [Nat.add_zero] at this
  rw [← hcells_set (by omega)] at this
  exact this
theorem HRow.wrAt {w : World} {B n c b : Nat} {l : List HT} (row : HRow w B (some ⟨b, 0, none⟩) n c l) {k : Nat} (hk : k < n) (j : Nat) (hj : j < 32) : Wr w ((⟨b, k * 32, none⟩ : Addr).add j) := by
  rw [add_at]
  refine Row.wr row ?_
  rw [hcells_len, row.len]
  omega
theorem HRow.cap {w : World} {B : Nat} {A : Option Addr} {n c : Nat} {l : List HT} (row : HRow w B A n c l) : n ≤ c := by
  rcases Row.own row with ⟨_, h1, h2, _⟩ | ⟨_, _, _, _, _, h1, _⟩ <;> omega
/-- the first ones of a row, its rest laid anew -/
theorem HRow.cut {w w' : World} {B n c b : Nat} {l : List HT} (row : HRow w B (some ⟨b, 0, none⟩) n c l) {k : Nat} (hk : k ≤ n) (vs : List Value) (hv : vs.length = (n - k) * 32) (hw : w' = setCells w ⟨b, k * 32, none⟩ vs 0) :
    HRow w' B (some ⟨b, 0, none⟩) k c (l.take k) := by
  subst hw
  have hlen := row.len
  rcases Row.own row with ⟨h, _⟩ | ⟨b', cur, hA, hB, hg, hnc, hcm, hcs, htk⟩
  · cases h
  · cases hA
    have hle : n * 32 ≤ c * 32 := Nat.mul_le_mul_right _ hnc
    have hsz : k * 32 + 0 + vs.length ≤ cur.size := by omega
    have h1 := setCells_block vs cur w T_api_Hash (k * 32) 0 hg hsz
    refine ⟨by rw [hcells_len, List.length_take]; omega, .inr ⟨b, c, _, rfl, hB, h1, by omega, hcm, ?_, ?_⟩⟩
    · have := splice_len (xs := cur.toList) (k := k * 32 + 0) (vs := vs) (by simpa using hsz)
      rw [List.size_toArray, this]
      simpa using hcs
    · have e1 : (hcells (l.take k)).length = k * 32 := by rw [hcells_len, List.length_take]; omega
      have e2 : (hcells l).take (k * 32) = hcells (l.take k) := by
        conv => lhs; rw [← List.take_append_drop k l, hcells_app]
        rw [← e1, List.take_left']
        rfl
      rw [← e2, ← htk, List.take_take, Nat.min_eq_left (by omega)]
      unfold splice
      simp only [List.toList_toArray, Nat.add_zero]
      rw [List.append_assoc, List.take_append_of_le_length (by simp; omega), List.take_take, Nat.min_self]

/-- clear of hashes -/
def zeroOne (P : Program) (e : TypeId) : Bool :=
  match P.info? e with
  | some i => match i.zero with
    | some z => z.cells.toList.all fun v => v.oneCell'
    | none => false
  | none => false
theorem run_clear_hash {w : World} {B n c b : Nat} {l : List HT} (row : HRow w B (some ⟨b, 0, none⟩) n c l) {k : Nat} (hk : k ≤ n) (ty : Nat) {A : Option Addr} {cx : Nat} (hA : k < n → A = some ⟨b, k * 32, none⟩) :
    ∃ w', (Builtin.clear_ #[T_sl_api_Hash] ty #[.slice A (n - k) cx]).run Tryd.prog w = .ok (.tuple #[]) w' ∧ HRow w' B (some ⟨b, 0, none⟩) k c (l.take k) ∧ Kept (· = b) w w' := by
  have hlen := row.len
  by_cases hkn : k < n
  · obtain ⟨i, z, hi, hz, hs, _, hzs⟩ := slHash.inf
    have hone : zeroOne Tryd.prog T_api_Hash = true := by kernel_rfl
    unfold zeroOne at hone
    rw [hi] at hone
    simp only [hz, List.all_eq_true] at hone
    rw [hA hkn]
    obtain ⟨m, hm⟩ : ∃ m, n - k = m + 1 := ⟨n - k - 1, by omega⟩
    have hvl : (Builtin.zeroCells z.cells (n - k)).toList.length = (n - k) * 32 := by simp [Builtin.zeroCells, hzs]
    have hst := run_storeCells_set (P := Tryd.prog) ⟨b, k * 32, none⟩ (Builtin.zeroCells z.cells (n - k)).toList 0 w (fun v hv => by
      simp only [Builtin.zeroCells, Array.toList_map, List.mem_map] at hv
      obtain ⟨t, ht, rfl⟩ := hv
      have : t % z.cells.size < z.cells.size := Nat.mod_lt _ (by omega)
      rw [getElem!_pos z.cells _ this]
      exact hone _ (by simp)) (fun j hj => by
      rw [Nat.zero_add, add_at]
      refine Row.wr row ?_
      rw [hcells_len]
      omega)
    refine ⟨_, ?_, row.cut hk _ hvl rfl, setCells_kept _ _ _ _⟩
    simp only [Builtin.clear_, hm]
    rw [hm] at hst
    simp [run_underlying slHash.und, zeroValue, typeInfo, hi, hz, hst]
  · have : n = k := by omega
    subst this
    refine ⟨w, ?_, by rw [List.take_of_length_le (by omega)]; exact row, Kept.refl _ _⟩
    rw [Nat.sub_self]
    cases A <;> simp [Builtin.clear_, run_underlying slHash.und]

end Go.Proofs.YtljckpecmlnbiaaDoor
/-
  slices.Compact of hashes that rise; the program's Sorted.
-/
namespace Go.Proofs.YtljckpecmlnbiaaDoor
open Go Go.Lite Go.RowKit

theorem srt_short : ∀ {l : List HT}, l.length < 2 → srt l = l
  | [], _ => rfl
  | [_], _ => rfl
  | _ :: _ :: _, h => by simp only [List.length_cons] at h; omega
theorem SS_take {l : List HT} (h : SS l) (k : Nat) : SS (l.take k) := List.Pairwise.sublist (List.take_sublist k l) h

section
variable {w : World} {B n c : Nat} {A : Option Addr} {l : List HT} {K : Value → World → Prop}
theorem compact_ok (row : HRow w B A n c l) (hle : LE l) (hn : n ≤ 400000)
    (hK : ∀ A' c' w', HRow w' B A' (srt l).length c' (srt l) → (∀ k, blkOf A' = some k → blkOf A = some k) → Kept (fun k => blkOf A = some k) w w' → K (.slice A' (srt l).length c') w') :
    Ret Tryd.prog slices_Compact_of_api_Hash.id #[.slice A n c] w K := by
  have hlen := row.len
  refine slices_Compact_of_api_Hash.of ?_
  refine Split.dec (fun h2 => ?_) (fun h2 => ?_)
  · have e : srt l = l := srt_short (by omega)
    have := hK A c w (by rw [e, hlen]; exact row) (fun k h => h) (Kept.refl _ _)
    rw [e, hlen] at this
    exact this
  obtain ⟨b, rfl⟩ := Row.some row (by omega)
  have hcap := row.cap
  refine slices_Compact_of_api_Hash.loop1 (I := fun s w' => ∃ k : Nat, s = (none, 0, 0, (k : Int)) ∧ 1 ≤ k ∧ k ≤ n ∧ SS (l.take k) ∧ Kept Nil w w') (μ := fun s _ => ((n : Int) - s.2.2.2).toNat) (s := (none, 0, 0, 1))
    ⟨1, rfl, Nat.le_refl _, by omega, ?_, Kept.refl _ _⟩ ?_
  · cases l with
    | nil => exact List.Pairwise.nil
    | cons x l => simp [SS]
  rintro s w' ⟨k, rfl, hk1, hkn, hss, kw⟩
  refine Split.dec (fun hil0 => ?_) (fun hge => ?_)
  · simp only at hil0
    have hkl : k < n := by omega
    obtain ⟨x, hx⟩ : ∃ x, l[k]? = some x := ⟨_, List.getElem?_eq_getElem (by omega)⟩
    obtain ⟨y, hy⟩ : ∃ y, l[k - 1]? = some y := ⟨_, List.getElem?_eq_getElem (by omega)⟩
    intro w5
    have k5 : Kept Nil w w5 := kw.drew
    clear_value w5
    have row5 : HRow w5 B (some ⟨b, 0, none⟩) n c l := Row.keep row k5 (fun _ _ h => h)
    simp only
    rw [wrapM (n := (k : Int)) (by omega) (by omega)]
    have hxy : hlt x y = false := hle.get (by omega) hy hx
    refine row5.hs.load (i := (k : Int)) (by omega) hx (row5.hs.load (i := (k : Int) - 1) (by omega) (by rw [show ((k : Int) - 1).toNat = k - 1 by omega]; exact hy) ⟨⟨x.2.ints, y.2.ints⟩, ?_⟩)
    rw [sameInts_eq]
    refine Split.dec (fun he => ?_) (fun he => ?_)
    · refine ⟨⟨by omega, by omega⟩, ?_⟩
      rw [Int.toNat_natCast]
      rw [if_neg (show ¬ c = k by omega)]
      simp only [Option.map_some, add_at, Nat.zero_add]
      refine slices_Compact_of_api_Hash.loop2 (I := fun s w' => ∃ (p j : Nat) (l' : List HT), s = ((p : Int), (j : Int)) ∧ 1 ≤ j ∧ k ≤ p ∧ p < k + j ∧ k + j ≤ n ∧ HRow w' B (some ⟨b, 0, none⟩) n c l' ∧ l'.drop (k + j - 1) = l.drop (k + j - 1) ∧ SS (l'.take p) ∧ (∀ z, z ∈ l'.take p ↔ z ∈ l.take (k + j)) ∧ Kept (· = b) w w')
        (μ := fun s _ => ((n : Int) - s.2).toNat) (s := ((k : Int), 1)) ⟨k, 1, l, rfl, Nat.le_refl _, Nat.le_refl _, by omega, by omega, row5, rfl, hss, fun z => ?_, k5.mono fun _ _ h => h.elim⟩ ?_
      · rw [mem_take_succ hx]
        constructor
        · exact .inl
        · rintro (h | rfl)
          · exact h
          · rw [he]
            have := mem_take_succ (z := y) hy
            rw [show k - 1 + 1 = k by omega] at this
            exact this.2 (.inr rfl)
      rintro s w1 ⟨p, j, l', rfl, hj1, hkp, hpj, hjn, row1, hdr, hs1, hm1, k1⟩
      have hlen' := row1.len
      refine Split.dec (fun hil1 => ?_) (fun hge1 => ?_)
      · simp only at hil1
        have hjl : k + j < n := by omega
        obtain ⟨u, hu⟩ : ∃ u, l[k + j]? = some u := ⟨_, List.getElem?_eq_getElem (by omega)⟩
        obtain ⟨v, hv⟩ : ∃ v, l[k + j - 1]? = some v := ⟨_, List.getElem?_eq_getElem (by omega)⟩
        have hu' : l'[k + j]? = some u := by
          have h := congrArg (fun m : List HT => m[1]?) hdr
          simp only [List.getElem?_drop] at h
          rw [show k + j - 1 + 1 = k + j by omega] at h
          rw [h, hu]
        have hv' : l'[k + j - 1]? = some v := by
          have h := congrArg (fun m : List HT => m[0]?) hdr
          simp only [List.getElem?_drop, Nat.add_zero] at h
          rw [h, hv]
        intro w18
        have k18 : Kept (· = b) w w18 := k1.drew
        have row18 : HRow w18 B (some ⟨b, 0, none⟩) n c l' := Row.keep row1 ((Kept.refl Nil w1).drew) (fun _ _ h => h)
        clear_value w18
        have hsub : HS w18 (some ⟨b, k * 32, none⟩) (n - k) (l'.drop k) := by
          have h := row18.hs.drop (c := c) hcap (k := k) (by omega)
          rw [if_neg (show ¬ c = k by omega)] at h
          simpa [add_at] using h
        have hsu : (l'.drop k)[(j : Int).toNat]? = some u := by rw [Int.toNat_natCast, List.getElem?_drop]; exact hu'
        have hsv : (l'.drop k)[((j : Int) - 1).toNat]? = some v := by
          rw [show ((j : Int) - 1).toNat = j - 1 by omega, List.getElem?_drop, show k + (j - 1) = k + j - 1 by omega]; exact hv'
        simp -zeta only
        rw [wrapM (n := (j : Int)) (by omega) (by omega)]
        have huv : hlt u v = false := hle.get (by omega) hv hu
        refine hsub.load (i := (j : Int)) (by omega) hsu (hsub.load (i := (j : Int) - 1) (by omega) hsv ⟨⟨u.2.ints, v.2.ints⟩, ?_⟩)
        rw [sameInts_eq, wrapP (n := (j : Int)) (by omega) (by omega)]
        have hmu : ∀ z, z ∈ l.take (k + (j + 1)) ↔ z ∈ l'.take p ∨ z = u := fun z => by
          rw [show k + (j + 1) = k + j + 1 by omega, mem_take_succ hu, hm1 z]
        by_cases heq : u = v
        · refine Split.no (by rw [decide_eq_true heq]; rfl) ?_
          refine ⟨((p : Int), (j : Int) + 1), rfl, ⟨p, j + 1, l', rfl, by omega, hkp, by omega, by omega, row18, ?_, hs1, fun z => ?_, k18⟩, by simp only; omega⟩
          · have h := congrArg (fun m : List HT => m.drop 1) hdr
            simp only [List.drop_drop] at h
            rw [show k + (j + 1) - 1 = k + j - 1 + 1 by omega]
            exact h
          · rw [hmu z]
            constructor
            · exact .inl
            · rintro (h | rfl)
              · exact h
              · refine (hm1 _).2 ?_
                rw [heq]
                exact List.mem_of_getElem? (i := k + j - 1) (by rw [List.getElem?_take, if_pos (by omega)]; exact hv)
        · refine Split.yes (by rw [decide_eq_false heq]; rfl) ?_
          refine hsub.load (i := (j : Int)) (by omega) hsu ⟨⟨by omega, by omega⟩, ⟨u.2.1, u.2.one, fun i hi => ?_⟩, ?_⟩
          · rw [Int.toNat_natCast, add_at, Nat.zero_add]
            exact row18.wrAt (by omega) i hi
          intro w28
          have hw28 : w28 = setCells w18 ⟨b, p * 32, none⟩ u.1.toList 0 := by
            show setCells w18 ((⟨b, 0, none⟩ : Addr).add ((p : Int).toNat * 32)) u.1.toList 0 = _
            rw [Int.toNat_natCast, add_at, Nat.zero_add]
          have row28 : HRow w28 B (some ⟨b, 0, none⟩) n c (l'.set p u) := by rw [hw28]; exact row18.setAt (by omega) u
          have k28 : Kept (· = b) w w28 := by rw [hw28]; exact k18.trans (setCells_kept _ _ _ _) (fun _ _ h => h)
          clear_value w28
          rw [wrapP (n := (p : Int)) (by omega) (by omega)]
          have htk : (l'.set p u).take (p + 1) = l'.take p ++ [u] := by
            rw [List.take_add_one, List.take_set_of_le (Nat.le_refl p), List.getElem?_set_self (by omega)]
            rfl
          refine ⟨((p : Int) + 1, (j : Int) + 1), rfl, ⟨p + 1, j + 1, l'.set p u, rfl, by omega, by omega, by omega, by omega, row28, ?_, ?_, fun z => ?_, k28⟩, by simp only; omega⟩
          · have h := congrArg (fun m : List HT => m.drop 1) hdr
            simp only [List.drop_drop] at h
            rw [List.drop_set, if_pos (by omega), show k + (j + 1) - 1 = k + j - 1 + 1 by omega]
            exact h
          · rw [htk]
            refine SS_snoc hs1 fun z hz => ?_
            obtain ⟨i, hi⟩ := List.mem_iff_getElem?.1 ((hm1 z).1 hz)
            rw [List.getElem?_take] at hi
            split at hi
            · rename_i hik
              have hvu : hlt v u = true := lt_of_le_ne huv (fun e => heq e.symm)
              by_cases e : i = k + j - 1
              · subst e; rw [hv] at hi; cases hi; exact hvu
              · exact lt_of_le_lt (hle.get (by omega) hi hv) hvu
            · cases hi
          · rw [htk, hmu z]
            simp
      · simp only at hge1
        have hj : k + j = n := by omega
        rw [roundQ_exit, slices_Compact_of_api_Hash.x2_2]
        unfold slices_Compact_of_api_Hash.X2_2
        refine ⟨⟨by omega, by omega⟩, ?_⟩
        rw [Int.toNat_natCast]
        obtain ⟨w2, hr, row2, k2⟩ := run_clear_hash row1 (k := p) (by omega) 0 (A := if c = p then some ⟨b, 0, none⟩ else (some ⟨b, 0, none⟩ : Option Addr).map (·.add (p * 32))) (cx := c - p) (fun hp => by
          rw [if_neg (by omega)]
          simp [add_at])
        refine ⟨_, w2, hr, ⟨by omega, by omega⟩, ?_⟩
        have e : l'.take p = srt l := srt_of hs1 fun z => by rw [hm1 z, hj, List.take_of_length_le (by omega)]
        have el : p = (srt l).length := by
          have h := row2.len
          rw [e] at h
          exact h.symm
        have e0 : (if c = 0 then (some ⟨b, 0, none⟩ : Option Addr) else (some ⟨b, 0, none⟩ : Option Addr).map (·.add (0 * 32))) = some ⟨b, 0, none⟩ := by
          rw [if_neg (by omega)]; simp [add_zero]
        rw [e0, Nat.sub_zero, Nat.sub_zero]
        rw [e, el] at row2
        have := hK (some ⟨b, 0, none⟩) c w2 row2 (fun k h => h) ((k1.trans k2 (fun _ _ h => h)).mono fun i _ h => by rw [h]; rfl)
        rw [← el] at this
        exact this
    · rw [wrapP (n := (k : Int)) (by omega) (by omega)]
      refine ⟨(none, 0, 0, (k : Int) + 1), rfl, ⟨k + 1, rfl, by omega, by omega, ?_, k5⟩, by simp only; omega⟩
      rw [List.take_add_one, hx]
      refine SS_snoc hss fun z hz => ?_
      have hyx : hlt y x = true := lt_of_le_ne hxy (fun e => he e.symm)
      obtain ⟨i, hi⟩ := List.mem_iff_getElem?.1 hz
      rw [List.getElem?_take] at hi
      split at hi
      · by_cases e : i = k - 1
        · subst e; rw [hy] at hi; cases hi; exact hyx
        · exact lt_of_le_lt (hle.get (by omega) hi hy) hyx
      · cases hi
  · simp only at hge
    have e : k = n := by omega
    subst e
    rw [roundQ_exit, slices_Compact_of_api_Hash.x1_0]
    rw [List.take_of_length_le (by omega)] at hss
    have e : srt l = l := srt_self hss
    have := hK (some ⟨b, 0, none⟩) c w' (by rw [e, hlen]; exact Row.keep row kw (fun _ _ h => h)) (fun k h => h) (kw.mono fun _ _ h => h.elim)
    rw [e, hlen] at this
    exact this

/-- the program's Sorted -/
theorem dag_Sorted_ok (hl : HS w A n l) (hn : n ≤ 400000)
    (hK : ∀ A' c' w', HRow w' w.heap.size A' (srt l).length c' (srt l) → Kept Nil w w' → K (.slice A' (srt l).length c') w') :
    Ret Tryd.prog dag_Sorted.id #[.slice A n c] w K := by
  have hlen := hl.len
  refine dag_Sorted.of ?_
  refine slices_Values_of_api_Hash.of ?_
  unfold slices_Values_of_api_Hash.W
  intro w2
  have k2 : Kept Nil w w2 := (Kept.refl _ _).alloc _
  have hb2 : w2.heap[w.heap.size]? = some (.cells #[.slice A n c] T_sl_api_Hash (0, 0)) := new_blk w _
  clear_value w2
  refine ⟨_, rfl, ?_⟩
  refine slices_SortedFunc_of_api_Hash.of ?_
  refine collect_ok (xs := l) slices_Values_of_api_Hash_fn1.at_ (by rfl) (values_iter (l := l) ⟨w.heap.size, 0, none⟩ (A := A) (n := n) (c := c) (by omega)) (fun w' hk => ⟨(hl.same k2).same hk, by rw [cell_blk (hk.heap hb2 (fun h => h))]; rfl⟩) (by omega) ?_
  intro A4 c4 w4 row4 k4
  refine ⟨A4, _, c4, rfl, ?_⟩
  refine sort_ok row4 (by omega) fun l5 w5 hle hmem row5 k5 => ⟨rfl, ?_⟩
  refine ⟨A4, _, c4, rfl, ?_⟩
  refine compact_ok row5 hle (by omega) fun A6 c6 w6 row6 hb6 k6 => ⟨A6, _, c6, rfl, ?_⟩
  have e : srt l5 = srt l := srt_ext hmem
  rw [e] at row6 ⊢
  have hA4 : ∀ k, blkOf A4 = some k → w.heap.size ≤ k := fun k hk => Nat.le_trans k2.size (Row.blk row4 hk).1
  refine hK A6 c6 w6 (Row.base row6 fun k hk => hA4 k (hb6 k hk)) ?_
  exact ((k2.trans k4 (fun _ _ h => h)).trans k5 (fun k hk h => absurd (hA4 k h) (by omega))).trans k6 (fun k hk h => absurd (hA4 k h) (by omega))
end
end Go.Proofs.YtljckpecmlnbiaaDoor
/-
  Rows of bits: has, with, or.
-/
namespace Go.Proofs.YtljckpecmlnbiaaDoor
open Go Go.Lite Go.RowKit

theorem wrapU64 {x : Nat} (h : x < 18446744073709551616) : IntKind.u64.wrap (x : Int) = (x : Int) := by
  simp only [IntKind.wrap, IntKind.bits, IntKind.signed]
  simp
  omega
theorem orU {x y : Nat} (hx : x < 18446744073709551616) (hy : y < 18446744073709551616) :
    IntKind.u64.wrap ((BitVec.ofInt 64 (x : Int) ||| BitVec.ofInt 64 (y : Int)).toNat : Int) = ((x ||| y : Nat) : Int) := by
  have h : (BitVec.ofInt 64 (x : Int) ||| BitVec.ofInt 64 (y : Int)).toNat = x ||| y := by
    rw [BitVec.ofInt_natCast, BitVec.ofInt_natCast, BitVec.toNat_or, BitVec.toNat_ofNat, BitVec.toNat_ofNat, Nat.mod_eq_of_lt (by omega), Nat.mod_eq_of_lt (by omega)]
  rw [h]
  exact wrapU64 (Nat.or_lt_two_pow (n := 64) hx hy)
theorem andU {x y : Nat} (hx : x < 18446744073709551616) (hy : y < 18446744073709551616) :
    IntKind.u64.wrap ((BitVec.ofInt 64 (x : Int) &&& BitVec.ofInt 64 (y : Int)).toNat : Int) = ((x &&& y : Nat) : Int) := by
  have h : (BitVec.ofInt 64 (x : Int) &&& BitVec.ofInt 64 (y : Int)).toNat = x &&& y := by
    rw [BitVec.ofInt_natCast, BitVec.ofInt_natCast, BitVec.toNat_and, BitVec.toNat_ofNat, BitVec.toNat_ofNat, Nat.mod_eq_of_lt (by omega), Nat.mod_eq_of_lt (by omega)]
  rw [h]
  exact wrapU64 (Nat.lt_of_le_of_lt Nat.and_le_left hx)
theorem fdivU (x k : Nat) : ((x : Int).fdiv (2 ^ k)) = ((x / 2 ^ k : Nat) : Int) := by
  rw [show ((2 : Int) ^ k) = ((2 ^ k : Nat) : Int) by simp, Int.fdiv_eq_ediv_of_nonneg _ (Int.natCast_nonneg _)]
  exact (Int.natCast_ediv x (2 ^ k)).symm
theorem hasU {x i : Nat} (hx : x < 18446744073709551616) (hi : i < 64) :
    (IntKind.u64.wrap ((BitVec.ofInt 64 ((x : Int).fdiv (2 ^ (min i 64))) &&& BitVec.ofInt 64 (1 : Int)).toNat : Int) == (1 : Int)) = x.testBit i := by
  rw [Nat.min_eq_left (by omega), fdivU]
  have h := andU (x := x / 2 ^ i) (y := 1) (Nat.lt_of_le_of_lt (Nat.div_le_self _ _) hx) (by omega)
  rw [show ((1 : Nat) : Int) = (1 : Int) from rfl] at h
  rw [h, Nat.and_one_is_mod, Nat.testBit_eq_decide_div_mod_eq]
  by_cases e : x / 2 ^ i % 2 = 1
  · rw [e, decide_eq_true rfl]; rfl
  · rw [decide_eq_false e]
    exact beq_eq_false_iff_ne.2 (by omega)
theorem powU {i : Nat} (hi : i < 64) : IntKind.u64.wrap ((1 : Int) * 2 ^ (min i 64)) = ((2 ^ i : Nat) : Int) := by
  rw [Nat.min_eq_left (by omega), Int.one_mul]
  have h : 2 ^ i < 18446744073709551616 := Nat.pow_lt_pow_right (by omega) (n := 64) hi
  have := wrapU64 h
  rw [← this]
  simp

/-- is a number in a row? -/
def bit (ws : List Nat) (i : Nat) : Bool := (ws.getD (i / 64) 0).testBit (i % 64)
def okW (ws : List Nat) : Prop := ∀ x ∈ ws, x < 18446744073709551616
theorem bit_nil (i : Nat) : bit [] i = false := by simp [bit]
theorem bit_app0 (ws : List Nat) (i : Nat) : bit (ws ++ [0]) i = bit ws i := by
  unfold bit
  congr 1
  simp only [List.getD_eq_getElem?_getD, List.getElem?_append]
  split
  · rfl
  · rename_i h
    rw [List.getElem?_eq_none (l := ws) (by omega)]
    cases i / 64 - ws.length <;> simp
theorem bit_set {ws : List Nat} {q : Nat} (hq : q < ws.length) (v i : Nat) : bit (ws.set q v) i = if i / 64 = q then v.testBit (i % 64) else bit ws i := by
  unfold bit
  simp only [List.getD_eq_getElem?_getD, List.getElem?_set]
  by_cases h : i / 64 = q
  · subst h; simp [hq]
  · rw [if_neg (fun e => h e.symm), if_neg h]
theorem okW_app {ws : List Nat} (h : okW ws) {x : Nat} (hx : x < 18446744073709551616) : okW (ws ++ [x]) := fun y hy => by
  rw [List.mem_append, List.mem_singleton] at hy
  rcases hy with hy | rfl
  · exact h y hy
  · exact hx
theorem okW_set {ws : List Nat} (h : okW ws) {x : Nat} (hx : x < 18446744073709551616) (q : Nat) : okW (ws.set q x) := fun y hy => by
  rcases List.mem_or_eq_of_mem_set hy with hy | rfl
  · exact h y hy
  · exact hx

def us (l : List Nat) : List Value := l.map fun x : Nat => .int .u64 (x : Int)
theorem us_len (l : List Nat) : (us l).length = l.length := by simp [us]
theorem us_get {l : List Nat} {j x : Nat} (h : l[j]? = some x) : (us l)[j]? = some (.int .u64 (x : Int)) := by simp [us, h]
theorem us_set (l : List Nat) (q v : Nat) : (us l).set q (.int .u64 (v : Int)) = us (l.set q v) := by simp [us, List.map_set]
theorem us_app (l m : List Nat) : us (l ++ m) = us l ++ us m := by simp [us]

/-- a slice of words, to be read -/
structure US (w : World) (A : Option Addr) (n : Nat) (l : List Nat) : Prop where
  len : l.length = n
  at_ : ∀ (i x : Nat), l[i]? = some x → ∃ a, A = some a ∧ a.block < w.heap.size ∧ w.cell? (a.add i) = some (.int .u64 (x : Int))
theorem US.keep {S : Nat → Prop} {w w' : World} {A : Option Addr} {n : Nat} {l : List Nat} (h : US w A n l) (hk : Kept S w w') (hn : ∀ a, A = some a → ¬ S a.block) : US w' A n l := ⟨h.len, fun i x hi => by
  obtain ⟨a, h1, h2, h3⟩ := h.at_ i x hi
  exact ⟨a, h1, Nat.lt_of_lt_of_le h2 hk.size, hk.cell h3 (by rw [addr_block]; exact hn a h1)⟩⟩
theorem US.same {w w' : World} {A : Option Addr} {n : Nat} {l : List Nat} (h : US w A n l) (hk : Kept Nil w w') : US w' A n l := h.keep hk fun _ _ h => h
theorem US.load {w : World} {A : Option Addr} {n : Nat} {l : List Nat} (hl : US w A n l) {i : Int} {x : Nat} (h0 : 0 ≤ i) (hx : l[i.toNat]? = some x) {k : Int → Prop} (hk : k x) :
    (0 ≤ i ∧ i < (n : Int)) ∧ Is A fun a => ∃ t : Int, w.cell? (a.add (i.toNat * 1)) = some (.int .u64 t) ∧ k t := by
  obtain ⟨a, rfl, _, hc⟩ := hl.at_ _ x hx
  have := (List.getElem?_eq_some_iff.1 hx).1
  have := hl.len
  exact ⟨⟨h0, by omega⟩, x, by rw [Nat.mul_one]; exact hc, hk⟩
theorem slWord : SlT Tryd.prog T_dag_row T_uint64 1 8 := ⟨by kernel_rfl, by kernel_rfl⟩
/-- a row of words of one's own -/
abbrev URow (w : World) (B : Nat) (A : Option Addr) (n c : Nat) (l : List Nat) : Prop := Row w B T_uint64 1 A n c (us l)
section
variable {w w' : World} {B n c : Nat} {A : Option Addr} {l : List Nat}
theorem URow.len (h : URow w B A n c l) : l.length = n := by have := Row.len h; rw [us_len] at this; omega
theorem URow.us (h : URow w B A n c l) : US w A n l := ⟨h.len, fun i x hi => by
  have hlen := h.len
  have := (List.getElem?_eq_some_iff.1 hi).1
  obtain ⟨b, rfl⟩ := Row.some h (by omega)
  obtain ⟨_, cur, hcur⟩ := Row.blk h (k := b) rfl
  exact ⟨_, rfl, lt_blk hcur, by rw [add_at, Nat.zero_add]; exact Row.cell h (us_get hi)⟩⟩

theorem tdiv64 (i : Nat) : ((i : Int).tdiv 64) = ((i / 64 : Nat) : Int) := by
  rw [Int.tdiv_eq_ediv_of_nonneg (by omega)]; omega
theorem tmod64 (i : Nat) : ((i : Int).tmod 64) = ((i % 64 : Nat) : Int) := by
  rw [Int.tmod_eq_emod_of_nonneg (by omega)]; omega
theorem row_has_ok {K : Value → World → Prop} (h : US w A n l) (ho : okW l) {i : Nat} (hi : i ≤ 100000000) (hK : K (.bool (bit l i)) w) : Ret Tryd.prog dag_row_has.id #[.slice A n c, .int .i64 (i : Int)] w K := by
  refine dag_row_has.of ?_
  unfold dag_row_has.W
  have hlen := h.len
  rw [tdiv64, tmod64, wrapI (by omega) (by omega)]
  refine ⟨by omega, Split.dec (fun hlt => ?_) (fun hge => ?_)⟩
  · have hil : i / 64 < n := by omega
    obtain ⟨x, hx⟩ : ∃ x, l[i / 64]? = some x := ⟨_, List.getElem?_eq_getElem (by omega)⟩
    refine ⟨by omega, h.load (by omega) (by rw [Int.toNat_natCast]; exact hx) ⟨by omega, by omega, ?_⟩⟩
    rw [Int.toNat_natCast, hasU (ho x (List.mem_of_getElem? hx)) (Nat.mod_lt _ (by omega))]
    have : bit l i = x.testBit (i % 64) := by unfold bit; rw [List.getD_eq_getElem?_getD, hx]; rfl
    rw [← this]
    exact hK
  · have : bit l i = false := by unfold bit; rw [List.getD_eq_getElem?_getD, List.getElem?_eq_none (by omega)]; simp
    rw [← this]
    exact hK

/-- one word more -/
theorem append_word (h : URow w B A n c l) (hn : n ≤ 1000000) (hB : B ≤ w.heap.size) {t : Nat} (x : Nat) :
    ∃ A' c' w', (Builtin.append_ #[T_dag_row, T_dag_row] T_dag_row #[.slice A n c, .slice (some ⟨w.heap.size, 0, none⟩) 1 1]).run Tryd.prog (w.alloc (.cells #[.int .u64 (x : Int)] t)) = .ok (.slice A' (n + 1) c') w' ∧
      URow w' B A' (n + 1) c' (l ++ [x]) ∧ Kept (fun k => blkOf A = some k) w w' ∧ (∀ k, blkOf A' = some k → blkOf A = some k ∨ w.heap.size ≤ k) := by
  have k1 : Kept Nil w (w.alloc (.cells #[.int .u64 (x : Int)] t)) := (Kept.refl _ _).alloc _
  have hb := new_blk w (.cells #[.int .u64 (x : Int)] t)
  have h1 : URow (w.alloc (.cells #[.int .u64 (x : Int)] t)) B A n c l := Row.keep h k1 (fun _ _ h => h)
  obtain ⟨A', c', w', hr, hrow, hg, hb'⟩ := append_row (P := Tryd.prog) (t := T_dag_row) (ty := T_dag_row) (bytes := 8) slWord h1 (a := ⟨w.heap.size, 0, none⟩) (m := 1) (cx := 1) (news := us [x]) rfl
    (fun j u hj => by rw [add_at, Nat.zero_add, cell_blk hb]; simpa [us] using hj) (fun u hu => by simp [us] at hu; subst hu; rfl) (by omega) (by unfold maxLen; omega) (by have := k1.size; omega)
  refine ⟨A', c', w', hr, ?_, ?_, fun k hk => ?_⟩
  · show Row w' B T_uint64 1 A' (n + 1) c' (Proofs.YtljckpecmlnbiaaDoor.us (l ++ [x]))
    rw [us_app]; exact hrow
  · exact (k1.mono (S' := fun k => blkOf A = some k) (fun _ _ h => h.elim)).trans (Kept.grown (S := fun k => blkOf A = some k) (Kept.refl _ _) hg (fun k hk _ => hk)) (fun _ _ h => h)
  · rcases hb' k hk with h | h
    · exact .inl h
    · have := k1.size; exact .inr (by omega)
theorem set_word {b : Nat} (h : URow w B (some ⟨b, 0, none⟩) n c l) {q : Nat} (hq : q < n) (x : Nat) :
    URow (w.setCell ⟨b, q, none⟩ (.int .u64 (x : Int))) B (some ⟨b, 0, none⟩) n c (l.set q x) := by
  have := Row.set h (j := q) (by rw [us_len, h.len]; exact hq) (.int .u64 (x : Int))
  rw [us_set] at this
  exact this

theorem row_with_ok {K : Value → World → Prop} (h : URow w B A n c l) (ho : okW l) (hn : n ≤ 100000) (hB : B ≤ w.heap.size) {i : Nat} (hi : i ≤ 1000000)
    (hK : ∀ A' n' c' l' w', URow w' B A' n' c' l' → okW l' → (n' ≤ n ∨ n' ≤ i / 64 + 1) → (∀ j, bit l' j = (bit l j || decide (j = i))) → Kept (fun k => blkOf A = some k) w w' → (∀ k, blkOf A' = some k → blkOf A = some k ∨ w.heap.size ≤ k) → K (.slice A' n' c') w') :
    Ret Tryd.prog dag_row_with.id #[.slice A n c, .int .i64 (i : Int)] w K := by
  refine dag_row_with.of ?_
  refine dag_row_with.loop1 (I := fun s w' => ∃ A' n' c' l', s = (A', n', c') ∧ URow w' B A' n' c' l' ∧ okW l' ∧ (n' ≤ n ∨ n' ≤ i / 64 + 1) ∧ (∀ j, bit l' j = bit l j) ∧ Kept (fun k => blkOf A = some k) w w' ∧ (∀ k, blkOf A' = some k → blkOf A = some k ∨ w.heap.size ≤ k))
    (μ := fun s _ => i / 64 + 1 - s.2.1) (s := (A, n, c)) ⟨A, n, c, l, rfl, h, ho, .inl (Nat.le_refl _), fun _ => rfl, Kept.refl _ _, fun k hk => .inl hk⟩ ?_
  rintro s w' ⟨A', n', c', l', rfl, row, ho', hn', hbit, kw, hb⟩
  unfold dag_row_with.B1
  rw [tdiv64, wrapI (by omega) (by omega)]
  refine ⟨by omega, ?_⟩
  refine Split.dec (fun hle => ?_) (fun hgt => ?_)
  · simp only at hle
    have hle' : n' ≤ i / 64 := by omega
    obtain ⟨A2, c2, w2, hr, row2, k2, hb2⟩ := append_word row (by omega) (Nat.le_trans hB kw.size) (t := T_uint64) 0
    intro w6
    refine ⟨A2, n' + 1, c2, w2, hr, ?_⟩
    refine ⟨(A2, n' + 1, c2), rfl, ⟨A2, n' + 1, c2, l' ++ [0], rfl, row2, okW_app ho' (by omega), by omega, fun j => by rw [bit_app0, hbit], ?_, fun k hk => ?_⟩, by simp only; omega⟩
    · exact kw.trans k2 (fun k hk e => by
        rcases hb k e with h | h
        · exact h
        · omega)
    · rcases hb2 k hk with h | h
      · exact hb k h
      · exact .inr (Nat.le_trans kw.size h)
  · simp only at hgt
    have hil : i / 64 < n' := by omega
    rw [roundQ_exit, dag_row_with.x1_0]
    unfold dag_row_with.X1_0
    intro w12
    have k12 : Kept Nil w' w12 := (Kept.refl _ _).drew
    have hdr : w12 = w'.drew := rfl
    clear_value w12
    have row12 : URow w12 B A' n' c' l' := Row.keep row k12 (fun _ _ h => h)
    have hlen := row.len
    rw [tdiv64, tmod64, wrapI (by omega) (by omega)]
    obtain ⟨b, rfl⟩ := Row.some row12 (by omega)
    obtain ⟨x, hx⟩ : ∃ x, l'[i / 64]? = some x := ⟨_, List.getElem?_eq_getElem (by omega)⟩
    refine ⟨by omega, row12.us.load (by omega) (by rw [Int.toNat_natCast]; exact hx) ⟨by omega, by omega, ⟨⟨by omega, by simp only; omega⟩, ?_⟩⟩⟩
    have hxl := ho' x (List.mem_of_getElem? hx)
    have hp : 2 ^ (i % 64) < 18446744073709551616 := Nat.pow_lt_pow_right (by omega) (n := 64) (Nat.mod_lt _ (by omega))
    simp only [Is, Int.toNat_natCast, Nat.mul_one, add_at, Nat.zero_add]
    rw [powU (Nat.mod_lt _ (by omega)), orU hxl hp]
    refine ⟨Row.wr row12 (by rw [us_len, hlen]; exact hil), ?_⟩
    have kset : Kept (fun k => blkOf A = some k) w (w12.setCell ⟨b, i / 64, none⟩ (.int .u64 ((x ||| 2 ^ (i % 64) : Nat) : Int))) :=
      Kept.setCell (kw.trans k12 (fun _ _ h => h.elim)) (p := ⟨b, i / 64, none⟩) (fun hlt => by
        rcases hb b rfl with h | h
        · exact h
        · exact absurd hlt (by simp only; omega)) _
    refine hK _ _ _ _ _ (set_word row12 hil _) (okW_set ho' (Nat.or_lt_two_pow (n := 64) hxl hp) _) hn' (fun j => ?_) kset hb
    rw [bit_set (by omega), hbit]
    have hbi : bit l' i = x.testBit (i % 64) := by unfold bit; rw [List.getD_eq_getElem?_getD, hx]; rfl
    by_cases e : j / 64 = i / 64
    · rw [if_pos e, Nat.testBit_or, Nat.testBit_two_pow]
      have hbj : bit l' j = x.testBit (j % 64) := by unfold bit; rw [e, List.getD_eq_getElem?_getD, hx]; rfl
      rw [← hbj, hbit]
      congr 1
      exact decide_eq_decide.2 ⟨fun h => by omega, fun h => by rw [h]⟩
    · rw [if_neg e, decide_eq_false (fun h => e (by rw [h]))]
      simp
end
end Go.Proofs.YtljckpecmlnbiaaDoor
/-
  Rows of bits: or.
-/
namespace Go.Proofs.YtljckpecmlnbiaaDoor
open Go Go.Lite Go.RowKit
section
variable {w w' : World} {B n c : Nat} {A : Option Addr} {l : List Nat}
theorem row_or_ok {K : Value → World → Prop} (h : URow w B A n c l) (ho : okW l) (hn : n ≤ 100000) (hB : B ≤ w.heap.size) {A2 : Option Addr} {n2 c2 : Nat} {v : List Nat} (hv : US w A2 n2 v) (hv' : okW v) (hn2 : n2 ≤ 100000)
    (hap : ∀ a, A2 = some a → ∀ k, blkOf A = some k → a.block ≠ k)
    (hK : ∀ A' n' c' l' w', URow w' B A' n' c' l' → okW l' → (n' ≤ n ∨ n' ≤ n2) → (∀ j, bit l' j = (bit l j || bit v j)) → Kept (fun k => blkOf A = some k) w w' → (∀ k, blkOf A' = some k → blkOf A = some k ∨ w.heap.size ≤ k) → K (.slice A' n' c') w') :
    Ret Tryd.prog dag_row_or.id #[.slice A n c, .slice A2 n2 c2] w K := by
  have hvlen := hv.len
  refine dag_row_or.of ?_
  refine dag_row_or.loop1 (I := fun s w' => ∃ (i : Nat) (A' : Option Addr) (n' c' : Nat) (l' : List Nat), s = (A', n', c', (i : Int)) ∧ i ≤ n2 ∧ URow w' B A' n' c' l' ∧ okW l' ∧ i ≤ n' ∧ n ≤ n' ∧ (n' ≤ n ∨ n' ≤ i) ∧ (∀ j, bit l' j = (bit l j || (decide (j / 64 < i) && bit v j))) ∧ Kept (fun k => blkOf A = some k) w w' ∧ (∀ k, blkOf A' = some k → blkOf A = some k ∨ w.heap.size ≤ k))
    (μ := fun s _ => ((n2 : Int) - s.2.2.2).toNat) (s := (A, n, c, 0)) ⟨0, A, n, c, l, rfl, Nat.zero_le _, h, ho, Nat.zero_le _, Nat.le_refl _, .inl (Nat.le_refl _), by simp, Kept.refl _ _, fun k hk => .inl hk⟩ ?_
  rintro s w' ⟨i, A', n', c', l', rfl, hi, row, ho', hin, hnn, hni, hbit, kw, hb⟩
  have hlen' := row.len
  refine Split.dec (fun hil0 => ?_) (fun hge => ?_)
  · simp only at hil0
    have hil : i < n2 := by omega
    obtain ⟨x, hx⟩ : ∃ x, v[i]? = some x := ⟨_, List.getElem?_eq_getElem (by omega)⟩
    have hxl := hv' x (List.mem_of_getElem? hx)
    have hvw : US w' A2 n2 v := hv.keep kw (fun a ha e => hap a ha _ e rfl)
    refine hvw.load (i := (i : Int)) (by omega) hx ?_
    -- a word is or-ed
    have step : ∀ (A2 : Option Addr) (n3 c3 : Nat) (l3 : List Nat) (w3 : World), URow w3 B A2 n3 c3 l3 → okW l3 → i < n3 → n ≤ n3 → (n3 ≤ n ∨ n3 ≤ i + 1) → (∀ j, bit l3 j = (bit l j || (decide (j / 64 < i) && bit v j))) → Kept (fun k => blkOf A = some k) w w3 → (∀ k, blkOf A2 = some k → blkOf A = some k ∨ w.heap.size ≤ k) →
        (0 ≤ (i : Int) ∧ (i : Int) < (n3 : Int)) ∧ Is A2 fun a => ∃ t : Int, w3.cell? (a.add ((i : Int).toNat * 1)) = some (.int .u64 t) ∧ (0 ≤ (i : Int) ∧ (i : Int) < (n3 : Int)) ∧ Is A2 fun a' => Wr w3 (a'.add ((i : Int).toNat * 1)) ∧
          ∃ (l4 : List Nat),
          URow (w3.setCell (a'.add ((i : Int).toNat * 1)) (.int .u64 (IntKind.u64.wrap ((BitVec.ofInt 64 t ||| BitVec.ofInt 64 (x : Int)).toNat)))) B A2 n3 c3 l4 ∧ okW l4 ∧ (∀ j, bit l4 j = (bit l j || (decide (j / 64 < i + 1) && bit v j))) ∧ Kept (fun k => blkOf A = some k) w (w3.setCell (a'.add ((i : Int).toNat * 1)) (.int .u64 (IntKind.u64.wrap ((BitVec.ofInt 64 t ||| BitVec.ofInt 64 (x : Int)).toNat)))) := by
      intro A2 n3 c3 l3 w3 row3 ho3 hi3 hn3 hn3' hbit3 k3 hb3
      have hlen3 := row3.len
      obtain ⟨b, rfl⟩ := Row.some row3 (by omega)
      obtain ⟨y, hy⟩ : ∃ y, l3[i]? = some y := ⟨_, List.getElem?_eq_getElem (by omega)⟩
      have hyl := ho3 y (List.mem_of_getElem? hy)
      refine row3.us.load (i := (i : Int)) (by omega) hy ⟨⟨by omega, by omega⟩, ?_⟩
      simp only [Is, Int.toNat_natCast, Nat.mul_one, add_at, Nat.zero_add]
      rw [orU hyl hxl]
      refine ⟨Row.wr row3 (by rw [us_len]; omega), l3.set i (y ||| x), set_word row3 hi3 _, okW_set ho3 (Nat.or_lt_two_pow (n := 64) hyl hxl) _, fun j => ?_, ?_⟩
      · rw [bit_set (by omega), hbit3]
        have hbv : j / 64 = i → bit v j = x.testBit (j % 64) := fun e => by unfold bit; rw [e, List.getD_eq_getElem?_getD, hx]; rfl
        have hby : j / 64 = i → bit l3 j = y.testBit (j % 64) := fun e => by unfold bit; rw [e, List.getD_eq_getElem?_getD, hy]; rfl
        by_cases e : j / 64 = i
        · rw [if_pos e, Nat.testBit_or, ← hby e, ← hbv e, hbit3]
          rw [decide_eq_false (show ¬ j / 64 < i by omega), decide_eq_true (show j / 64 < i + 1 by omega)]
          simp
        · rw [if_neg e]
          congr 2
          exact decide_eq_decide.2 (by omega)
      · refine Kept.setCell k3 (p := ⟨b, i, none⟩) (fun hlt => ?_) _
        rcases hb3 b rfl with h | h
        · exact h
        · exact absurd hlt (by simp only; omega)
    by_cases he : i = n'
    · refine Split.yes (by simp [he]) ?_
      obtain ⟨A2', c2', w2, hr, row2, k2, hb2⟩ := append_word row (by omega) (Nat.le_trans hB kw.size) (t := T_uint64) 0
      intro w10
      refine ⟨A2', n' + 1, c2', w2, hr, ?_⟩
      have st := step A2' (n' + 1) c2' (l' ++ [0]) w2 row2 (okW_app ho' (by omega)) (by omega) (by omega) (by omega) (fun j => by rw [bit_app0, hbit])
        (kw.trans k2 (fun k hk e => by
          rcases hb k e with h | h
          · exact h
          · omega)) (fun k hk => by
          rcases hb2 k hk with h | h
          · exact hb k h
          · exact .inr (Nat.le_trans kw.size h))
      clear step
      obtain ⟨s1, s2⟩ := st
      refine ⟨s1, ?_⟩
      cases A2' with
      | none => exact s2.elim
      | some a =>
        obtain ⟨t, s3, s4, s5, l4, s6, s7, s8, s9⟩ := s2
        refine ⟨t, s3, s4, s5, ?_⟩
        intro w16
        simp only
        rw [wrapP (n := (i : Int)) (by omega) (by omega)]
        exact ⟨(some a, n' + 1, c2', (i : Int) + 1), rfl, ⟨i + 1, some a, n' + 1, c2', l4, rfl, hil, s6, s7, by omega, by omega, by omega, s8, s9, fun k hk => by
          rcases hb2 k hk with h | h
          · exact hb k h
          · exact .inr (Nat.le_trans kw.size h)⟩, by simp only; omega⟩
    · refine Split.no (beq_eq_false_iff_ne.2 (by simp only; omega)) ?_
      have st := step A' n' c' l' w' row ho' (by omega) hnn (by omega) hbit kw hb
      clear step
      obtain ⟨s1, s2⟩ := st
      refine ⟨s1, ?_⟩
      cases A' with
      | none => exact s2.elim
      | some a =>
        obtain ⟨t, s3, s4, s5, l4, s6, s7, s8, s9⟩ := s2
        refine ⟨t, s3, s4, s5, ?_⟩
        intro w16
        simp only
        rw [wrapP (n := (i : Int)) (by omega) (by omega)]
        exact ⟨(some a, n', c', (i : Int) + 1), rfl, ⟨i + 1, some a, n', c', l4, rfl, hil, s6, s7, by omega, hnn, by omega, s8, s9, hb⟩, by simp only; omega⟩
  · simp only at hge
    have : i = n2 := by omega
    subst this
    rw [roundQ_exit, dag_row_or.x1_0]
    refine hK A' n' c' l' w' row ho' (by omega) (fun j => ?_) kw hb
    rw [hbit]
    congr 1
    by_cases e : j / 64 < i
    · rw [decide_eq_true e]; simp
    · rw [decide_eq_false e]
      unfold bit
      rw [List.getD_eq_getElem?_getD, List.getElem?_eq_none (by omega)]
      simp
end
end Go.Proofs.YtljckpecmlnbiaaDoor
/-
  Rows of bits: all.
-/
namespace Go.Proofs.YtljckpecmlnbiaaDoor
open Go Go.Lite Go.RowKit

/-- the lowest bit away -/
theorem and_pred : ∀ k m : Nat, (2 ^ k * (2 * m + 1)) &&& (2 ^ k * (2 * m + 1) - 1) = 2 ^ (k + 1) * m
  | 0, m => by
    apply Nat.eq_of_testBit_eq
    intro i
    rw [Nat.testBit_and]
    cases i with
    | zero => simp [Nat.testBit_zero]
    | succ i =>
      simp only [Nat.testBit_succ]
      rw [show (2 ^ 0 * (2 * m + 1)) / 2 = m by omega, show (2 ^ 0 * (2 * m + 1) - 1) / 2 = m by omega, show 2 ^ (0 + 1) * m / 2 = m by omega]
      simp
  | k + 1, m => by
    have ih := and_pred k m
    have hp : 0 < 2 ^ k * (2 * m + 1) := Nat.mul_pos (Nat.pow_pos (by omega)) (by omega)
    rw [show 2 ^ (k + 1) * (2 * m + 1) = 2 * (2 ^ k * (2 * m + 1)) by rw [Nat.pow_succ]; ac_rfl, show 2 ^ (k + 1 + 1) * m = 2 * (2 ^ (k + 1) * m) by rw [Nat.pow_succ 2 (k + 1)]; ac_rfl]
    generalize 2 ^ k * (2 * m + 1) = x at ih hp ⊢
    rw [← ih]
    apply Nat.eq_of_testBit_eq
    intro i
    rw [Nat.testBit_and]
    cases i with
    | zero => simp [Nat.testBit_zero]
    | succ i =>
      simp only [Nat.testBit_succ]
      rw [show 2 * x / 2 = x by omega, show (2 * x - 1) / 2 = x - 1 by omega, show 2 * (x &&& (x - 1)) / 2 = x &&& (x - 1) by omega, Nat.testBit_and]
theorem low_bit {x : Nat} (h0 : x ≠ 0) (hx : x < 18446744073709551616) : Lib.ctz 64 x < 64 ∧ x.testBit (Lib.ctz 64 x) = true ∧ ∀ t, (x &&& (x - 1)).testBit t = (x.testBit t && decide (t ≠ Lib.ctz 64 x)) := by
  obtain ⟨m, h1, h2⟩ := Lib.ctzFrom_spec 64 x (by omega) hx
  have e : Lib.ctz 64 x = Lib.ctzFrom 64 x := by unfold Lib.ctz; rw [if_neg h0]
  rw [e]
  generalize Lib.ctzFrom 64 x = k at h1 h2 ⊢
  have hand : x &&& (x - 1) = 2 ^ (k + 1) * m := by rw [h1]; exact and_pred k m
  have hb : ∀ t, x.testBit t = (decide (t ≥ k) && (2 * m + 1).testBit (t - k)) := fun t => by rw [h1, Nat.testBit_two_pow_mul]
  refine ⟨h2, by rw [hb]; simp, fun t => ?_⟩
  rw [hand, Nat.testBit_two_pow_mul, hb]
  by_cases ht : t = k
  · subst ht
    simp
    intro h
    omega
  · rw [decide_eq_true ht, Bool.and_true]
    by_cases hk : t ≥ k
    · obtain ⟨d, hd⟩ : ∃ d, t - k = d + 1 := ⟨t - k - 1, by omega⟩
      rw [decide_eq_true hk, decide_eq_true (show t ≥ k + 1 by omega), hd, show t - (k + 1) = d by omega, Nat.testBit_succ, show (2 * m + 1) / 2 = m by omega]
    · rw [decide_eq_false hk, decide_eq_false (show ¬ t ≥ k + 1 by omega)]
      simp
theorem and_lt {x : Nat} (h0 : x ≠ 0) : x &&& (x - 1) < x := Nat.lt_of_le_of_lt Nat.and_le_right (by omega)
/-- a word's bits -/
def lows (x : Nat) : List Nat := if h : x = 0 then [] else Lib.ctz 64 x :: lows (x &&& (x - 1))
termination_by x
decreasing_by exact and_lt h
theorem lows_zero : lows 0 = [] := by rw [lows]; simp
theorem lows_cons {x : Nat} (h0 : x ≠ 0) : lows x = Lib.ctz 64 x :: lows (x &&& (x - 1)) := by rw [lows, dif_neg h0]
theorem lows_spec : ∀ (x : Nat), x < 18446744073709551616 → (∀ t, t ∈ lows x ↔ x.testBit t = true) ∧ (lows x).Nodup ∧ ∀ t ∈ lows x, t < 64 := by
  intro x
  induction x using Nat.strongRecOn with
  | _ x ih =>
    intro hx
    by_cases h0 : x = 0
    · subst h0; rw [lows_zero]; simp
    · obtain ⟨h1, h2, h3⟩ := low_bit h0 hx
      obtain ⟨i1, i2, i3⟩ := ih _ (and_lt h0) (Nat.lt_trans (and_lt h0) hx)
      rw [lows_cons h0]
      refine ⟨fun t => ?_, ?_, fun t ht => ?_⟩
      · rw [List.mem_cons, i1, h3]
        by_cases e : t = Lib.ctz 64 x
        · rw [e, h2]; simp
        · simp [e]
      · rw [List.nodup_cons, i1, h3]
        exact ⟨by simp, i2⟩
      · rcases List.mem_cons.1 ht with rfl | ht
        · exact h1
        · exact i3 t ht
/-- a row's numbers -/
def nums : Nat → List Nat → List Nat
  | _, [] => []
  | k, x :: ws => (lows x).map (64 * k + ·) ++ nums (k + 1) ws
theorem bit_cons (x : Nat) (ws : List Nat) (j : Nat) : bit (x :: ws) j = if j < 64 then x.testBit j else bit ws (j - 64) := by
  unfold bit
  split
  · rename_i h
    rw [show j / 64 = 0 by omega, show j % 64 = j by omega]
    rfl
  · rename_i h
    rw [show j / 64 = (j - 64) / 64 + 1 by omega, show j % 64 = (j - 64) % 64 by omega]
    rfl
theorem mem_nums : ∀ (ws : List Nat) (k j : Nat), okW ws → (j ∈ nums k ws ↔ 64 * k ≤ j ∧ bit ws (j - 64 * k) = true)
  | [], k, j, _ => by simp [nums, bit]
  | x :: ws, k, j, ho => by
    obtain ⟨h1, _, h3⟩ := lows_spec x (ho x (by simp))
    have ih := mem_nums ws (k + 1) j (fun y hy => ho y (by simp [hy]))
    rw [nums, List.mem_append, ih, bit_cons, List.mem_map]
    constructor
    · rintro (⟨t, ht, rfl⟩ | ⟨h, hb⟩)
      · have := h3 t ht
        refine ⟨by omega, ?_⟩
        rw [if_pos (by omega), show 64 * k + t - 64 * k = t by omega]
        exact (h1 t).1 ht
      · refine ⟨by omega, ?_⟩
        rw [if_neg (by omega), show j - 64 * k - 64 = j - 64 * (k + 1) by omega]
        exact hb
    · rintro ⟨h, hb⟩
      split at hb
      · exact .inl ⟨j - 64 * k, (h1 _).2 hb, by omega⟩
      · refine .inr ⟨by omega, ?_⟩
        rw [show j - 64 * (k + 1) = j - 64 * k - 64 by omega]
        exact hb
theorem nodupN_len : ∀ {l m : List Nat}, l.Nodup → (∀ x ∈ l, x ∈ m) → l.length ≤ m.length
  | [], _, _, _ => Nat.zero_le _
  | x :: l, m, hn, h => by
    rw [List.nodup_cons] at hn
    have hx := h x (by simp)
    have := nodupN_len (l := l) (m := m.erase x) hn.2 (fun y hy => by
      have hne : y ≠ x := fun e => hn.1 (e ▸ hy)
      exact (List.mem_erase_of_ne hne).2 (h y (by simp [hy])))
    rw [List.length_erase_of_mem hx] at this
    have hpos : 0 < m.length := List.length_pos_of_mem hx
    simp only [List.length_cons]
    omega
theorem lows_len {x : Nat} (hx : x < 18446744073709551616) : (lows x).length ≤ 64 := by
  obtain ⟨_, h2, h3⟩ := lows_spec x hx
  have := nodupN_len (m := List.range 64) h2 (fun t ht => List.mem_range.2 (h3 t ht))
  rwa [List.length_range] at this
theorem nums_len : ∀ (ws : List Nat) (k : Nat), okW ws → (nums k ws).length ≤ 64 * ws.length
  | [], _, _ => by simp [nums]
  | x :: ws, k, ho => by
    have h1 := lows_len (ho x (by simp))
    have h2 := nums_len ws (k + 1) (fun y hy => ho y (by simp [hy]))
    rw [nums, List.length_append, List.length_map, List.length_cons]
    omega

/-- the library's table lies in its variable -/
def Tab (w : World) : Prop := TabAt (Tryd.tzL_ren.g 1) Lib.deBruijn64tab w
theorem Tab.keep {S : Nat → Prop} {w w' : World} (h : Tab w) (hk : Kept S w w') (hn : ¬ S (Tryd.tzL_ren.g 1)) : Tab w' := fun j hj => hk.cell (h j hj) hn
theorem Tab.same {w w' : World} (h : Tab w) (hk : Kept Nil w w') : Tab w' := h.keep hk fun h => h
theorem Tab.lt {w : World} (h : Tab w) : Tryd.tzL_ren.g 1 < w.heap.size := World.block_lt_of_cell? w _ (h 0 (by decide))

section
variable {w : World} {K : Value → World → Prop}
theorem tz_ok {x : Nat} (hx : x < 18446744073709551616) (hT : Tab w) (hK : K (.int .i64 (Lib.ctz 64 x : Nat)) w) : Ret Tryd.prog bits_TrailingZeros64.id #[.int .u64 (x : Int)] w K := by
  refine Calls.mono (Any7.bits_TrailingZeros64 Tryd.tzL x hx w (fun _ => hT)) ?_
  rintro e w' ⟨rfl, rfl⟩
  exact ⟨_, rfl, hK⟩
abbrev encI (i : Nat) : List Value := [.int .i64 (i : Int)]
theorem all_iter (p : Addr) {A : Option Addr} {n c : Nat} {l : List Nat} (hn : n ≤ 100000) (ho : okW l) :
    Iterates Tryd.prog dag_row_all_fn1.id #[] #[.pointer (some p)] ((nums 0 l).map encI) (fun w => US w A n l ∧ w.cell? p = some (.slice A n c) ∧ Tab w) := by
  intro y I D w0 hI hD hpre h0 hround
  refine dag_row_all_fn1.of ?_
  obtain ⟨hl0, hp0, _⟩ := hpre 0 w0 h0
  have hlen := hl0.len
  refine ⟨A, n, c, hp0, ?_⟩
  refine dag_row_all_fn1.loop1 (I := fun s w' => ∃ (i : Nat) (dn : List Nat), s = (i : Int) ∧ i ≤ n ∧ dn ++ nums i (l.drop i) = nums 0 l ∧ I dn.length w') (μ := fun s _ => ((n : Int) - s).toNat) (s := 0) ⟨0, [], rfl, Nat.zero_le _, rfl, h0⟩ ?_
  rintro s w' ⟨i, dn, rfl, hi, hdn, hw⟩
  refine Split.dec (fun hil0 => ?_) (fun hge => ?_)
  · have hil : i < n := by omega
    obtain ⟨x, hx⟩ : ∃ x, l[i]? = some x := ⟨_, List.getElem?_eq_getElem (by omega)⟩
    have hxl := ho x (List.mem_of_getElem? hx)
    have hl := (hpre _ w' hw).1
    have hdrop : l.drop i = x :: l.drop (i + 1) := by
      obtain ⟨h1, h2⟩ := List.getElem?_eq_some_iff.1 hx
      rw [List.drop_eq_getElem_cons h1, h2]
    rw [hdrop, nums] at hdn
    refine hl.load (i := (i : Int)) (by omega) hx ?_
    refine dag_row_all_fn1.loop2 (I := fun s w' => ∃ (v : Nat) (dn : List Nat), s = (v : Int) ∧ v < 18446744073709551616 ∧ dn ++ ((lows v).map (64 * i + ·) ++ nums (i + 1) (l.drop (i + 1))) = nums 0 l ∧ I dn.length w') (μ := fun s _ => s.toNat) (s := (x : Int)) ⟨x, dn, rfl, hxl, hdn, hw⟩ ?_
    clear hw hdn
    rintro s w1 ⟨v, dn1, rfl, hv, hdn1, hw1⟩
    by_cases h0 : v = 0
    · refine Split.no (by subst h0; rfl) ?_
      rw [roundQ_exit, dag_row_all_fn1.x2_2]
      unfold dag_row_all_fn1.X2_2
      rw [wrapP (n := (i : Int)) (by omega) (by omega)]
      rw [h0, lows_zero, List.map_nil, List.nil_append] at hdn1
      exact ⟨(i : Int) + 1, rfl, ⟨i + 1, dn1, rfl, hil, hdn1, hw1⟩, by simp only; omega⟩
    · refine Split.yes (bne_iff_ne.2 (by omega)) ?_
      have hpr := hpre _ w1 hw1
      obtain ⟨hk, hkb, hkr⟩ := low_bit h0 hv
      rw [lows_cons h0, List.map_cons, List.cons_append] at hdn1
      refine tz_ok hv hpr.2.2 ⟨_, rfl, ?_⟩
      have hget : ((nums 0 l).map encI)[dn1.length]? = some (encI (64 * i + Lib.ctz 64 v)) := by
        rw [List.getElem?_map, ← hdn1, List.getElem?_append_right (Nat.le_refl _), Nat.sub_self]
        rfl
      have hval : IntKind.i64.wrap (IntKind.i64.wrap ((64 : Int) * (i : Int)) + ((Lib.ctz 64 v : Nat) : Int)) = ((64 * i + Lib.ctz 64 v : Nat) : Int) := by
        rw [wrapI (x := (64 : Int) * (i : Int)) (by omega) (by omega), wrapI (by omega) (by omega)]
        omega
      rw [hval]
      refine (hround dn1.length _ w1 hget hw1).mono ?_
      rintro b w'' ⟨ht, hf⟩
      have hnew : IntKind.u64.wrap ((BitVec.ofInt 64 (v : Int) &&& BitVec.ofInt 64 (IntKind.u64.wrap ((v : Int) - (1 : Int)))).toNat : Int) = ((v &&& (v - 1) : Nat) : Int) := by
        have e1 : (v : Int) - 1 = ((v - 1 : Nat) : Int) := by omega
        rw [e1, wrapU64 (x := v - 1) (by omega), andU hv (by omega)]
      cases b with
      | true =>
        refine Split.no rfl ?_
        rw [hnew]
        have hlt := and_lt h0
        refine ⟨((v &&& (v - 1) : Nat) : Int), rfl, ⟨v &&& (v - 1), dn1 ++ [64 * i + Lib.ctz 64 v], rfl, by omega, by rw [List.append_assoc]; exact hdn1, ?_⟩, by simp only; omega⟩
        rw [List.length_append]
        exact ht rfl
      | false =>
        refine Split.yes rfl ?_
        exact Or.inr (hf rfl)
  · rw [roundQ_exit, dag_row_all_fn1.x1_0]
    have e : i = n := by omega
    subst e
    refine Or.inl ?_
    rw [List.drop_eq_nil_of_le (by omega), nums, List.append_nil] at hdn
    rw [List.length_map, ← hdn]
    exact hw
end
end Go.Proofs.YtljckpecmlnbiaaDoor
