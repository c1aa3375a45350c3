/-
  Memory, for contracts: what is kept; rows that a structure owns.
-/
import Derived.Test.YtehkokfjfjefnaaL6
import Derived.Below
namespace Go.Lite
open Go.RowKit

/-- all blocks that were there stay as they were, but those of S -/
structure Kept (S : Nat → Prop) (w w' : World) : Prop where
  os : w'.os = w.os
  tape : w'.tape = w.tape
  output : w'.output = w.output
  size : w.heap.size ≤ w'.heap.size
  block : ∀ k, k < w.heap.size → ¬ S k → w'.heap[k]? = w.heap[k]?

/-- nothing -/
abbrev Nil : Nat → Prop := fun _ => False

section
variable {S S' : Nat → Prop} {w w' w'' : World}
theorem Kept.refl (S : Nat → Prop) (w : World) : Kept S w w := ⟨rfl, rfl, rfl, Nat.le_refl _, fun _ _ _ => rfl⟩
theorem Kept.mono (h : Kept S w w') (hs : ∀ k, k < w.heap.size → S k → S' k) : Kept S' w w' :=
  ⟨h.os, h.tape, h.output, h.size, fun k hk hn => h.block k hk fun hS => hn (hs k hk hS)⟩
theorem Kept.trans (h : Kept S w w') (h' : Kept S' w' w'') (hs : ∀ k, k < w.heap.size → S' k → S k) : Kept S w w'' :=
  ⟨h'.os.trans h.os, h'.tape.trans h.tape, h'.output.trans h.output, Nat.le_trans h.size h'.size, fun k hk hn =>
    (h'.block k (Nat.lt_of_lt_of_le hk h.size) fun hS => hn (hs k hk hS)).trans (h.block k hk hn)⟩
theorem Kept.drew (h : Kept S w w') : Kept S w w'.drew := ⟨h.os, h.tape, h.output, h.size, h.block⟩
theorem Kept.alloc (h : Kept S w w') (o : Obj) : Kept S w (w'.alloc o) :=
  ⟨h.os, h.tape, h.output, by have := h.size; simp; omega, fun k hk hn => (heap_alloc_old w' o k (Nat.lt_of_lt_of_le hk h.size)).trans (h.block k hk hn)⟩
theorem Kept.setCell (h : Kept S w w') {p : Addr} (hp : p.block < w.heap.size → S p.block) (u : Value) : Kept S w (w'.setCell p u) :=
  ⟨h.os, h.tape, h.output, by simpa using h.size, fun k hk hn => (Below.heap_setCell w' p u k (fun e => hn (e ▸ hp (e ▸ hk)))).trans (h.block k hk hn)⟩
theorem Kept.grown {row : Option Nat} (h : Kept S w w') (hg : w'.grownBy w'' row) (hr : ∀ k, row = some k → k < w.heap.size → S k) : Kept S w w'' :=
  ⟨hg.os.trans h.os, hg.tape.trans h.tape, hg.output.trans h.output, Nat.le_trans h.size hg.size, fun k hk hn =>
    (hg.block k (Nat.lt_of_lt_of_le hk h.size) fun e => hn (hr k e.symm hk)).trans (h.block k hk hn)⟩
theorem Kept.below (h : Kept S w w') {B : Nat} (hB : B ≤ w.heap.size) (hs : ∀ k, k < B → ¬ S k) : Below B w w' :=
  ⟨h.os, h.tape, h.output, h.size, fun k hk => h.block k (Nat.lt_of_lt_of_le hk hB) (hs k hk)⟩
theorem Kept.heap (h : Kept S w w') {k : Nat} {o : Obj} (ho : w.heap[k]? = some o) (hn : ¬ S k) : w'.heap[k]? = some o :=
  (h.block k (Array.getElem?_eq_some_iff.1 ho).1 hn).trans ho
theorem Kept.cell (h : Kept S w w') {p : Addr} {v : Value} (hc : w.cell? p = some v) (hn : ¬ S p.block) : w'.cell? p = some v :=
  (World.cell?_of_block (h.block p.block (World.block_lt_of_cell? w _ hc) hn)).trans hc
end

theorem add_zero (a : Addr) : a.add 0 = a := by simp [Addr.add]
theorem add_at (b o k : Nat) : (⟨b, o, none⟩ : Addr).add k = ⟨b, o + k, none⟩ := by
  unfold Addr.add; split
  · subst_vars; rfl
  · rfl
theorem cell_blk {w : World} {b : Nat} {cs : Array Value} {t : TypeId} {fr : Nat × Nat} (h : w.heap[b]? = some (.cells cs t fr)) (j : Nat) : w.cell? ⟨b, j, none⟩ = cs[j]? :=
  cell_of_row w b j cs t fr h
theorem wr_blk {w : World} {b : Nat} {cs : Array Value} {t : TypeId} (h : w.heap[b]? = some (.cells cs t (0, 0))) {j : Nat} (hj : j < cs.size) : Wr w ⟨b, j, none⟩ :=
  ⟨⟨cs[j], by rw [cell_blk h, Array.getElem?_eq_getElem hj]⟩, frozen_of_row w b j cs t h⟩
theorem set_blk {w : World} {b : Nat} {cs : Array Value} {t : TypeId} (h : w.heap[b]? = some (.cells cs t (0, 0))) (j : Nat) (v : Value) :
    (w.setCell ⟨b, j, none⟩ v).heap[b]? = some (.cells (cs.setIfInBounds j v) t (0, 0)) := heap_setCell_same w b j cs t v h
theorem set_other {w : World} {b k : Nat} (hk : k ≠ b) (j : Nat) (v : Value) : (w.setCell ⟨b, j, none⟩ v).heap[k]? = w.heap[k]? :=
  heap_setCell_other w ⟨b, j, none⟩ k v hk
theorem new_blk (w : World) (o : Obj) : (w.alloc o).heap[w.heap.size]? = some o := heap_alloc_new w o
theorem old_blk {w : World} {k : Nat} {x : Obj} (h : w.heap[k]? = some x) (o : Obj) : (w.alloc o).heap[k]? = some x :=
  (heap_alloc_old w o k (Array.getElem?_eq_some_iff.1 h).1).trans h
theorem lt_blk {w : World} {k : Nat} {x : Obj} (h : w.heap[k]? = some x) : k < w.heap.size := (Array.getElem?_eq_some_iff.1 h).1

/-- a slice type and its elements -/
def slChk (P : Program) (e : TypeId) (size bytes : Nat) : Bool :=
  match P.info? e with
  | some i => match i.zero with
    | some z => Nat.beq i.size size && Nat.beq i.bytes bytes && Nat.beq z.cells.size size && Nat.ble 1 size
    | none => false
  | none => false
structure SlT (P : Program) (t e : TypeId) (size bytes : Nat) : Prop where
  und : P.underlying t = some (.slice e)
  chk : slChk P e size bytes = true
theorem SlT.inf {P : Program} {t e : TypeId} {size bytes : Nat} (T : SlT P t e size bytes) :
    ∃ i z, P.info? e = some i ∧ i.zero = some z ∧ i.size = size ∧ i.bytes = bytes ∧ z.cells.size = size := by
  have h := T.chk
  unfold slChk at h
  split at h
  · rename_i i hi
    split at h
    · rename_i z hz
      simp only [Bool.and_eq_true] at h
      exact ⟨i, z, hi, hz, Nat.eq_of_beq_eq_true h.1.1.1, Nat.eq_of_beq_eq_true h.1.1.2, Nat.eq_of_beq_eq_true h.1.2⟩
    · cases h
  · cases h
theorem SlT.pos {P : Program} {t e : TypeId} {size bytes : Nat} (T : SlT P t e size bytes) : 0 < size := by
  have h := T.chk
  unfold slChk at h
  split at h
  · split at h
    · simp only [Bool.and_eq_true] at h
      exact Nat.le_of_ble_eq_true h.2
    · cases h
  · cases h

/-- a row in memory of one's own: slice value v, n elements, cells xs -/
abbrev Row (w : World) (B : Nat) (e : TypeId) (size : Nat) (A : Option Addr) (n c : Nat) (xs : List Value) : Prop :=
  w.ownsRow B e size (.slice A n c) n xs
def blkOf : Option Addr → Option Nat
  | some a => some a.block
  | none => none

section
variable {w w' : World} {B : Nat} {e : TypeId} {size : Nat} {A : Option Addr} {n c : Nat} {xs : List Value}
theorem Row.own (h : Row w B e size A n c xs) : (A = none ∧ c = 0 ∧ n = 0 ∧ xs = []) ∨
    ∃ b cur, A = some ⟨b, 0, none⟩ ∧ B ≤ b ∧ w.heap[b]? = some (.cells cur e (0, 0)) ∧ n ≤ c ∧ c ≤ maxLen ∧ cur.size = c * size ∧ cur.toList.take (n * size) = xs := by
  obtain ⟨hl, ⟨hv, hn⟩ | ⟨g, cap, cur, hv, hb, hg, h1, h2, h3, h4⟩⟩ := h
  · cases hv
    exact .inl ⟨rfl, rfl, rfl, List.eq_nil_of_length_eq_zero (by simpa using hl)⟩
  · cases hv
    exact .inr ⟨g, cur, rfl, hb, hg, h1, h2, h3, h4⟩
theorem Row.len (h : Row w B e size A n c xs) : xs.length = n * size := h.1
theorem Row.some (h : Row w B e size A n c xs) (hn : 0 < n) : ∃ b, A = Option.some ⟨b, 0, none⟩ := by
  rcases Row.own h with ⟨_, _, h, _⟩ | ⟨b, cur, h, _⟩
  · omega
  · exact ⟨b, h⟩
theorem Row.cell {b : Nat} (h : Row w B e size (Option.some ⟨b, 0, none⟩) n c xs) {j : Nat} {v : Value} (hj : xs[j]? = Option.some v) : w.cell? ⟨b, j, none⟩ = Option.some v := by
  have := World.ownsRow.cells h (g := b) rfl j v hj
  rwa [add_at, Nat.zero_add] at this
theorem Row.cells {b : Nat} (h : Row w B e size (Option.some ⟨b, 0, none⟩) n c xs) : ∀ j u, xs[j]? = Option.some u → w.cell? ((⟨b, 0, none⟩ : Addr).add j) = Option.some u :=
  World.ownsRow.cells h (g := b) rfl
theorem Row.wr {b : Nat} (h : Row w B e size (Option.some ⟨b, 0, none⟩) n c xs) {j : Nat} (hj : j < xs.length) : Wr w ⟨b, j, none⟩ := by
  rcases Row.own h with ⟨h, _⟩ | ⟨b', cur, hA, _, hg, hnc, _, hs, htk⟩
  · cases h
  · cases hA
    refine wr_blk hg ?_
    have := h.len
    have h1 : n * size ≤ c * size := Nat.mul_le_mul_right _ hnc
    omega
theorem Row.set {b : Nat} (h : Row w B e size (Option.some ⟨b, 0, none⟩) n c xs) {j : Nat} (_hj : j < xs.length) (v : Value) :
    Row (w.setCell ⟨b, j, none⟩ v) B e size (Option.some ⟨b, 0, none⟩) n c (xs.set j v) := by
  rcases Row.own h with ⟨h, _⟩ | ⟨b', cur, hA, hB, hg, hnc, hm, hs, htk⟩
  · cases h
  · cases hA
    refine ⟨by rw [List.length_set]; exact h.len, .inr ⟨b, c, cur.setIfInBounds j v, rfl, hB, set_blk hg j v, hnc, hm, by simpa using hs, ?_⟩⟩
    rw [Array.toList_setIfInBounds, ← htk, List.take_set]
theorem Row.blk (h : Row w B e size A n c xs) {k : Nat} (hk : blkOf A = Option.some k) : B ≤ k ∧ ∃ cur, w.heap[k]? = Option.some (.cells cur e (0, 0)) := by
  rcases Row.own h with ⟨rfl, _⟩ | ⟨b, cur, rfl, hB, hg, _⟩
  · cases hk
  · cases hk; exact ⟨hB, cur, hg⟩
theorem Row.keep {S : Nat → Prop} (h : Row w B e size A n c xs) (hk : Kept S w w') (hn : ∀ k, blkOf A = Option.some k → ¬ S k) : Row w' B e size A n c xs := by
  refine ⟨h.1, ?_⟩
  rcases h.2 with hv | ⟨g, cap, cur, hv, hb, hg, rest⟩
  · exact .inl hv
  · cases hv
    exact .inr ⟨g, c, cur, rfl, hb, hk.heap hg (hn g rfl), rest⟩
theorem Row.base {B' : Nat} (h : Row w B e size A n c xs) (hb : ∀ k, blkOf A = Option.some k → B' ≤ k) : Row w B' e size A n c xs := by
  refine ⟨h.1, ?_⟩
  rcases h.2 with hv | ⟨g, cap, cur, hv, _, rest⟩
  · exact .inl hv
  · cases hv
    exact .inr ⟨g, c, cur, rfl, hb g rfl, rest⟩
theorem Row.nil (w : World) (B : Nat) (e : TypeId) (size : Nat) : Row w B e size none 0 0 [] := World.ownsRow_nil w B e size
theorem Row.made {w : World} {b : Nat} {cur : Array Value} (hg : w.heap[b]? = Option.some (.cells cur e (0, 0))) (hB : B ≤ b) (hs : cur.size = n * size) (hm : n ≤ maxLen) :
    Row w B e size (Option.some ⟨b, 0, none⟩) n n cur.toList :=
  ⟨by simpa using hs, .inr ⟨b, n, cur, rfl, hB, hg, Nat.le_refl _, hm, hs, List.take_of_length_le (by simp [hs])⟩⟩

/-- an append of m elements that lie at a -/
theorem append_row {P : Program} {t : TypeId} {bytes ty : Nat} (T : SlT P t e size bytes) (h : Row w B e size A n c xs) {a : Addr} {m cx : Nat} {news : List Value}
    (hl : news.length = m * size) (hnews : ∀ j u, news[j]? = Option.some u → w.cell? (a.add j) = Option.some u) (h1 : ∀ u ∈ news, u.oneCell' = true)
    (hb : (n + m) * bytes ≤ 140737488355328) (hm : n + m ≤ maxLen) (hB : B ≤ w.heap.size) :
    ∃ A' c' w', (Builtin.append_ #[t, t] ty #[.slice A n c, .slice (Option.some a) m cx]).run P w = .ok (.slice A' (n + m) c') w' ∧
      Row w' B e size A' (n + m) c' (xs ++ news) ∧ w.grownBy w' (blkOf A) ∧ (∀ k, blkOf A' = Option.some k → blkOf A = Option.some k ∨ w.heap.size ≤ k) := by
  obtain ⟨i, z, hi, hz, hs, hby, hzs⟩ := T.inf
  have hbase : B ≤ w.heap.size := hB
  obtain ⟨v', w', hr, hown, hg, _⟩ := run_append_own (P := P) w B t ty e i z size bytes T.und hi hz hs hby hzs T.pos _ n xs h a m cx news hl hnews h1 hm hb hbase
  have hbo : Value.ownBlock (.slice A n c) = blkOf A := by cases A <;> rfl
  rw [hbo] at hg
  have hform : ∃ A' c', v' = .slice A' (n + m) c' := by
    rcases hown.2 with ⟨rfl, hn⟩ | ⟨g, cap, cur, rfl, _⟩
    · exact ⟨none, 0, by rw [hn]⟩
    · exact ⟨_, _, rfl⟩
  obtain ⟨A', c', rfl⟩ := hform
  refine ⟨A', c', w', hr, hown, hg, fun k hk => ?_⟩
  -- either the old block or one that was not there: with the base at the world's end
  by_cases hA : blkOf A = Option.some k
  · exact .inl hA
  · right
    rcases Row.own h with ⟨rfl, rfl, rfl, rfl⟩ | ⟨b, cur, rfl, hBb, hgb, hnc, hcm, hcs, htk⟩
    · have h2 := run_append_own (P := P) w w.heap.size t ty e i z size bytes T.und hi hz hs hby hzs T.pos _ 0 [] (World.ownsRow_nil w w.heap.size e size) a m cx news hl hnews h1 hm hb (Nat.le_refl _)
      obtain ⟨v2, w2, hr2, hown2, _⟩ := h2
      rw [hr] at hr2
      cases hr2
      exact (Row.blk hown2 hk).1
    · by_cases hroom : n + m ≤ c
      · exfalso
        have hr2 := run_append_room (P := P) w t ty e i T.und hi b n c cur hgb a m cx news (by rw [hs]; exact hl) hnews h1 hroom (by rw [hs, hl, hcs, ← Nat.add_mul]; exact Nat.mul_le_mul_right _ hroom)
        rw [hr] at hr2
        cases hr2
        exact hA hk
      · have hr2 := run_append_grow (P := P) w t ty e i z T.und hi hz ⟨b, 0, none⟩ n c xs (by rw [hs]; exact h.len) (Row.cells h) a m cx news (by rw [hs]; exact hl) hnews (by omega) (by simp only [maxLen] at hm; omega) (growslice_fits (by omega) (by rw [hby]; exact hb))
        rw [hr] at hr2
        cases hr2
        simp [blkOf] at hk
        omega
end
end Go.Lite
