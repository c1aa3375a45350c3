/-
  The tree in memory: what it says that a block holds a tree.
-/
import Derived.Test.YtehkokfjfjefnaaL7
import Derived.Test.YtehkokfjfjefnaaGT0
namespace Go.Proofs.Ytehkokfjfjefnaa
open Go Go.Lite Go.RowKit

/-- a node, plainly -/
structure Nd where
  parent : Int
  ch : List Nat
  lo : Int
  hi : Int
  free : Int

def ndCells (nd : Nd) (v : Value) : List Value := [.int .i64 nd.parent, v, .int .u64 nd.lo, .int .u64 nd.hi, .int .u64 nd.free]
def encL (L : List (Nd × Value)) : List Value := L.flatMap fun p => ndCells p.1 p.2
def ints (l : List Nat) : List Value := l.map fun x : Nat => .int .i64 (x : Int)

theorem encL_length (L : List (Nd × Value)) : (encL L).length = L.length * 5 := by
  induction L with
  | nil => rfl
  | cons p L ih => simp only [encL, List.flatMap_cons, List.length_append, List.length_cons] at *; rw [ih]; simp [ndCells]; omega
theorem encL_get {L : List (Nd × Value)} {i : Nat} {p : Nd × Value} (h : L[i]? = some p) {j : Nat} (hj : j < 5) : (encL L)[i * 5 + j]? = (ndCells p.1 p.2)[j]? := by
  induction L generalizing i with
  | nil => simp at h
  | cons q L ih =>
    have hq : (ndCells q.1 q.2).length = 5 := rfl
    cases i with
    | zero =>
      simp at h
      subst h
      simp only [encL, List.flatMap_cons]
      rw [Nat.zero_mul, Nat.zero_add, List.getElem?_append_left (by omega)]
    | succ i =>
      simp at h
      have := ih h
      simp only [encL, List.flatMap_cons] at *
      rw [List.getElem?_append_right (by omega), hq, ← this]
      congr 1
      omega
theorem encL_set {L : List (Nd × Value)} {i : Nat} {p p' : Nd × Value} (h : L[i]? = some p) {j : Nat} (hj : j < 5) {v : Value} (hp : ndCells p'.1 p'.2 = (ndCells p.1 p.2).set j v) :
    (encL L).set (i * 5 + j) v = encL (L.set i p') := by
  induction L generalizing i with
  | nil => simp at h
  | cons q L ih =>
    have hq : (ndCells q.1 q.2).length = 5 := rfl
    cases i with
    | zero =>
      simp at h
      subst h
      simp only [encL, List.flatMap_cons, List.set_cons_zero]
      rw [Nat.zero_mul, Nat.zero_add, List.set_append_left _ _ (by omega), hp]
    | succ i =>
      simp at h
      have := ih h
      simp only [encL, List.flatMap_cons, List.set_cons_succ] at *
      rw [List.set_append_right _ _ (by omega), hq, ← this]
      congr 2
      omega

/-- a node's list of children, in memory -/
structure Kid (w : World) (S : Nat → Prop) (p : Nd × Value) (A : Option Addr) (m : Nat) : Prop where
  val : p.2 = .slice A p.1.ch.length m
  row : Row w 0 T_int 1 A p.1.ch.length m (ints p.1.ch)
  foot : ∀ k, blkOf A = some k → S k

/-- block g holds a tree: its nodes T, its count d; its blocks are S's -/
structure TV (w : World) (S : Nat → Prop) (g : Nat) (T : List Nd) (d : Int) (b c : Nat) (L : List (Nd × Value)) : Prop where
  top : w.heap[g]? = some (.cells #[.slice (some ⟨b, 0, none⟩) T.length c, .int .i64 d] T_tree_Tree (0, 0))
  fst : L.map Prod.fst = T
  row : Row w 0 T_tree_node 5 (some ⟨b, 0, none⟩) T.length c (encL L)
  kid : ∀ (i : Nat) (p : Nd × Value), L[i]? = some p → ∃ A m, Kid w S p A m
  apart : ∀ (i j : Nat) (p q : Nd × Value), L[i]? = some p → L[j]? = some q → i ≠ j → ∀ k, Value.ownBlock p.2 = some k → Value.ownBlock q.2 ≠ some k
  footG : S g
  footB : S b
def IsT (w : World) (S : Nat → Prop) (g : Nat) (T : List Nd) (d : Int) : Prop := ∃ b c L, TV w S g T d b c L

section
variable {w w' : World} {S S' : Nat → Prop} {g : Nat} {T : List Nd} {d : Int} {b c : Nat} {L : List (Nd × Value)}
theorem TV.len (h : TV w S g T d b c L) : L.length = T.length := by rw [← h.fst]; simp
theorem TV.at_ (h : TV w S g T d b c L) {i : Nat} {nd : Nd} (hi : T[i]? = some nd) : ∃ v, L[i]? = some (nd, v) := by
  rw [← h.fst, List.getElem?_map] at hi
  cases hL : L[i]? with
  | none => simp [hL] at hi
  | some p =>
    rw [hL] at hi
    simp at hi
    exact ⟨p.2, by rw [← hi]⟩
theorem TV.nodes (h : TV w S g T d b c L) : w.cell? ⟨g, 0, none⟩ = some (.slice (some ⟨b, 0, none⟩) T.length c) := by rw [cell_blk h.top]; rfl
theorem TV.dealt (h : TV w S g T d b c L) : w.cell? ⟨g, 1, none⟩ = some (.int .i64 d) := by rw [cell_blk h.top]; rfl
theorem TV.cell (h : TV w S g T d b c L) {i : Nat} {p : Nd × Value} (hi : L[i]? = some p) {j : Nat} {v : Value} (hj : j < 5) (hv : (ndCells p.1 p.2)[j]? = some v) : w.cell? ⟨b, i * 5 + j, none⟩ = some v :=
  Row.cell h.row (by rw [encL_get hi hj, hv])
theorem TV.gb (h : TV w S g T d b c L) : g ≠ b := by
  rintro rfl
  obtain ⟨_, cur, hc⟩ := Row.blk h.row (k := g) rfl
  rw [h.top] at hc
  injection hc with hc
  injection hc with _ ht
  exact absurd ht (by decide)
theorem Kid.ne {p : Nd × Value} {A : Option Addr} {m : Nat} (h : Kid w S p A m) {k : Nat} {cs : Array Value} {t : TypeId} (hk : w.heap[k]? = some (.cells cs t (0, 0))) (ht : t ≠ T_int) : blkOf A ≠ some k := by
  intro e
  obtain ⟨_, cur, hc⟩ := Row.blk h.row e
  rw [hk] at hc
  injection hc with hc
  injection hc with _ h2
  exact ht h2
theorem TV.bheap (h : TV w S g T d b c L) : ∃ cur, w.heap[b]? = some (.cells cur T_tree_node (0, 0)) := (Row.blk h.row rfl).2
theorem TV.keep {S0 : Nat → Prop} (h : TV w S g T d b c L) (hk : Kept S0 w w') (hn : ∀ k, S k → ¬ S0 k) : TV w' S g T d b c L := {
  top := hk.heap h.top (hn g h.footG)
  fst := h.fst
  row := Row.keep h.row hk (fun k e => by cases e; exact hn b h.footB)
  kid := fun i p hp => let ⟨A, m, h1⟩ := h.kid i p hp; ⟨A, m, h1.val, Row.keep h1.row hk (fun k e => hn k (h1.foot k e)), h1.foot⟩
  apart := h.apart
  footG := h.footG
  footB := h.footB }
theorem IsT.keep {S0 : Nat → Prop} (h : IsT w S g T d) (hk : Kept S0 w w') (hn : ∀ k, S k → ¬ S0 k) : IsT w' S g T d :=
  let ⟨b, c, L, h⟩ := h; ⟨b, c, L, h.keep hk hn⟩
theorem IsT.same (h : IsT w S g T d) (hk : Kept Nil w w') : IsT w' S g T d := h.keep hk fun _ _ h => h
theorem TV.lt (h : TV w S g T d b c L) : g < w.heap.size := lt_blk h.top

/-- a number of a node is written -/
theorem TV.setNum (h : TV w S g T d b c L) {i : Nat} {nd nd' : Nd} {v : Value} (hi : L[i]? = some (nd, v)) {j : Nat} (hj : j < 5) {u : Value}
    (hc : ndCells nd' v = (ndCells nd v).set j u) (hch : nd'.ch = nd.ch) :
    Wr w ⟨b, i * 5 + j, none⟩ ∧ TV (w.setCell ⟨b, i * 5 + j, none⟩ u) S g (T.set i nd') d b c (L.set i (nd', v)) := by
  have hil : i < L.length := (List.getElem?_eq_some_iff.1 hi).1
  have hlt : i * 5 + j < (encL L).length := by rw [encL_length]; omega
  refine ⟨Row.wr h.row hlt, ?_⟩
  have hrow := Row.set h.row hlt u
  rw [encL_set hi hj (p' := (nd', v)) hc] at hrow
  have hK : Kept (fun k => k = b) w (w.setCell ⟨b, i * 5 + j, none⟩ u) := (Kept.refl (fun k => k = b) w).setCell (p := ⟨b, i * 5 + j, none⟩) (fun _ => rfl) u
  have hget : ∀ (k : Nat) (p : Nd × Value), (L.set i (nd', v))[k]? = some p → ∃ q, L[k]? = some q ∧ q.2 = p.2 ∧ q.1.ch = p.1.ch := by
    intro k p hp
    rw [List.getElem?_set] at hp
    by_cases e : i = k
    · subst e
      rw [if_pos rfl, if_pos hil] at hp
      cases hp
      exact ⟨_, hi, rfl, hch.symm⟩
    · rw [if_neg e] at hp
      exact ⟨p, hp, rfl, rfl⟩
  exact {
    top := by rw [List.length_set]; exact hK.heap h.top h.gb
    fst := by rw [List.map_set, h.fst]
    row := by rw [List.length_set]; exact hrow
    kid := fun k p hp => by
      obtain ⟨q, hq, h1, h2⟩ := hget k p hp
      obtain ⟨A, m, hk⟩ := h.kid k q hq
      obtain ⟨cur, hb⟩ := h.bheap
      refine ⟨A, m, by rw [← h1, ← h2]; exact hk.val, ?_, hk.foot⟩
      rw [← h2]
      exact Row.keep hk.row hK (fun k e e2 => hk.ne hb (by decide) (by rw [e, e2]))
    apart := fun k l p q hp hq hkl => by
      obtain ⟨p', hp', h1, _⟩ := hget k p hp
      obtain ⟨q', hq', h2, _⟩ := hget l q hq
      rw [← h1, ← h2]
      exact h.apart k l p' q' hp' hq' hkl
    footG := h.footG
    footB := h.footB }
end
end Go.Proofs.Ytehkokfjfjefnaa
