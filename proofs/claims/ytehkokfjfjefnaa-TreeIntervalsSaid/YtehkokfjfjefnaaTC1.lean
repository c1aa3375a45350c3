/-
  What the tree's small methods do.
-/
import Derived.Test.YtehkokfjfjefnaaTM
namespace Go.Proofs.Ytehkokfjfjefnaa
open Go Go.Lite Go.RowKit

theorem add2 (b x y : Nat) : ((⟨b, 0, none⟩ : Addr).add x).add y = ⟨b, x + y, none⟩ := by rw [add_at, add_at, Nat.zero_add]
theorem add1 (b x : Nat) : (⟨b, 0, none⟩ : Addr).add x = ⟨b, x, none⟩ := by rw [add_at, Nat.zero_add]

section
variable {w : World} {S : Nat → Prop} {g : Nat} {T : List Nd} {d : Int} {b c : Nat} {L : List (Nd × Value)}
theorem TV.go (h : TV w S g T d b c L) {k : Option Addr → Nat → Nat → Prop} (hk : k (some ⟨b, 0, none⟩) T.length c) :
    ∃ A n m, w.cell? ((⟨g, 0, none⟩ : Addr).add 0) = some (.slice A n m) ∧ k A n m := ⟨_, _, _, by rw [add1]; exact h.nodes, hk⟩
theorem TV.goD (h : TV w S g T d b c L) {k : Int → Prop} (hk : k d) : ∃ t, w.cell? ((⟨g, 0, none⟩ : Addr).add 1) = some (.int .i64 t) ∧ k t :=
  ⟨_, by rw [add1]; exact h.dealt, hk⟩
theorem TV.getP (h : TV w S g T d b c L) {i : Nat} {nd : Nd} {v : Value} (hi : L[i]? = some (nd, v)) {k : Int → Prop} (hk : k nd.parent) :
    ∃ t, w.cell? (((⟨b, 0, none⟩ : Addr).add (i * 5)).add 0) = some (.int .i64 t) ∧ k t := ⟨_, by rw [add2]; exact h.cell hi (by omega) rfl, hk⟩
theorem TV.getC (h : TV w S g T d b c L) {i : Nat} {nd : Nd} {v : Value} (hi : L[i]? = some (nd, v)) {A : Option Addr} {m : Nat} (hv : v = .slice A nd.ch.length m) {k : Option Addr → Nat → Nat → Prop} (hk : k A nd.ch.length m) :
    ∃ A n m, w.cell? (((⟨b, 0, none⟩ : Addr).add (i * 5)).add 1) = some (.slice A n m) ∧ k A n m := ⟨_, _, _, by rw [add2]; exact h.cell hi (by omega) (by rw [hv]; rfl), hk⟩
theorem TV.getLo (h : TV w S g T d b c L) {i : Nat} {nd : Nd} {v : Value} (hi : L[i]? = some (nd, v)) {k : Int → Prop} (hk : k nd.lo) :
    ∃ t, w.cell? (((⟨b, 0, none⟩ : Addr).add (i * 5)).add 2) = some (.int .u64 t) ∧ k t := ⟨_, by rw [add2]; exact h.cell hi (by omega) rfl, hk⟩
theorem TV.getHi (h : TV w S g T d b c L) {i : Nat} {nd : Nd} {v : Value} (hi : L[i]? = some (nd, v)) {k : Int → Prop} (hk : k nd.hi) :
    ∃ t, w.cell? (((⟨b, 0, none⟩ : Addr).add (i * 5)).add 3) = some (.int .u64 t) ∧ k t := ⟨_, by rw [add2]; exact h.cell hi (by omega) rfl, hk⟩
theorem TV.getFree (h : TV w S g T d b c L) {i : Nat} {nd : Nd} {v : Value} (hi : L[i]? = some (nd, v)) {k : Int → Prop} (hk : k nd.free) :
    ∃ t, w.cell? (((⟨b, 0, none⟩ : Addr).add (i * 5)).add 4) = some (.int .u64 t) ∧ k t := ⟨_, by rw [add2]; exact h.cell hi (by omega) rfl, hk⟩
theorem TV.kept {w' : World} (h : TV w S g T d b c L) (hk : Kept Nil w w') : TV w' S g T d b c L := h.keep hk fun _ _ h => h
end

section
variable {w : World} {S : Nat → Prop} {g : Nat} {T : List Nd} {d : Int} {K : Value → World → Prop}

theorem tree_Len (h : IsT w S g T d) (hK : K (.int .i64 T.length) w) : Ret Try.prog tree_Tree_Len.id #[.pointer (some ⟨g, 0, none⟩)] w K := by
  obtain ⟨b, c, L, h⟩ := h
  exact tree_Tree_Len.of (Split.no rfl (h.go hK))
theorem tree_Dealt (h : IsT w S g T d) (hK : K (.int .i64 d) w) : Ret Try.prog tree_Tree_Dealt.id #[.pointer (some ⟨g, 0, none⟩)] w K := by
  obtain ⟨b, c, L, h⟩ := h
  exact tree_Tree_Dealt.of (Split.no rfl (h.goD hK))

theorem tree_in (h : IsT w S g T d) (n : Int) (hK : K (.bool (decide (0 ≤ n ∧ n < T.length))) w) :
    Ret Try.prog tree_Tree_in.id #[.pointer (some ⟨g, 0, none⟩), .int .i64 n] w K := by
  obtain ⟨b, c, L, h⟩ := h
  refine tree_Tree_in.of (Split.yes rfl (Split.dec (fun h0 => h.go ?_) (fun h0 => ?_)))
  · rwa [show decide (0 ≤ n ∧ n < (T.length : Int)) = decide (n < (T.length : Int)) from by simp [show (0:Int) ≤ n from h0]] at hK
  · rwa [decide_eq_false (fun e : 0 ≤ n ∧ n < (T.length : Int) => h0 e.1)] at hK

theorem tree_may (h : IsT w S g T d) (hT : 0 < T.length) (n : Int) (hK : K (.int .i64 (if 0 ≤ n ∧ n < T.length then 0 else 6)) w) :
    Ret Try.prog tree_Tree_may.id #[.pointer (some ⟨g, 0, none⟩), .int .i64 n] w K := by
  have h0 := h
  obtain ⟨b, c, L, h⟩ := h
  refine tree_Tree_may.of (Split.no rfl (h.go (Split.no (beq_eq_false_iff_ne.2 (by omega)) (tree_in h0 n ⟨_, rfl, ?_⟩))))
  by_cases hn : 0 ≤ n ∧ n < (T.length : Int)
  · rw [if_pos hn] at hK
    exact Split.no (by simp [hn]) hK
  · rw [if_neg hn] at hK
    exact Split.yes (by simp only [decide_eq_false hn]; rfl) hK
theorem tree_mayNo (h : IsT w S g T d) (hT : 0 < T.length) (n : Int) (hn : ¬ (0 ≤ n ∧ n < (T.length : Int))) (hK : K (.int .i64 6) w) :
    Ret Try.prog tree_Tree_may.id #[.pointer (some ⟨g, 0, none⟩), .int .i64 n] w K := tree_may h hT n (by rw [if_neg hn]; exact hK)
theorem tree_mayYes (h : IsT w S g T d) {n : Nat} (hn : n < T.length) (hK : K (.int .i64 0) w) :
    Ret Try.prog tree_Tree_may.id #[.pointer (some ⟨g, 0, none⟩), .int .i64 n] w K := tree_may h (by omega) n (by rw [if_pos ⟨by omega, by omega⟩]; exact hK)

theorem tree_room (h : IsT w S g T d) {n : Nat} {nd : Nd} (hn : T[n]? = some nd) (hK : ∀ w', Kept Nil w w' → K (.int .u64 (IntKind.u64.wrap (nd.hi - nd.free))) w') :
    Ret Try.prog tree_Tree_room.id #[.pointer (some ⟨g, 0, none⟩), .int .i64 n] w K := by
  obtain ⟨b, c, L, h⟩ := h
  have hlt : n < T.length := (List.getElem?_eq_some_iff.1 hn).1
  obtain ⟨v, hv⟩ := h.at_ hn
  refine tree_Tree_room.of ?_
  unfold tree_Tree_room.W
  intro w1
  have k1 : Kept Nil w w1 := (Kept.refl Nil w).drew
  have h1 := h.kept k1
  have hb : 0 ≤ (n : Int) ∧ (n : Int) < (T.length : Int) := ⟨by omega, by omega⟩
  exact h1.go ⟨hb, h1.getHi hv (h1.go ⟨hb, h1.getFree hv (hK w1 k1)⟩)⟩

theorem tree_IntervalNo (h : IsT w S g T d) (hT : 0 < T.length) (n : Int) (hn : ¬ (0 ≤ n ∧ n < (T.length : Int))) (hK : K (.tuple #[.int .u64 0, .int .u64 0, .int .i64 6]) w) :
    Ret Try.prog tree_Tree_Interval.id #[.pointer (some ⟨g, 0, none⟩), .int .i64 n] w K :=
  tree_Tree_Interval.of (tree_mayNo h hT n hn ⟨_, rfl, Split.yes rfl hK⟩)
theorem tree_Interval (h : IsT w S g T d) {n : Nat} {nd : Nd} (hn : T[n]? = some nd) (hK : ∀ w', Kept Nil w w' → K (.tuple #[.int .u64 nd.lo, .int .u64 nd.hi, .int .i64 0]) w') :
    Ret Try.prog tree_Tree_Interval.id #[.pointer (some ⟨g, 0, none⟩), .int .i64 n] w K := by
  have hlt : n < T.length := (List.getElem?_eq_some_iff.1 hn).1
  refine tree_Tree_Interval.of (tree_mayYes h hlt ⟨_, rfl, Split.no rfl ?_⟩)
  intro w1
  obtain ⟨b, c, L, h⟩ := h
  obtain ⟨v, hv⟩ := h.at_ hn
  have k1 : Kept Nil w w1 := (Kept.refl Nil w).drew
  have h1 := h.kept k1
  have hb : 0 ≤ (n : Int) ∧ (n : Int) < (T.length : Int) := ⟨by omega, by omega⟩
  exact h1.go ⟨hb, h1.getLo hv (h1.go ⟨hb, h1.getHi hv (hK w1 k1)⟩)⟩

theorem tree_ParentNo (h : IsT w S g T d) (hT : 0 < T.length) (n : Int) (hn : ¬ (0 < n ∧ n < (T.length : Int))) (hK : K (.tuple #[.int .i64 0, .int .i64 6]) w) :
    Ret Try.prog tree_Tree_Parent.id #[.pointer (some ⟨g, 0, none⟩), .int .i64 n] w K := by
  refine tree_Tree_Parent.of ?_
  by_cases hn' : 0 ≤ n ∧ n < (T.length : Int)
  · have : n = 0 := by omega
    subst this
    exact tree_mayYes (n := 0) h hT ⟨_, rfl, Split.yes rfl (Split.yes rfl (Split.yes rfl hK))⟩
  · exact tree_mayNo h hT n hn' ⟨_, rfl, Split.no rfl (Split.yes rfl hK)⟩
theorem tree_Parent (h : IsT w S g T d) {n : Nat} {nd : Nd} (hn : T[n]? = some nd) (h0 : 0 < n) (hK : K (.tuple #[.int .i64 nd.parent, .int .i64 0]) w) :
    Ret Try.prog tree_Tree_Parent.id #[.pointer (some ⟨g, 0, none⟩), .int .i64 n] w K := by
  have hlt : n < T.length := (List.getElem?_eq_some_iff.1 hn).1
  refine tree_Tree_Parent.of (tree_mayYes h hlt ⟨_, rfl, Split.yes rfl (Split.no (beq_eq_false_iff_ne.2 (by omega)) (Split.no rfl ?_))⟩)
  obtain ⟨b, c, L, h⟩ := h
  obtain ⟨v, hv⟩ := h.at_ hn
  exact h.go ⟨⟨by omega, by omega⟩, h.getP hv hK⟩

theorem slInt : SlT Try.prog T_sl_int T_int 1 8 := ⟨by kernel_rfl, by kernel_rfl⟩
theorem slNode : SlT Try.prog T_sl_tree_node T_tree_node 5 56 := ⟨by kernel_rfl, by kernel_rfl⟩
/-- a list of numbers is cloned -/
theorem clone_int {A : Option Addr} {n c B : Nat} {l : List Nat} (h : Row w B T_int 1 A n c (ints l)) (hl : n * 8 ≤ 140737488355328) (hn : n ≤ maxLen)
    (hK : ∀ A' c' w', Row w' w.heap.size T_int 1 A' n c' (ints l) → Kept Nil w w' → K (.slice A' n c') w') :
    Ret Try.prog slices_Clone_of_int.id #[.slice A n c] w K := by
  refine slices_Clone_of_int.of ?_
  have hints : ∀ u ∈ ints l, u.oneCell' = true := by
    intro u hu
    simp only [ints, List.mem_map] at hu
    obtain ⟨x, _, rfl⟩ := hu
    rfl
  rcases Row.own h with ⟨rfl, rfl, rfl, hx⟩ | ⟨b, cur, rfl, hB, hg, hnc, hcm, hcs, htk⟩
  · refine Split.yes rfl (hK none 0 w ?_ (Kept.refl _ w))
    rw [hx]
    exact Row.nil w _ _ _
  · refine Split.no rfl ?_
    intro w2
    have hk2 : Kept Nil w w2 := (Kept.refl Nil w).alloc _
    have hr0 : Row w2 w.heap.size T_int 1 (some ⟨w.heap.size, 0, none⟩) 0 0 [] := Row.made (new_blk w _) (Nat.le_refl _) rfl (Nat.zero_le _)
    have h2 := Row.keep h hk2 (fun _ _ h => h)
    obtain ⟨A', c', w', hr, hrow, hgr, hbl⟩ := append_row (P := Try.prog) (t := T_sl_int) (ty := T_sl_int) (bytes := 8) slInt hr0 (a := ⟨b, 0, none⟩) (m := n) (cx := c) (news := ints l)
      h2.len (Row.cells h2) hints (by omega) (by omega) (by have := hk2.size; omega)
    simp only [Nat.zero_add, List.nil_append] at hr hrow
    have hk3 : Kept Nil w w' := hk2.grown hgr (fun k hk hlt => by cases hk; exact absurd hlt (Nat.lt_irrefl _))
    exact ⟨A', n, c', w', hr, hK A' c' w' hrow hk3⟩

theorem tree_ChildrenNo (h : IsT w S g T d) (hT : 0 < T.length) (n : Int) (hn : ¬ (0 ≤ n ∧ n < (T.length : Int))) (hK : K (.tuple #[.slice none 0 0, .int .i64 6]) w) :
    Ret Try.prog tree_Tree_Children.id #[.pointer (some ⟨g, 0, none⟩), .int .i64 n] w K :=
  tree_Tree_Children.of (tree_mayNo h hT n hn ⟨_, rfl, Split.yes rfl hK⟩)
theorem tree_Children (h : IsT w S g T d) {n : Nat} {nd : Nd} (hn : T[n]? = some nd) (hsm : nd.ch.length ≤ 1000000)
    (hK : ∀ A c w', Row w' w.heap.size T_int 1 A nd.ch.length c (ints nd.ch) → Kept Nil w w' → K (.tuple #[.slice A nd.ch.length c, .int .i64 0]) w') :
    Ret Try.prog tree_Tree_Children.id #[.pointer (some ⟨g, 0, none⟩), .int .i64 n] w K := by
  have hlt : n < T.length := (List.getElem?_eq_some_iff.1 hn).1
  refine tree_Tree_Children.of (tree_mayYes h hlt ⟨_, rfl, Split.no rfl ?_⟩)
  obtain ⟨b, c, L, h⟩ := h
  obtain ⟨v, hv⟩ := h.at_ hn
  obtain ⟨A, m, hk⟩ := h.kid _ _ hv
  refine h.go ⟨⟨by omega, by omega⟩, h.getC hv hk.val (clone_int hk.row (by omega) (by unfold maxLen; omega) fun A' c' w' hr hkp => ⟨_, _, _, rfl, hK A' c' w' hr hkp⟩)⟩
end
end Go.Proofs.Ytehkokfjfjefnaa
