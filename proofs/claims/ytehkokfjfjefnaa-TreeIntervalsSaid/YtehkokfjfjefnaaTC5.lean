/-
  A new tree; Under; one that is not there; what 'known' shows; TreeNil.
-/
import Derived.Test.YtehkokfjfjefnaaTC4
import Derived.Test.YtehkokfjfjefnaaGT1
import Derived.Test.YtehkokfjfjefnaaGT3
namespace Go.Proofs.Ytehkokfjfjefnaa
open Go Go.Lite Go.RowKit

section
variable {w : World} {S : Nat → Prop} {g : Nat} {T : List Nd} {d : Int} {K : Value → World → Prop}

/-- the root alone -/
def rootT : List Nd := [⟨-1, [], 1, 4611686018427387904, 1⟩]

theorem tree_New (hK : ∀ w' g, IsT w' (fun k => w.heap.size ≤ k) g rootT 0 → Kept Nil w w' → K (.pointer (some ⟨g, 0, none⟩)) w') : Ret Try.prog tree_New.id #[] w K := by
  refine tree_New.of ⟨rfl, ?_⟩
  intro w1 w2
  have k1 : Kept Nil w w1 := (Kept.refl Nil w).alloc _
  have k2 : Kept Nil w w2 := k1.alloc _
  refine hK w2 w1.heap.size ⟨w.heap.size, 1, [(⟨-1, [], 1, 4611686018427387904, 1⟩, .slice none 0 0)], ?_⟩ k2
  exact {
    top := new_blk w1 _
    fst := rfl
    row := Row.made (n := 1) (cur := #[.int .i64 (-1), .slice none 0 0, .int .u64 1, .int .u64 4611686018427387904, .int .u64 1]) (old_blk (new_blk w _) _) (Nat.zero_le _) rfl (by decide)
    kid := fun i p hp => by
      cases i with
      | zero => simp at hp; subst hp; exact ⟨none, 0, rfl, Row.nil _ _ _ _, fun k e => by cases e⟩
      | succ i => simp at hp
    apart := fun i j p q hp hq hij => by
      cases i <;> cases j <;> simp at hp hq
      exact absurd rfl hij
    footG := k1.size
    footB := Nat.le_refl _ }

theorem tree_UnderNo (h : IsT w S g T d) (a b : Int) (hn : ¬ (0 ≤ a ∧ a < (T.length : Int)) ∨ ¬ (0 ≤ b ∧ b < (T.length : Int))) (hK : ∀ w', Kept Nil w w' → K (.bool false) w') :
    Ret Try.prog tree_Tree_Under.id #[.pointer (some ⟨g, 0, none⟩), .int .i64 a, .int .i64 b] w K := by
  refine tree_Tree_Under.of ?_
  unfold tree_Tree_Under.W
  intro w4
  have k4 : Kept Nil w w4 := (Kept.refl Nil w).drew
  have h4 := h.same k4
  refine tree_in h4 a ⟨_, rfl, Split.dec (fun ha => ?_) (fun _ => hK w4 k4)⟩
  refine tree_in h4 b ⟨_, rfl, Split.dec (fun hb => ?_) (fun _ => hK w4 k4)⟩
  rcases hn with hn | hn
  · exact absurd ha hn
  · exact absurd hb hn
theorem tree_Under (h : IsT w S g T d) {a b : Nat} {ad bd : Nd} (ha : T[a]? = some ad) (hb : T[b]? = some bd) (hK : ∀ w', Kept Nil w w' → K (.bool (decide (bd.lo ≤ ad.lo ∧ ad.hi ≤ bd.hi))) w') :
    Ret Try.prog tree_Tree_Under.id #[.pointer (some ⟨g, 0, none⟩), .int .i64 a, .int .i64 b] w K := by
  have hal : a < T.length := (List.getElem?_eq_some_iff.1 ha).1
  have hbl : b < T.length := (List.getElem?_eq_some_iff.1 hb).1
  have hba : 0 ≤ (a : Int) ∧ (a : Int) < (T.length : Int) := ⟨by omega, by omega⟩
  have hbb : 0 ≤ (b : Int) ∧ (b : Int) < (T.length : Int) := ⟨by omega, by omega⟩
  refine tree_Tree_Under.of ?_
  unfold tree_Tree_Under.W
  intro w4
  have k4 : Kept Nil w w4 := (Kept.refl Nil w).drew
  have h4 := h.same k4
  have hk := hK w4 k4
  refine tree_in h4 a ⟨_, rfl, Split.yes (decide_eq_true hba) ?_⟩
  refine tree_in h4 b ⟨_, rfl, Split.yes (decide_eq_true hbb) ?_⟩
  obtain ⟨p, c, L, h4⟩ := h4
  obtain ⟨va, hva⟩ := h4.at_ ha
  obtain ⟨vb, hvb⟩ := h4.at_ hb
  refine h4.go ⟨hbb, h4.getLo hvb (h4.go ⟨hba, h4.getLo hva ?_⟩)⟩
  refine Split.dec (fun h1 => h4.go ⟨hba, h4.getHi hva (h4.go ⟨hbb, h4.getHi hvb ?_⟩)⟩) (fun h1 => ?_)
  · rwa [show decide (bd.lo ≤ ad.lo ∧ ad.hi ≤ bd.hi) = decide (ad.hi ≤ bd.hi) from by simp [h1]] at hk
  · rwa [decide_eq_false (fun e : bd.lo ≤ ad.lo ∧ ad.hi ≤ bd.hi => h1 e.1)] at hk
end

/-- one that is not there, or a zero one -/
def NilT (w : World) (t : Option Addr) : Prop := t = none ∨ ∃ b, t = some ⟨b, 0, none⟩ ∧ w.heap[b]? = some (.cells #[.slice none 0 0, .int .i64 0] T_tree_Tree (0, 0))
section
variable {w : World} {t : Option Addr} {K : Value → World → Prop}
theorem nil_may (h : NilT w t) (n : Int) (hK : K (.int .i64 1) w) : Ret Try.prog tree_Tree_may.id #[.pointer t, .int .i64 n] w K := by
  rcases h with rfl | ⟨b, rfl, hb⟩
  · exact tree_Tree_may.of (Split.yes rfl hK)
  · exact tree_Tree_may.of (Split.no rfl ⟨_, _, _, by rw [add1, cell_blk hb]; rfl, Split.yes rfl hK⟩)
theorem nil_Add (h : NilT w t) (n : Int) (hK : K (.tuple #[.int .i64 0, .int .i64 1]) w) : Ret Try.prog tree_Tree_Add.id #[.pointer t, .int .i64 n] w K :=
  tree_Tree_Add.of (nil_may h n ⟨_, rfl, Split.yes rfl hK⟩)
theorem nil_Interval (h : NilT w t) (n : Int) (hK : K (.tuple #[.int .u64 0, .int .u64 0, .int .i64 1]) w) : Ret Try.prog tree_Tree_Interval.id #[.pointer t, .int .i64 n] w K :=
  tree_Tree_Interval.of (nil_may h n ⟨_, rfl, Split.yes rfl hK⟩)
theorem nil_Parent (h : NilT w t) (n : Int) (hK : K (.tuple #[.int .i64 0, .int .i64 1]) w) : Ret Try.prog tree_Tree_Parent.id #[.pointer t, .int .i64 n] w K :=
  tree_Tree_Parent.of (nil_may h n ⟨_, rfl, Split.no rfl (Split.yes rfl hK)⟩)
theorem nil_Children (h : NilT w t) (n : Int) (hK : K (.tuple #[.slice none 0 0, .int .i64 1]) w) : Ret Try.prog tree_Tree_Children.id #[.pointer t, .int .i64 n] w K :=
  tree_Tree_Children.of (nil_may h n ⟨_, rfl, Split.yes rfl hK⟩)
theorem nil_Depth (h : NilT w t) (n : Int) (hK : K (.tuple #[.int .i64 0, .int .i64 1]) w) : Ret Try.prog tree_Tree_Depth.id #[.pointer t, .int .i64 n] w K :=
  tree_Tree_Depth.of (nil_may h n ⟨_, rfl, Split.yes rfl hK⟩)
theorem nil_Size (h : NilT w t) (n : Int) (hK : K (.tuple #[.int .i64 0, .int .i64 1]) w) : Ret Try.prog tree_Tree_Size.id #[.pointer t, .int .i64 n] w K :=
  tree_Tree_Size.of (nil_may h n ⟨_, rfl, Split.yes rfl hK⟩)
theorem nil_in (h : NilT w t) (n : Int) (hK : K (.bool false) w) : Ret Try.prog tree_Tree_in.id #[.pointer t, .int .i64 n] w K := by
  rcases h with rfl | ⟨b, rfl, hb⟩
  · exact tree_Tree_in.of (Split.no rfl hK)
  · refine tree_Tree_in.of (Split.yes rfl (Split.dec (fun h0 => ⟨_, _, _, by rw [add1, cell_blk hb]; rfl, ?_⟩) (fun _ => hK)))
    rwa [decide_eq_false (by omega)]
theorem nil_Under (h : NilT w t) (a b : Int) (hK : K (.bool false) w.drew) : Ret Try.prog tree_Tree_Under.id #[.pointer t, .int .i64 a, .int .i64 b] w K := by
  refine tree_Tree_Under.of ?_
  unfold tree_Tree_Under.W
  intro w4
  exact nil_in (w := w4) h a ⟨_, rfl, Split.no rfl hK⟩
theorem nil_Len (h : NilT w t) (hK : K (.int .i64 0) w) : Ret Try.prog tree_Tree_Len.id #[.pointer t] w K := by
  rcases h with rfl | ⟨b, rfl, hb⟩
  · exact tree_Tree_Len.of (Split.yes rfl hK)
  · exact tree_Tree_Len.of (Split.no rfl ⟨_, _, _, by rw [add1, cell_blk hb]; rfl, hK⟩)
theorem nil_Dealt (h : NilT w t) (hK : K (.int .i64 0) w) : Ret Try.prog tree_Tree_Dealt.id #[.pointer t] w K := by
  rcases h with rfl | ⟨b, rfl, hb⟩
  · exact tree_Tree_Dealt.of (Split.yes rfl hK)
  · exact tree_Tree_Dealt.of (Split.no rfl ⟨_, by rw [add1, cell_blk hb]; rfl, hK⟩)
theorem nil_Copy (h : NilT w t) (hK : K (.pointer none) w) : Ret Try.prog tree_Tree_Copy.id #[.pointer t] w K :=
  tree_Tree_Copy.of (nil_Len h ⟨_, rfl, Split.yes rfl hK⟩)

/-- 'known' says true -/
theorem law11_known (hK : ∀ w', Kept Nil w w' → K (.bool true) w') : Ret Try.prog law11_known.id #[] w K := by
  refine law11_known.of (tree_New fun w2 g h2 k2 => ⟨_, rfl, ?_⟩)
  let T1 : List Nd := added rootT 0 ⟨-1, [], 1, 4611686018427387904, 1⟩
  have e1 : T1 = [⟨-1, [1], 1, 4611686018427387904, 2305843009213693953⟩, ⟨0, [], 1, 2305843009213693952, 1⟩] := rfl
  refine tree_AddRoomOr (p := 0) h2 rfl (by decide) (by decide) (by decide) (by decide) (by decide) (fun _ w5 S5 h5 k5 f5 => ⟨_, _, rfl, ?_⟩) (fun e => absurd e (by decide))
  let T2 : List Nd := added T1 1 ⟨0, [], 1, 2305843009213693952, 1⟩
  have e2 : T2 = [⟨-1, [1], 1, 4611686018427387904, 2305843009213693953⟩, ⟨0, [2], 1, 2305843009213693952, 1152921504606846977⟩, ⟨1, [], 1, 1152921504606846976, 1⟩] := rfl
  refine tree_AddRoomOr (p := 1) (T := T1) h5 rfl (by decide) (by decide) (by decide) (by decide) (by decide) (fun _ w9 S9 h9 k9 f9 => ⟨_, _, rfl, ?_⟩) (fun e => absurd e (by decide))
  let T3 : List Nd := added T2 0 ⟨-1, [1], 1, 4611686018427387904, 2305843009213693953⟩
  have e3 : T3 = [⟨-1, [1, 3], 1, 4611686018427387904, 3458764513820540929⟩, ⟨0, [2], 1, 2305843009213693952, 1152921504606846977⟩, ⟨1, [], 1, 1152921504606846976, 1⟩, ⟨0, [], 2305843009213693953, 3458764513820540928, 2305843009213693953⟩] := rfl
  refine tree_AddRoomOr (p := 0) (T := T2) h9 rfl (by decide) (by decide) (by decide) (by decide) (by decide) (fun _ w13 S13 h13 k13 f13 => ⟨_, _, rfl, ?_⟩) (fun e => absurd e (by decide))
  have kk : Kept Nil w w13 := by
    have a1 : Kept Nil w w5 := k2.trans k5 fun k hk h => absurd h (by have := k2.size; omega)
    have a2 : Kept Nil w w9 := a1.trans k9 fun k hk h => by
      rcases f5 k h with h | h
      · omega
      · have := k2.size; omega
    exact a2.trans k13 fun k hk h => by
      rcases f9 k h with h | h
      · rcases f5 k h with h | h
        · omega
        · have := k2.size; omega
      · have := a1.size; omega
  refine Split.yes rfl (Split.yes rfl (Split.yes rfl (Split.yes rfl (Split.yes rfl (Split.yes rfl ?_)))))
  refine tree_Under (T := T3) (a := 2) (b := 1) h13 rfl rfl fun w17 k17 => ⟨_, rfl, Split.yes (by decide) ?_⟩
  have kk17 := kk.trans k17 (fun _ _ h => h)
  refine tree_Under (T := T3) (a := 2) (b := 3) (h13.same k17) rfl rfl fun w20 k20 => ⟨_, rfl, ?_⟩
  exact hK w20 (kk17.trans k20 (fun _ _ h => h))

theorem law11_TreeNil (hK : ∀ w', Kept Nil w w' → K (.bool true) w') : Ret Try.prog law11_TreeNil.id #[] w K := by
  refine law11_TreeNil.of ?_
  unfold law11_TreeNil.W
  intro w1 w2
  have k1 : Kept Nil w w1 := (Kept.refl Nil w).alloc _
  have k2 : Kept Nil w w2 := k1.alloc _
  have hz : w2.heap[w.heap.size]? = some (.cells #[.slice none 0 0, .int .i64 0] T_tree_Tree (0, 0)) := old_blk (new_blk w _) _
  have hl : w2.heap[w1.heap.size]? = some (.cells #[.pointer none, .pointer (some (⟨w.heap.size, 0, none⟩ : Addr))] 24 (0, 0)) := new_blk w1 _
  refine law11_TreeNil.loop1 (I := fun s w' => Kept Nil w2 w' ∧ 0 ≤ s.2 ∧ s.2 ≤ 2) (μ := fun s _ => (2 - s.2).toNat) (s := (false, 0)) ⟨Kept.refl _ _, by decide, by decide⟩ ?_
  rintro ⟨r, i⟩ w' ⟨kw, hi0, hi2⟩
  refine Split.dec (fun hlt => ?_) (fun hge => ?_)
  · have hll := kw.heap hl (fun h => h)
    have hzz := kw.heap hz (fun h => h)
    simp only at hi0 hi2 hlt ⊢
    refine ⟨⟨hi0, hlt⟩, Is.mk rfl ?_⟩
    have hcell : ∃ t, w'.cell? (({ block := w1.heap.size, off := 0 } : Addr).add (i.toNat * 1)) = some (.pointer t) ∧ NilT w' t := by
      rcases (by omega : i = 0 ∨ i = 1) with rfl | rfl
      · exact ⟨none, by rw [add1, cell_blk hll]; rfl, .inl rfl⟩
      · exact ⟨_, by rw [add1, cell_blk hll]; rfl, .inr ⟨_, rfl, hzz⟩⟩
    obtain ⟨t, ht, hN⟩ := hcell
    refine ⟨t, ht, ?_⟩
    refine nil_Add hN _ ⟨_, _, rfl, nil_Interval hN _ ⟨_, _, _, rfl, nil_Parent hN _ ⟨_, _, rfl, nil_Children hN _ ⟨_, _, _, _, rfl, nil_Depth hN _ ⟨_, _, rfl, nil_Size hN _ ⟨_, _, rfl, ?_⟩⟩⟩⟩⟩⟩
    refine Split.no rfl (Split.no rfl (Split.no rfl (Split.no rfl (Split.no rfl (Split.no rfl (nil_Under hN _ _ ⟨_, rfl, Split.no rfl ?_⟩))))))
    have hN2 : NilT w'.drew t := hN
    refine nil_Len hN2 ⟨_, rfl, Split.no rfl (nil_Dealt hN2 ⟨_, rfl, Split.no rfl (nil_Copy hN2 ⟨_, rfl, Split.no rfl ?_⟩)⟩)⟩
    rw [wrapI (x := i + 1) (by omega) (by omega)]
    exact ⟨(r, i + 1), rfl, ⟨kw.drew, by simp only; omega, by simp only; omega⟩, by simp only; omega⟩
  · show law11_TreeNil.q1 K (.exit 0) _ _
    rw [law11_TreeNil.x1_0]
    refine law11_known fun w3 k3 => ⟨_, rfl, hK w3 ((k2.trans kw (fun _ _ h => h)).trans k3 (fun _ _ h => h))⟩
end
end Go.Proofs.Ytehkokfjfjefnaa
