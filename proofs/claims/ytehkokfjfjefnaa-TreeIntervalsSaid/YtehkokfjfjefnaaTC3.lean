/-
  A node more, a child more.
-/
import Derived.Test.YtehkokfjfjefnaaTC2
namespace Go.Proofs.Ytehkokfjfjefnaa
open Go Go.Lite Go.RowKit
section
variable {w : World} {S : Nat → Prop} {g : Nat} {T : List Nd} {d : Int} {b c : Nat} {L : List (Nd × Value)}

theorem encL_append (L M : List (Nd × Value)) : encL (L ++ M) = encL L ++ encL M := by simp [encL]

theorem TV.growNode (h : TV w S g T d b c L) (hsz : T.length ≤ 1000000) (p : Int) {w10 : World}
    (e10 : w10 = w.alloc (.cells #[.int .i64 p, .slice none 0 0, .int .u64 0, .int .u64 0, .int .u64 0] T_tree_node)) :
    ∃ A c' w12, (Builtin.append_ #[T_sl_tree_node, T_sl_tree_node] T_sl_tree_node #[.slice (some ⟨b, 0, none⟩) T.length c, .slice (some ⟨w.heap.size, 0, none⟩) 1 1]).run Try.prog w10 = .ok (.slice A (T.length + 1) c') w12 ∧
      Wr w12 ⟨g, 0, none⟩ ∧ ∃ b' S' L', TV (w12.setCell ⟨g, 0, none⟩ (.slice A (T.length + 1) c')) S' g (T ++ [⟨p, [], 0, 0, 0⟩]) d b' c' L' ∧ (∀ (i : Nat) q, L[i]? = some q → L'[i]? = some q) ∧
        Kept S w (w12.setCell ⟨g, 0, none⟩ (.slice A (T.length + 1) c')) ∧ (∀ k, S k → S' k) ∧ (∀ k, S' k → S k ∨ w.heap.size ≤ k) := by
  subst e10
  generalize hw10 : w.alloc (.cells #[.int .i64 p, .slice none 0 0, .int .u64 0, .int .u64 0, .int .u64 0] T_tree_node) = w10
  have hnew : w10.heap[w.heap.size]? = some (.cells #[.int .i64 p, .slice none 0 0, .int .u64 0, .int .u64 0, .int .u64 0] T_tree_node (0, 0)) := by rw [← hw10]; exact new_blk w _
  have k10 : Kept Nil w w10 := by rw [← hw10]; exact (Kept.refl Nil w).alloc _
  have hs10 : w10.heap.size = w.heap.size + 1 := by rw [← hw10]; simp
  have h10 := h.kept k10
  obtain ⟨A, c', w12, hr, hrow, hg, hbl⟩ := append_row (P := Try.prog) (t := T_sl_tree_node) (ty := T_sl_tree_node) slNode h10.row (a := ⟨w.heap.size, 0, none⟩) (m := 1) (cx := 1)
    (news := ndCells ⟨p, [], 0, 0, 0⟩ (.slice none 0 0)) rfl (fun j u hj => by rw [add1, cell_blk hnew]; simpa [ndCells] using hj) (by intro u hu; simp [ndCells] at hu; rcases hu with rfl | rfl | rfl | rfl | rfl <;> rfl)
    (by omega) (by unfold maxLen; omega) (Nat.zero_le _)
  obtain ⟨b', rfl⟩ := Row.some hrow (by omega)
  have kb : Kept (fun k => k = b) w10 w12 := (Kept.refl _ w10).grown hg (fun k hk _ => by cases hk; rfl)
  have htop : w12.heap[g]? = some (.cells #[.slice (some ⟨b, 0, none⟩) T.length c, .int .i64 d] T_tree_Tree (0, 0)) := kb.heap h10.top h.gb
  refine ⟨_, c', w12, hr, wr_blk htop (show 0 < 2 by omega), ?_⟩
  generalize hwf : w12.setCell ⟨g, 0, none⟩ (.slice (some ⟨b', 0, none⟩) (T.length + 1) c') = wf
  have kg : Kept (fun k => k = g) w12 wf := by rw [← hwf]; exact (Kept.refl (fun k => k = g) w12).setCell (p := ⟨g, 0, none⟩) (fun _ => rfl) _
  have hb' : b' = b ∨ w10.heap.size ≤ b' := by
    rcases hbl b' rfl with h | h
    · left; cases h; rfl
    · exact .inr h
  have hb'g : b' ≠ g := by
    rintro rfl
    obtain ⟨_, cur, hc⟩ := Row.blk hrow (k := b') rfl
    rw [htop] at hc
    injection hc with hc
    injection hc with _ ht
    exact absurd ht (by decide)
  have hkid : ∀ (i : Nat) (q : Nd × Value), L[i]? = some q → ∃ A m, Kid wf S q A m := by
    intro i q hq
    obtain ⟨A, m, hk⟩ := h10.kid i q hq
    obtain ⟨cur, hbh⟩ := h10.bheap
    have r1 := Row.keep hk.row kb (fun k e e2 => hk.ne hbh (by decide) (by rw [e, e2]))
    have r2 := Row.keep r1 kg (fun k e e2 => hk.ne h10.top (by decide) (by rw [e, e2]))
    exact ⟨A, m, hk.val, r2, hk.foot⟩
  refine ⟨b', fun k => S k ∨ k = b', L ++ [(⟨p, [], 0, 0, 0⟩, .slice none 0 0)], ?_, fun i q hq => ?_, ?_, fun k hk => .inl hk, ?_⟩
  · exact {
      top := by
        have := set_blk htop 0 (.slice (some ⟨b', 0, none⟩) (T.length + 1) c')
        rw [hwf] at this
        simpa using this
      fst := by simp [h.fst]
      row := by
        rw [encL_append, List.length_append]
        have := Row.keep hrow kg (fun k e e2 => hb'g (by cases e; exact e2))
        simpa [encL] using this
      kid := fun i q hq => by
        rw [List.getElem?_append] at hq
        split at hq
        · obtain ⟨A, m, hk⟩ := hkid i q hq
          exact ⟨A, m, hk.val, hk.row, fun k e => .inl (hk.foot k e)⟩
        · rename_i hlt
          have : i - L.length = 0 := by
            rcases Nat.eq_zero_or_pos (i - L.length) with h | h
            · exact h
            · rw [List.getElem?_eq_none (by simp; omega)] at hq; cases hq
          rw [this] at hq
          simp at hq
          subst hq
          exact ⟨none, 0, rfl, Row.nil _ _ _ _, fun k e => by cases e⟩
      apart := fun i j q q' hq hq' hij k hk hk' => by
        rw [List.getElem?_append] at hq hq'
        have last : ∀ (x : Nat) (r : Nd × Value), [((⟨p, [], 0, 0, 0⟩ : Nd), Value.slice none 0 0)][x]? = some r → r.2 = .slice none 0 0 := by
          intro x r hr
          cases x with
          | zero => simp at hr; subst hr; rfl
          | succ x => simp at hr
        split at hq <;> split at hq'
        · exact h.apart i j q q' hq hq' hij k hk hk'
        · rw [last _ _ hq'] at hk'; cases hk'
        · rw [last _ _ hq] at hk; cases hk
        · rw [last _ _ hq'] at hk'; cases hk'
      footG := .inl h.footG
      footB := .inr rfl }
  · rw [List.getElem?_append_left (List.getElem?_eq_some_iff.1 hq).1]; exact hq
  · have k12 : Kept S w w12 := (k10.mono (S' := S) (fun _ _ h => h.elim)).trans kb (fun k _ e => by rw [e]; exact h.footB)
    exact k12.trans kg (fun k _ e => by rw [e]; exact h.footG)
  · rintro k (hk | rfl)
    · exact .inl hk
    · rcases hb' with rfl | hb'
      · exact .inl h.footB
      · right; omega

theorem TV.growKid (h : TV w S g T d b c L) {p : Nat} {nd : Nd} {v : Value} (hp : L[p]? = some (nd, v)) {A : Option Addr} {m : Nat} (hk : Kid w S (nd, v) A m) (hsz : nd.ch.length ≤ 1000000) (n : Nat) {w22 : World}
    (e22 : w22 = w.alloc (.cells #[.int .i64 n] T_int)) :
    ∃ A' c' w24, (Builtin.append_ #[T_sl_int, T_sl_int] T_sl_int #[.slice A nd.ch.length m, .slice (some ⟨w.heap.size, 0, none⟩) 1 1]).run Try.prog w22 = .ok (.slice A' (nd.ch.length + 1) c') w24 ∧
      w24.cell? ⟨g, 0, none⟩ = some (.slice (some ⟨b, 0, none⟩) T.length c) ∧ Wr w24 ⟨b, p * 5 + 1, none⟩ ∧
      ∃ S' L', TV (w24.setCell ⟨b, p * 5 + 1, none⟩ (.slice A' (nd.ch.length + 1) c')) S' g (T.set p { nd with ch := nd.ch ++ [n] }) d b c L' ∧
        Kept S w (w24.setCell ⟨b, p * 5 + 1, none⟩ (.slice A' (nd.ch.length + 1) c')) ∧ (∀ k, S k → S' k) ∧ (∀ k, S' k → S k ∨ w.heap.size ≤ k) := by
  subst e22
  generalize hw22 : w.alloc (.cells #[.int .i64 n] T_int) = w22
  have hnew : w22.heap[w.heap.size]? = some (.cells #[.int .i64 n] T_int (0, 0)) := by rw [← hw22]; exact new_blk w _
  have k22 : Kept Nil w w22 := by rw [← hw22]; exact (Kept.refl Nil w).alloc _
  have hs22 : w22.heap.size = w.heap.size + 1 := by rw [← hw22]; simp
  have h22 := h.kept k22
  have hrow22 := Row.keep hk.row k22 (fun _ _ h => h)
  have hpl : p < L.length := (List.getElem?_eq_some_iff.1 hp).1
  obtain ⟨A', c', w24, hr, hrow, hg, hbl⟩ := append_row (P := Try.prog) (t := T_sl_int) (ty := T_sl_int) slInt hrow22 (a := ⟨w.heap.size, 0, none⟩) (m := 1) (cx := 1)
    (news := ints [n]) rfl (fun j u hj => by rw [add1, cell_blk hnew]; simpa [ints] using hj) (by intro u hu; simp [ints] at hu; subst hu; rfl)
    (by simp only; omega) (by unfold maxLen; simp only; omega) (Nat.zero_le _)
  obtain ⟨cur, hbh⟩ := h22.bheap
  obtain ⟨cur0, hb0⟩ := h.bheap
  have hkb : blkOf A ≠ some b := hk.ne hb0 (by decide)
  have hkg : blkOf A ≠ some g := hk.ne h.top (by decide)
  have kA : Kept (fun k => blkOf A = some k) w22 w24 := (Kept.refl _ w22).grown hg (fun k hk _ => hk)
  have h24row : Row w24 0 T_tree_node 5 (some ⟨b, 0, none⟩) T.length c (encL L) := Row.keep h22.row kA (fun k e e2 => hkb (by rw [e2, ← e]; rfl))
  have h24top := kA.heap h22.top (fun e => hkg e)
  have hlt : p * 5 + 1 < (encL L).length := by rw [encL_length]; omega
  refine ⟨A', c', w24, hr, by rw [cell_blk h24top]; rfl, Row.wr h24row hlt, ?_⟩
  generalize hwf : w24.setCell ⟨b, p * 5 + 1, none⟩ (.slice A' (nd.ch.length + 1) c') = wf
  have kB : Kept (fun k => k = b) w24 wf := by rw [← hwf]; exact (Kept.refl (fun k => k = b) w24).setCell (p := ⟨b, p * 5 + 1, none⟩) (fun _ => rfl) _
  have hA'b : blkOf A' ≠ some b := by
    intro e
    obtain ⟨_, cur', hc⟩ := Row.blk hrow e
    have := kA.heap hbh hkb
    rw [this] at hc
    injection hc with hc
    injection hc with _ ht
    exact absurd ht (by decide)
  have hown : ∀ (A : Option Addr) n m, Value.ownBlock (.slice A n m) = blkOf A := by intro A n m; cases A <;> rfl
  have hget : ∀ (i : Nat) (q : Nd × Value), (L.set p ({ nd with ch := nd.ch ++ [n] }, .slice A' (nd.ch.length + 1) c'))[i]? = some q → (i = p ∧ q = ({ nd with ch := nd.ch ++ [n] }, .slice A' (nd.ch.length + 1) c')) ∨ (i ≠ p ∧ L[i]? = some q) := by
    intro i q hq
    by_cases e : p = i
    · subst e
      rw [List.getElem?_set_self hpl] at hq
      cases hq
      exact .inl ⟨rfl, rfl⟩
    · rw [List.getElem?_set_ne e] at hq
      exact .inr ⟨fun h => e h.symm, hq⟩
  have hnewb : ∀ k, blkOf A' = some k → ∀ (i : Nat) (q : Nd × Value), i ≠ p → L[i]? = some q → Value.ownBlock q.2 ≠ some k := by
    intro k hk' i q hi hq hqk
    rcases hbl k hk' with e | e
    · exact h.apart p i _ _ hp hq (fun e => hi e.symm) k (by rw [hk.val, hown]; exact e) hqk
    · obtain ⟨A2, m2, hk2⟩ := h.kid i q hq
      rw [hk2.val, hown] at hqk
      obtain ⟨_, cur2, hc2⟩ := Row.blk hk2.row hqk
      have := lt_blk hc2
      omega
  refine ⟨fun k => S k ∨ blkOf A' = some k, L.set p ({ nd with ch := nd.ch ++ [n] }, .slice A' (nd.ch.length + 1) c'), ?_, ?_, fun k hk => .inl hk, ?_⟩
  · exact {
      top := by rw [List.length_set]; exact kB.heap h24top h.gb
      fst := by rw [List.map_set, h.fst]
      row := by
        rw [List.length_set]
        have := Row.set h24row hlt (.slice A' (nd.ch.length + 1) c')
        rw [hwf, encL_set hp (j := 1) (by omega) (p' := ({ nd with ch := nd.ch ++ [n] }, .slice A' (nd.ch.length + 1) c')) rfl] at this
        exact this
      kid := fun i q hq => by
        rcases hget i q hq with ⟨rfl, rfl⟩ | ⟨hi, hq⟩
        · refine ⟨A', c', by simp, ?_, fun k e => .inr e⟩
          have := Row.keep hrow kB (fun k e e2 => hA'b (by rw [e, e2]))
          simpa [ints] using this
        · obtain ⟨A2, m2, hk2⟩ := h22.kid i q hq
          have r1 := Row.keep hk2.row kA (fun k e e2 => h.apart p i _ _ hp hq (fun e => hi e.symm) k (by rw [hk.val, hown]; exact e2) (by rw [hk2.val, hown]; exact e))
          have r2 := Row.keep r1 kB (fun k e e2 => hk2.ne hbh (by decide) (by rw [e, e2]))
          exact ⟨A2, m2, hk2.val, r2, fun k e => .inl (hk2.foot k e)⟩
      apart := fun i j q q' hq hq' hij k hk1 hk2 => by
        rcases hget i q hq with ⟨e1, e2⟩ | ⟨hi, hq1⟩ <;> rcases hget j q' hq' with ⟨e3, e4⟩ | ⟨hj, hq2⟩
        · exact hij (e1.trans e3.symm)
        · rw [e2, hown] at hk1; exact hnewb k hk1 j q' hj hq2 hk2
        · rw [e4, hown] at hk2; exact hnewb k hk2 i q hi hq1 hk1
        · exact h.apart i j q q' hq1 hq2 hij k hk1 hk2
      footG := .inl h.footG
      footB := .inl h.footB }
  · have k24 : Kept S w w24 := (k22.mono (S' := S) (fun _ _ h => h.elim)).trans kA (fun k _ e => hk.foot k e)
    exact k24.trans kB (fun k _ e => by rw [e]; exact h.footB)
  · rintro k (hk' | hk')
    · exact .inl hk'
    · rcases hbl k hk' with e | e
      · exact .inl (hk.foot k e)
      · right; omega
end
end Go.Proofs.Ytehkokfjfjefnaa
