/-
  begin: the tree and the document's, from a list.
-/
import Derived.Test.YtehkokfjfjefnaaTR2
namespace Go.Proofs.Ytehkokfjfjefnaa
open Go Go.Lite Go.RowKit

/-- a list of integers that came in -/
structure Ins (w : World) (A : Option Addr) (n : Nat) (l : List Int) : Prop where
  len : l.length = n
  at_ : ∀ (i : Nat) z, l[i]? = some z → ∃ a, A = some a ∧ a.block < w.heap.size ∧ w.cell? (a.add i) = some (.int .i64 z) ∧ -9223372036854775808 ≤ z ∧ z < 9223372036854775808
theorem add_block (a : Addr) (k : Nat) : (a.add k).block = a.block := by unfold Addr.add; split <;> rfl
theorem Ins.keep {w w' : World} {A : Option Addr} {n : Nat} {l : List Int} (h : Ins w A n l) (hk : Kept Nil w w') : Ins w' A n l := ⟨h.len, fun i z hi => by
  obtain ⟨a, h1, h2, h3, h4⟩ := h.at_ i z hi
  exact ⟨a, h1, Nat.lt_of_lt_of_le h2 hk.size, hk.cell h3 (fun h => h), h4⟩⟩

/-- the tree and the document's say the same; all that they own is newer than w0 -/
def Both (w0 w : World) (g h : Nat) (T : List Nd) (P : List Int) (d : Int) (S1 S2 : Nat → Prop) : Prop :=
  IsT w S1 g T d ∧ IsW w S2 h P ∧ (∀ k, S1 k → ¬ S2 k) ∧ (∀ k, S1 k → w0.heap.size ≤ k) ∧ (∀ k, S2 k → w0.heap.size ≤ k) ∧ Kept Nil w0 w ∧ Fine T ∧ pars T = P ∧ 0 ≤ d ∧ d + 1 ≤ P.length

section
variable {w0 w w' : World} {g h : Nat} {T : List Nd} {P : List Int} {d : Int} {S1 S2 : Nat → Prop} {K : Value → World → Prop}
theorem Both.same (b : Both w0 w g h T P d S1 S2) (hk : Kept Nil w w') : Both w0 w' g h T P d S1 S2 :=
  let ⟨a, b, c, e, f, k, r⟩ := b; ⟨a.same hk, b.same hk, c, e, f, k.trans hk (fun _ _ h => h), r⟩
theorem Both.len (b : Both w0 w g h T P d S1 S2) : T.length = P.length := by
  obtain ⟨_, _, _, _, _, _, _, hp, _⟩ := b
  rw [← hp, pars_len]
theorem Both.par (b : Both w0 w g h T P d S1 S2) : Par P := by
  obtain ⟨_, _, _, _, _, _, hF, hp, _⟩ := b
  rw [← hp]; exact hF.par
theorem Both.pos (b : Both w0 w g h T P d S1 S2) : 0 < P.length := (List.getElem?_eq_some_iff.1 b.par.root).1

theorem begin_ok {A : Option Addr} {n c : Nat} {l : List Int} (hl : Ins w A n l) (hn : n ≤ 400000)
    (hK : ∀ w' g h T P d S1 S2, Both w w' g h T P d S1 S2 → P.length ≤ n + 1 → K (.tuple #[.pointer (some ⟨g, 0, none⟩), .pointer (some ⟨h, 0, none⟩), .bool true]) w') :
    Ret Try.prog law11_begin.id #[.slice A n c] w K := by
  refine law11_begin.of (tree_New fun w3 g h3 k3 => ⟨_, rfl, ref_New fun w6 h h6 k6 => ⟨_, rfl, ?_⟩⟩)
  have b0 : Both w w6 g h rootT [-1] 0 (fun k => w.heap.size ≤ k ∧ k < w3.heap.size) (fun k => w3.heap.size ≤ k) :=
    ⟨h3.bound.same k6, h6, fun k h1 h2 => by omega, fun k h => h.1, fun k h => by have := k3.size; omega, k3.trans k6 (fun _ _ h => h), rootT_fine, rfl, by decide, by decide⟩
  refine law11_begin.loop1 (I := fun s w' => ∃ (i : Nat) (T : List Nd) (P : List Int) (d : Int) (S1 S2 : Nat → Prop), s = (none, none, false, (i : Int)) ∧ i ≤ n ∧ Both w w' g h T P d S1 S2 ∧ P.length ≤ i + 1)
    (μ := fun s _ => ((n : Int) - s.2.2.2).toNat) (s := (none, none, false, 0)) ⟨0, rootT, [-1], 0, _, _, rfl, Nat.zero_le _, b0, Nat.le_refl _⟩ ?_
  rintro s w' ⟨i, T, P, d, S1, S2, rfl, hi, b, hPl⟩
  refine Split.dec (fun hlt => ?_) (fun hge => ?_)
  · simp only at hlt
    have hil : i < n := by omega
    obtain ⟨z, hz⟩ : ∃ z, l[i]? = some z := ⟨_, List.getElem?_eq_getElem (by rw [hl.len]; exact hil)⟩
    have bk : Kept Nil w w' := b.2.2.2.2.2.1
    obtain ⟨a, rfl, _, hcell, hz1, hz2⟩ := (hl.keep bk).at_ i z hz
    have hlen := b.len
    have hpos := b.pos
    have main : ∀ p : Int, p ≤ P.length → law11_begin.J1 (some a) n c none none false (some ⟨g, 0, none⟩) (some ⟨h, 0, none⟩) (i : Int) p
        (roundQ (law11_begin.e1 (some a) n c (some ⟨g, 0, none⟩) (some ⟨h, 0, none⟩)) (fun s w' => ∃ (i : Nat) (T : List Nd) (P : List Int) (d : Int) (S1 S2 : Nat → Prop), s = (none, none, false, (i : Int)) ∧ i ≤ n ∧ Both w w' g h T P d S1 S2 ∧ P.length ≤ i + 1) (fun s _ => ((n : Int) - s.2.2.2).toNat) (none, none, false, (i : Int)) w' (law11_begin.q1 K)) w' := by
      intro p hp
      obtain ⟨hT, hW, hdis, hn1, hn2, hk, hF, hpp, hd0, hd1⟩ := b
      have leaf : ∀ w2 T2 P2 d2 S1 S2, Both w w2 g h T2 P2 d2 S1 S2 → P2.length ≤ i + 2 →
          (roundQ (law11_begin.e1 (some a) n c (some ⟨g, 0, none⟩) (some ⟨h, 0, none⟩)) (fun s w' => ∃ (i : Nat) (T : List Nd) (P : List Int) (d : Int) (S1 S2 : Nat → Prop), s = (none, none, false, (i : Int)) ∧ i ≤ n ∧ Both w w' g h T P d S1 S2 ∧ P.length ≤ i + 1) (fun s _ => ((n : Int) - s.2.2.2).toNat) (none, none, false, (i : Int)) w' (law11_begin.q1 K)) .normal
            [(0, .slice (some a) n c), (2, .pointer none), (3, .pointer none), (4, .bool false), (5, .pointer (some ⟨g, 0, none⟩)), (6, .pointer (some ⟨h, 0, none⟩)), (7, .int .i64 (IntKind.i64.wrap ((i : Int) + 1)))] w2 := by
        intro w2 T2 P2 d2 S1' S2' b2 hl2
        rw [wrapI (x := (i : Int) + 1) (by omega) (by omega)]
        exact ⟨(none, none, false, ((i + 1 : Nat) : Int)), rfl, ⟨i + 1, T2, P2, d2, S1', S2', rfl, hil, b2, by omega⟩, by simp only; omega⟩
      by_cases hin : 0 ≤ p ∧ p < (P.length : Int)
      · obtain ⟨q, rfl⟩ : ∃ q : Nat, p = q := ⟨p.toNat, by omega⟩
        have hq : q < P.length := by omega
        refine tree_Add hT hF (by omega) (by omega) ⟨hd0, by omega⟩ fun w35 S1' T' d' hT' hF' hp' hd' k35 f35 => ⟨_, _, rfl, ?_⟩
        refine law11_begin.join2 ?_
        have hW2 := hW.bound.keep k35 (fun k h1 h2 => hdis k h2 h1.1)
        refine ref_Add hW2 hq (by omega) fun w49 S2' hW' k49 f49 => ⟨_, rfl, ?_⟩
        refine law11_begin.join3 (Split.no (decide_eq_false (by omega)) (Split.yes (decide_eq_true (by omega)) (Split.no rfl (Split.no (by simp; omega) ?_))))
        have hh : S2 h := by obtain ⟨_, _, H⟩ := hW; exact H.footH
        have hhl : h < w'.heap.size := by obtain ⟨_, _, H⟩ := hW; exact lt_blk H.top
        refine leaf w49 T' (P ++ [(q : Int)]) d' (fun k => S1' k ∧ k < w35.heap.size) (fun k => S2' k ∧ (k = h ∨ w35.heap.size ≤ k)) ⟨?_, ?_, ?_, ?_, ?_, ?_, hF', by rw [hp', hpp], by omega, by simp; omega⟩ (by simp; omega)
        · refine hT'.bound.keep k49 (fun k h1 e => ?_)
          rcases f35 k h1.1 with h2 | h2
          · exact hdis k h2 (e ▸ hh)
          · omega
        · obtain ⟨b', c', H⟩ := hW'
          exact ⟨b', c', H.top, H.row, ⟨H.footH, f49 _ H.footH⟩, ⟨H.footB, f49 _ H.footB⟩⟩
        · rintro k ⟨h1, h2⟩ ⟨h3, h4⟩
          rcases h4 with rfl | h4
          · rcases f35 _ h1 with h5 | h5
            · exact hdis _ h5 hh
            · omega
          · omega
        · rintro k ⟨h1, _⟩
          rcases f35 k h1 with h2 | h2
          · exact hn1 k h2
          · have := hk.size; omega
        · rintro k ⟨_, rfl | h4⟩
          · exact hn2 _ hh
          · have := hk.size; have := k35.size; omega
        · have k1 : Kept Nil w w35 := hk.trans k35 (fun k hk' hs => by have := hn1 k hs; omega)
          exact k1.trans k49 (fun k hk' e => by have := hn2 h hh; omega)
      · refine tree_AddNo hT (by omega) p (by rw [hlen]; exact hin) ⟨_, _, rfl, law11_begin.join2 (ref_AddNo hW p hin ⟨_, rfl, law11_begin.join3 ?_⟩)⟩
        exact Split.yes (by decide) (Split.no rfl (Split.no rfl (Split.no (by decide) (leaf w' T P d S1 S2 ⟨hT, hW, hdis, hn1, hn2, hk, hF, hpp, hd0, hd1⟩ (by omega)))))
    refine ⟨⟨by simp only; omega, by simp only; omega⟩, _, by simp only [Int.toNat_natCast, Nat.mul_one]; exact hcell, ?_⟩
    refine Split.dec (fun h0 => ?_) (fun h0 => ?_)
    · obtain ⟨b', c', H⟩ := b.2.1
      have hw1 : IntKind.i64.wrap ((P.length : Int) + 1) = (P.length : Int) + 1 := wrapI (by omega) (by omega)
      refine H.go ⟨by rw [hw1]; omega, law11_begin.join1 (main _ ?_)⟩
      rw [hw1]
      have := Int.tmod_lt_of_pos z (show (0 : Int) < (P.length : Int) + 1 by omega)
      omega
    · exact law11_begin.join1 (main z (by omega))
  · simp only at hge
    rw [roundQ_exit, law11_begin.x1_0]
    exact hK w' g h T P d S1 S2 b (by omega)
end
end Go.Proofs.Ytehkokfjfjefnaa
