/-
  Add, where there is room; Under; New.
-/
import Derived.Test.YtehkokfjfjefnaaTC3
import Derived.Test.YtehkokfjfjefnaaGT2
namespace Go.Proofs.Ytehkokfjfjefnaa
open Go Go.Lite Go.RowKit

/-- a child more, its interval not given yet -/
def grown (T : List Nd) (p : Nat) (pd : Nd) : List Nd := (T ++ [(⟨p, [], 0, 0, 0⟩ : Nd)]).set p { pd with ch := pd.ch ++ [T.length] }
def halfRoom (pd : Nd) : Int := (pd.hi - pd.free + 1) / 2
/-- .. and given -/
def added (T : List Nd) (p : Nat) (pd : Nd) : List Nd := giveT (grown T p pd) T.length p ⟨p, [], 0, 0, 0⟩ { pd with ch := pd.ch ++ [T.length] } (halfRoom pd)

section
variable {w : World} {S : Nat → Prop} {g : Nat} {T : List Nd} {d : Int} {K : Value → World → Prop}

theorem tree_AddNo (h : IsT w S g T d) (hT : 0 < T.length) (n : Int) (hn : ¬ (0 ≤ n ∧ n < (T.length : Int))) (hK : K (.tuple #[.int .i64 0, .int .i64 6]) w) :
    Ret Try.prog tree_Tree_Add.id #[.pointer (some ⟨g, 0, none⟩), .int .i64 n] w K :=
  tree_Tree_Add.of (tree_mayNo h hT n hn ⟨_, rfl, Split.yes rfl hK⟩)

/-- up to the room -/
theorem tree_AddRoomOr (h : IsT w S g T d) {p : Nat} {pd : Nd} (hp : T[p]? = some pd) (hsz : T.length ≤ 1000000) (hch : pd.ch.length ≤ 1000000)
    (hf : 0 ≤ pd.free) (hfh : pd.free ≤ pd.hi) (hh : pd.hi ≤ 4611686018427387904)
    (hK1 : pd.free < pd.hi → ∀ w' S', IsT w' S' g (added T p pd) d → Kept S w w' → (∀ k, S' k → S k ∨ w.heap.size ≤ k) → K (.tuple #[.int .i64 T.length, .int .i64 0]) w')
    (hK2 : pd.free = pd.hi → ∀ w' S', IsT w' S' g (grown T p pd) d → Kept S w w' → (∀ k, S' k → S k ∨ w.heap.size ≤ k) →
      Ret Try.prog tree_Tree_deal.id #[.pointer (some ⟨g, 0, none⟩), .int .i64 p] w' fun v w'' => v = .tuple #[] ∧ K (.tuple #[.int .i64 T.length, .int .i64 0]) w'') :
    Ret Try.prog tree_Tree_Add.id #[.pointer (some ⟨g, 0, none⟩), .int .i64 p] w K := by
  have hlt : p < T.length := (List.getElem?_eq_some_iff.1 hp).1
  refine tree_Tree_Add.of (tree_mayYes h hlt ⟨_, rfl, Split.no rfl ?_⟩)
  obtain ⟨b, c, L, h⟩ := h
  obtain ⟨v, hv⟩ := h.at_ hp
  refine h.go (h.go ⟨rfl, ?_⟩)
  intro w10
  obtain ⟨A1, c1, w12, hr1, wr1, b1, S1, L1, h14, hL1, k14, hS1, hS1'⟩ := h.growNode hsz (p : Int) (w10 := w10) rfl
  refine ⟨A1, _, c1, w12, hr1, by rw [add1]; exact wr1, ?_⟩
  intro w14
  have e14 : w14 = w12.setCell ⟨g, 0, none⟩ (.slice A1 (T.length + 1) c1) := by simp only [w14, add1]
  rw [← e14] at h14 k14
  clear_value w14
  intro w15
  have k15 : Kept Nil w14 w15 := (Kept.refl Nil w14).drew
  have h15 := h14.kept k15
  have hv1 := hL1 _ _ hv
  have hlen : (T ++ [(⟨p, [], 0, 0, 0⟩ : Nd)]).length = T.length + 1 := by simp
  have hbd : 0 ≤ (p : Int) ∧ (p : Int) < ((T ++ [(⟨p, [], 0, 0, 0⟩ : Nd)]).length : Int) := by rw [hlen]; exact ⟨by omega, by omega⟩
  obtain ⟨A2, m2, hk⟩ := h15.kid _ _ hv1
  refine h15.go (h15.go ⟨hbd, h15.getC hv1 hk.val ?_⟩)
  intro w22
  have k22 : Kept Nil w15 w22 := (Kept.refl Nil w15).alloc _
  have h22 := h15.kept k22
  obtain ⟨A3, c3, w24, hr3, hn24, wr3, S3, L3, h26, k26, hS3, hS3'⟩ := h15.growKid hv1 hk hch T.length (w22 := w22) rfl
  have hcell := h22.cell hv1 (j := 1) (by omega) (v := v) rfl
  have hvv : v = .slice A2 pd.ch.length m2 := hk.val
  rw [hvv] at hcell
  refine ⟨by rw [add2]; exact hcell, by rw [add1]; exact h22.nodes, by rw [add1]; exact h22.nodes, A3, _, c3, w24, hr3, by rw [add1]; exact hn24, hbd, by rw [add2]; exact wr3, ?_⟩
  intro w26
  have e26 : w26 = w24.setCell ⟨b1, p * 5 + 1, none⟩ (.slice A3 (pd.ch.length + 1) c3) := by simp only [w26, add2, Int.toNat_natCast]
  rw [← e26] at h26 k26
  clear_value w26
  have hset : (T ++ [(⟨p, [], 0, 0, 0⟩ : Nd)]).set p { pd with ch := pd.ch ++ [T.length] } = grown T p pd := rfl
  rw [hset] at h26
  have hgp : (grown T p pd)[p]? = some { pd with ch := pd.ch ++ [T.length] } := by
    unfold grown; rw [List.getElem?_set_self (by simp; omega)]
  have hgn : (grown T p pd)[T.length]? = some ⟨p, [], 0, 0, 0⟩ := by
    unfold grown; rw [List.getElem?_set_ne (by omega)]; simp
  have kw : Kept S w w26 := (k14.trans (k15.mono (S' := S) (fun _ _ h => h.elim)) (fun _ _ h => h)).trans k26 (fun k hk h => by
    rcases hS1' k h with h | h
    · exact h
    · omega)
  have hS13 : ∀ k, S3 k → S k ∨ w.heap.size ≤ k := fun k h => by
    rcases hS3' k h with h | h
    · exact hS1' k h
    · right
      have := k14.size
      have := k15.size
      omega
  refine tree_room ⟨_, _, _, h26⟩ hgp fun w28 k28 => ⟨_, rfl, ?_⟩
  have h28 := h26.kept k28
  have kw28 : Kept S w w28 := kw.trans k28 (fun _ _ h => h.elim)
  simp only []
  rw [wrapU (x := pd.hi - pd.free) (by omega) (by omega)]
  refine Split.dec (fun hpos => ⟨by decide, ?_⟩) (fun hpos => ?_)
  · have hhalf : IntKind.u64.wrap ((IntKind.u64.wrap (pd.hi - pd.free + 1)).tdiv 2) = halfRoom pd := by
      rw [wrapU (x := pd.hi - pd.free + 1) (by omega) (by omega), Int.tdiv_eq_ediv_of_nonneg (by omega), wrapU (by omega) (by omega)]
      rfl
    rw [hhalf]
    refine tree_give ⟨_, _, _, h28⟩ hgn hgp rfl (by omega) hf (by unfold halfRoom; omega) (by unfold halfRoom; simp only; omega) fun w31 h31 k31 => ⟨rfl, ?_⟩
    refine hK1 (by omega) w31 S3 h31 (kw28.trans k31 fun k hk h => ?_) hS13
    rcases hS13 k h with h | h
    · exact h
    · omega
  · exact hK2 (by omega) w28 S3 ⟨_, _, _, h28⟩ kw28 hS13
end
end Go.Proofs.Ytehkokfjfjefnaa
