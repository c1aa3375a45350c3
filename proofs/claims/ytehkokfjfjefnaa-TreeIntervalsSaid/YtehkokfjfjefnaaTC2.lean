/-
  What give and Add (where there is room) do.
-/
import Derived.Test.YtehkokfjfjefnaaTC1
namespace Go.Proofs.Ytehkokfjfjefnaa
open Go Go.Lite Go.RowKit

theorem wrapU {x : Int} (h0 : 0 ≤ x) (h1 : x < 18446744073709551616) : IntKind.u64.wrap x = x := by
  simp only [IntKind.wrap, IntKind.bits, IntKind.signed]
  simp
  omega
theorem wrapI {x : Int} (h0 : -9223372036854775808 ≤ x) (h1 : x < 9223372036854775808) : IntKind.i64.wrap x = x := by
  simp only [IntKind.wrap, IntKind.bits, IntKind.signed]
  simp
  omega

/-- a node's interval is given -/
def giveT (T : List Nd) (n p : Nat) (nd pd : Nd) (many : Int) : List Nd :=
  (T.set n { nd with lo := pd.free, hi := pd.free + many - 1, free := pd.free }).set p { pd with free := pd.free + many }

section
variable {w : World} {S : Nat → Prop} {g : Nat} {T : List Nd} {d : Int} {K : Value → World → Prop}

theorem get_set_self {α : Type} {L : List α} {i : Nat} {x y : α} (h : L[i]? = some x) : (L.set i y)[i]? = some y := by
  rw [List.getElem?_set_self (List.getElem?_eq_some_iff.1 h).1]
theorem get_set_ne {α : Type} {L : List α} {i j : Nat} {x y : α} (h : L[j]? = some x) (hne : i ≠ j) : (L.set i y)[j]? = some x := by
  rw [List.getElem?_set_ne hne]; exact h

theorem tree_giveV {b c : Nat} {L : List (Nd × Value)} (h : TV w S g T d b c L) {n p : Nat} {nd pd : Nd} {many : Int} (hn : T[n]? = some nd) (hp : T[p]? = some pd) (hnp : nd.parent = p) (hne : n ≠ p)
    (hf : 0 ≤ pd.free) (hm : 1 ≤ many) (hfm : pd.free + many < 18446744073709551616)
    (hK : ∀ w' L', TV w' S g (giveT T n p nd pd many) d b c L' → Kept (fun k => k = b) w w' → K (.tuple #[]) w') :
    Ret Try.prog tree_Tree_give.id #[.pointer (some ⟨g, 0, none⟩), .int .i64 n, .int .u64 many] w K := by
  have hnl : n < T.length := (List.getElem?_eq_some_iff.1 hn).1
  have hpl : p < T.length := (List.getElem?_eq_some_iff.1 hp).1
  obtain ⟨v, hv⟩ := h.at_ hn
  obtain ⟨u, hu⟩ := h.at_ hp
  have hbn : 0 ≤ (n : Int) ∧ (n : Int) < (T.length : Int) := ⟨by omega, by omega⟩
  have hbp : 0 ≤ nd.parent ∧ nd.parent < (T.length : Int) := by rw [hnp]; exact ⟨by omega, by omega⟩
  refine tree_Tree_give.of (h.go ⟨hbn, Is.mk rfl ?_⟩)
  intro w7
  have k7 : Kept (fun k => k = b) w w7 := (Kept.refl _ w).drew
  have h7 : TV w7 S g T d b c L := h.kept (Kept.refl Nil w).drew
  refine h7.go (h7.getP hv ⟨hbp, Is.mk rfl ?_⟩)
  rw [hnp]
  refine h7.getFree hu ?_
  -- lo
  obtain ⟨wr1, h13⟩ := h7.setNum hv (j := 2) (by omega) (u := .int .u64 pd.free) (nd' := { nd with lo := pd.free }) rfl rfl
  have kS : ∀ {w w' : World}, Kept (fun k => k = b) w w' → ∀ (j : Nat) (u : Value), Kept (fun k => k = b) w (w'.setCell ⟨b, j, none⟩ u) := fun k j u => k.setCell (fun _ => rfl) u
  have v1 : (L.set n ({ nd with lo := pd.free }, v))[n]? = some ({ nd with lo := pd.free }, v) := get_set_self hv
  refine ⟨by rw [add2]; exact wr1, ?_⟩
  intro w13
  have e13 : w13 = w7.setCell ⟨b, n * 5 + 2, none⟩ (.int .u64 pd.free) := by simp only [w13, add2, Int.toNat_natCast]
  have k13 : Kept (fun k => k = b) w w13 := by rw [e13]; exact kS k7 _ _
  rw [← e13] at h13
  clear_value w13
  refine h13.getLo v1 ?_
  obtain ⟨wr2, h15⟩ := h13.setNum v1 (j := 3) (by omega) (u := .int .u64 (IntKind.u64.wrap (IntKind.u64.wrap (pd.free + many) - 1))) (nd' := { nd with lo := pd.free, hi := pd.free + many - 1 }) (by rw [wrapU (x := pd.free + many) (by omega) (by omega), wrapU (by omega) (by omega)]; rfl) rfl
  refine ⟨by rw [add2]; exact wr2, ?_⟩
  intro w15
  have e15 : w15 = w13.setCell ⟨b, n * 5 + 3, none⟩ (.int .u64 (IntKind.u64.wrap (IntKind.u64.wrap (pd.free + many) - 1))) := by simp only [w15, add2, Int.toNat_natCast]
  have k15 : Kept (fun k => k = b) w w15 := by rw [e15]; exact kS k13 _ _
  rw [← e15] at h15
  clear_value w15
  rw [List.set_set, List.set_set] at h15
  have v2 : (L.set n ({ nd with lo := pd.free, hi := pd.free + many - 1 }, v))[n]? = some ({ nd with lo := pd.free, hi := pd.free + many - 1 }, v) := get_set_self hv
  refine h15.getLo v2 ?_
  obtain ⟨wr3, h17⟩ := h15.setNum v2 (j := 4) (by omega) (u := .int .u64 pd.free) (nd' := { nd with lo := pd.free, hi := pd.free + many - 1, free := pd.free }) rfl rfl
  refine ⟨by rw [add2]; exact wr3, ?_⟩
  intro w17
  have e17 : w17 = w15.setCell ⟨b, n * 5 + 4, none⟩ (.int .u64 pd.free) := by simp only [w17, add2, Int.toNat_natCast]
  have k17 : Kept (fun k => k = b) w w17 := by rw [e17]; exact kS k15 _ _
  rw [← e17] at h17
  clear_value w17
  rw [List.set_set, List.set_set] at h17
  have u3 : (L.set n ({ nd with lo := pd.free, hi := pd.free + many - 1, free := pd.free }, v))[p]? = some (pd, u) := get_set_ne hu hne
  refine h17.getFree u3 ?_
  obtain ⟨wr4, h19⟩ := h17.setNum u3 (j := 4) (by omega) (u := .int .u64 (IntKind.u64.wrap (pd.free + many))) (nd' := { pd with free := pd.free + many }) (by rw [wrapU (by omega) (by omega)]; rfl) rfl
  refine ⟨by rw [add2]; exact wr4, ?_⟩
  intro w19
  have e19 : w19 = w17.setCell ⟨b, p * 5 + 4, none⟩ (.int .u64 (IntKind.u64.wrap (pd.free + many))) := by simp only [w19, add2, Int.toNat_natCast]
  exact hK w19 _ (by rw [e19]; exact h19) (by rw [e19]; exact kS k17 _ _)
theorem tree_give (h : IsT w S g T d) {n p : Nat} {nd pd : Nd} {many : Int} (hn : T[n]? = some nd) (hp : T[p]? = some pd) (hnp : nd.parent = p) (hne : n ≠ p)
    (hf : 0 ≤ pd.free) (hm : 1 ≤ many) (hfm : pd.free + many < 18446744073709551616)
    (hK : ∀ w', IsT w' S g (giveT T n p nd pd many) d → Kept S w w' → K (.tuple #[]) w') :
    Ret Try.prog tree_Tree_give.id #[.pointer (some ⟨g, 0, none⟩), .int .i64 n, .int .u64 many] w K := by
  obtain ⟨b, c, L, h⟩ := h
  exact tree_giveV h hn hp hnp hne hf hm hfm fun w' L' h' k' => hK w' ⟨b, c, L', h'⟩ (k'.mono fun k _ e => by rw [e]; exact h.footB)
end
end Go.Proofs.Ytehkokfjfjefnaa
