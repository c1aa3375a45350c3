/-
  TreePlays: the walk.
-/
import Derived.Test.YtehkokfjfjefnaaTB
namespace Go.Proofs.Ytehkokfjfjefnaa
open Go Go.Lite Go.RowKit

section
variable {w0 w w' : World} {g h : Nat} {T : List Nd} {P : List Int} {d : Int} {S1 S2 : Nat → Prop} {K : Value → World → Prop}
theorem Row.intAt {B n c : Nat} {A : Option Addr} {l : List Nat} (hr : Row w B T_int 1 A n c (ints l)) {i x : Nat} (hi : l[i]? = some x) {k : Int → Prop} (hk : k x) :
    Is A fun a => ∃ t, w.cell? (a.add (i * 1)) = some (.int .i64 t) ∧ k t := by
  have hlen := Row.len hr
  rw [ints_len] at hlen
  have hlt := (List.getElem?_eq_some_iff.1 hi).1
  obtain ⟨b', rfl⟩ := Row.some hr (by omega)
  exact ⟨_, by rw [add1, Nat.mul_one]; exact Row.cell hr (ints_get hi), hk⟩
theorem under_eq (hF : Fine T) {a b : Nat} {ad bd : Nd} (ha : T[a]? = some ad) (hb : T[b]? = some bd) {r : Bool} (hr : r = true ↔ Und (pars T) a b) : decide (bd.lo ≤ ad.lo ∧ ad.hi ≤ bd.hi) = r := by
  rw [Bool.eq_iff_iff, hr, decide_eq_true_iff]
  exact hF.toGood.under ha hb

theorem plays_loops {m n c c' B B' : Nat} {A A' : Option Addr} {Q : Post} {r : Bool} (b : Both w0 w g h T P d S1 S2) (hm : m < P.length) (hlen : P.length ≤ 100000)
    (rc : Row w B T_int 1 A n c (ints (kids P m))) (rx : Row w B' T_int 1 A' n c' (ints (kids P m)))
    (hex : ∀ w', Kept Nil w w' → Q .normal [(2, .bool r), (3, .pointer (some ⟨g, 0, none⟩)), (4, .pointer (some ⟨h, 0, none⟩)), (6, .int .i64 (IntKind.i64.wrap ((m : Int) + 1)))] w') :
    Holds none [] Try.prog 194 (.loop (lB (bB (sR (sL (sR (sR (sR (sR (sR (sR (sR (sR (bB (sL (sR (lB (bB (sR (sL (sR (sR (sR (sR (body Try.f6))))))))))))))))))))))))) (law11_TreePlays.q2 Q) (law11_TreePlays.e2 (some ⟨g, 0, none⟩) (some ⟨h, 0, none⟩) m A n c A' n c' (r, 0)) w := by
  have hn : n = (kids P m).length := by have := Row.len rc; rw [ints_len] at this; omega
  have hkl := kids_len P m
  refine law11_TreePlays.loop2 (I := fun s w' => ∃ i : Nat, s = (r, (i : Int)) ∧ i ≤ n ∧ Kept Nil w w') (μ := fun s _ => ((n : Int) - s.2).toNat) (s := (r, 0)) ⟨0, rfl, Nat.zero_le _, Kept.refl _ _⟩ ?_
  rintro s w' ⟨i, rfl, hi, kw⟩
  refine Split.dec (fun hlt => ?_) (fun hge => ?_)
  · simp only at hlt
    have hil : i < n := by omega
    intro w105
    have k105 : Kept Nil w w105 := kw.drew
    clear_value w105
    obtain ⟨x, hx⟩ : ∃ x, (kids P m)[i]? = some x := ⟨_, List.getElem?_eq_getElem (by omega)⟩
    have hb : 0 ≤ (i : Int) ∧ (i : Int) < (n : Int) := ⟨by omega, by omega⟩
    refine ⟨hb, Row.intAt (Row.keep rc k105 (fun _ _ h => h)) hx ⟨hb, Row.intAt (Row.keep rx k105 (fun _ _ h => h)) hx ?_⟩⟩
    refine Split.no (by simp) ?_
    simp only
    rw [wrapI (x := (i : Int) + 1) (by omega) (by omega)]
    exact ⟨(r, ((i + 1 : Nat) : Int)), rfl, ⟨i + 1, rfl, hil, k105⟩, by simp only; omega⟩
  · simp only at hge
    rw [roundQ_exit, law11_TreePlays.x2_2]
    unfold law11_TreePlays.X2_2
    have b' := b.same kw
    refine law11_TreePlays.loop3 (I := fun s w'' => ∃ j : Nat, s = (r, (j : Int)) ∧ j ≤ P.length ∧ Kept Nil w' w'') (μ := fun s _ => ((P.length : Int) - s.2).toNat) (s := (r, 0)) ⟨0, rfl, Nat.zero_le _, Kept.refl _ _⟩ ?_
    rintro s w2 ⟨j, rfl, hj, k2⟩
    have b2 := b'.same k2
    have hlT := b2.len
    have hP := b2.par
    obtain ⟨hT, hW, _, _, _, _, hF, hpp, _⟩ := b2
    obtain ⟨bw, cw, H⟩ := hW
    refine H.go (Split.dec (fun hlt => ?_) (fun hge => ?_))
    · simp only at hlt
      have hjl : j < P.length := by omega
      obtain ⟨jd, hjd⟩ := get_of_lt (T := T) (i := j) (by omega)
      obtain ⟨md, hmd⟩ := get_of_lt (T := T) (i := m) (by omega)
      refine tree_Under hT hjd hmd fun w3 k3 => ⟨_, rfl, ?_⟩
      refine ref_Under (IsW.same ⟨bw, cw, H⟩ k3) hP hjl hm fun q hq => ⟨_, rfl, ?_⟩
      refine Split.no ?_ ?_
      · rw [under_eq hF hjd hmd (by rw [hpp]; exact hq)]; simp
      · simp only
        rw [wrapI (x := (j : Int) + 1) (by omega) (by omega)]
        exact ⟨(r, ((j + 1 : Nat) : Int)), rfl, ⟨j + 1, rfl, hjl, k2.trans k3 (fun _ _ h => h)⟩, by simp only; omega⟩
    · simp only at hge
      rw [roundQ_exit, law11_TreePlays.x3_4]
      exact hex w2 (kw.trans k2 (fun _ _ h => h))

theorem law11_TreePlays {A : Option Addr} {n c : Nat} {l : List Int} (hl : Ins w A n l) (hK : ∀ w', Kept Nil w w' → K (.bool true) w') : Ret Try.prog law11_TreePlays.id #[.slice A n c] w K := by
  refine law11_TreePlays.of (Split.dec (fun hgt => law11_known fun w3 k3 => ⟨_, rfl, hK w3 k3⟩) (fun hle => ?_))
  refine begin_ok hl (by omega) fun w6 g h T P d S1 S2 b6 hPl => ⟨_, _, _, rfl, ?_⟩
  intro w10
  have b10 := b6.same (w' := w10) (Kept.refl Nil w6).drew
  clear_value w10
  clear b6
  have hlT := b10.len
  have hP := b10.par
  have hpos := b10.pos
  refine Split.no rfl ?_
  obtain ⟨bw, cw, H⟩ := b10.2.1
  refine H.go (tree_Len b10.1 ⟨_, rfl, by rw [add1]; exact H.nodes, Split.no (by simp; omega) ?_⟩)
  clear H
  refine law11_TreePlays.loop1 (I := fun s w' => ∃ i : Nat, s = (false, (i : Int) - 1) ∧ i ≤ P.length + 2 ∧ Kept Nil w10 w') (μ := fun s _ => ((P.length : Int) + 1 - s.2).toNat) (s := (false, -1)) ⟨0, rfl, by omega, Kept.refl _ _⟩ ?_
  rintro s w' ⟨i, rfl, hi, kw⟩
  have b := b10.same kw
  have leaf : ∀ w2, Kept Nil w' w2 → i ≤ P.length + 1 → (roundQ (law11_TreePlays.e1 (some ⟨g, 0, none⟩) (some ⟨h, 0, none⟩)) (fun s w' => ∃ i : Nat, s = (false, (i : Int) - 1) ∧ i ≤ P.length + 2 ∧ Kept Nil w10 w') (fun s _ => ((P.length : Int) + 1 - s.2).toNat) (false, (i : Int) - 1) w' (law11_TreePlays.q1 K)) .normal
      [(2, .bool false), (3, .pointer (some ⟨g, 0, none⟩)), (4, .pointer (some ⟨h, 0, none⟩)), (6, .int .i64 (IntKind.i64.wrap ((i : Int) - 1 + 1)))] w2 := by
    intro w2 k2 hil
    rw [wrapI (by omega) (by omega)]
    exact ⟨(false, (i : Int) - 1 + 1), rfl, ⟨i + 1, by simp only [Prod.mk.injEq, true_and]; omega, by omega, kw.trans k2 (fun _ _ h => h)⟩, by simp only; omega⟩
  obtain ⟨bw, cw, H⟩ := b.2.1
  refine H.go (Split.dec (fun hlt => ?_) (fun hge => ?_))
  · simp only at hlt
    have hT := b.1
    have hF : Fine T := b.2.2.2.2.2.2.1
    have hpp : pars T = P := b.2.2.2.2.2.2.2.1
    by_cases hin : 0 ≤ (i : Int) - 1 ∧ (i : Int) - 1 < (P.length : Int)
    · -- one that is there
      obtain ⟨m, hmi⟩ : ∃ m : Nat, (i : Int) - 1 = m := ⟨i - 1, by omega⟩
      have hm : m < P.length := by omega
      obtain ⟨md, hmd⟩ := get_of_lt (T := T) (i := m) (by omega)
      have hch : md.ch = kids P m := by rw [hF.ch m md hmd, hpp]
      have hkl := kids_len P m
      have hpar : P[m]? = some md.parent := by rw [← hpp]; exact pars_get hmd
      simp only [hmi]
      rw [hmi] at leaf
      have tail : ∀ (w2 : World), Kept Nil w' w2 → Both w w2 g h T P d S1 S2 := fun w2 k2 => b.same k2
      by_cases h0 : m = 0
      · subst h0
        refine tree_ParentNo hT (by omega) _ (by omega) ⟨_, _, rfl, ?_⟩
        refine tree_Children hT hmd (by rw [hch]; omega) fun Ac cc w27 row27 k27 => ⟨_, _, _, _, rfl, ?_⟩
        have b27 := b.same k27
        refine tree_Depth b27.1 (by rw [hpp]; exact hP) (by omega) (by omega) fun e he => ⟨_, _, rfl, ?_⟩
        refine tree_Size b27.1 (by rw [hpp]; exact hP) (by omega) (by omega) fun w35 k35 => ⟨_, _, rfl, ?_⟩
        have b35 := b27.same k35
        refine ref_In b35.2.1 _ ⟨_, rfl, Split.no (by rw [decide_eq_true ⟨by omega, by omega⟩]; rfl) ?_⟩
        refine Split.yes rfl (Split.no rfl (Split.no rfl (Split.no rfl (Split.no rfl (Split.no rfl ?_)))))
        refine ref_Depth b35.2.1 hP (by omega) hm fun e' he' => ⟨_, rfl, Split.no (by rw [hpp] at he; simp [Dep.one he he']) ?_⟩
        refine ref_Size b35.2.1 hP (by omega) hm ⟨_, rfl, Split.no (by rw [hpp]; simp) ?_⟩
        refine ref_Children b35.2.1 (by omega) 0 fun Ax cx w58 row58 k58 => ⟨_, _, _, rfl, Split.no (by rw [hch]; simp) ?_⟩
        have row27' := Row.keep (Row.keep row27 k35 (fun _ _ h => h)) k58 (fun _ _ h => h)
        rw [hch] at row27' ⊢
        exact plays_loops (m := 0) (r := false) (b35.same k58) hm (by omega) row27' row58 fun w3 k3 => leaf w3 (((k27.trans k35 (fun _ _ h => h)).trans k58 (fun _ _ h => h)).trans k3 (fun _ _ h => h)) (by omega)
      · refine tree_Parent hT hmd (by omega) ⟨_, _, rfl, ?_⟩
        refine tree_Children hT hmd (by rw [hch]; omega) fun Ac cc w27 row27 k27 => ⟨_, _, _, _, rfl, ?_⟩
        have b27 := b.same k27
        refine tree_Depth b27.1 (by rw [hpp]; exact hP) (by omega) (by omega) fun e he => ⟨_, _, rfl, ?_⟩
        refine tree_Size b27.1 (by rw [hpp]; exact hP) (by omega) (by omega) fun w35 k35 => ⟨_, _, rfl, ?_⟩
        have b35 := b27.same k35
        refine ref_In b35.2.1 _ ⟨_, rfl, Split.no (by rw [decide_eq_true ⟨by omega, by omega⟩]; rfl) ?_⟩
        obtain ⟨bw2, cw2, H2⟩ := b35.2.1
        refine Split.no (by simp; omega) (Split.yes (decide_eq_true (by omega)) (Split.no rfl (H2.go ⟨⟨by omega, by omega⟩, H2.getP hpar (Split.no (by simp) (Split.no rfl (Split.no rfl (Split.no rfl ?_))))⟩)))
        refine ref_Depth b35.2.1 hP (by omega) hm fun e' he' => ⟨_, rfl, Split.no (by rw [hpp] at he; simp [Dep.one he he']) ?_⟩
        refine ref_Size b35.2.1 hP (by omega) hm ⟨_, rfl, Split.no (by rw [hpp]; simp) ?_⟩
        refine ref_Children b35.2.1 (by omega) m fun Ax cx w58 row58 k58 => ⟨_, _, _, rfl, Split.no (by rw [hch]; simp) ?_⟩
        have row27' := Row.keep (Row.keep row27 k35 (fun _ _ h => h)) k58 (fun _ _ h => h)
        rw [hch] at row27' ⊢
        exact plays_loops (m := m) (r := false) (b35.same k58) hm (by omega) row27' row58 fun w3 k3 => leaf w3 (((k27.trans k35 (fun _ _ h => h)).trans k58 (fun _ _ h => h)).trans k3 (fun _ _ h => h)) (by omega)
    · -- one that is not
      have hinT : ¬ (0 ≤ (i : Int) - 1 ∧ (i : Int) - 1 < (T.length : Int)) := by rw [hlT]; exact hin
      refine tree_ParentNo hT (by omega) _ (by omega) ⟨_, _, rfl, tree_ChildrenNo hT (by omega) _ hinT ⟨_, _, _, _, rfl, tree_DepthNo hT (by omega) _ hinT ⟨_, _, rfl, tree_SizeNo hT (by omega) _ hinT ⟨_, _, rfl, ref_In b.2.1 _ ⟨_, rfl, ?_⟩⟩⟩⟩⟩
      refine Split.yes (by rw [decide_eq_false hin]; rfl) (Split.no rfl (Split.no rfl (Split.no rfl (Split.no rfl ?_))))
      refine tree_UnderNo hT _ _ (.inl hinT) fun w42 k42 => ⟨_, rfl, Split.no rfl (tree_UnderNo (hT.same k42) _ _ (.inr hinT) fun w45 k45 => ⟨_, rfl, Split.no rfl ?_⟩)⟩
      exact leaf w45 (k42.trans k45 (fun _ _ h => h)) (by omega)
  · rw [roundQ_exit, law11_TreePlays.x1_0]
    refine law11_known fun w3 k3 => ⟨_, rfl, hK w3 ?_⟩
    exact (b.2.2.2.2.2.1).trans k3 (fun _ _ h => h)
end
end Go.Proofs.Ytehkokfjfjefnaa
