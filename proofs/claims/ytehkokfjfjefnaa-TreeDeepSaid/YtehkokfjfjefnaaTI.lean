/-
  sound; TreeIntervals: the walk.
-/
import Derived.Test.YtehkokfjfjefnaaTPl
namespace Go.Proofs.Ytehkokfjfjefnaa
open Go Go.Lite Go.RowKit

section
variable {w0 w w' : World} {g h : Nat} {T : List Nd} {P : List Int} {d : Int} {S1 S2 : Nat → Prop} {K : Value → World → Prop}

theorem sound_ok (hT : IsT w S1 g T d) (hW : IsW w S2 h P) (hF : Fine T) (hpp : pars T = P) (hlen : P.length ≤ 100000) (hK : ∀ w', Kept Nil w w' → K (.bool true) w') :
    Ret Try.prog law11_sound.id #[.pointer (some ⟨g, 0, none⟩), .pointer (some ⟨h, 0, none⟩)] w K := by
  have hlT : T.length = P.length := by rw [← hpp, pars_len]
  refine law11_sound.of (law11_sound.loop1 (I := fun s w' => ∃ n : Nat, s = (false, (n : Int)) ∧ n ≤ P.length ∧ Kept Nil w w') (μ := fun s _ => ((P.length : Int) - s.2).toNat) (s := (false, 0)) ⟨0, rfl, Nat.zero_le _, Kept.refl _ _⟩ ?_)
  rintro s w' ⟨n, rfl, hn, kw⟩
  have hT' := hT.same kw
  have hW' := hW.same kw
  obtain ⟨bw, cw, H⟩ := hW'
  refine H.go (Split.dec (fun hlt => ?_) (fun hge => ?_))
  · simp only at hlt
    have hnl : n < P.length := by omega
    obtain ⟨nd, hnd⟩ := get_of_lt (T := T) (i := n) (by omega)
    have hiv := hF.iv n nd hnd
    have hlo := hF.loc n nd hnd
    have i1 := hiv.lo1
    have i2 := hiv.le
    have i3 := hiv.top
    have l2 := hlo.fhi
    have hch : nd.ch = kids P n := by rw [hF.ch n nd hnd, hpp]
    have hkl := kids_len P n
    refine tree_Interval hT' hnd fun w10 k10 => ⟨_, _, _, rfl, Split.no rfl (Split.no (decide_eq_false (by omega)) (Split.no (decide_eq_false (by omega)) (Split.no (decide_eq_false (by omega)) ?_)))⟩
    refine ref_Children (IsW.same ⟨bw, cw, H⟩ k10) (by omega) n fun Ac cc w15 row15 k15 => ⟨_, _, _, rfl, ?_⟩
    have hT15 := (hT'.same k10).same k15
    have kw15 : Kept Nil w w15 := (kw.trans k10 (fun _ _ h => h)).trans k15 (fun _ _ h => h)
    refine law11_sound.loop2 (I := fun s w'' => ∃ i : Nat, s = (false, (i : Int)) ∧ i ≤ (kids P n).length ∧ Kept Nil w15 w'') (μ := fun s _ => (((kids P n).length : Int) - s.2).toNat) (s := (false, 0)) ⟨0, rfl, Nat.zero_le _, Kept.refl _ _⟩ ?_
    rintro s w2 ⟨i, rfl, hi, k2⟩
    refine Split.dec (fun hlt => ?_) (fun hge => ?_)
    · simp only at hlt
      have hil : i < (kids P n).length := by omega
      obtain ⟨x, hx⟩ : ∃ x, (kids P n)[i]? = some x := ⟨_, List.getElem?_eq_getElem hil⟩
      have hxm : x ∈ nd.ch := by rw [hch]; exact List.mem_of_getElem? hx
      have hxl := (hF.toShape.chlt hnd hxm).2
      obtain ⟨xd, hxd⟩ := get_of_lt hxl
      have hsub := hlo.sub x xd hxm hxd
      have hb : 0 ≤ (i : Int) ∧ (i : Int) < ((kids P n).length : Int) := ⟨by omega, by omega⟩
      refine ⟨hb, Row.intAt (Row.keep row15 k2 (fun _ _ h => h)) hx ?_⟩
      refine tree_Interval (hT15.same k2) hxd fun w32 k32 => ⟨_, _, _, rfl, Split.no rfl (Split.no (decide_eq_false (by omega)) (Split.no (decide_eq_false (by omega)) ?_))⟩
      have k32' := k2.trans k32 (fun _ _ h => h)
      refine law11_sound.loop3 (I := fun s w'' => ∃ k : Nat, s = (false, (k : Int)) ∧ k ≤ i ∧ Kept Nil w15 w'') (μ := fun s _ => ((i : Int) - s.2).toNat) (s := (false, 0)) ⟨0, rfl, Nat.zero_le _, k32'⟩ ?_
      rintro s w3 ⟨k, rfl, hk, k3⟩
      refine Split.dec (fun hlt => ?_) (fun hge => ?_)
      · simp only at hlt
        have hki : k < i := by omega
        obtain ⟨y, hy⟩ : ∃ y, (kids P n)[k]? = some y := ⟨_, List.getElem?_eq_getElem (by omega)⟩
        have hym : y ∈ nd.ch := by rw [hch]; exact List.mem_of_getElem? hy
        have hyl := (hF.toShape.chlt hnd hym).2
        obtain ⟨yd, hyd⟩ := get_of_lt hyl
        have hyx : y < x := by
          obtain ⟨h1, e1⟩ := List.getElem?_eq_some_iff.1 hx
          obtain ⟨h2, e2⟩ := List.getElem?_eq_some_iff.1 hy
          rw [← e1, ← e2]
          exact List.pairwise_iff_getElem.1 (kids_sorted P n) k i h2 h1 hki
        have hord := hlo.ord y x yd xd hym hxm hyx hyd hxd
        refine ⟨⟨by simp only; omega, by simp only; omega⟩, Row.intAt (Row.keep row15 k3 (fun _ _ h => h)) hy ?_⟩
        refine tree_Interval (hT15.same k3) hyd fun w58 k58 => ⟨_, _, _, rfl, Split.no rfl ?_⟩
        have k58' := k3.trans k58 (fun _ _ h => h)
        simp only
        rw [wrapI (x := (k : Int) + 1) (by omega) (by omega)]
        have done : roundQ (law11_sound.e3 (some ⟨g, 0, none⟩) (some ⟨h, 0, none⟩) (n : Int) nd.lo nd.hi Ac (kids P n).length cc (i : Int) xd.lo xd.hi) (fun s w'' => ∃ k : Nat, s = (false, (k : Int)) ∧ k ≤ i ∧ Kept Nil w15 w'') (fun s _ => ((i : Int) - s.2).toNat) (false, (k : Int)) w3 (law11_sound.q3 (roundQ (law11_sound.e2 (some ⟨g, 0, none⟩) (some ⟨h, 0, none⟩) (n : Int) nd.lo nd.hi Ac (kids P n).length cc) (fun s w'' => ∃ i : Nat, s = (false, (i : Int)) ∧ i ≤ (kids P n).length ∧ Kept Nil w15 w'') (fun s _ => (((kids P n).length : Int) - s.2).toNat) (false, (i : Int)) w2 (law11_sound.q2 (roundQ (law11_sound.e1 (some ⟨g, 0, none⟩) (some ⟨h, 0, none⟩)) (fun s w' => ∃ n : Nat, s = (false, (n : Int)) ∧ n ≤ P.length ∧ Kept Nil w w') (fun s _ => ((P.length : Int) - s.2).toNat) (false, (n : Int)) w' (law11_sound.q1 K))))) .normal
            (law11_sound.e3 (some ⟨g, 0, none⟩) (some ⟨h, 0, none⟩) (n : Int) nd.lo nd.hi Ac (kids P n).length cc (i : Int) xd.lo xd.hi (false, (k : Int) + 1)) w58 :=
          ⟨(false, (k : Int) + 1), rfl, ⟨k + 1, rfl, hki, k58'⟩, by simp only; omega⟩
        exact Split.dec (fun _ => Split.no (decide_eq_false (by omega)) done) (fun _ => done)
      · simp only at hge
        rw [roundQ_exit, law11_sound.x3_4]
        unfold law11_sound.X3_4
        rw [wrapI (x := (i : Int) + 1) (by omega) (by omega)]
        exact ⟨(false, (i : Int) + 1), rfl, ⟨i + 1, rfl, hil, k3⟩, by simp only; omega⟩
    · simp only at hge
      rw [roundQ_exit, law11_sound.x2_2]
      unfold law11_sound.X2_2
      rw [wrapI (x := (n : Int) + 1) (by omega) (by omega)]
      exact ⟨(false, (n : Int) + 1), rfl, ⟨n + 1, rfl, hnl, kw15.trans k2 (fun _ _ h => h)⟩, by simp only; omega⟩
  · rw [roundQ_exit, law11_sound.x1_0]
    exact hK w' kw

theorem Ins.take {A : Option Addr} {n : Nat} {l : List Int} (hl : Ins w A n l) {k c : Nat} (hk : k ≤ n) : Ins w (if c = 0 then A else A.map (·.add (0 * 1))) k (l.take k) := by
  have hA : (if c = 0 then A else A.map (·.add (0 * 1))) = A := by
    split
    · rfl
    · cases A with
      | none => rfl
      | some a => simp [add_zero]
  rw [hA]
  refine ⟨by rw [List.length_take, hl.len]; omega, fun i z hi => ?_⟩
  rw [List.getElem?_take] at hi
  split at hi
  · exact hl.at_ i z hi
  · cases hi

/-- intervals say who stands under whom -/
theorem intervals_loops {A : Option Addr} {n c : Nat} {i : Int} {Q : Post} (b : Both w0 w g h T P d S1 S2) (hlen : P.length ≤ 100000) (hi : 0 ≤ i ∧ i ≤ 1000)
    (hex : ∀ w', Kept Nil w w' → Q .normal [(0, .slice A n c), (2, .bool false), (3, .int .i64 (i + 1 + i / 8))] w') :
    Holds none [] Try.prog 119 (.loop (lB (bB (sR (sR (sR (bB (sL (sR (lB (bB (sR (sL (sR (sR (body Try.f3)))))))))))))))) (law11_TreeIntervals.q2 Q) (law11_TreeIntervals.e2 A n c i (some ⟨g, 0, none⟩) (some ⟨h, 0, none⟩) (false, 0)) w := by
  refine law11_TreeIntervals.loop2 (I := fun s w' => ∃ x : Nat, s = (false, (x : Int)) ∧ x ≤ P.length ∧ Kept Nil w w') (μ := fun s _ => ((P.length : Int) - s.2).toNat) (s := (false, 0)) ⟨0, rfl, Nat.zero_le _, Kept.refl _ _⟩ ?_
  rintro s w1 ⟨x, rfl, hx, k1⟩
  have b1 := b.same k1
  have hlT := b1.len
  obtain ⟨bw, cw, H⟩ := b1.2.1
  refine H.go (Split.dec (fun hlt => ?_) (fun hge => ?_))
  · simp only at hlt
    have hxl : x < P.length := by omega
    clear H
    refine law11_TreeIntervals.loop3 (I := fun s w' => ∃ y : Nat, s = (false, (y : Int)) ∧ y ≤ P.length ∧ Kept Nil w w') (μ := fun s _ => ((P.length : Int) - s.2).toNat) (s := (false, 0)) ⟨0, rfl, Nat.zero_le _, k1⟩ ?_
    rintro s w2 ⟨y, rfl, hy, k2⟩
    have b2 := b.same k2
    obtain ⟨bw2, cw2, H⟩ := b2.2.1
    refine H.go (Split.dec (fun hlt => ?_) (fun hge => ?_))
    · simp only at hlt
      have hyl : y < P.length := by omega
      have hF : Fine T := b.2.2.2.2.2.2.1
      have hpp : pars T = P := b.2.2.2.2.2.2.2.1
      obtain ⟨xd, hxd⟩ := get_of_lt (T := T) (i := x) (by omega)
      obtain ⟨yd, hyd⟩ := get_of_lt (T := T) (i := y) (by omega)
      refine tree_Interval b2.1 hxd fun w63 k63 => ⟨_, _, _, rfl, tree_Interval (b2.1.same k63) hyd fun w68 k68 => ⟨_, _, _, rfl, ?_⟩⟩
      refine ref_Under ((b2.2.1.same k63).same k68) b2.par hxl hyl fun r hr => ⟨_, rfl, ?_⟩
      have he := under_eq hF hxd hyd (by rw [hpp]; exact hr)
      have k3 := (k2.trans k63 (fun _ _ h => h)).trans k68 (fun _ _ h => h)
      simp only
      rw [wrapI (x := (y : Int) + 1) (by omega) (by omega)]
      refine Split.dec (fun h1 => Split.no ?_ ?_) (fun h1 => Split.no ?_ ?_)
      · rw [← he]; simp [h1]
      · exact ⟨(false, (y : Int) + 1), rfl, ⟨y + 1, rfl, hyl, k3⟩, by simp only; omega⟩
      · rw [← he]; simp [h1]
      · exact ⟨(false, (y : Int) + 1), rfl, ⟨y + 1, rfl, hyl, k3⟩, by simp only; omega⟩
    · rw [roundQ_exit, law11_TreeIntervals.x3_4]
      unfold law11_TreeIntervals.X3_4
      rw [wrapI (x := (x : Int) + 1) (by omega) (by omega)]
      exact ⟨(false, (x : Int) + 1), rfl, ⟨x + 1, rfl, hxl, k2⟩, by simp only; omega⟩
  · rw [roundQ_exit, law11_TreeIntervals.x2_2]
    refine ⟨by decide, ?_⟩
    rw [wrapI (x := i + 1) (by omega) (by omega), Int.tdiv_eq_ediv_of_nonneg hi.1, wrapI (x := i / 8) (by omega) (by omega), wrapI (by omega) (by omega)]
    exact hex w1 k1

theorem law11_TreeIntervals {A : Option Addr} {n c : Nat} {l : List Int} (hl : Ins w A n l) (hnc : n ≤ c) (hK : ∀ w', Kept Nil w w' → K (.bool true) w') : Ret Try.prog law11_TreeIntervals.id #[.slice A n c] w K := by
  refine law11_TreeIntervals.of (Split.dec (fun hgt => law11_known fun w3 k3 => ⟨_, rfl, hK w3 k3⟩) (fun hle => ?_))
  refine law11_TreeIntervals.loop1 (I := fun s w' => ∃ i : Nat, s = (false, (i : Int)) ∧ i ≤ 200 ∧ Kept Nil w w') (μ := fun s _ => ((n : Int) + 1 - s.2).toNat) (s := (false, 0)) ⟨0, rfl, Nat.zero_le _, Kept.refl _ _⟩ ?_
  rintro s w' ⟨i, rfl, hi, kw⟩
  refine Split.dec (fun hlt => ?_) (fun hge => ?_)
  · simp only at hlt
    refine ⟨⟨by simp only; omega, by simp only; omega⟩, ?_⟩
    refine begin_ok ((hl.keep kw).take (k := i) (by omega)) (by omega) fun w9 g h T P d S1 S2 b9 hPl => ⟨_, _, _, rfl, ?_⟩
    intro w13
    have b13 := b9.same (w' := w13) (Kept.refl Nil w9).drew
    clear_value w13
    clear b9
    refine Split.no rfl ?_
    refine sound_ok b13.1 b13.2.1 b13.2.2.2.2.2.2.1 b13.2.2.2.2.2.2.2.1 (by omega) fun w15 k15 => ⟨_, rfl, Split.no rfl ?_⟩
    have b15 := b13.same k15
    have hd := b15.2.2.2.2.2.2.2.2
    have hpos := b15.pos
    obtain ⟨bw, cw, H⟩ := b15.2.1
    refine tree_Dealt b15.1 ⟨_, rfl, Split.no (decide_eq_false (by omega)) (H.go (tree_Dealt b15.1 ⟨_, rfl, by rw [add1]; exact H.nodes, Split.no (decide_eq_false ?_) ?_⟩))⟩
    · rw [wrapI (by omega) (by omega)]; omega
    · refine intervals_loops b15 (by omega) ⟨by omega, by omega⟩ fun w3 k3 => ?_
      refine ⟨(false, (i : Int) + 1 + (i : Int) / 8), rfl, ⟨i + 1 + i / 8, by simp only [Prod.mk.injEq, true_and]; omega, by omega, ?_⟩, by simp only; omega⟩
      exact (kw.trans b15.2.2.2.2.2.1 (fun _ _ h => h)).trans k3 (fun _ _ h => h)
  · rw [roundQ_exit, law11_TreeIntervals.x1_0]
    refine tree_New fun w29 g h29 k29 => ⟨_, rfl, tree_IntervalNo h29 (by decide) 1 (by decide) ⟨_, _, _, rfl, Split.yes rfl (law11_known fun w3 k3 => ⟨_, rfl, hK w3 ?_⟩)⟩⟩
    exact (kw.trans k29 (fun _ _ h => h)).trans k3 (fun _ _ h => h)
end
end Go.Proofs.Ytehkokfjfjefnaa
