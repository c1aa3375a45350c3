/-
  TreeApart: the walk.
-/
import Derived.Test.YtehkokfjfjefnaaTDp
namespace Go.Proofs.Ytehkokfjfjefnaa
open Go Go.Lite Go.RowKit

theorem rep_succ (P : List Int) (i : Nat) (x : Int) : P ++ List.replicate (i + 1) x = (P ++ List.replicate i x) ++ [x] := by
  rw [List.replicate_succ', ← List.append_assoc]

section
variable {w w' : World} {K : Value → World → Prop}

theorem law11_TreeApart {A : Option Addr} {n c : Nat} {l : List Int} (a b : Int) (hl : Ins w A n l) (hK : ∀ w', Kept Nil w w' → K (.bool true) w') :
    Ret Try.prog law11_TreeApart.id #[.slice A n c, .int .i64 a, .int .i64 b] w K := by
  have kn : Ret Try.prog law11_known.id #[] w fun v w' => ∃ t : Bool, v = .bool t ∧ K (.bool t) w' := law11_known fun w3 k3 => ⟨_, rfl, hK w3 k3⟩
  refine law11_TreeApart.of (Split.dec (fun _ => kn) (fun h1 => Split.dec (fun _ => kn) (fun h2 => Split.dec (fun _ => kn) (fun h3 => Split.dec (fun _ => kn) (fun h4 => Split.dec (fun _ => kn) (fun h5 => ?_))))))
  obtain ⟨a, rfl⟩ : ∃ x : Nat, a = x := ⟨a.toNat, by omega⟩
  obtain ⟨b, rfl⟩ : ∃ x : Nat, b = x := ⟨b.toNat, by omega⟩
  refine begin_ok hl (by omega) fun w20 g h T P d S1 S2 b20 hPl => ⟨_, _, _, rfl, Split.no rfl ?_⟩
  have hlT := b20.len
  have hpos := b20.pos
  obtain ⟨hT, hW, hdis, hn1, hn2, hk, hF, hpp, hd0, hd1⟩ := b20
  refine tree_Copy hT (by omega) (by omega) (fun i nd hi => by rw [hF.ch i nd hi]; have := kids_len (pars T) i; rw [pars_len] at this; omega) fun w25 o hO k25 => ⟨_, rfl, ?_⟩
  -- the document's tree and the copy are there, and stay
  have hWN := hW.bound
  have hW25 := hWN.same k25
  have hO25 := hO.bound
  have t25 : Tr w w25 g T P d (fun k => S1 k ∧ k < w20.heap.size) := ⟨hT.bound.same k25, fun k h => hn1 k h.1, hk.trans k25 (fun _ _ h => h), hF, hpp, hd0, hd1⟩
  have ks := k25.size
  have kw := hk.size
  obtain ⟨q, hq⟩ : ∃ q, P.length = q + 1 := ⟨P.length - 1, by omega⟩
  have hSh : S2 h ∧ h < w20.heap.size := by obtain ⟨_, _, H⟩ := hWN; exact H.footH
  generalize hN : w20.heap.size = N at *
  generalize hB : w25.heap.size = B at *
  clear hT hW hWN hO
  refine law11_TreeApart.loop1 (I := fun s w' => ∃ (i : Nat) (T' : List Nd) (d' : Int) (S' : Nat → Prop), s = (i : Int) ∧ i ≤ a ∧ Tr w w' g T' (P ++ List.replicate i 0) d' S' ∧ (∀ k, S' k → k < B → S1 k ∧ k < N) ∧ B ≤ w'.heap.size ∧ IsW w' (fun k => S2 k ∧ k < N) h P ∧ IsT w' (fun k => N ≤ k ∧ k < B) o T d)
    (μ := fun s _ => ((a : Int) - s).toNat) (s := 0) ⟨0, T, d, _, rfl, Nat.zero_le _, by simpa using t25, fun k h _ => h, by omega, hW25, hO25⟩ ?_
  rintro s w1 ⟨i, T1, d1, S', rfl, hi, t1, hS', hB1, hW1, hO1⟩
  refine Split.dec (fun hlt => ?_) (fun hge => ?_)
  · refine t1.add (p := 0) (by simp; omega) (by simp; omega) fun w34 S'' T'' d'' t' k' f' => ⟨_, _, rfl, ?_⟩
    rw [wrapI (x := (i : Int) + 1) (by omega) (by omega)]
    refine ⟨(i : Int) + 1, rfl, ⟨i + 1, T'', d'', S'', rfl, by omega, by rw [rep_succ]; exact t', ?_, by have := k'.size; omega, ?_, ?_⟩, by simp only; omega⟩
    · intro k h hkB
      rcases f' k h with h | h
      · exact hS' k h hkB
      · omega
    · exact hW1.keep k' (fun k h1 h2 => hdis k (hS' k h2 (by omega)).1 h1.1)
    · exact hO1.keep k' (fun k h1 h2 => by have := (hS' k h2 h1.2).2; omega)
  · have : i = a := by omega
    subst this
    rw [roundQ_exit, law11_TreeApart.x1_0]
    unfold law11_TreeApart.X1_0
    -- the copy grows
    obtain ⟨hT1, hn1', hk1, hF1, hpp1, hd1', hd1''⟩ := t1
    have t2 : Tr w w1 o T P d (fun k => N ≤ k ∧ k < B) := ⟨hO1, fun k h => by omega, hk1, hF, hpp, hd0, hd1⟩
    have hT1b := hT1.bound
    generalize hC : w1.heap.size = C at *
    refine law11_TreeApart.loop2 (I := fun s w' => ∃ (j : Nat) (T' : List Nd) (d' : Int) (S'' : Nat → Prop), s = (j : Int) ∧ j ≤ b ∧ Tr w w' o T' (P ++ List.replicate j (q : Int)) d' S'' ∧ (∀ k, S'' k → k < C → N ≤ k ∧ k < B) ∧ C ≤ w'.heap.size ∧ IsW w' (fun k => S2 k ∧ k < N) h P ∧ IsT w' (fun k => S' k ∧ k < C) g T1 d1)
      (μ := fun s _ => ((b : Int) - s).toNat) (s := 0) ⟨0, T, d, _, rfl, Nat.zero_le _, by simpa using t2, fun k h _ => h, by omega, hW1, hT1b⟩ ?_
    rintro s w2 ⟨j, T2, d2, S'', rfl, hj, t2', hS'', hC2, hW2, hT2⟩
    obtain ⟨bw, cw, H⟩ := hW2
    refine Split.dec (fun hlt => ?_) (fun hge => ?_)
    · refine H.go ?_
      rw [wrapI (x := (P.length : Int) - 1) (by omega) (by omega), show (P.length : Int) - 1 = (q : Int) by omega]
      refine t2'.add (p := q) (by simp; omega) (by simp; omega) fun w52 S3 T3 d3 t3 k3 f3 => ⟨_, _, rfl, ?_⟩
      rw [wrapI (x := (j : Int) + 1) (by omega) (by omega)]
      refine ⟨(j : Int) + 1, rfl, ⟨j + 1, T3, d3, S3, rfl, by omega, by rw [rep_succ]; exact t3, ?_, by have := k3.size; omega, ?_, ?_⟩, by simp only; omega⟩
      · intro k h hkC
        rcases f3 k h with h | h
        · exact hS'' k h hkC
        · omega
      · exact IsW.keep ⟨bw, cw, H⟩ k3 (fun k h1 h2 => by have := hS'' k h2 (by omega); omega)
      · refine hT2.keep k3 (fun k h1 h2 => ?_)
        have h5 := hS'' k h2 h1.2
        have h6 := hS' k h1.1 h5.2
        omega
    · have : j = b := by omega
      subst this
      rw [roundQ_exit, law11_TreeApart.x2_2]
      refine H.go ?_
      intro w63
      -- a document's tree over the same list
      have k63 : Kept Nil w2 w63 := (Kept.refl Nil w2).alloc _
      have hs63 : w63.heap.size = w2.heap.size + 1 := by simp [w63]
      have htopv : w63.heap[w2.heap.size]? = some (.cells #[.slice (some ⟨bw, 0, none⟩) P.length cw] T_plexusref11_Tree (0, 0)) := new_blk w2 _
      clear_value w63
      have H63 := H.keep k63 (fun _ _ h => h)
      have hbwh : bw ≠ h := by
        rintro rfl
        obtain ⟨_, cur, hc⟩ := Row.blk H.row (k := bw) rfl
        rw [H.top] at hc
        injection hc with hc
        injection hc with _ ht
        exact absurd ht (by decide)
      generalize hv : w2.heap.size = v at *
      have V63 : WV w63 (fun k => k = v ∨ k = bw) v P bw cw := ⟨htopv, H63.row, .inl rfl, .inr rfl⟩
      have t63 := t2'.same k63
      have ht63 : IsT w63 (fun k => S'' k ∧ k < v) o T2 d2 := by have := t2'.1.bound; rw [hv] at this; exact this.same k63
      have hg63 := hT2.same k63
      have hbN : S2 bw ∧ bw < N := H.footB
      clear H
      refine law11_TreeApart.loop3 (I := fun s w' => ∃ (i' : Nat) (S5 : Nat → Prop), s = (i' : Int) ∧ i' ≤ i ∧ IsW w' S5 h (P ++ List.replicate i' 0) ∧ (∀ k, S5 k → k < N ∨ v < k) ∧ Kept (fun k => k = h) w63 w')
        (μ := fun s _ => ((i : Int) - s).toNat) (s := 0) ⟨0, fun k => S2 k ∧ k < N, rfl, Nat.zero_le _, by rw [List.replicate_zero, List.append_nil]; exact ⟨bw, cw, H63⟩, fun k h => .inl h.2, Kept.refl _ _⟩ ?_
      rintro s w3 ⟨i', S5, rfl, hi', hW3, hS5, k3⟩
      have ks3 := k3.size
      refine Split.dec (fun hlt => ?_) (fun hge => ?_)
      · refine ref_Add hW3 (p := 0) (by simp; omega) (by simp; omega) fun w72 S6 hW6 k6 f6 => ⟨_, rfl, ?_⟩
        rw [wrapI (x := (i' : Int) + 1) (by omega) (by omega)]
        refine ⟨(i' : Int) + 1, rfl, ⟨i' + 1, S6, rfl, by omega, by rw [rep_succ]; exact hW6, fun k hk => ?_, k3.trans k6 (fun _ _ h => h)⟩, by simp only; omega⟩
        rcases f6 k hk with rfl | hk
        · exact .inl hSh.2
        · right; omega
      · have : i' = i := by omega
        subst this
        rw [roundQ_exit, law11_TreeApart.x3_4]
        have V3 := V63.keep k3 (fun k h1 h2 => by rcases h1 with rfl | rfl <;> omega)
        refine V3.go ?_
        rw [wrapI (x := (P.length : Int) - 1) (by omega) (by omega), show (P.length : Int) - 1 = (q : Int) by omega]
        refine law11_TreeApart.loop4 (I := fun s w' => ∃ (j' : Nat) (S7 : Nat → Prop), s = (j' : Int) ∧ j' ≤ j ∧ IsW w' S7 v (P ++ List.replicate j' (q : Int)) ∧ Kept (fun k => k = v) w3 w')
          (μ := fun s _ => ((j : Int) - s).toNat) (s := 0) ⟨0, _, rfl, Nat.zero_le _, by rw [List.replicate_zero, List.append_nil]; exact ⟨bw, cw, V3⟩, Kept.refl _ _⟩ ?_
        rintro s w4 ⟨j', S7, rfl, hj', hV4, k4⟩
        refine Split.dec (fun hlt => ?_) (fun hge => ?_)
        · refine ref_Add hV4 (p := q) (by simp; omega) (by simp; omega) fun w90 S8 hV8 k8 f8 => ⟨_, rfl, ?_⟩
          rw [wrapI (x := (j' : Int) + 1) (by omega) (by omega)]
          exact ⟨(j' : Int) + 1, rfl, ⟨j' + 1, S8, rfl, by omega, by rw [rep_succ]; exact hV8, k4.trans k8 (fun _ _ h => h)⟩, by simp only; omega⟩
        · have : j' = j := by omega
          subst this
          rw [roundQ_exit, law11_TreeApart.x4_6]
          unfold law11_TreeApart.X4_6
          intro w99
          have k99 : Kept Nil w4 w99 := (Kept.refl Nil w4).drew
          clear_value w99
          have hW9 : IsW w99 S5 h (P ++ List.replicate i' 0) := (hW3.keep k4 (fun k h1 h2 => by rcases hS5 k h1 with h | h <;> omega)).same k99
          have hV9 := hV4.same k99
          have hT9 : IsT w99 (fun k => S' k ∧ k < C) g T1 d1 := ((hg63.keep k3 (fun k h1 h2 => by subst h2; exact hdis k (hS' k h1.1 (by omega)).1 hSh.1)).keep k4 (fun k h1 h2 => by omega)).same k99
          have hO9 : IsT w99 (fun k => S'' k ∧ k < v) o T2 d2 := ((ht63.keep k3 (fun k h1 h2 => by have := hS'' k h1.1 (by omega); omega)).keep k4 (fun k h1 h2 => by omega)).same k99
          have l1 : T1.length = (P ++ List.replicate i' (0 : Int)).length := by rw [← hpp1, pars_len]
          have l2 := t2'.len
          have kall : Kept Nil w w99 := by
            have q1 : Kept Nil w w63 := t63.2.2.1
            have q2 : Kept Nil w w3 := q1.trans k3 (fun k hk' e => by have := hn2 h hSh.1; omega)
            have q3 : Kept Nil w w4 := q2.trans k4 (fun k hk' e => by omega)
            exact q3.trans k99 (fun _ _ h => h)
          obtain ⟨b1, c1, H1⟩ := hW9
          obtain ⟨b2, c2, H2⟩ := hV9
          refine H1.go (tree_Len hT9 ⟨_, rfl, by rw [add1]; exact H1.nodes, Split.yes (by rw [l1]; simp) (H2.go (tree_Len hO9 ⟨_, rfl, by rw [add1]; exact H2.nodes, Split.yes (by rw [l2]; simp) ?_⟩))⟩)
          refine sound_ok hT9 ⟨b1, c1, H1⟩ hF1 hpp1 (by simp; omega) fun w110 k110 => ⟨_, rfl, Split.yes rfl ?_⟩
          refine sound_ok (hO9.same k110) (IsW.same ⟨b2, c2, H2⟩ k110) t2'.2.2.2.1 t2'.2.2.2.2.1 (by simp; omega) fun w113 k113 => ⟨_, rfl, Split.yes rfl ?_⟩
          exact law11_known fun w5 k5 => ⟨_, rfl, hK w5 (((kall.trans k110 (fun _ _ h => h)).trans k113 (fun _ _ h => h)).trans k5 (fun _ _ h => h))⟩
end
end Go.Proofs.Ytehkokfjfjefnaa
