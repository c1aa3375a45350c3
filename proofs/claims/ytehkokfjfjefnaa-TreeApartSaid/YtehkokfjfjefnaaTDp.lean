/-
  TreeDeep: the walk.
-/
import Derived.Test.YtehkokfjfjefnaaTI
namespace Go.Proofs.Ytehkokfjfjefnaa
open Go Go.Lite Go.RowKit

/-- a chain's parents: i + 1 nodes -/
def chainP (i : Nat) : List Int := (List.range (i + 1)).map fun j : Nat => (j : Int) - 1
theorem chainP_len (i : Nat) : (chainP i).length = i + 1 := by simp [chainP]
theorem chainP_succ (i : Nat) : chainP (i + 1) = chainP i ++ [(i : Int)] := by
  unfold chainP
  rw [List.range_succ (n := i + 1), List.map_append]
  congr 1
  simp only [List.map_cons, List.map_nil, List.cons.injEq, and_true]
  omega
/-- a chain, and behind its last one a wide node's children -/
def deepP (c i : Nat) : List Int := chainP c ++ List.replicate i (c : Int)
theorem deepP_len (c i : Nat) : (deepP c i).length = c + 1 + i := by simp [deepP, chainP_len]
theorem deepP_zero (c : Nat) : deepP c 0 = chainP c := by simp [deepP]
theorem deepP_succ (c i : Nat) : deepP c (i + 1) = deepP c i ++ [(c : Int)] := by
  unfold deepP; rw [List.replicate_succ', ← List.append_assoc]
theorem deepP_chain {c i j : Nat} (hj : j < c) : (deepP c i)[j + 1]? = some (j : Int) := by
  unfold deepP
  rw [List.getElem?_append_left (by rw [chainP_len]; omega)]
  unfold chainP
  rw [List.getElem?_map, List.getElem?_range (by omega)]
  simp only [Option.map_some, Option.some.injEq]
  omega
theorem deepP_wide {c i j : Nat} (hj : c < j) (hl : j < c + 1 + i) : (deepP c i)[j]? = some (c : Int) := by
  unfold deepP
  rw [List.getElem?_append_right (by rw [chainP_len]; omega), chainP_len, List.getElem?_replicate, if_pos (by omega)]
theorem deep_und {c i : Nat} : ∀ (k n : Nat), n + k ≤ c → Und (deepP c i) (n + k) n := by
  intro k
  induction k with
  | zero => intro n hn; exact .refl (by rw [deepP_len]; omega)
  | succ k ih => intro n hn; exact .step (i := n + k + 1) (j := n + k) (deepP_chain (by omega)) (ih n (by omega))

section
variable {w w' : World} {g : Nat} {T : List Nd} {P : List Int} {d : Int} {S S1 : Nat → Prop} {K : Value → World → Prop}
theorem tree_UnderP (h : IsT w S g T d) (hF : Fine T) {a b : Nat} (ha : a < T.length) (hb : b < T.length) (hK : ∀ w' (r : Bool), (r = true ↔ Und (pars T) a b) → Kept Nil w w' → K (.bool r) w') :
    Ret Try.prog tree_Tree_Under.id #[.pointer (some ⟨g, 0, none⟩), .int .i64 a, .int .i64 b] w K := by
  obtain ⟨ad, had⟩ := get_of_lt ha
  obtain ⟨bd, hbd⟩ := get_of_lt hb
  exact tree_Under h had hbd fun w' k' => hK w' _ (by rw [decide_eq_true_iff]; exact hF.toGood.under had hbd) k'

/-- a tree of one's own, its parents P -/
def Tr (w0 w : World) (g : Nat) (T : List Nd) (P : List Int) (d : Int) (S : Nat → Prop) : Prop :=
  IsT w S g T d ∧ (∀ k, S k → w0.heap.size ≤ k) ∧ Kept Nil w0 w ∧ Fine T ∧ pars T = P ∧ 0 ≤ d ∧ d + 1 ≤ P.length
theorem Tr.same {w0 : World} (t : Tr w0 w g T P d S) (hk : Kept Nil w w') : Tr w0 w' g T P d S := let ⟨a, b, c, r⟩ := t; ⟨a.same hk, b, c.trans hk (fun _ _ h => h), r⟩
theorem Tr.len {w0 : World} (t : Tr w0 w g T P d S) : T.length = P.length := by obtain ⟨_, _, _, _, hp, _⟩ := t; rw [← hp, pars_len]
theorem Tr.add {w0 : World} (t : Tr w0 w g T P d S) {p : Nat} (hp : p < P.length) (hlen : P.length ≤ 900000)
    (hK : ∀ w' S' T' d', Tr w0 w' g T' (P ++ [(p : Int)]) d' S' → Kept S w w' → (∀ k, S' k → S k ∨ w.heap.size ≤ k) → K (.tuple #[.int .i64 P.length, .int .i64 0]) w') :
    Ret Try.prog tree_Tree_Add.id #[.pointer (some ⟨g, 0, none⟩), .int .i64 p] w K := by
  have hl := t.len
  obtain ⟨hT, hn, hk, hF, hpp, hd0, hd1⟩ := t
  refine tree_Add hT hF (by omega) (by omega) ⟨hd0, by omega⟩ fun w' S' T' d' hT' hF' hp' hd' k' f' => ?_
  rw [hl]
  refine hK w' S' T' d' ⟨hT', fun k h => ?_, hk.trans k' (fun k hk' hs => by have := hn k hs; omega), hF', by rw [hp', hpp], by omega, by simp; omega⟩ k' f'
  rcases f' k h with h | h
  · exact hn k h
  · have := hk.size; omega

theorem deep_check {c i : Nat} {w0 : World} (t : Tr w0 w g T (deepP c i) d S) (hc : c ≤ 200) (hi : i ≤ 200) {Q : Value → World → Prop} (hex : ∀ w', Kept Nil w w' → Q (.bool true) w') :
    Holds none [] Try.prog 155 (.loop (lB (bB (sR (sL (sR (sR (sR (sR (sR (sR (sR (body Try.f4))))))))))))) (law11_TreeDeep.q3 Q) (law11_TreeDeep.e3 (some ⟨g, 0, none⟩) (c : Int) (false, 0)) w := by
  have hPl := deepP_len c i
  refine law11_TreeDeep.loop3 (I := fun s w' => ∃ n : Nat, s = (false, (n : Int)) ∧ n ≤ c + 1 + i ∧ Kept Nil w w') (μ := fun s _ => ((c + 1 + i : Nat) : Int).toNat - s.2.toNat) (s := (false, 0)) ⟨0, rfl, Nat.zero_le _, Kept.refl _ _⟩ ?_
  rintro s w' ⟨n, rfl, hn, kw⟩
  have t' := t.same kw
  have hl := t'.len
  have hF : Fine T := t.2.2.2.1
  have hpp : pars T = deepP c i := t.2.2.2.2.1
  have hP : Par (deepP c i) := by rw [← hpp]; exact hF.par
  refine tree_Len t'.1 ⟨_, rfl, Split.dec (fun hlt => ?_) (fun hge => ?_)⟩
  · simp only at hlt
    have hnl : n < T.length := by omega
    obtain ⟨nd, hnd⟩ := get_of_lt hnl
    have hiv := hF.iv n nd hnd
    have i1 := hiv.lo1
    have i2 := hiv.le
    refine tree_Interval t'.1 hnd fun w64 k64 => ⟨_, _, _, rfl, Split.no rfl (Split.no (decide_eq_false (by omega)) ?_)⟩
    have t64 := t'.same k64
    refine tree_UnderP (b := 0) t64.1 hF hnl (by omega) fun w69 r hr k69 => ⟨_, rfl, Split.no (by rw [hr.2 (by rw [hpp]; exact Und.root hP n (by omega))]; rfl) ?_⟩
    have t69 := t64.same k69
    have join : ∀ w5, Kept Nil w w5 → law11_TreeDeep.J1 false (some ⟨g, 0, none⟩) (c : Int) (n : Int) nd.lo nd.hi
        (roundQ (law11_TreeDeep.e3 (some ⟨g, 0, none⟩) (c : Int)) (fun s w' => ∃ n : Nat, s = (false, (n : Int)) ∧ n ≤ c + 1 + i ∧ Kept Nil w w') (fun s _ => ((c + 1 + i : Nat) : Int).toNat - s.2.toNat) (false, (n : Int)) w' (law11_TreeDeep.q3 Q)) w5 := by
      intro w5 k5
      have leaf : ∀ w6, Kept Nil w w6 → roundQ (law11_TreeDeep.e3 (some ⟨g, 0, none⟩) (c : Int)) (fun s w' => ∃ n : Nat, s = (false, (n : Int)) ∧ n ≤ c + 1 + i ∧ Kept Nil w w') (fun s _ => ((c + 1 + i : Nat) : Int).toNat - s.2.toNat) (false, (n : Int)) w' (law11_TreeDeep.q3 Q) .normal
          [(4, .bool false), (5, .pointer (some ⟨g, 0, none⟩)), (6, .int .i64 (c : Int)), (13, .int .i64 (IntKind.i64.wrap ((n : Int) + 1)))] w6 := by
        intro w6 k6
        rw [wrapI (x := (n : Int) + 1) (by omega) (by omega)]
        exact ⟨(false, (n : Int) + 1), rfl, ⟨n + 1, rfl, by omega, k6⟩, by simp only; omega⟩
      unfold law11_TreeDeep.J1
      rw [wrapI (x := (c : Int) + 1) (by omega) (by omega)]
      refine Split.dec (fun hgt => ?_) (fun hle => leaf w5 k5)
      rw [wrapI (x := (n : Int) - 1) (by omega) (by omega), show (n : Int) - 1 = ((n - 1 : Nat) : Int) by omega]
      obtain ⟨md, hmd⟩ := get_of_lt (T := T) (i := n - 1) (by omega)
      obtain ⟨cd, hcd⟩ := get_of_lt (T := T) (i := c) (by omega)
      have hch : cd.ch = kids (deepP c i) c := by rw [hF.ch c cd hcd, hpp]
      have hord := (hF.loc c cd hcd).ord (n - 1) n md nd (by rw [hch]; exact mem_kids.2 (deepP_wide (by omega) (by omega))) (by rw [hch]; exact mem_kids.2 (deepP_wide (by omega) (by omega))) (by omega) hmd hnd
      refine tree_Interval (t.same k5).1 hmd fun w100 k100 => ⟨_, _, _, rfl, law11_TreeDeep.join2 ?_⟩
      have k6 := k5.trans k100 (fun _ _ h => h)
      exact Split.dec (fun _ => Split.no (decide_eq_false (by omega)) (leaf w100 k6)) (fun _ => leaf w100 k6)
    have k69' : Kept Nil w w69 := (kw.trans k64 (fun _ _ h => h)).trans k69 (fun _ _ h => h)
    refine Split.dec (fun hle => ?_) (fun hgt => ?_)
    · simp only at hle
      refine tree_UnderP t69.1 hF (a := c) (b := n) (by omega) hnl fun w72 r2 hr2 k72 => ⟨_, rfl, Split.no ?_ (Split.no (decide_eq_false (by simp only; omega)) (law11_TreeDeep.join1 (join w72 (k69'.trans k72 (fun _ _ h => h)))))⟩
      have := deep_und (c := c) (i := i) (c - n) n (by omega)
      rw [show n + (c - n) = c by omega] at this
      rw [hr2.2 (by rw [hpp]; exact this)]; rfl
    · simp only at hgt
      refine Split.yes (decide_eq_true (by simp only; omega)) (tree_UnderP t69.1 hF (a := n) (b := c) hnl (by omega) fun w81 r2 hr2 k81 => ⟨_, rfl, Split.no ?_ ?_⟩)
      · rw [hr2.2 (by rw [hpp]; exact .step (deepP_wide (by omega) (by omega)) (.refl (by omega)))]; rfl
      · refine tree_UnderP (t69.same k81).1 hF (a := c) (b := n) (by omega) hnl fun w84 r3 hr3 k84 => ⟨_, rfl, Split.no ?_ (law11_TreeDeep.join1 (join w84 ((k69'.trans k81 (fun _ _ h => h)).trans k84 (fun _ _ h => h))))⟩
        cases r3 with
        | false => rfl
        | true =>
          have := (hr3.1 rfl).le hF.par
          omega
  · rw [roundQ_exit, law11_TreeDeep.x3_4]
    exact law11_known fun w3 k3 => ⟨_, rfl, hex w3 (kw.trans k3 (fun _ _ h => h))⟩

theorem law11_TreeDeep (chain wide : Int) (hK : ∀ w', Kept Nil w w' → K (.bool true) w') : Ret Try.prog law11_TreeDeep.id #[.int .i64 chain, .int .i64 wide] w K := by
  have kn : Ret Try.prog law11_known.id #[] w fun v w' => ∃ t : Bool, v = .bool t ∧ K (.bool t) w' := law11_known fun w3 k3 => ⟨_, rfl, hK w3 k3⟩
  refine law11_TreeDeep.of (Split.dec (fun _ => kn) (fun h1 => Split.dec (fun _ => kn) (fun h2 => Split.dec (fun _ => kn) (fun h3 => Split.dec (fun _ => kn) (fun h4 => ?_)))))
  obtain ⟨c, rfl⟩ : ∃ c : Nat, chain = c := ⟨chain.toNat, by omega⟩
  obtain ⟨v, rfl⟩ : ∃ v : Nat, wide = v := ⟨wide.toNat, by omega⟩
  refine tree_New fun w16 g h16 k16 => ⟨_, rfl, ?_⟩
  have t0 : Tr w w16 g rootT (chainP 0) 0 (fun k => w.heap.size ≤ k) := ⟨h16, fun k h => h, k16, rootT_fine, rfl, by decide, by decide⟩
  refine law11_TreeDeep.loop1 (I := fun s w' => ∃ (i : Nat) (T : List Nd) (d : Int) (S : Nat → Prop), s = (false, (i : Int), (i : Int)) ∧ i ≤ c ∧ Tr w w' g T (chainP i) d S) (μ := fun s _ => ((c : Int) - s.2.2).toNat) (s := (false, 0, 0)) ⟨0, _, _, _, rfl, Nat.zero_le _, t0⟩ ?_
  rintro s w' ⟨i, T, d, S, rfl, hi, t⟩
  have hl := chainP_len i
  refine Split.dec (fun hlt => ?_) (fun hge => ?_)
  · simp only at hlt
    refine t.add (p := i) (by omega) (by omega) fun w25 S' T' d' t' k' f' => ⟨_, _, rfl, Split.no rfl ?_⟩
    rw [hl, wrapI (x := (i : Int) + 1) (by omega) (by omega)]
    rw [← chainP_succ] at t'
    exact ⟨(false, ((i + 1 : Nat) : Int), (i : Int) + 1), rfl, ⟨i + 1, T', d', S', rfl, by omega, t'⟩, by simp only; omega⟩
  · simp only at hge
    have : i = c := by omega
    subst this
    rw [roundQ_exit, law11_TreeDeep.x1_0]
    unfold law11_TreeDeep.X1_0
    rw [← deepP_zero] at t
    refine law11_TreeDeep.loop2 (I := fun s w' => ∃ (j : Nat) (T : List Nd) (d : Int) (S : Nat → Prop), s = (false, (j : Int)) ∧ j ≤ v ∧ Tr w w' g T (deepP i j) d S) (μ := fun s _ => ((v : Int) - s.2).toNat) (s := (false, 0)) ⟨0, _, _, _, rfl, Nat.zero_le _, t⟩ ?_
    rintro s w2 ⟨j, T2, d2, S2, rfl, hj, t2⟩
    have hl2 := deepP_len i j
    refine Split.dec (fun hlt => ?_) (fun hge => ?_)
    · simp only at hlt
      refine t2.add (p := i) (by omega) (by omega) fun w41 S' T' d' t' k' f' => ⟨_, _, rfl, Split.no rfl ?_⟩
      rw [wrapI (x := (j : Int) + 1) (by omega) (by omega)]
      rw [← deepP_succ] at t'
      exact ⟨(false, (j : Int) + 1), rfl, ⟨j + 1, T', d', S', rfl, by omega, t'⟩, by simp only; omega⟩
    · simp only at hge
      have : j = v := by omega
      subst this
      rw [roundQ_exit, law11_TreeDeep.x2_2]
      have hlT := t2.len
      have hd := t2.2.2.2.2.2
      have e1 : IntKind.i64.wrap (IntKind.i64.wrap ((1 : Int) + (i : Int)) + (j : Int)) = (T2.length : Int) := by
        rw [wrapI (x := (1 : Int) + (i : Int)) (by omega) (by omega), wrapI (by omega) (by omega)]; omega
      have e2 : IntKind.i64.wrap ((i : Int) + (j : Int)) = (i : Int) + (j : Int) := wrapI (by omega) (by omega)
      refine tree_Len t2.1 ⟨_, rfl, Split.no (by rw [e1]; simp) (tree_Dealt t2.1 ⟨_, rfl, Split.no (decide_eq_false (by rw [e2]; omega)) ?_⟩)⟩
      exact deep_check t2 (by omega) (by omega) fun w3 k3 => hK w3 (t2.2.2.1.trans k3 (fun _ _ h => h))
end
end Go.Proofs.Ytehkokfjfjefnaa
