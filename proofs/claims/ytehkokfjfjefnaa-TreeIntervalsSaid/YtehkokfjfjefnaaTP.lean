/-
  The tree, plainly: parents, who stands under whom, intervals. (No program here.)
-/
import Derived.Test.YtehkokfjfjefnaaTC4
namespace Go.Proofs.Ytehkokfjfjefnaa

/-- the parents -/
def pars (T : List Nd) : List Int := T.map (·.parent)
/-- each one's parent stands ahead of it -/
structure Par (P : List Int) : Prop where
  root : P[0]? = some (-1)
  up : ∀ (i : Nat) (p : Int), 0 < i → P[i]? = some p → ∃ j : Nat, j < i ∧ p = j
def kids (P : List Int) (i : Nat) : List Nat := (List.range P.length).filter fun j => P[j]? == some (i : Int)

theorem mem_kids {P : List Int} {i j : Nat} : j ∈ kids P i ↔ P[j]? = some (i : Int) := by
  simp only [kids, List.mem_filter, List.mem_range, beq_iff_eq]
  exact ⟨fun h => h.2, fun h => ⟨(List.getElem?_eq_some_iff.1 h).1, h⟩⟩
theorem kids_lt {P : List Int} (hP : Par P) {i j : Nat} (h : j ∈ kids P i) : i < j ∧ j < P.length := by
  rw [mem_kids] at h
  refine ⟨?_, (List.getElem?_eq_some_iff.1 h).1⟩
  rcases Nat.eq_zero_or_pos j with rfl | hj
  · rw [hP.root] at h; have := Option.some.inj h; omega
  · obtain ⟨k, hk, e⟩ := hP.up j _ hj h
    omega
theorem kids_sorted (P : List Int) (i : Nat) : (kids P i).Pairwise (· < ·) := List.Pairwise.filter _ (List.pairwise_lt_range)
theorem kids_len (P : List Int) (i : Nat) : (kids P i).length ≤ P.length := by
  unfold kids
  exact Nat.le_trans (List.length_filter_le _ _) (by simp)

/-- i stands under k -/
inductive Und (P : List Int) : Nat → Nat → Prop
  | refl {i : Nat} : i < P.length → Und P i i
  | step {i j k : Nat} : P[i]? = some (j : Int) → Und P j k → Und P i k
theorem Und.lt {P : List Int} {i k : Nat} (h : Und P i k) : i < P.length := by
  cases h with
  | refl h => exact h
  | step h _ => exact (List.getElem?_eq_some_iff.1 h).1
theorem Und.lt' {P : List Int} {i k : Nat} (h : Und P i k) : k < P.length := by
  induction h with
  | refl h => exact h
  | step _ _ ih => exact ih
theorem Und.le {P : List Int} (hP : Par P) {i k : Nat} (h : Und P i k) : k ≤ i := by
  induction h with
  | refl => omega
  | step h _ ih => have := (kids_lt hP (mem_kids.2 h)).1; omega
theorem Und.trans {P : List Int} {i j k : Nat} (h : Und P i j) (h' : Und P j k) : Und P i k := by
  induction h with
  | refl => exact h'
  | step h _ ih => exact .step h (ih h')
theorem Und.inv {P : List Int} {i j k : Nat} (h : Und P i k) (hne : i ≠ k) (hj : P[i]? = some (j : Int)) : Und P j k := by
  cases h with
  | refl => exact absurd rfl hne
  | @step _ j' _ h h' =>
    rw [hj] at h
    have e : j = j' := by have := Option.some.inj h; omega
    rw [e]; exact h'
theorem Und.child {P : List Int} {i k : Nat} (h : Und P i k) (hne : i ≠ k) : ∃ c, c ∈ kids P k ∧ Und P i c := by
  induction h with
  | refl => exact absurd rfl hne
  | @step i j k h h' ih =>
    by_cases e : j = k
    · subst e
      exact ⟨i, mem_kids.2 h, .refl (List.getElem?_eq_some_iff.1 h).1⟩
    · obtain ⟨c, hc, hu⟩ := ih e
      exact ⟨c, hc, .step h hu⟩
theorem Und.root {P : List Int} (hP : Par P) : ∀ (i : Nat), i < P.length → Und P i 0 := by
  intro i
  induction i using Nat.strongRecOn with
  | _ i ih =>
    intro hi
    rcases Nat.eq_zero_or_pos i with rfl | h0
    · exact .refl hi
    · have hg := List.getElem?_eq_getElem hi
      obtain ⟨j, hj, e⟩ := hP.up i _ h0 hg
      exact .step (by rw [hg, e]) (ih j hj (by omega))

/-- one's own interval -/
structure Iv (nd : Nd) : Prop where
  lo1 : 1 ≤ nd.lo
  le : nd.lo ≤ nd.hi
  top : nd.hi ≤ 4611686018427387904
/-- how one's children's intervals lie in it -/
structure Loc (T : List Nd) (nd : Nd) : Prop where
  flo : nd.lo ≤ nd.free
  fhi : nd.free ≤ nd.hi
  sub : ∀ c cd, c ∈ nd.ch → T[c]? = some cd → nd.lo ≤ cd.lo ∧ cd.hi < nd.free
  ord : ∀ (c c' : Nat) cd cd', c ∈ nd.ch → c' ∈ nd.ch → c < c' → T[c]? = some cd → T[c']? = some cd' → cd.hi < cd'.lo
structure Shape (T : List Nd) : Prop where
  par : Par (pars T)
  ch : ∀ (i : Nat) nd, T[i]? = some nd → nd.ch = kids (pars T) i
structure Good (T : List Nd) : Prop extends Shape T where
  iv : ∀ (i : Nat) nd, T[i]? = some nd → Iv nd
  loc : ∀ (i : Nat) nd, T[i]? = some nd → Loc T nd

theorem pars_get {T : List Nd} {i : Nat} {nd : Nd} (h : T[i]? = some nd) : (pars T)[i]? = some nd.parent := by simp [pars, h]
theorem pars_len (T : List Nd) : (pars T).length = T.length := by simp [pars]
theorem Shape.pos {T : List Nd} (h : Shape T) : 0 < T.length := by
  have := (List.getElem?_eq_some_iff.1 h.par.root).1
  rwa [pars_len] at this
theorem Good.kid {T : List Nd} (h : Good T) {c k : Nat} {cd kd : Nd} (hc : c ∈ kids (pars T) k) (hcd : T[c]? = some cd) (hkd : T[k]? = some kd) :
    kd.lo ≤ cd.lo ∧ cd.hi < kd.free := (h.loc k kd hkd).sub c cd (by rw [h.ch k kd hkd]; exact hc) hcd
theorem get_of_lt {T : List Nd} {i : Nat} (h : i < T.length) : ∃ nd, T[i]? = some nd := ⟨_, List.getElem?_eq_getElem h⟩

theorem Good.und {T : List Nd} (h : Good T) {a b : Nat} {ad bd : Nd} (ha : T[a]? = some ad) (hb : T[b]? = some bd) (hu : Und (pars T) a b) : bd.lo ≤ ad.lo ∧ ad.hi ≤ bd.hi := by
  induction hu generalizing ad with
  | refl => rw [ha] at hb; cases hb; omega
  | @step i j k hp h' ih =>
    have hjl : j < T.length := by have := h'.lt; rwa [pars_len] at this
    obtain ⟨jd, hj⟩ := get_of_lt hjl
    have h1 := ih hj hb
    have h2 := h.kid (mem_kids.2 hp) ha hj
    have h3 := (h.loc j jd hj).fhi
    omega

/-- of two, neither of which stands under the other, the intervals have nothing in common -/
theorem Good.apart {T : List Nd} (h : Good T) : ∀ (m a b : Nat), a + b ≤ m → ∀ ad bd, T[a]? = some ad → T[b]? = some bd → ¬ Und (pars T) a b → ¬ Und (pars T) b a → ad.hi < bd.lo ∨ bd.hi < ad.lo := by
  intro m
  induction m with
  | zero =>
    intro a b hm ad bd ha hb h1 _
    have : a = b := by omega
    subst this
    exact absurd (.refl (by rw [pars_len]; exact (List.getElem?_eq_some_iff.1 ha).1)) h1
  | succ m ih =>
    -- the later one first
    have key : ∀ (a b : Nat), a + b ≤ m + 1 → b < a → ∀ ad bd, T[a]? = some ad → T[b]? = some bd → ¬ Und (pars T) a b → ¬ Und (pars T) b a → ad.hi < bd.lo ∨ bd.hi < ad.lo := by
      intro a b hm hlt ad bd ha hb h1 h2
      have hal := (List.getElem?_eq_some_iff.1 ha).1
      obtain ⟨p, hp, e⟩ := h.par.up a _ (by omega) (pars_get ha)
      have hpa : (pars T)[a]? = some (p : Int) := by rw [pars_get ha, e]
      obtain ⟨pd, hpd⟩ := get_of_lt (T := T) (i := p) (by omega)
      have hin := h.kid (mem_kids.2 hpa) ha hpd
      have hpl := h.loc p pd hpd
      have hpb : ¬ Und (pars T) p b := fun hu => h1 (.step hpa hu)
      by_cases hbp : Und (pars T) b p
      · have hne : b ≠ p := fun e => hpb (by subst e; exact .refl hbp.lt)
        obtain ⟨c, hc, huc⟩ := hbp.child hne
        have hca : c ≠ a := fun e => h2 (e ▸ huc)
        have hcl : c < T.length := by have := (kids_lt h.par hc).2; rwa [pars_len] at this
        obtain ⟨cd, hcd⟩ := get_of_lt hcl
        have hbc := h.und hb hcd huc
        have hch := h.ch p pd hpd
        rcases Nat.lt_or_ge c a with hlt | hge
        · have := hpl.ord c a cd ad (by rw [hch]; exact hc) (by rw [hch]; exact mem_kids.2 hpa) hlt hcd ha
          omega
        · have := hpl.ord a c ad cd (by rw [hch]; exact mem_kids.2 hpa) (by rw [hch]; exact hc) (by omega) ha hcd
          omega
      · have := ih p b (by omega) pd bd hpd hb hpb hbp
        have := hpl.fhi
        omega
    intro a b hm ad bd ha hb h1 h2
    rcases Nat.lt_trichotomy a b with hlt | rfl | hlt
    · have := key b a (by omega) hlt bd ad hb ha h2 h1
      omega
    · exact absurd (.refl (by rw [pars_len]; exact (List.getElem?_eq_some_iff.1 ha).1)) h1
    · exact key a b hm hlt ad bd ha hb h1 h2

theorem Good.under {T : List Nd} (h : Good T) {a b : Nat} {ad bd : Nd} (ha : T[a]? = some ad) (hb : T[b]? = some bd) : (bd.lo ≤ ad.lo ∧ ad.hi ≤ bd.hi) ↔ Und (pars T) a b := by
  refine ⟨fun hi => ?_, fun hu => h.und ha hb hu⟩
  by_cases hu : Und (pars T) a b
  · exact hu
  · exfalso
    have ia := h.iv a ad ha
    have ib := h.iv b bd hb
    by_cases hv : Und (pars T) b a
    · have hne : b ≠ a := fun e => hu (by subst e; exact .refl hv.lt)
      obtain ⟨c, hc, huc⟩ := hv.child hne
      have hcl : c < T.length := by have := (kids_lt h.par hc).2; rwa [pars_len] at this
      obtain ⟨cd, hcd⟩ := get_of_lt hcl
      have h1 := h.und hb hcd huc
      have h2 := h.kid hc hcd ha
      have h3 := (h.loc a ad ha).fhi
      omega
    · have := h.apart (a + b) a b (Nat.le_refl _) ad bd ha hb hu hv
      have := ia.le
      have := ib.le
      omega

/-! ### What adding does -/
theorem grown_len (T : List Nd) (p : Nat) (pd : Nd) : (grown T p pd).length = T.length + 1 := by simp [grown]
theorem grown_get {T : List Nd} {p : Nat} {pd : Nd} (hp : T[p]? = some pd) (i : Nat) : (grown T p pd)[i]? = if i = p then some { pd with ch := pd.ch ++ [T.length] } else if i = T.length then some ⟨p, [], 0, 0, 0⟩ else T[i]? := by
  have hlt := (List.getElem?_eq_some_iff.1 hp).1
  unfold grown
  by_cases e : i = p
  · subst e
    rw [if_pos rfl, List.getElem?_set_self (by simp; omega)]
  · rw [if_neg e, List.getElem?_set_ne (fun h => e h.symm)]
    by_cases e2 : i = T.length
    · subst e2; simp
    · rw [if_neg e2]
      rcases Nat.lt_or_ge i T.length with h | h
      · rw [List.getElem?_append_left h]
      · rw [List.getElem?_eq_none (by simp; omega), List.getElem?_eq_none h]
theorem grown_pars {T : List Nd} {p : Nat} {pd : Nd} (hp : T[p]? = some pd) : pars (grown T p pd) = pars T ++ [(p : Int)] := by
  apply List.ext_getElem?
  intro i
  have hlt := (List.getElem?_eq_some_iff.1 hp).1
  simp only [pars, List.getElem?_map, grown_get hp]
  by_cases e : i = p
  · subst e
    rw [if_pos rfl, List.getElem?_append_left (by simpa using hlt)]
    simp [hp]
  · rw [if_neg e]
    by_cases e2 : i = T.length
    · subst e2; simp
    · rw [if_neg e2]
      rcases Nat.lt_or_ge i T.length with h | h
      · rw [List.getElem?_append_left (by simpa using h)]; simp
      · rw [List.getElem?_eq_none h, List.getElem?_eq_none (by simp; omega)]; rfl
theorem kids_append (P : List Int) (p i : Nat) : kids (P ++ [(p : Int)]) i = kids P i ++ if i = p then [P.length] else [] := by
  unfold kids
  rw [List.length_append, List.length_singleton, List.range_succ, List.filter_append]
  congr 1
  · apply List.filter_congr
    intro x hx
    rw [List.getElem?_append_left (by simpa using hx)]
  · by_cases e : i = p
    · subst e; simp
    · have : ¬ ((p : Int) = (i : Int)) := by omega
      simp [e, this]
theorem Par.snoc {P : List Int} (h : Par P) {p : Nat} (hp : p < P.length) : Par (P ++ [(p : Int)]) := by
  refine ⟨by rw [List.getElem?_append_left (by omega)]; exact h.root, fun i q hi hq => ?_⟩
  rcases Nat.lt_or_ge i P.length with hl | hl
  · rw [List.getElem?_append_left hl] at hq
    exact h.up i q hi hq
  · have : i = P.length := by
      rcases Nat.eq_or_lt_of_le hl with e | e
      · exact e.symm
      · rw [List.getElem?_eq_none (by simp; omega)] at hq; cases hq
    subst this
    simp at hq
    exact ⟨p, hp, hq.symm⟩
theorem Shape.grown {T : List Nd} (h : Shape T) {p : Nat} {pd : Nd} (hp : T[p]? = some pd) : Shape (grown T p pd) := by
  have hlt := (List.getElem?_eq_some_iff.1 hp).1
  refine ⟨by rw [grown_pars hp]; exact h.par.snoc (by rw [pars_len]; exact hlt), fun i nd hi => ?_⟩
  rw [grown_pars hp, kids_append, pars_len]
  rw [grown_get hp] at hi
  by_cases e : i = p
  · subst e
    rw [if_pos rfl] at hi ⊢
    cases hi
    simp [h.ch i pd hp]
  · rw [if_neg e] at hi ⊢
    rw [List.append_nil]
    by_cases e2 : i = T.length
    · subst e2
      rw [if_pos rfl] at hi
      cases hi
      symm
      apply List.eq_nil_iff_forall_not_mem.2
      intro c hc
      have := kids_lt h.par hc
      rw [pars_len] at this
      omega
    · rw [if_neg e2] at hi
      exact h.ch i nd hi
end Go.Proofs.Ytehkokfjfjefnaa
