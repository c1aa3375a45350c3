/-
  Dealing anew, plainly: the children of one node; all that stand under one. (No program here.)
-/
import Derived.Test.YtehkokfjfjefnaaTQ
import Derived.Test.YtehkokfjfjefnaaTC2
namespace Go.Proofs.Ytehkokfjfjefnaa

/-- the same nodes, parents and children -/
structure Skel (T T' : List Nd) : Prop where
  len : T'.length = T.length
  at_ : ∀ (i : Nat) nd, T[i]? = some nd → ∃ nd', T'[i]? = some nd' ∧ nd'.parent = nd.parent ∧ nd'.ch = nd.ch
theorem Skel.refl (T : List Nd) : Skel T T := ⟨rfl, fun _ nd h => ⟨nd, h, rfl, rfl⟩⟩
theorem Skel.trans {T T' T'' : List Nd} (h : Skel T T') (h' : Skel T' T'') : Skel T T'' := ⟨h'.len.trans h.len, fun i nd hi => by
  obtain ⟨nd', h1, h2, h3⟩ := h.at_ i nd hi
  obtain ⟨nd'', g1, g2, g3⟩ := h'.at_ i nd' h1
  exact ⟨nd'', g1, g2.trans h2, g3.trans h3⟩⟩
theorem Skel.back {T T' : List Nd} (h : Skel T T') {i : Nat} {nd' : Nd} (hi : T'[i]? = some nd') : ∃ nd, T[i]? = some nd ∧ nd'.parent = nd.parent ∧ nd'.ch = nd.ch := by
  have hlt := (List.getElem?_eq_some_iff.1 hi).1
  obtain ⟨nd, hnd⟩ := get_of_lt (T := T) (i := i) (by rw [← h.len]; exact hlt)
  obtain ⟨x, h1, h2, h3⟩ := h.at_ i nd hnd
  rw [hi] at h1
  cases h1
  exact ⟨nd, hnd, h2, h3⟩
theorem Skel.pars {T T' : List Nd} (h : Skel T T') : pars T' = pars T := by
  apply List.ext_getElem?
  intro i
  rcases Nat.lt_or_ge i T.length with hi | hi
  · obtain ⟨nd, hnd⟩ := get_of_lt hi
    obtain ⟨nd', h1, h2, _⟩ := h.at_ i nd hnd
    rw [pars_get hnd, pars_get h1, h2]
  · rw [List.getElem?_eq_none (by rw [pars_len, h.len]; exact hi), List.getElem?_eq_none (by rw [pars_len]; exact hi)]
theorem Skel.shape {T T' : List Nd} (h : Skel T T') (hS : Shape T) : Shape T' := ⟨by rw [h.pars]; exact hS.par, fun i nd' hi => by
  obtain ⟨nd, hnd, _, h3⟩ := h.back hi
  rw [h.pars, h3, hS.ch i nd hnd]⟩
theorem Skel.set {T : List Nd} {i : Nat} {nd nd' : Nd} (hi : T[i]? = some nd) (h1 : nd'.parent = nd.parent) (h2 : nd'.ch = nd.ch) : Skel T (T.set i nd') :=
  ⟨by simp, fun j x hj => by
    by_cases e : i = j
    · subst e
      rw [hi] at hj
      cases hj
      exact ⟨nd', get_set_self hi, h1, h2⟩
    · exact ⟨x, get_set_ne hj e, rfl, rfl⟩⟩
theorem giveT_get {T : List Nd} {n p : Nat} {nd pd : Nd} {many : Int} (hn : T[n]? = some nd) (hp : T[p]? = some pd) (hne : n ≠ p) (i : Nat) :
    (giveT T n p nd pd many)[i]? = if i = p then some { pd with free := pd.free + many } else if i = n then some { nd with lo := pd.free, hi := pd.free + many - 1, free := pd.free } else T[i]? := by
  unfold giveT
  by_cases e : i = p
  · subst e
    rw [if_pos rfl]
    exact get_set_self (get_set_ne hp hne)
  · rw [if_neg e, List.getElem?_set_ne (fun h => e h.symm)]
    by_cases e2 : i = n
    · subst e2
      rw [if_pos rfl]
      exact get_set_self hn
    · rw [if_neg e2, List.getElem?_set_ne (fun h => e2 h.symm)]
theorem giveT_skel {T : List Nd} {n p : Nat} {nd pd : Nd} (many : Int) (hn : T[n]? = some nd) (hp : T[p]? = some pd) (hne : n ≠ p) : Skel T (giveT T n p nd pd many) :=
  (Skel.set (nd' := { nd with lo := pd.free, hi := pd.free + many - 1, free := pd.free }) hn rfl rfl).trans (Skel.set (nd := pd) (nd' := { pd with free := pd.free + many }) (get_set_ne hp hne) rfl rfl)

theorem sorted_take {l : List Nat} (hs : l.Pairwise (· < ·)) {k c : Nat} (hc : l[k]? = some c) : ∀ y, y ∈ l.take k → y < c := by
  intro y hy
  obtain ⟨j, hj⟩ := List.mem_iff_getElem?.1 hy
  rw [List.getElem?_take] at hj
  split at hj
  · rename_i hlt
    obtain ⟨h1, e1⟩ := List.getElem?_eq_some_iff.1 hj
    obtain ⟨h2, e2⟩ := List.getElem?_eq_some_iff.1 hc
    rw [← e1, ← e2]
    exact List.pairwise_iff_getElem.1 hs j k h1 h2 hlt
  · cases hj
theorem take_succ' {l : List Nat} {k c : Nat} (hc : l[k]? = some c) : l.take (k + 1) = l.take k ++ [c] := by
  rw [List.take_add_one, hc]; rfl

/-- of the children of one, k have got their intervals -/
structure Inner (P : List Int) (T1 : List Nd) (x : Nat) (xd : Nd) (half : Int) (k : Nat) (T' : List Nd) (f : Int) : Prop where
  skel : Skel T1 T'
  here : T'[x]? = some { xd with free := f }
  rest : ∀ y, y ≠ x → y ∉ xd.ch.take k → T'[y]? = T1[y]?
  lo : xd.lo + (((xd.ch.take k).map (sz P)).sum : Nat) ≤ f
  up : (f - xd.lo - (((xd.ch.take k).map (sz P)).sum : Nat)) * (sz P x : Int) ≤ half * (((xd.ch.take k).map (sz P)).sum : Nat)
  kid : ∀ c cd, c ∈ xd.ch.take k → T'[c]? = some cd → xd.lo ≤ cd.lo ∧ cd.hi < f ∧ (sz P c : Int) ≤ cd.hi - cd.lo + 1
  ord : ∀ c c' cd cd', c ∈ xd.ch.take k → c' ∈ xd.ch.take k → c < c' → T'[c]? = some cd → T'[c']? = some cd' → cd.hi < cd'.lo

section
variable {P : List Int} {T1 T' : List Nd} {x : Nat} {xd : Nd} {half f : Int} {k : Nat}
theorem Inner.start (hx : T1[x]? = some xd) (hf : xd.free = xd.lo) : Inner P T1 x xd half 0 T1 xd.lo := {
  skel := Skel.refl _
  here := by obtain ⟨a, b, c, d, e⟩ := xd; simp only at hf; subst hf; exact hx
  rest := fun _ _ _ => rfl
  lo := by simp
  up := by simp
  kid := fun c cd hc => by simp at hc
  ord := fun c c' cd cd' hc => by simp at hc }
theorem Inner.bound (h : Inner P T1 x xd half k T' f) (hh : 0 ≤ half) (hsx : 1 ≤ sz P x) (hsum : ((xd.ch.take k).map (sz P)).sum ≤ sz P x) : f ≤ xd.lo + (((xd.ch.take k).map (sz P)).sum : Nat) + half := by
  have h1 : half * (((xd.ch.take k).map (sz P)).sum : Nat) ≤ half * (sz P x : Int) := Int.mul_le_mul_of_nonneg_left (by omega) hh
  have h2 := Int.le_trans h.up h1
  have h3 := Int.le_of_mul_le_mul_right h2 (by omega)
  omega
theorem Inner.step (h : Inner P T1 x xd half k T' f) (hs : xd.ch.Pairwise (· < ·)) {c : Nat} (hx : ∀ y, y ∈ xd.ch → x < y) (hc : xd.ch[k]? = some c) {cd : Nd} (hcd : T'[c]? = some cd)
    {more : Int} (hm0 : 0 ≤ more) (hm : more * (sz P x : Int) ≤ half * (sz P c : Int)) (hsc : 1 ≤ sz P c) :
    Inner P T1 x xd half (k + 1) (giveT T' c x cd { xd with free := f } ((sz P c : Int) + more)) (f + ((sz P c : Int) + more)) := by
  have hlt := sorted_take hs hc
  have hxc : x < c := hx c (List.mem_of_getElem? hc)
  have hnot : c ∉ xd.ch.take k := fun hh => Nat.lt_irrefl _ (hlt c hh)
  have hget := giveT_get (many := (sz P c : Int) + more) hcd h.here (by omega)
  have hsum : ((xd.ch.take (k + 1)).map (sz P)).sum = ((xd.ch.take k).map (sz P)).sum + sz P c := by rw [take_succ' hc]; simp
  have hmem : ∀ y, y ∈ xd.ch.take (k + 1) ↔ y ∈ xd.ch.take k ∨ y = c := by intro y; rw [take_succ' hc]; simp
  exact {
    skel := h.skel.trans (giveT_skel _ hcd h.here (by omega))
    here := by rw [hget, if_pos rfl]
    rest := fun y hy hn => by
      rw [hget, if_neg hy, if_neg (fun e => hn ((hmem y).2 (.inr e)))]
      exact h.rest y hy (fun hh => hn ((hmem y).2 (.inl hh)))
    lo := by rw [hsum]; have := h.lo; omega
    up := by
      rw [hsum]
      have h1 := h.up
      have e1 : (f + ((sz P c : Int) + more) - xd.lo - ((((xd.ch.take k).map (sz P)).sum + sz P c : Nat) : Int)) * (sz P x : Int) = (f - xd.lo - ((((xd.ch.take k).map (sz P)).sum : Nat) : Int)) * (sz P x : Int) + more * (sz P x : Int) := by
        rw [← Int.add_mul]; congr 1; omega
      have e2 : half * ((((xd.ch.take k).map (sz P)).sum + sz P c : Nat) : Int) = half * ((((xd.ch.take k).map (sz P)).sum : Nat) : Int) + half * (sz P c : Int) := by
        rw [← Int.mul_add]; congr 1
      rw [e1, e2]
      omega
    kid := fun y yd hy hyd => by
      have hlo := h.lo
      rw [hget] at hyd
      rcases (hmem y).1 hy with hh | rfl
      · have h1 := hlt y hh
        have h2 := hx y (List.mem_of_mem_take hh)
        rw [if_neg (by omega), if_neg (by omega)] at hyd
        have := h.kid y yd hh hyd
        exact ⟨this.1, by omega, this.2.2⟩
      · rw [if_neg (by omega), if_pos rfl] at hyd
        cases hyd
        refine ⟨?_, ?_, ?_⟩ <;> simp only <;> omega
    ord := fun a b ad bd ha hb hab had hbd => by
      rw [hget] at had hbd
      rcases (hmem b).1 hb with hb' | rfl
      · have h1 := hlt b hb'
        rcases (hmem a).1 ha with ha' | rfl
        · have h2 := hx a (List.mem_of_mem_take ha')
          rw [if_neg (by omega), if_neg (by omega)] at had hbd
          exact h.ord a b ad bd ha' hb' hab had hbd
        · omega
      · rcases (hmem a).1 ha with ha' | rfl
        · have h1 := hlt a ha'
          have h2 := hx a (List.mem_of_mem_take ha')
          rw [if_neg (by omega), if_neg (by omega)] at had
          rw [if_neg (by omega), if_pos rfl] at hbd
          cases hbd
          exact (h.kid a ad ha' had).2.1
        · omega }
end
end Go.Proofs.Ytehkokfjfjefnaa
