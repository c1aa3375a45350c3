/-
  Add, whole.
-/
import Derived.Test.YtehkokfjfjefnaaTW2
import Derived.Test.YtehkokfjfjefnaaTC5
namespace Go.Proofs.Ytehkokfjfjefnaa
open Go Go.Lite Go.RowKit

/-- all is well -/
structure Fine (T : List Nd) : Prop extends Good T where
  root : ∀ nd, T[0]? = some nd → nd.lo = 1 ∧ nd.hi = 4611686018427387904

theorem rootT_fine : Fine rootT := by
  have hget : ∀ (i : Nat) nd, rootT[i]? = some nd → i = 0 ∧ nd = ⟨-1, [], 1, 4611686018427387904, 1⟩ := by
    intro i nd h
    cases i with
    | zero => simp [rootT] at h; exact ⟨rfl, h.symm⟩
    | succ i => simp [rootT] at h
  exact {
    par := ⟨rfl, fun i p hi h => by
      cases i with
      | zero => omega
      | succ i => simp [pars, rootT] at h⟩
    ch := fun i nd h => by
      obtain ⟨rfl, rfl⟩ := hget i nd h
      simp [kids, pars, rootT]
    iv := fun i nd h => by
      obtain ⟨rfl, rfl⟩ := hget i nd h
      exact ⟨by decide, by decide, by decide⟩
    loc := fun i nd h => by
      obtain ⟨rfl, rfl⟩ := hget i nd h
      exact ⟨by decide, by decide, fun c cd hc => by simp at hc, fun c c' cd cd' hc => by simp at hc⟩
    root := fun nd h => by
      obtain ⟨_, rfl⟩ := hget 0 nd h
      exact ⟨rfl, rfl⟩ }

section
variable {T : List Nd} {p : Nat} {pd : Nd}
theorem added_get (hp : T[p]? = some pd) (i : Nat) : (added T p pd)[i]? = if i = p then some { pd with ch := pd.ch ++ [T.length], free := pd.free + halfRoom pd } else if i = T.length then some ⟨p, [], pd.free, pd.free + halfRoom pd - 1, pd.free⟩ else T[i]? := by
  have hlt : p < T.length := (List.getElem?_eq_some_iff.1 hp).1
  unfold added
  rw [giveT_get (by rw [grown_get hp, if_neg (by omega), if_pos rfl]) (by rw [grown_get hp, if_pos rfl]) (by omega), grown_get hp]
  split
  · rfl
  · split
    · rfl
    · rfl
theorem added_skel (hp : T[p]? = some pd) : Skel (grown T p pd) (added T p pd) := by
  have hlt : p < T.length := (List.getElem?_eq_some_iff.1 hp).1
  exact giveT_skel _ (by rw [grown_get hp, if_neg (by omega), if_pos rfl]) (by rw [grown_get hp, if_pos rfl]) (by omega)
theorem Shape.chlt (h : Shape T) {i : Nat} {nd : Nd} (hi : T[i]? = some nd) {c : Nat} (hc : c ∈ nd.ch) : i < c ∧ c < T.length := by
  rw [h.ch i nd hi] at hc
  have := kids_lt h.par hc
  rwa [pars_len] at this

theorem Fine.added (h : Fine T) (hp : T[p]? = some pd) (hroom : pd.free < pd.hi) : Fine (added T p pd) := by
  have hlt : p < T.length := (List.getElem?_eq_some_iff.1 hp).1
  have hget := added_get hp
  have ivp := h.iv p pd hp
  have i1 := ivp.lo1
  have i2 := ivp.le
  have i3 := ivp.top
  have lp := h.loc p pd hp
  have l1 := lp.flo
  have l2 := lp.fhi
  have hh1 : 1 ≤ halfRoom pd := by unfold halfRoom; omega
  have hh2 : pd.free + halfRoom pd ≤ pd.hi := by unfold halfRoom; omega
  have hold : ∀ (c : Nat) cd, c < T.length → (Go.Proofs.Ytehkokfjfjefnaa.added T p pd)[c]? = some cd → ∃ ed, T[c]? = some ed ∧ ed.lo = cd.lo ∧ ed.hi = cd.hi := by
    intro c cd hc hcd
    rw [hget] at hcd
    by_cases e : c = p
    · subst e
      rw [if_pos rfl] at hcd
      cases hcd
      exact ⟨pd, hp, rfl, rfl⟩
    · rw [if_neg e, if_neg (by omega)] at hcd
      exact ⟨cd, hcd, rfl, rfl⟩
  have hnew : ∀ cd, (Go.Proofs.Ytehkokfjfjefnaa.added T p pd)[T.length]? = some cd → cd = ⟨p, [], pd.free, pd.free + halfRoom pd - 1, pd.free⟩ := by
    intro cd hcd
    rw [hget, if_neg (by omega), if_pos rfl] at hcd
    exact (Option.some.inj hcd).symm
  have keep : ∀ (i : Nat) nd, T[i]? = some nd → Loc (Go.Proofs.Ytehkokfjfjefnaa.added T p pd) nd := by
    intro i nd hi
    have hl := h.loc i nd hi
    have hc := fun c hc => (h.toShape.chlt hi (c := c) hc).2
    exact {
      flo := hl.flo
      fhi := hl.fhi
      sub := fun c cd hcm hcd => by
        obtain ⟨ed, h1, h2, h3⟩ := hold c cd (hc c hcm) hcd
        have := hl.sub c ed hcm h1
        omega
      ord := fun c c' cd cd' hcm hcm' hcc hcd hcd' => by
        obtain ⟨ed, h1, h2, h3⟩ := hold c cd (hc c hcm) hcd
        obtain ⟨ed', h1', h2', h3'⟩ := hold c' cd' (hc c' hcm') hcd'
        have := hl.ord c c' ed ed' hcm hcm' hcc h1 h1'
        omega }
  have hs := (added_skel hp).shape (h.toShape.grown hp)
  refine { toShape := hs, iv := ?_, loc := ?_, root := ?_ }
  · intro i nd hi
    rw [hget] at hi
    by_cases e : i = p
    · rw [if_pos e] at hi
      cases hi
      exact ⟨i1, i2, i3⟩
    · rw [if_neg e] at hi
      by_cases e2 : i = T.length
      · rw [if_pos e2] at hi
        cases hi
        exact ⟨by simp only; omega, by simp only; omega, by simp only; omega⟩
      · rw [if_neg e2] at hi
        exact h.iv i nd hi
  · intro i nd hi
    rw [hget] at hi
    by_cases e : i = p
    · rw [if_pos e] at hi
      cases hi
      have kp := keep p pd hp
      have hc := fun c hc => (h.toShape.chlt hp (c := c) hc).2
      exact {
        flo := by simp only; omega
        fhi := hh2
        sub := fun c cd hcm hcd => by
          simp only at hcm
          rcases List.mem_append.1 hcm with hcm | hcm
          · have := kp.sub c cd hcm hcd
            simp only
            omega
          · simp at hcm
            subst hcm
            have := hnew cd hcd
            subst this
            simp only
            omega
        ord := fun c c' cd cd' hcm hcm' hcc hcd hcd' => by
          simp only at hcm hcm'
          rcases List.mem_append.1 hcm with hcm | hcm
          · rcases List.mem_append.1 hcm' with hcm' | hcm'
            · exact kp.ord c c' cd cd' hcm hcm' hcc hcd hcd'
            · simp at hcm'
              subst hcm'
              have := hnew cd' hcd'
              subst this
              exact (kp.sub c cd hcm hcd).2
          · simp at hcm
            rcases List.mem_append.1 hcm' with hcm' | hcm'
            · have := hc c' hcm'
              omega
            · simp at hcm'
              omega }
    · rw [if_neg e] at hi
      by_cases e2 : i = T.length
      · rw [if_pos e2] at hi
        cases hi
        exact ⟨by simp only; omega, by simp only; omega, fun c cd hc => by simp at hc, fun c c' cd cd' hc => by simp at hc⟩
      · rw [if_neg e2] at hi
        exact keep i nd hi
  · intro nd hi
    obtain ⟨ed, h1, h2, h3⟩ := hold 0 nd h.toShape.pos hi
    have := h.root ed h1
    omega

/-- what was grown and then dealt anew -/
theorem Fine.dealt (h : Fine T) (hp : T[p]? = some pd) {m i : Nat} {T' : List Nd} {q : List Nat} (hu : Und (pars (grown T p pd)) p m)
    (hO : Outer (pars (grown T p pd)) (grown T p pd) m T' q i) (hq : q.length ≤ i) : Fine T' := by
  have hlt : p < T.length := (List.getElem?_eq_some_iff.1 hp).1
  have hget := grown_get hp
  have hS := h.toShape.grown hp
  have hP := hS.par
  have hold : ∀ (c : Nat) cd, c < T.length → (grown T p pd)[c]? = some cd → ∃ ed, T[c]? = some ed ∧ ed.lo = cd.lo ∧ ed.hi = cd.hi := by
    intro c cd hc hcd
    rw [hget] at hcd
    by_cases e : c = p
    · subst e
      rw [if_pos rfl] at hcd
      cases hcd
      exact ⟨pd, hp, rfl, rfl⟩
    · rw [if_neg e, if_neg (by omega)] at hcd
      exact ⟨cd, hcd, rfl, rfl⟩
  have hnp : (pars (grown T p pd))[T.length]? = some (p : Int) := by
    rw [grown_pars hp, List.getElem?_append_right (by rw [pars_len]; exact Nat.le_refl _)]
    simp [pars_len]
  have good := Outer.fin hS hO hq (fun y nd hy hn => by
    rw [hget] at hy
    have e : y ≠ p := fun e => hn (e ▸ hu)
    rw [if_neg e] at hy
    have e2 : y ≠ T.length := fun e => hn (e ▸ .step hnp hu)
    rw [if_neg e2] at hy
    refine ⟨h.iv y nd hy, ?_⟩
    have hl := h.loc y nd hy
    have hc := fun c hc => (h.toShape.chlt hy (c := c) hc).2
    exact {
      flo := hl.flo
      fhi := hl.fhi
      sub := fun c cd hcm hcd => by
        obtain ⟨ed, h1, h2, h3⟩ := hold c cd (hc c hcm) hcd
        have := hl.sub c ed hcm h1
        omega
      ord := fun c c' cd cd' hcm hcm' hcc hcd hcd' => by
        obtain ⟨ed, h1, h2, h3⟩ := hold c cd (hc c hcm) hcd
        obtain ⟨ed', h1', h2', h3'⟩ := hold c' cd' (hc c' hcm') hcd'
        have := hl.ord c c' ed ed' hcm hcm' hcc h1 h1'
        omega })
  refine { toGood := good, root := fun nd hi => ?_ }
  obtain ⟨gd, hgd, _⟩ := hO.skel.back hi
  obtain ⟨ed, h1, h2, h3⟩ := hold 0 gd h.toShape.pos hgd
  have hr := h.root ed h1
  by_cases hm : 0 ∈ q
  · have := (hO.und 0 hm).le hP
    have hm0 : m = 0 := by omega
    subst hm0
    have := hO.top gd nd hgd hi
    omega
  · rw [hO.rest 0 hm, hgd] at hi
    cases hi
    omega
end

section
variable {w : World} {S : Nat → Prop} {g : Nat} {T : List Nd} {d : Int} {K : Value → World → Prop}
theorem tree_Add (h : IsT w S g T d) (hF : Fine T) {p : Nat} (hp : p < T.length) (hlen : T.length ≤ 900000) (hd : 0 ≤ d ∧ d ≤ 900000)
    (hK : ∀ w' S' T' d', IsT w' S' g T' d' → Fine T' → pars T' = pars T ++ [(p : Int)] → d ≤ d' ∧ d' ≤ d + 1 → Kept S w w' → (∀ k, S' k → S k ∨ w.heap.size ≤ k) → K (.tuple #[.int .i64 T.length, .int .i64 0]) w') :
    Ret Try.prog tree_Tree_Add.id #[.pointer (some ⟨g, 0, none⟩), .int .i64 p] w K := by
  obtain ⟨pd, hpd⟩ := get_of_lt hp
  have ivp := hF.iv p pd hpd
  have i1 := ivp.lo1
  have i2 := ivp.le
  have i3 := ivp.top
  have lp := hF.loc p pd hpd
  have l1 := lp.flo
  have l2 := lp.fhi
  have hch : pd.ch.length ≤ T.length := by
    rw [hF.ch p pd hpd]
    have := kids_len (pars T) p
    rwa [pars_len] at this
  refine tree_AddRoomOr h hpd (by omega) (by omega) (by omega) l2 i3 (fun hroom w' S' h' k' f' => ?_) (fun hfull w' S' h' k' f' => ?_)
  · exact hK w' S' _ d h' (hF.added hpd hroom) (by rw [(added_skel hpd).pars, grown_pars hpd]) ⟨by omega, by omega⟩ k' f'
  · have hS := hF.toShape.grown hpd
    have hget := grown_get hpd
    have hpar := hS.par
    refine tree_deal h' hS (by rw [grown_len]; omega) (by rw [grown_len]; omega) ⟨hd.1, by omega⟩ (fun nd hi => ?_) (fun y nd hy hu => ?_) (fun w2 T2 m q i h2 hu hO hq k2 => ⟨rfl, ?_⟩)
    · rw [hget] at hi
      by_cases e : 0 = p
      · rw [if_pos e] at hi
        cases hi
        exact hF.root pd (by rw [e]; exact hpd)
      · rw [if_neg e, if_neg (by omega)] at hi
        exact hF.root nd hi
    · have := hu.le hpar
      rw [hget] at hy
      by_cases e : y = p
      · rw [if_pos e] at hy
        cases hy
        exact ⟨i1, i2, i3⟩
      · rw [if_neg e, if_neg (by omega)] at hy
        exact hF.iv y nd hy
    · refine hK w2 S' T2 (d + 1) h2 (hF.dealt hpd hu hO hq) (by rw [hO.skel.pars, grown_pars hpd]) ⟨by omega, by omega⟩ ?_ f'
      exact k'.trans k2 (fun k hk hs => by
        rcases f' k hs with h | h
        · exact h
        · omega)
end
end Go.Proofs.Ytehkokfjfjefnaa
