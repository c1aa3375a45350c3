/-
  Dealing anew, plainly: all that stand under one. (No program here.)
-/
import Derived.Test.YtehkokfjfjefnaaTX
namespace Go.Proofs.Ytehkokfjfjefnaa

/-- what is kept while the queue q goes on (i of it are done) -/
structure Outer (P : List Int) (T0 : List Nd) (m : Nat) (T' : List Nd) (q : List Nat) (i : Nat) : Prop where
  skel : Skel T0 T'
  nodup : q.Nodup
  und : ∀ y, y ∈ q → Und P y m
  fst : m ∈ q
  src : ∀ y, y ∈ q → y = m ∨ ∃ z : Nat, z ∈ q.take i ∧ P[y]? = some (z : Int)
  don : ∀ z, z ∈ q.take i → ∀ c, c ∈ kids P z → c ∈ q
  rest : ∀ y, y ∉ q → T'[y]? = T0[y]?
  top : ∀ md md', T0[m]? = some md → T'[m]? = some md' → md'.lo = md.lo ∧ md'.hi = md.hi
  room : ∀ y yd, y ∈ q → T'[y]? = some yd → 1 ≤ yd.lo ∧ yd.hi ≤ 4611686018427387904 ∧ (sz P y : Int) ≤ yd.hi - yd.lo + 1
  loc : ∀ z zd, z ∈ q.take i → T'[z]? = some zd → Loc T' zd

theorem Outer.start {P : List Int} {T0 : List Nd} {m : Nat} {md : Nd} (hm : m < P.length) (hmd : T0[m]? = some md) (h1 : 1 ≤ md.lo) (h2 : md.hi ≤ 4611686018427387904) (h3 : (sz P m : Int) ≤ md.hi - md.lo + 1) :
    Outer P T0 m T0 [m] 0 := {
  skel := Skel.refl _
  nodup := by simp
  und := fun y hy => by simp at hy; subst hy; exact .refl hm
  fst := by simp
  src := fun y hy => by simp at hy; exact .inl hy
  don := fun z hz => by simp at hz
  rest := fun _ _ => rfl
  top := fun a b ha hb => by rw [ha] at hb; cases hb; exact ⟨rfl, rfl⟩
  room := fun y yd hy hyd => by
    simp at hy
    subst hy
    rw [hmd] at hyd
    cases hyd
    exact ⟨h1, h2, h3⟩
  loc := fun z zd hz => by simp at hz }

section
variable {T0 T' T'' : List Nd} {m x i : Nat} {q : List Nat} {xd : Nd} {f half : Int}
theorem Outer.step (hS : Shape T0) (h : Outer (pars T0) T0 m T' q i) (hq : q[i]? = some x) (hxd : T'[x]? = some xd)
    (hhalf : 0 ≤ half) (hhalf2 : half * 2 ≤ xd.hi - xd.lo - ((sz (pars T0) x : Int) - 1))
    (hin : Inner (pars T0) (T'.set x { xd with free := xd.lo }) x { xd with free := xd.lo } half xd.ch.length T'' f) :
    Outer (pars T0) T0 m T'' (q ++ xd.ch) (i + 1) := by
  have hS' := h.skel.shape hS
  have hpe := h.skel.pars
  have hP := hS.par
  have hch : xd.ch = kids (pars T0) x := by rw [hS'.ch x xd hxd, hpe]
  have hil : i < q.length := (List.getElem?_eq_some_iff.1 hq).1
  have hxq : x ∈ q := List.mem_of_getElem? hq
  have hxl : x < (pars T0).length := (h.und x hxq).lt
  have htk : q.take (i + 1) = q.take i ++ [x] := take_succ' hq
  have htk' : (q ++ xd.ch).take (i + 1) = q.take i ++ [x] := by rw [List.take_append_of_le_length (by omega), htk]
  have hxnot : x ∉ q.take i := by
    intro hh
    have hn : (q.take i ++ [x]).Nodup := by rw [← htk]; exact h.nodup.sublist (List.take_sublist _ _)
    rw [List.nodup_append] at hn
    exact hn.2.2 x hh x (by simp) rfl
  have hkid : ∀ c, c ∈ xd.ch → (pars T0)[c]? = some (x : Int) := fun c hc => mem_kids.1 (hch ▸ hc)
  have hgt : ∀ c, c ∈ xd.ch → x < c := fun c hc => (kids_lt hP (hch ▸ hc)).1
  have hnew : ∀ c, c ∈ xd.ch → c ∉ q := by
    intro c hc hcq
    rcases h.src c hcq with rfl | ⟨z, hz, hpz⟩
    · have := (h.und x hxq).le hP
      have := hgt _ hc
      omega
    · rw [hkid c hc] at hpz
      have : z = x := by have := Option.some.inj hpz; omega
      exact hxnot (this ▸ hz)
  have hxch : x ∉ xd.ch := fun hh => Nat.lt_irrefl _ (hgt x hh)
  have hall : ∀ c, c ∈ (({ xd with free := xd.lo } : Nd).ch.take xd.ch.length) ↔ c ∈ xd.ch := by intro c; simp
  have hsum : (xd.ch.map (sz (pars T0))).sum + 1 = sz (pars T0) x := by
    rw [hch]
    exact sz_kids hP hxl
  have hpos := sz_pos hP hxl
  have hfb := hin.bound hhalf hpos (by simp only [List.take_length]; omega)
  have hflo := hin.lo
  simp only [List.take_length] at hfb hflo
  have hfhi : f ≤ xd.hi := by omega
  have hT1 : ∀ y, y ≠ x → (T'.set x { xd with free := xd.lo })[y]? = T'[y]? := fun y hy => List.getElem?_set_ne (fun e => hy e.symm)
  have hrest : ∀ y, y ≠ x → y ∉ xd.ch → T''[y]? = T'[y]? := fun y hy hn => by
    rw [hin.rest y hy (fun hh => hn ((hall y).1 hh)), hT1 y hy]
  have hhere : T''[x]? = some { xd with free := f } := hin.here
  have hxr := h.room x xd hxq hxd
  have hlh : xd.lo ≤ xd.hi := by omega
  -- what is no child of hers has the bounds that it had
  have hold : ∀ y yd'', y ∉ xd.ch → T''[y]? = some yd'' → ∃ yd, T'[y]? = some yd ∧ yd.lo = yd''.lo ∧ yd.hi = yd''.hi := by
    intro y yd'' hn hy
    by_cases e : y = x
    · subst e
      rw [hhere] at hy
      cases hy
      exact ⟨xd, hxd, rfl, rfl⟩
    · rw [hrest y e hn] at hy
      exact ⟨yd'', hy, rfl, rfl⟩
  exact {
    skel := (h.skel.trans (Skel.set (nd' := { xd with free := xd.lo }) hxd rfl rfl)).trans hin.skel
    nodup := by
      rw [List.nodup_append]
      refine ⟨h.nodup, ?_, fun a ha b hb e => hnew b hb (e ▸ ha)⟩
      rw [hch]
      exact (kids_sorted _ _).imp (fun h => by omega)
    und := fun y hy => by
      rcases List.mem_append.1 hy with hy | hy
      · exact h.und y hy
      · exact .step (hkid y hy) (h.und x hxq)
    fst := List.mem_append.2 (.inl h.fst)
    src := fun y hy => by
      rw [htk']
      rcases List.mem_append.1 hy with hy | hy
      · rcases h.src y hy with e | ⟨z, hz, hpz⟩
        · exact .inl e
        · exact .inr ⟨z, List.mem_append.2 (.inl hz), hpz⟩
      · exact .inr ⟨x, by simp, hkid y hy⟩
    don := fun z hz c hc => by
      rw [htk'] at hz
      rcases List.mem_append.1 hz with hz | hz
      · exact List.mem_append.2 (.inl (h.don z hz c hc))
      · simp at hz
        subst hz
        exact List.mem_append.2 (.inr (hch ▸ hc))
    rest := fun y hy => by
      have h1 : y ∉ q := fun hh => hy (List.mem_append.2 (.inl hh))
      have h2 : y ∉ xd.ch := fun hh => hy (List.mem_append.2 (.inr hh))
      rw [hrest y (fun e => h1 (e ▸ hxq)) h2, h.rest y h1]
    top := fun md md'' hmd hmd'' => by
      obtain ⟨md', h1, h2, h3⟩ := hold m md'' (fun hh => hnew m hh h.fst) hmd''
      have := h.top md md' hmd h1
      omega
    room := fun y yd'' hy hyd'' => by
      rcases List.mem_append.1 hy with hy | hy
      · obtain ⟨yd, h1, h2, h3⟩ := hold y yd'' (fun hh => hnew y hh hy) hyd''
        have := h.room y yd hy h1
        omega
      · have := hin.kid y yd'' ((hall y).2 hy) hyd''
        simp only at this
        omega
    loc := fun z zd hz hzd => by
      rw [htk'] at hz
      rcases List.mem_append.1 hz with hz | hz
      · have hzq : z ∈ q := List.mem_of_mem_take hz
        have hzx : z ≠ x := fun e => hxnot (e ▸ hz)
        have hzd' := hzd
        rw [hrest z hzx (fun hh => hnew z hh hzq)] at hzd'
        have hl := h.loc z zd hz hzd'
        have hzch : zd.ch = kids (pars T0) z := by rw [hS'.ch z zd hzd', hpe]
        have hcn : ∀ c, c ∈ zd.ch → c ∉ xd.ch := by
          intro c hc hc2
          have h1 := hkid c hc2
          rw [mem_kids.1 (hzch ▸ hc : c ∈ kids (pars T0) z)] at h1
          have := Option.some.inj h1
          omega
        exact {
          flo := hl.flo
          fhi := hl.fhi
          sub := fun c cd hc hcd => by
            obtain ⟨cd', h1, h2, h3⟩ := hold c cd (hcn c hc) hcd
            have := hl.sub c cd' hc h1
            omega
          ord := fun c c' cd cd' hc hc' hcc hcd hcd' => by
            obtain ⟨ed, h1, h2, h3⟩ := hold c cd (hcn c hc) hcd
            obtain ⟨ed', h1', h2', h3'⟩ := hold c' cd' (hcn c' hc') hcd'
            have := hl.ord c c' ed ed' hc hc' hcc h1 h1'
            omega }
      · simp at hz
        subst hz
        rw [hhere] at hzd
        cases hzd
        exact {
          flo := by simp only; omega
          fhi := hfhi
          sub := fun c cd hc hcd => by
            have := hin.kid c cd ((hall c).2 hc) hcd
            simp only at this ⊢
            omega
          ord := fun c c' cd cd' hc hc' hcc hcd hcd' => hin.ord c c' cd cd' ((hall c).2 hc) ((hall c').2 hc') hcc hcd hcd' } }

theorem Outer.fin (hS : Shape T0) (h : Outer (pars T0) T0 m T' q i) (hi : q.length ≤ i)
    (hout : ∀ y nd, T0[y]? = some nd → ¬ Und (pars T0) y m → Iv nd ∧ Loc T0 nd) : Good T' := by
  have hS' := h.skel.shape hS
  have hpe := h.skel.pars
  have hP := hS.par
  have htk : q.take i = q := List.take_of_length_le hi
  have hcl : ∀ y, Und (pars T0) y m → y ∈ q := by
    have : ∀ y k, Und (pars T0) y k → k = m → y ∈ q := by
      intro y k hu
      induction hu with
      | refl => intro e; subst e; exact h.fst
      | @step a b c hp h' ih => intro e; exact h.don b (by rw [htk]; exact ih e) a (mem_kids.2 hp)
    exact fun y hu => this y m hu rfl
  have hq : ∀ y, y ∈ q ↔ Und (pars T0) y m := fun y => ⟨h.und y, hcl y⟩
  refine ⟨hS', fun y yd hyd => ?_, fun y yd hyd => ?_⟩
  · by_cases hy : y ∈ q
    · have hr := h.room y yd hy hyd
      have := sz_pos hP (h.und y hy).lt
      exact ⟨hr.1, by omega, hr.2.1⟩
    · rw [h.rest y hy] at hyd
      exact (hout y yd hyd (fun hu => hy (hcl y hu))).1
  · by_cases hy : y ∈ q
    · exact h.loc y yd (by rw [htk]; exact hy) hyd
    · have hyd0 := hyd
      rw [h.rest y hy] at hyd0
      have hl := (hout y yd hyd0 (fun hu => hy (hcl y hu))).2
      have hch := hS.ch y yd hyd0
      -- her children have the bounds that they had
      have hold : ∀ c cd, c ∈ yd.ch → T'[c]? = some cd → ∃ ed, T0[c]? = some ed ∧ ed.lo = cd.lo ∧ ed.hi = cd.hi := by
        intro c cd hc hcd
        by_cases hcq : c ∈ q
        · have hpc := mem_kids.1 (hch ▸ hc : c ∈ kids (pars T0) y)
          have hcm : c = m := by
            by_cases e : c = m
            · exact e
            · exact absurd (hcl y ((h.und c hcq).inv e hpc)) hy
          subst hcm
          obtain ⟨ed, hed, _⟩ := h.skel.back hcd
          have := h.top ed cd hed hcd
          exact ⟨ed, hed, by omega, by omega⟩
        · rw [h.rest c hcq] at hcd
          exact ⟨cd, hcd, rfl, rfl⟩
      exact {
        flo := hl.flo
        fhi := hl.fhi
        sub := fun c cd hc hcd => by
          obtain ⟨ed, h1, h2, h3⟩ := hold c cd hc hcd
          have := hl.sub c ed hc h1
          omega
        ord := fun c c' cd cd' hc hc' hcc hcd hcd' => by
          obtain ⟨ed, h1, h2, h3⟩ := hold c cd hc hcd
          obtain ⟨ed', h1', h2', h3'⟩ := hold c' cd' hc' hcd'
          have := hl.ord c c' ed ed' hc hc' hcc h1 h1'
          omega }
end
end Go.Proofs.Ytehkokfjfjefnaa
