/-
  Code: what is left to prove of a function's text.
-/
import Derived.Test.YtehkokfjfjefnaaL5
namespace Go.Lite

/-- the temporaries that a text names -/
def opUses (o : Oper) : List Nat := o.op.operands.toList.filterMap fun | .tmp t => some t | _ => none
def uses : Code → List Nat
  | .region _ ops _ => ops.toList.flatMap opUses
  | .seq a b => uses a ++ uses b
  | .cond c a b => (match c with | .tmp t => [t] | _ => []) ++ uses a ++ uses b
  | .block _ c => uses c
  | .loop c => uses c
  | .scope c => uses c
  | .rangeFunc f _ a b => (match f with | .tmp t => [t] | _ => []) ++ uses a ++ uses b
  | _ => []

abbrev Post := Exit → Env → World → Prop
/-- the machine's side of it -/
def Holds (r : Option Nat) (ds : List Deferred) (P : Program) (n : Nat) (c : Code) (Q : Post) (ρ : Env) (w : World) : Prop :=
  ∀ a, Sat n ds ρ a → c.wpIn (FR r) 0 P (fun e a' w' => ∃ ρ', Sat n ds ρ' a' ∧ Q e ρ' w') a w

def thenQ (K : Env → World → Prop) (Q : Post) : Post
  | .normal, ρ, w => K ρ w
  | e, ρ, w => Q e ρ w
def blockQ (id : Nat) (U : List Nat) (Q : Post) : Post
  | .exit id', ρ, w => match Nat.beq id' id with | true => Q .normal (keep U ρ) w | false => Q (.exit id') ρ w
  | e, ρ, w => Q e ρ w

/-- does a text begin with one of these regions? -/
def cutAt (C : List Nat) : Code → Bool
  | .region id _ _ => memb C id
  | .seq a _ => cutAt C a
  | .block _ a => cutAt C a
  | _ => false
/-- a text, gone through; loops are left, and what begins at a cut -/
def codeW (r : Option Nat) (ds : List Deferred) (P : Program) (n : Nat) (C : List Nat) : Code → List Nat → Post → Env → World → Prop
  | .skip, _, Q, ρ, w => Q .normal ρ w
  | .label _, _, Q, ρ, w => Q .normal ρ w
  | .region _ ops draw, U, Q, ρ, w =>
    match draw with
    | false => opsW P n ops ops.toList ρ w fun ρ' w' => Q .normal (keep U ρ') w'
    | true => drawW P n ops ρ w fun ρ' w' => Q .normal (keep U ρ') w'
  | .seq a b, U, Q, ρ, w => codeW r ds P n C a (uses b ++ U) (thenQ (fun ρ' w' => match cutAt C b with | true => Holds r ds P n b Q ρ' w' | false => codeW r ds P n C b U Q ρ' w') Q) ρ w
  | .cond c a b, U, Q, ρ, w =>
    match opnd ρ c with
    | some (.bool t) => Split t (codeW r ds P n C a U Q (keep (uses a ++ U) ρ) w) (codeW r ds P n C b U Q (keep (uses b ++ U) ρ) w)
    | _ => False
  | .block id c, U, Q, ρ, w => codeW r ds P n C c U (blockQ id U Q) ρ w
  | .exit id, _, Q, ρ, w => Q (.exit id) ρ w
  | .ret, _, Q, ρ, w => Q .ret ρ w
  | .loop c, _, Q, ρ, w => Holds r ds P n (.loop c) Q ρ w
  | .rangeFunc f ps a b, _, Q, ρ, w => Holds r ds P n (.rangeFunc f ps a b) Q ρ w
  | _, _, _, _, _ => False

section
variable {r : Option Nat} {ds : List Deferred} {P : Program} {n : Nat}

theorem Holds.mono {c : Code} {Q Q' : Post} {ρ : Env} {w : World} (h : Holds r ds P n c Q ρ w) (hq : ∀ e ρ w, Q e ρ w → Q' e ρ w) : Holds r ds P n c Q' ρ w :=
  fun a hs => wpIn_mono (h a hs) fun _ _ _ ⟨ρ', h1, h2⟩ => ⟨ρ', h1, hq _ _ _ h2⟩
theorem Holds.env {c : Code} {Q : Post} {ρ ρ' : Env} {w : World} (h : Holds r ds P n c Q ρ' w) (hs : ∀ i v, find ρ' i = some v → find ρ i = some v) : Holds r ds P n c Q ρ w :=
  fun a ha => h a (ha.mono hs)

theorem codeW_sound {C : List Nat} (hng : NG P) (hmix : P.follows .mixedOrders = true) : ∀ (c : Code) (U : List Nat) (Q : Post) (ρ : Env) (w : World), codeW r ds P n C c U Q ρ w → Holds r ds P n c Q ρ w
  | .skip, _, _, ρ, _, h => fun _ hs => wpIn_skip ⟨ρ, hs, h⟩
  | .label _, _, _, ρ, _, h => fun _ hs => wpIn_label ⟨ρ, hs, h⟩
  | .region id ops draw, U, Q, ρ, w, h => fun a hs => by
    cases draw with
    | false => exact wpIn_region (opsW_sound hng (fun ρ' a' w' hs' h' => ⟨_, hs'.keep U, h'⟩) _ _ ρ a w (by
        apply List.ext_getElem?
        intro j
        simp only [List.getElem?_map, Array.getElem?_toList]
        rcases Nat.lt_or_ge j ops.size with hj | hj
        · rw [List.getElem?_range hj]; simp [Array.getElem?_eq_getElem hj]
        · rw [List.getElem?_eq_none (by simpa using hj)]; simp [Array.getElem?_eq_none hj]) hs h)
    | true =>
      refine wpIn_mono (drawW_sound hng hmix hs h) ?_
      intro e a' w' h'
      cases e with
      | normal => obtain ⟨ρ', hs', h'⟩ := h'; exact ⟨_, hs'.keep U, h'⟩
      | _ => exact h'.elim
  | .seq x y, U, Q, ρ, w, h => fun a hs => by
    refine wpIn_seq (wpIn_mono (codeW_sound hng hmix x _ _ ρ w h a hs) ?_)
    rintro e a' w' ⟨ρ', hs', h'⟩
    cases e with
    | normal =>
      simp only [thenQ] at h'
      split at h'
      · exact h' a' hs'
      · exact codeW_sound hng hmix y U Q ρ' w' h' a' hs'
    | _ => exact ⟨ρ', hs', h'⟩
  | .cond c x y, U, Q, ρ, w, h => fun a hs => by
    simp only [codeW] at h
    split at h
    · rename_i t ht
      have he : a.eval c = .bool t := by
        rw [opnd_sat hs (by rw [ht]; rfl)]
        simp [eval, ht]
      cases t
      · exact wpIn_cond_false he (codeW_sound hng hmix y U Q _ w h a (hs.keep _))
      · exact wpIn_cond_true he (codeW_sound hng hmix x U Q _ w h a (hs.keep _))
    · exact h.elim
  | .block id c, U, Q, ρ, w, h => fun a hs => by
    refine wpIn_block (wpIn_mono (codeW_sound hng hmix c U _ ρ w h a hs) ?_)
    rintro e a' w' ⟨ρ', hs', h'⟩
    cases e with
    | exit id' =>
      simp only [blockQ] at h'
      simp only [Exit.inBlock]
      split at h'
      · rename_i hb
        rw [if_pos (Nat.eq_of_beq_eq_true hb)]
        exact ⟨_, hs'.keep U, h'⟩
      · rename_i hb
        rw [if_neg (Nat.ne_of_beq_eq_false hb)]
        exact ⟨_, hs', h'⟩
    | _ => exact ⟨ρ', hs', h'⟩
  | .exit _, _, _, ρ, _, h => fun _ hs => wpIn_exit ⟨ρ, hs, h⟩
  | .ret, _, _, ρ, _, h => fun _ hs => wpIn_ret ⟨ρ, hs, h⟩
  | .loop _, _, _, _, _, h => h
  | .rangeFunc _ _ _ _, _, _, _, _, h => h
  | .scope _, _, _, _, _, h => h.elim
  | .goto _, _, _, _, _, h => h.elim
  | .refuse _, _, _, _, _, h => h.elim

/-- what a round leaves -/
def roundQ {S : Type} (env : S → Env) (I : S → World → Prop) (μ : S → World → Nat) (s : S) (w : World) (Q : Post) : Post :=
  thenQ (fun ρ' w' => ∃ s', ρ' = env s' ∧ I s' w' ∧ μ s' w' < μ s w) Q

theorem wpIn_loopG {F : Fence} {m : Nat} {S : Type} {c : Code} {Q : Exit → Act → World → Prop} {a : Act} {w : World} (I : S → Act → World → Prop) (μ : S → World → Nat) (s : S) (h₀ : I s a w)
    (round : ∀ s a w, I s a w → c.wpIn F m P (Exit.then (fun a' w' => ∃ s', I s' a' w' ∧ μ s' w' < μ s w) Q) a w) : (Code.loop c).wpIn F m P Q a w := by
  intro b k cs hro hb hr
  have key : ∀ j s a w, μ s w = j → I s a w →
      ∃ e a' w', Q e a' w' ∧ ArrivesIn (Machine.fenced P F) P (lone (b.atR a (.code c :: .inLoop c :: k)) cs w) b k cs e a' w' := by
    intro j
    induction j using Nat.strongRecOn with
    | _ j ih =>
      intro s a w hn hI
      obtain ⟨e, a₁, w₁, hq, harr⟩ := round s a w hI b (.inLoop c :: k) cs hro hb hr
      cases e with
      | normal =>
        obtain ⟨s', hI₁, hlt⟩ := hq
        obtain ⟨e₂, a₂, w₂, hq₂, harr₂⟩ := ih (μ s' w₁) (hn ▸ hlt) s' a₁ w₁ rfl hI₁
        exact ⟨e₂, a₂, w₂, hq₂, .of_steps (StepsIn.trans harr (.one (fenced_calm hb hr rfl) stepR_inLoop)) harr₂⟩
      | exit id => exact ⟨_, a₁, w₁, hq, .pass (x := .inLoop c) rfl (fun _ _ => .inl (by simp)) harr⟩
      | goto l => exact ⟨_, a₁, w₁, hq, .pass (x := .inLoop c) rfl (fun _ _ => .inl (by simp)) harr⟩
      | ret => exact ⟨_, a₁, w₁, hq, .pass (x := .inLoop c) rfl (fun _ _ => .inl (by simp)) harr⟩
      | panic ch => exact ⟨_, a₁, w₁, hq, .pass (x := .inLoop c) rfl (fun _ _ => .inl (by simp)) harr⟩
      | outgrown => exact ⟨_, a₁, w₁, hq, .pass (x := .inLoop c) rfl (fun _ _ => .inl (by simp)) harr⟩
  obtain ⟨e, a', w', hq, harr⟩ := key _ s a w rfl h₀
  exact ⟨e, a', w', hq, .of_steps (.one (fenced_calm hb hr rfl) stepR_loop) harr⟩

theorem loop_rule (hng : NG P) (hmix : P.follows .mixedOrders = true) {S : Type} (env : S → Env) (I : S → World → Prop) (μ : S → World → Nat) {c : Code} {Q : Post} {w : World} (C U : List Nat) (s : S)
    (h0 : I s w) (round : ∀ s w, I s w → codeW r ds P n C c U (roundQ env I μ s w Q) (env s) w) : Holds r ds P n (.loop c) Q (env s) w := by
  intro a hs
  refine wpIn_loopG (fun s a w => Sat n ds (env s) a ∧ I s w) μ s ⟨hs, h0⟩ ?_
  rintro s a w ⟨hs, hI⟩
  refine wpIn_mono (codeW_sound hng hmix c U _ _ w (round s w hI) a hs) ?_
  rintro e a' w' ⟨ρ', hs', h'⟩
  cases e with
  | normal => obtain ⟨s', rfl, h1, h2⟩ := h'; exact ⟨s', ⟨hs', h1⟩, h2⟩
  | _ => exact ⟨ρ', hs', h'⟩

/-! parts of a text -/
def sL : Code → Code | .seq a _ => a | c => c
def sR : Code → Code | .seq _ b => b | c => c
def bB : Code → Code | .block _ c => c | c => c
def lB : Code → Code | .loop c => c | c => c
def cT : Code → Code | .cond _ a _ => a | c => c
def cE : Code → Code | .cond _ _ b => b | c => c
def body (fn : Func) : Code := match fn.body with | some c => c | none => .skip

/-- what a function hands back -/
def resV (fn : Func) (ρ : Env) (k : Value → Prop) : Prop :=
  match fn.results.toList with
  | [] => k (.tuple #[])
  | [.tmp t] => Is (find ρ t) k
  | [.tmp t, .tmp u] => Is (find ρ t) fun x => Is (find ρ u) fun y => k (.tuple #[x, y])
  | [.tmp t, .tmp u, .tmp v] => Is (find ρ t) fun x => Is (find ρ u) fun y => Is (find ρ v) fun z => k (.tuple #[x, y, z])
  | _ => False
def resSlots (fn : Func) : List Nat := fn.results.toList.filterMap fun | .tmp t => some t | _ => none
def funQ (fn : Func) (K : Value → World → Prop) : Post
  | .normal, ρ, w => resV fn ρ fun v => K v w
  | .ret, ρ, w => resV fn ρ fun v => K v w
  | _, _, _ => False
def argEnv : List Value → Nat → Env
  | [], _ => []
  | v :: vs, i => (i, v) :: argEnv vs (i + 1)

theorem resV_sound {fn : Func} {ρ : Env} {a : Act} {k : Value → Prop} (hs : Sat n ds ρ a) (h : resV fn ρ k) (w : World) : ∃ v, (results fn a.tmps).run P w = .ok v w ∧ k v := by
  unfold resV at h
  have key : ∀ t v, find ρ t = some v → a.tmps.getD t undef = v := fun t v hv => hs.vals t v hv
  have harr : fn.results = fn.results.toList.toArray := by simp
  split at h
  · rename_i hr
    rw [hr] at harr
    exact ⟨_, by simp [results, harr], h⟩
  · rename_i t hr
    rw [hr] at harr
    obtain ⟨x, hx, h⟩ := h.out
    have e1 := key _ _ hx
    refine ⟨x, ?_, h⟩
    simp only [results, harr]
    simp at e1
    simp [e1]
  · rename_i t u hr
    rw [hr] at harr
    obtain ⟨x, hx, h⟩ := h.out
    obtain ⟨y, hy, h⟩ := h.out
    have e1 := key _ _ hx
    have e2 := key _ _ hy
    refine ⟨_, ?_, h⟩
    simp only [results, harr]
    simp at e1 e2
    simp [e1, e2]
  · rename_i t u v hr
    rw [hr] at harr
    obtain ⟨x, hx, h⟩ := h.out
    obtain ⟨y, hy, h⟩ := h.out
    obtain ⟨z, hz, h⟩ := h.out
    have e1 := key _ _ hx
    have e2 := key _ _ hy
    have e3 := key _ _ hz
    refine ⟨_, ?_, h⟩
    simp only [results, harr]
    simp at e1 e2 e3
    simp [e1, e2, e3]
  · exact h.elim

theorem find_argEnv : ∀ (vs : List Value) (i j : Nat) (v : Value), find (argEnv vs i) j = some v → ∃ k, j = i + k ∧ vs[k]? = some v
  | [], _, _, _, h => by simp [argEnv, find] at h
  | u :: vs, i, j, v, h => by
    simp only [argEnv, find] at h
    cases hb : Nat.beq i j
    · rw [hb] at h
      obtain ⟨k, hk, hv⟩ := find_argEnv vs (i + 1) j v h
      exact ⟨k + 1, by omega, by simpa using hv⟩
    · rw [hb] at h
      cases h
      exact ⟨0, by have := Nat.eq_of_beq_eq_true hb; omega, rfl⟩

/-- a call, out of its text -/
theorem ret_of_code {C : List Nat} (hng : NG P) (hmix : P.follows .mixedOrders = true) {f : FuncId} {fn : Func} {c : Code} {args : List Value} {w : World} {K : Value → World → Prop}
    (hf : P.funcs[f]? = some fn) (hb : fn.body = some c) (hn : Nat.ble args.length fn.ntmps = true)
    (h : codeW none [] P fn.ntmps C c (resSlots fn) (funQ fn K) (argEnv args 0) w) : Ret P f args.toArray w K := by
  have hn := Nat.le_of_ble_eq_true hn
  refine calls_of_wp hf hb (wpIn_wide (n := 0).1 (wpIn_mono (codeW_sound hng hmix c _ _ _ w h _ ?_) ?_))
  · refine ⟨by simp; omega, rfl, fun i v hi => ?_⟩
    obtain ⟨k, hk, hv⟩ := find_argEnv _ _ _ _ hi
    have : i = k := by omega
    subst this
    have hlt : i < args.length := (List.getElem?_eq_some_iff.1 hv).1
    have hg : args[i] = v := (List.getElem?_eq_some_iff.1 hv).2
    simp [Array.getElem?_append, hlt, hg]
  · rintro e a' w' ⟨ρ', hs', h'⟩
    cases e with
    | normal =>
      obtain ⟨v, hv, hk⟩ := resV_sound (P := P) (k := fun v => K v w') hs' h' w'
      exact ⟨hs'.defers, v, hv, v, rfl, hk⟩
    | ret =>
      obtain ⟨v, hv, hk⟩ := resV_sound (P := P) (k := fun v => K v w') hs' h' w'
      exact ⟨hs'.defers, v, hv, v, rfl, hk⟩
    | _ => exact h'.elim

theorem ret_of_eq {C : List Nat} (hng : NG P) (hmix : P.follows .mixedOrders = true) {f : FuncId} {fn : Func} {c : Code} {args : List Value} {w : World} {K : Value → World → Prop} {W : Prop}
    (hf : P.funcs[f]? = some fn) (hb : fn.body = some c) (hn : Nat.ble args.length fn.ntmps = true)
    (hs : codeW none [] P fn.ntmps C c (resSlots fn) (funQ fn K) (argEnv args 0) w = W) (h : W) : Ret P f args.toArray w K :=
  ret_of_code hng hmix hf hb hn (Eq.mpr hs h)
theorem holds_of_eq {C : List Nat} (hng : NG P) (hmix : P.follows .mixedOrders = true) {c : Code} {U : List Nat} {Q : Post} {ρ : Env} {w : World} {W : Prop}
    (hs : codeW r ds P n C c U Q ρ w = W) (h : W) : Holds r ds P n c Q ρ w := codeW_sound hng hmix c U Q ρ w (Eq.mpr hs h)
theorem loop_of_eq (hng : NG P) (hmix : P.follows .mixedOrders = true) {S : Type} (env : S → Env) (I : S → World → Prop) (μ : S → World → Nat) {c : Code} {Q : Post} {w : World} (C U : List Nat) (s : S)
    (B : S → Post → World → Prop) (hB : ∀ s Q w, codeW r ds P n C c U Q (env s) w = B s Q w)
    (h0 : I s w) (round : ∀ s w, I s w → B s (roundQ env I μ s w Q) w) : Holds r ds P n (.loop c) Q (env s) w :=
  loop_rule hng hmix env I μ C U s h0 fun s w hI => Eq.mpr (hB s _ w) (round s w hI)

end
end Go.Lite
