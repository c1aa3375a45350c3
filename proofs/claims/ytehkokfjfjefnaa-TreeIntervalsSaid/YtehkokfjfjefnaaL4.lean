/-
  Variables as a list, regions in the text's order, code: the rules.
-/
import Derived.Test.YtehkokfjfjefnaaL3
namespace Go.Lite

abbrev Env := List (Nat × Value)
def find : Env → Nat → Option Value
  | [], _ => none
  | (j, v) :: ρ, i => bif Nat.beq j i then some v else find ρ i
def put : Env → Nat → Value → Env
  | [], i, v => [(i, v)]
  | (j, u) :: ρ, i, v => bif Nat.beq j i then (i, v) :: ρ else bif Nat.blt i j then (i, v) :: (j, u) :: ρ else (j, u) :: put ρ i v
def memb : List Nat → Nat → Bool
  | [], _ => false
  | j :: l, i => bif Nat.beq j i then true else memb l i
/-- what is kept of the variables -/
def keep (ks : List Nat) : Env → Env
  | [] => []
  | (j, v) :: ρ => bif memb ks j then (j, v) :: keep ks ρ else keep ks ρ

theorem find_put (ρ : Env) (i : Nat) (v : Value) (k : Nat) : find (put ρ i v) k = if i = k then some v else find ρ k := by
  induction ρ with
  | nil =>
    simp only [put, find]
    cases hb : Nat.beq i k
    · rw [if_neg (Nat.ne_of_beq_eq_false hb)]; rfl
    · rw [if_pos (Nat.eq_of_beq_eq_true hb)]; rfl
  | cons p ρ ih =>
    obtain ⟨j, u⟩ := p
    simp only [put]
    cases h1 : Nat.beq j i
    · simp only [cond_false]
      cases h2 : Nat.blt i j
      · simp only [cond_false, find, ih]
        cases h3 : Nat.beq j k
        · simp
        · have e3 := Nat.eq_of_beq_eq_true h3
          have e1 := Nat.ne_of_beq_eq_false h1
          subst e3
          have e2 : ¬ i = j := fun e => e1 e.symm
          simp [e2]
      · simp only [cond_true, find]
        cases h3 : Nat.beq i k
        · rw [if_neg (Nat.ne_of_beq_eq_false h3)]; rfl
        · rw [if_pos (Nat.eq_of_beq_eq_true h3)]; rfl
    · have e1 := Nat.eq_of_beq_eq_true h1
      subst e1
      simp only [cond_true, find]
      cases h3 : Nat.beq j k
      · rw [if_neg (Nat.ne_of_beq_eq_false h3)]; rfl
      · rw [if_pos (Nat.eq_of_beq_eq_true h3)]; rfl
theorem keep_mem (ks : List Nat) : ∀ (ρ : Env) (i : Nat) (v : Value), find (keep ks ρ) i = some v → memb ks i = true
  | [], _, _, h => by simp [keep, find] at h
  | (j, u) :: ρ, i, v, h => by
    simp only [keep] at h
    cases hm : memb ks j
    · rw [hm] at h
      exact keep_mem ks ρ i v h
    · rw [hm] at h
      simp only [cond_true, find] at h
      cases hb : Nat.beq j i
      · rw [hb] at h; exact keep_mem ks ρ i v h
      · rw [← Nat.eq_of_beq_eq_true hb]; exact hm
theorem keep_find (ks : List Nat) : ∀ (ρ : Env) (i : Nat) (v : Value), find (keep ks ρ) i = some v → find ρ i = some v
  | [], _, _, h => by simp [keep, find] at h
  | (j, u) :: ρ, i, v, h => by
    have hmem := keep_mem ks ((j, u) :: ρ) i v h
    simp only [keep] at h
    simp only [find]
    cases hb : Nat.beq j i
    · simp only [cond_false]
      cases hm : memb ks j
      · rw [hm] at h; exact keep_find ks ρ i v h
      · rw [hm] at h
        simp only [cond_true, find, hb, cond_false] at h
        exact keep_find ks ρ i v h
    · have e := Nat.eq_of_beq_eq_true hb
      subst e
      rw [hmem] at h
      simpa [find, hb] using h

/-- the variables are (at least) as the list says -/
structure Sat (n : Nat) (ds : List Deferred) (ρ : Env) (a : Act) : Prop where
  size : a.tmps.size = n
  defers : a.defers = ds
  vals : ∀ i v, find ρ i = some v → a.tmps.getD i undef = v

def opnd (ρ : Env) : Operand → Option Value
  | .tmp t => find ρ t
  | .const v => some v
  | .global g => some (.pointer (some ⟨g, 0, none⟩))
  | .func f => some (.func (.func f) #[] #[])
def eval (ρ : Env) (x : Operand) : Value := (opnd ρ x).getD undef
def present (ρ : Env) : List Operand → Bool
  | [] => true
  | x :: l => bif (opnd ρ x).isSome then present ρ l else false
def noSel (o : Oper) : Bool := match o.op with | .select .. | .defer _ => false | _ => true
/-- an operation whose operands are all known -/
def known (ρ : Env) (o : Oper) : Bool := bif noSel o then present ρ o.op.operands.toList else false

def putD (n : Nat) (ρ : Env) (d : Option Tmp) (v : Value) (K : Env → Prop) : Prop :=
  match d with
  | none => K ρ
  | some d => match Nat.blt d n with
    | true => K (put ρ d v)
    | false => False

/-- is the operation wanted? -/
def guarded (ops : Array Oper) (n : Nat) (o : Oper) (ρ : Env) (yes no : Env → Prop) : Prop :=
  match o.guard with
  | none => yes ρ
  | some (j, want) =>
    match (ops[j]?).bind (·.dst) with
    | some d => match Nat.blt d n, find ρ d with
      | true, some (.bool b) => Split b (match want with | true => yes (put ρ d (.bool true)) | false => no (put ρ d (.bool true))) (match want with | true => no (put ρ d (.bool false)) | false => yes (put ρ d (.bool false)))
      | true, some (.tuple _) => no ρ
      | _, _ => False
    | none => False

inductive Cls where | pure | read | eff
def cls (o : Oper) : Cls :=
  match o.op with
  | .load .. => .read
  | .alloc .. | .box .. | .buildSlice .. | .store .. | .makeSlice .. | .makeMap .. | .mapUpdate .. | .insert .. | .range .. | .next .. | .lookup .. => .eff
  | .call c => match c.callee with | .builtin .len => .pure | _ => .eff
  | _ => .pure

/-- one operation -/
def opStep (P : Program) (n : Nat) (ρ : Env) (o : Oper) (w : World) (K : Env → World → Prop) : Prop :=
  bif known ρ o then
    match cls o with
    | .pure => pureStep P (eval ρ) o fun v => putD n ρ o.dst v fun ρ' => K ρ' w
    | .read => readStep P (eval ρ) o w fun v => putD n ρ o.dst v fun ρ' => K ρ' w
    | .eff => effStep P (eval ρ) o w fun v w' => putD n ρ o.dst v fun ρ' => K ρ' w'
  else False

/-- the operations in the text's order -/
def opsW (P : Program) (n : Nat) (ops : Array Oper) : List Oper → Env → World → (Env → World → Prop) → Prop
  | [], ρ, w, K => K ρ w
  | o :: os, ρ, w, K =>
    guarded ops n o ρ (fun ρ => opStep P n ρ o w fun ρ' w' => opsW P n ops os ρ' w' K)
      (fun ρ => putD n ρ o.dst undef fun ρ' => opsW P n ops os ρ' w K)

section
variable {P : Program} {n : Nat} {ds : List Deferred} {r : Option Nat}

theorem Sat.put {ρ : Env} {a : Act} (h : Sat n ds ρ a) {d : Nat} {v : Value} (hd : d < n) : Sat n ds (put ρ d v) (a.put (some d) v) := by
  refine ⟨by simp [Act.put, h.size], h.defers, fun i u hi => ?_⟩
  rw [find_put] at hi
  by_cases e : d = i
  · subst e
    rw [if_pos rfl] at hi
    cases hi
    simp [Act.put, h.size, hd]
  · rw [if_neg e] at hi
    have := h.vals i u hi
    simpa [Act.put, Array.getElem?_setIfInBounds_ne e] using this
theorem Sat.mono {ρ ρ' : Env} {a : Act} (h : Sat n ds ρ a) (hs : ∀ i v, find ρ' i = some v → find ρ i = some v) : Sat n ds ρ' a :=
  ⟨h.size, h.defers, fun i v hi => h.vals i v (hs i v hi)⟩
theorem Sat.keep {ρ : Env} {a : Act} (h : Sat n ds ρ a) (ks : List Nat) : Sat n ds (keep ks ρ) a := h.mono (keep_find ks ρ)
theorem Sat.same {ρ : Env} {a : Act} (h : Sat n ds ρ a) {d : Nat} {v : Value} (hd : find ρ d = some v) : Sat n ds (Lite.put ρ d v) a := by
  refine h.mono fun i u hi => ?_
  rw [find_put] at hi
  by_cases e : d = i
  · subst e; rw [if_pos rfl] at hi; rw [hd]; exact hi
  · rwa [if_neg e] at hi

theorem opnd_sat {ρ : Env} {a : Act} (h : Sat n ds ρ a) {x : Operand} (hx : (opnd ρ x).isSome) : a.eval x = eval ρ x := by
  cases x with
  | tmp t =>
    obtain ⟨v, hv⟩ := Option.isSome_iff_exists.1 hx
    simp only [opnd] at hv
    simp only [eval, opnd, hv, Option.getD_some, Act.eval]
    exact h.vals t v hv
  | const v => rfl
  | global g => rfl
  | func f => rfl
theorem present_mem {ρ : Env} : ∀ {l : List Operand}, present ρ l = true → ∀ x ∈ l, (opnd ρ x).isSome
  | [], _, x, hx => by cases hx
  | y :: l, h, x, hx => by
    simp only [present] at h
    cases hy : (opnd ρ y).isSome
    · rw [hy] at h; simp at h
    · rw [hy] at h
      rcases List.mem_cons.1 hx with rfl | hx
      · exact hy
      · exact present_mem h x hx
theorem known_exec {ρ : Env} {a : Act} (h : Sat n ds ρ a) {o : Oper} (hk : known ρ o = true) : execOp a.eval o = execOp (eval ρ) o := by
  unfold known at hk
  cases hn : noSel o
  · rw [hn] at hk; simp at hk
  · rw [hn] at hk
    refine execOp_congr o (fun cs b e => by simp [noSel, e] at hn) fun x hx => opnd_sat h (present_mem hk x (by simpa using hx))
theorem known_noDefer {ρ : Env} {o : Oper} (hk : known ρ o = true) : ∀ c, o.op ≠ .defer c := by
  intro c e
  simp [known, noSel, e] at hk

theorem putD_sat {ρ : Env} {a : Act} {d : Option Tmp} {v : Value} {K : Env → Prop} (h : Sat n ds ρ a) (hp : putD n ρ d v K) :
    ∃ ρ', Sat n ds ρ' (a.put d v) ∧ K ρ' := by
  cases d with
  | none => exact ⟨ρ, h, hp⟩
  | some d =>
    simp only [putD] at hp
    split at hp
    · rename_i hb
      exact ⟨_, h.put (Nat.le_of_ble_eq_true hb), hp⟩
    · exact hp.elim

theorem callsIn_FR {m : Nat} {f : FuncId} {args : Array Value} {w : World} {R : Ending → World → Prop} (h : Calls P f args w R) : CallsIn (FR r) m P f args w R :=
  callsIn_wide.2 h

/-- what becomes of an operation that acts, in the machine -/
theorem Acts.wpIn {m : Nat} {o : Oper} {a : Act} {w : World} {k : Value → World → Prop} {K : Act → World → Prop} {Q : Exit → Act → World → Prop}
    (hd : ∀ c, o.op ≠ .defer c) (h : Acts P a.eval o w k) (hk : ∀ v w', k v w' → K (a.put o.dst v) w') : o.wpIn (FR r) m P a w K Q := by
  refine ⟨fun _ _ => trivial, ?_⟩
  rw [Oper.semAt_eq _ _ _ hd]
  rcases h with ⟨v, w', hr, h⟩ | ⟨w', hr, h⟩ | ⟨g, args, hr, h⟩
  · rw [hr]; exact hk _ _ h
  · rw [hr]; exact hk _ _ h
  · rw [hr]
    refine ⟨fun h => by simp at h, callsIn_FR (Calls.mono h ?_)⟩
    rintro e w' ⟨v, rfl, hv⟩
    exact hk _ _ hv

theorem opStep_acts (hng : NG P) {ρ : Env} {a : Act} {o : Oper} {w : World} {K : Env → World → Prop} (hs : Sat n ds ρ a) (h : opStep P n ρ o w K) :
    (∀ c, o.op ≠ .defer c) ∧ Acts P a.eval o w fun v w' => ∃ ρ', Sat n ds ρ' (a.put o.dst v) ∧ K ρ' w' := by
  unfold opStep at h
  cases hk : known ρ o
  · rw [hk] at h; exact h.elim
  · rw [hk, cond_true] at h
    refine ⟨known_noDefer hk, ?_⟩
    have he := known_exec hs hk
    unfold Acts
    rw [he]
    cases hc : cls o <;> rw [hc] at h
    · obtain ⟨v, hv, h⟩ := pureStep_sound h
      exact .inl ⟨v, w, hv w, putD_sat hs h⟩
    · obtain ⟨v, h1, h2, h⟩ := readStep_sound h
      exact .inl ⟨v, w, h2 w h1, putD_sat hs h⟩
    · rcases effStep_sound hng h with ⟨v, w', hr, h⟩ | ⟨w', hr, h⟩ | ⟨g, args, hr, h⟩
      · exact .inl ⟨v, w', hr, putD_sat hs h⟩
      · exact .inr (.inl ⟨w', hr, putD_sat hs h⟩)
      · exact .inr (.inr ⟨g, args, hr, Calls.mono h fun e w' ⟨v, hv, h⟩ => ⟨v, hv, putD_sat hs h⟩⟩)

/-- wanted or not, in the machine -/
theorem guarded_sound {ops : Array Oper} {o : Oper} {ρ : Env} {a : Act} {yes no : Env → Prop} (hs : Sat n ds ρ a) (h : guarded ops n o ρ yes no) :
    ∃ ρ', Sat n ds ρ' a ∧ ((Region.wanted o (yielded ops a.tmps) = true ∧ yes ρ') ∨ (Region.wanted o (yielded ops a.tmps) = false ∧ no ρ')) := by
  unfold guarded at h
  split at h
  · rename_i hg
    exact ⟨ρ, hs, .inl ⟨by simp [Region.wanted, hg], h⟩⟩
  · rename_i j want hg
    split at h
    · rename_i d hd
      split at h
      · rename_i b hlt hb
        have hdn : d < a.tmps.size := by rw [hs.size]; exact Nat.le_of_ble_eq_true hlt
        have hv := hs.vals d _ hb
        have hy : yielded ops a.tmps j = some b := by
          unfold yielded
          rw [hd]
          simp only [Option.bind_some]
          have : a.tmps[d]? = some (.bool b) := by
            rw [Array.getElem?_eq_getElem hdn]
            simpa [Array.getD, hdn] using hv
          rw [this]
        refine ⟨put ρ d (.bool b), hs.same hb, ?_⟩
        unfold Region.wanted
        rw [hg]
        simp only [hy]
        cases b <;> cases want <;> simp only [Split] at h
        · exact .inl ⟨rfl, h⟩
        · exact .inr ⟨rfl, h⟩
        · exact .inr ⟨rfl, h⟩
        · exact .inl ⟨rfl, h⟩
      · rename_i vs hlt hb
        have hv := hs.vals d _ hb
        have hdn : d < a.tmps.size := by rw [hs.size]; exact Nat.le_of_ble_eq_true hlt
        refine ⟨ρ, hs, .inr ⟨?_, h⟩⟩
        unfold Region.wanted
        rw [hg]
        have hy : yielded ops a.tmps j = none := by
          unfold yielded
          rw [hd]
          simp only [Option.bind_some]
          have : a.tmps[d]? = some (.tuple vs) := by
            rw [Array.getElem?_eq_getElem hdn]
            simpa [Array.getD, hdn] using hv
          rw [this]
        simp [hy]
      · exact h.elim
    · exact h.elim

theorem opsW_sound (hng : NG P) {ops : Array Oper} {Q : Exit → Act → World → Prop} {K : Env → World → Prop} {m : Nat} (hQ : ∀ ρ a w, Sat n ds ρ a → K ρ w → Q .normal a w) :
    ∀ (l : List Nat) (os : List Oper) (ρ : Env) (a : Act) (w : World), l.map (ops[·]?) = os.map some → Sat n ds ρ a → opsW P n ops os ρ w K → wpOpsIn (FR r) m P ops Q l a w
  | [], [], ρ, a, w, _, hs, h => hQ ρ a w hs h
  | i :: l, o :: os, ρ, a, w, hl, hs, h => by
    simp only [List.map_cons, List.cons.injEq] at hl
    obtain ⟨ho, hl⟩ := hl
    simp only [wpOpsIn, ho]
    obtain ⟨ρ', hs', ⟨hw, h⟩ | ⟨hw, h⟩⟩ := guarded_sound hs h
    · simp only [hw, if_true]
      obtain ⟨hd, hact⟩ := opStep_acts hng hs' h
      refine hact.wpIn hd ?_
      rintro v w' ⟨ρ'', hs'', h''⟩
      exact opsW_sound hng hQ l os ρ'' _ w' hl hs'' h''
    · simp only [hw, Bool.false_eq_true, if_false]
      obtain ⟨ρ'', hs'', h''⟩ := putD_sat hs' h
      exact ⟨fun _ _ => trivial, opsW_sound hng hQ l os ρ'' _ w hl hs'' h''⟩
  | [], _ :: _, _, _, _, hl, _, _ => by simp at hl
  | _ :: _, [], _, _, _, hl, _, _ => by simp at hl

end
end Go.Lite
