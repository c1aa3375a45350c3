/-
  A region that draws its order: it is enough to go through it once, in an order that is reckoned, if what is read is not turned by what may come before it.
-/
import Derived.Test.YtehkokfjfjefnaaL4
namespace Go.Lite

abbrev Fl := List (Nat × (World → Prop))
/-- what came ahead of what: a number of bits for each operation -/
def maskAt (l : List Nat) (i : Nat) : Nat := match l, i with | [], _ => 0 | x :: _, 0 => x | _ :: l, i + 1 => maskAt l i
def maskOf (ops : List Oper) : List Nat → List Nat
  | acc => match ops with
    | [] => acc
    | o :: os => maskOf os (acc ++ [o.after.toList.foldl (fun s e => bif Region.binds .any e then s ||| 2 ^ e.on ||| maskAt acc e.on else s) 0])
/-- whatever stands in one's bits stands right ahead of it, or in the bits of one that does -/
def maskOk (ops : Array Oper) (ms : List Nat) : Bool :=
  (List.range ops.size).all fun j => (List.range ops.size).all fun k => !(maskAt ms j).testBit k ||
    match ops[j]? with
    | some o => o.after.toList.any fun e => Region.binds .any e && (e.on == k || (maskAt ms e.on).testBit k)
    | none => false
def flt (m : Nat) : Fl → Fl
  | [] => []
  | (r, p) :: l => match m.testBit r with | true => flt m l | false => (r, p) :: flt m l
def obl (m : Nat) : Fl → World → Prop → Prop
  | [], _, k => k
  | (r, p) :: l, w, k => match m.testBit r with | true => obl m l w k | false => p w ∧ obl m l w k

def pl (ops : Array Oper) : Nat → Array Bool → List Nat
  | 0, _ => []
  | k + 1, listed =>
    match Region.ready .any ops listed with
    | [] => []
    | i0 :: rest =>
      let i := ((i0 :: rest).find? fun i => match ops[i]? with | some o => (match cls o with | .eff => false | _ => true) | none => false).getD i0
      i :: pl ops k (listed.setIfInBounds i true)
def chk (ops : Array Oper) : List Nat → Array Bool → Bool
  | [], listed => (Region.ready .any ops listed).isEmpty
  | i :: π, listed =>
    (match ops[i]? with
     | some o => match cls o with
       | .eff => Region.ready .any ops listed == [i]
       | _ => (Region.ready .any ops listed).contains i && Region.free .any ops listed i
     | none => false) && chk ops π (listed.setIfInBounds i true)

def planW (P : Program) (n : Nat) (ops : Array Oper) (ms : List Nat) : List Nat → Env → Fl → World → (Env → World → Prop) → Prop
  | [], ρ, _, w, K => K ρ w
  | i :: π, ρ, fl, w, K =>
    match ops[i]? with
    | none => False
    | some o =>
      guarded ops n o ρ (fun ρ =>
        bif known ρ o then
          match cls o with
          | .pure => pureStep P (eval ρ) o fun v => putD n ρ o.dst v fun ρ' => planW P n ops ms π ρ' fl w K
          | .read => readStep P (eval ρ) o w fun v => putD n ρ o.dst v fun ρ' => planW P n ops ms π ρ' ((i, readSame P (eval ρ) o v) :: fl) w K
          | .eff => effStep P (eval ρ) o w fun v w' => putD n ρ o.dst v fun ρ' => obl (maskAt ms i) fl w' (planW P n ops ms π ρ' (flt (maskAt ms i) fl) w' K)
        else False)
        (fun ρ => putD n ρ o.dst undef fun ρ' => planW P n ops ms π ρ' fl w K)

def drawW (P : Program) (n : Nat) (ops : Array Oper) (ρ : Env) (w : World) (K : Env → World → Prop) : Prop :=
  let listed := Array.replicate ops.size false
  let π := pl ops ops.size listed
  let ms := maskOf ops.toList []
  match maskOk ops ms && chk ops π listed && ops.toList.all noSel with
  | true => planW P n ops ms π ρ [] w.drew K
  | false => False

section
variable {P : Program} {n : Nat} {ds : List Deferred} {r : Option Nat} {m : Nat} {ops : Array Oper} {Q : Exit → Act → World → Prop}

/-- in every world that meets S the operation leaves v and does nothing else; or it is not wanted -/
def YS (P : Program) (ops : Array Oper) (S : World → Prop) (o : Oper) (v : Value) (a : Act) : Prop :=
  (Region.wanted o (yielded ops a.tmps) = true ∧ ∀ w, S w → (execOp a.eval o).run P w = .ok (.value v) w) ∨
  (Region.wanted o (yielded ops a.tmps) = false ∧ v = undef)
theorem YS.of_same {S : World → Prop} {o : Oper} {v : Value} {a a' : Act} (hy : YS P ops S o v a) (he : execOp a'.eval o = execOp a.eval o)
    (hw : Region.wanted o (yielded ops a'.tmps) = Region.wanted o (yielded ops a.tmps)) : YS P ops S o v a' := by
  unfold YS at *
  rw [he, hw]
  exact hy
theorem YS.wpOpIn {S : World → Prop} {i : Nat} {o : Oper} {v : Value} {a : Act} (hi : ops[i]? = some o) (hn : noSel o = true) (hy : YS P ops S o v a)
    {K : Act → World → Prop} {w : World} (hS : S w) (h : K (a.put o.dst v) w) : wpOpIn (FR r) m P ops Q i K a w := by
  unfold Go.wpOpIn
  simp only [hi]
  rcases hy with ⟨hw, hv⟩ | ⟨hw, rfl⟩
  · simp only [hw, if_true]
    refine ⟨fun _ _ => trivial, ?_⟩
    rw [Oper.semAt_eq _ _ _ (fun c e => by simp [noSel, e] at hn), hv w hS]
    exact h
  · simp only [hw, Bool.false_eq_true, if_false]
    exact ⟨fun _ _ => trivial, h⟩

theorem wpOpIn_putS {S : World → Prop} {j : Nat} {oi oj : Oper} {v : Value} (hj : ops[j]? = some oj) (hap : oi.apart ops oj = true)
    (hni : noSel oi = true) (hnj : noSel oj = true) (hQ : ∀ c a w, ¬ Q (.panic c) a w) {K : Act → World → Prop} {a : Act} {w : World}
    (hy : YS P ops S oi v a) (h : wpOpIn (FR r) m P ops Q j K (a.put oi.dst v) w) :
    wpOpIn (FR r) m P ops Q j (fun a' w' => YS P ops S oi v a' ∧ K (a'.put oi.dst v) w') a w := by
  obtain ⟨h1, h2, h3⟩ := Oper.apart_spec hap
  have hsi : ∀ cs b, oi.op ≠ .select cs b := fun cs b e => by simp [noSel, e] at hni
  have hsj : ∀ cs b, oj.op ≠ .select cs b := fun cs b e => by simp [noSel, e] at hnj
  have hdj : ∀ c, oj.op ≠ .defer c := fun c e => by simp [noSel, e] at hnj
  have keep : ∀ (a : Act), YS P ops S oi v a → ∀ u, YS P ops S oi v (a.put oj.dst u) := fun a hy u =>
    hy.of_same (execOp_put oi hsi a oj.dst u h3) (wanted_put oi a oj.dst u h3)
  have keepD : ∀ d, YS P ops S oi v { a with defers := d :: a.defers } := fun d => hy.of_same rfl rfl
  unfold Go.wpOpIn at *
  simp only [hj] at *
  rw [wanted_put oj a oi.dst v h1] at h
  split
  · rename_i hw
    simp only [hw, if_true] at h
    refine ⟨fun _ _ => trivial, ?_⟩
    have h := h.2
    rw [Oper.semAt_eq _ _ _ hdj, execOp_put oj hsj a oi.dst v h1] at h
    rw [Oper.semAt_eq _ _ _ hdj]
    generalize (execOp a.eval oj).run P w = r at *
    cases r with
    | ok x w' =>
      cases x <;> simp only [Oper.uponIn] at h ⊢
      case value u => exact ⟨keep a hy u, by rw [← Act.put_comm a v u h2]; exact h⟩
      case skip => exact ⟨keep a hy _, by rw [← Act.put_comm a v undef h2]; exact h⟩
      case defer d =>
        refine ⟨keep _ (keepD d) _, ?_⟩
        rw [← Act.put_comm _ v undef h2, ← Act.put_defers]
        exact h
      case enter f args =>
        refine ⟨h.1, CallsIn.mono h.2 fun e w'' he => ?_⟩
        cases e with
        | returned u => exact ⟨keep a hy u, by rw [← Act.put_comm a v u h2]; exact he⟩
        | panicked c => exact (hQ _ _ _ he).elim
        | outgrown => exact he
      case row row args => exact ⟨h.1, RowsIn.mono h.2 fun u w'' he => ⟨keep a hy u, by rw [← Act.put_comm a v u h2]; exact he⟩⟩
      case round l f tmps assign body =>
        refine ⟨h.1, RoundIn.mono h.2 fun e w'' he => ?_⟩
        cases e with
        | returned u => exact ⟨keep a hy u, by rw [← Act.put_comm a v u h2]; exact he⟩
        | panicked c => exact (hQ _ _ _ he).elim
        | outgrown => exact he
    | halt x w' =>
      cases x <;> simp only [Oper.uponIn] at h ⊢
      case panic u => exact (hQ _ _ _ h).elim
  · rename_i hw
    simp only [hw] at h
    exact ⟨fun _ _ => trivial, keep a hy _, by rw [← Act.put_comm a v undef h2]; exact h.2⟩

/-- whatever order is picked from here on; and what was read stays so till its reader must have come -/
def anyS (r : Option Nat) (m : Nat) (P : Program) (ops : Array Oper) (ms : List Nat) (Q : Exit → Act → World → Prop) : Nat → Fl → Array Bool → Act → World → Prop
  | 0, _, listed, a, w => Region.ready .any ops listed = [] ∧ Q .normal a w
  | k + 1, fl, listed, a, w =>
    (Region.ready .any ops listed = [] → Q .normal a w) ∧
    ∀ i ∈ Region.ready .any ops listed, wpOpIn (FR r) m P ops Q i (fun a' w' => (∀ p ∈ flt (maskAt ms i) fl, p.2 w') ∧
      anyS r m P ops ms Q k (flt (maskAt ms i) fl) (listed.setIfInBounds i true) a' w') a w
theorem anyS_any {ms : List Nat} : ∀ (k : Nat) (fl : Fl) (listed : Array Bool) (a : Act) (w : World), anyS r m P ops ms Q k fl listed a w → wpAnyIn (FR r) m P .any ops Q k listed a w
  | 0, _, _, _, _, h => h
  | k + 1, _, _, _, _, h => ⟨h.1, fun i hi => wpOpIn_mono (fun a' w' h' => anyS_any k _ _ a' w' h'.2) (h.2 i hi)⟩

theorem mem_flt {b : Nat} {p : Nat × (World → Prop)} : ∀ {fl : Fl}, p ∈ flt b fl ↔ p ∈ fl ∧ b.testBit p.1 = false
  | [] => by simp [flt]
  | (q, s) :: fl => by
    simp only [flt]
    split
    · rename_i hb
      rw [mem_flt, List.mem_cons]
      constructor
      · rintro ⟨h1, h2⟩; exact ⟨.inr h1, h2⟩
      · rintro ⟨rfl | h1, h2⟩
        · rw [hb] at h2; cases h2
        · exact ⟨h1, h2⟩
    · rename_i hb
      rw [List.mem_cons, mem_flt, List.mem_cons]
      constructor
      · rintro (rfl | ⟨h1, h2⟩)
        · exact ⟨.inl rfl, hb⟩
        · exact ⟨.inr h1, h2⟩
      · rintro ⟨rfl | h1, h2⟩
        · exact .inl rfl
        · exact .inr ⟨h1, h2⟩
theorem flt_cons {b q : Nat} {s : World → Prop} {fl : Fl} (h : b.testBit q = false) : flt b ((q, s) :: fl) = (q, s) :: flt b fl := by simp [flt, h]
theorem obl_out {b : Nat} {w : World} {k : Prop} : ∀ {fl : Fl}, obl b fl w k → (∀ p ∈ flt b fl, p.2 w) ∧ k
  | [], h => ⟨by simp [flt], h⟩
  | (q, s) :: fl, h => by
    simp only [obl] at h
    split at h
    · rename_i hb
      have := obl_out h
      simpa [flt, hb] using this
    · rename_i hb
      obtain ⟨h1, h2⟩ := obl_out h.2
      refine ⟨fun p hp => ?_, h2⟩
      rw [flt_cons hb] at hp
      rcases List.mem_cons.1 hp with rfl | hp
      · exact h.1
      · exact h1 p hp

/-- fewer words to keep: a weaker thing -/
theorem anyS_less {ms : List Nat} : ∀ (k : Nat) (fl fl' : Fl) (listed : Array Bool) (a : Act) (w : World), (∀ p ∈ fl', p ∈ fl) → anyS r m P ops ms Q k fl listed a w → anyS r m P ops ms Q k fl' listed a w
  | 0, _, _, _, _, _, _, h => h
  | k + 1, fl, fl', _, _, _, hs, h => ⟨h.1, fun i hi => wpOpIn_mono (fun a' w' h' =>
      have hsub : ∀ p ∈ flt (maskAt ms i) fl', p ∈ flt (maskAt ms i) fl := fun p hp => by
        rw [mem_flt] at *; exact ⟨hs p hp.1, hp.2⟩
      ⟨fun p hp => h'.1 p (hsub p hp), anyS_less k _ _ _ a' w' hsub h'.2⟩) (h.2 i hi)⟩

/-- the bits of what is listed are listed -/
def MC (N : Nat) (ms : List Nat) (listed : Array Bool) : Prop := ∀ j, listed.getD j false = true → ∀ k, k < N → (maskAt ms j).testBit k = true → listed.getD k false = true

theorem maskOk_spec {ms : List Nat} (h : maskOk ops ms = true) {j : Nat} {o : Oper} (hj : ops[j]? = some o) {k : Nat} (hk : k < ops.size) (hb : (maskAt ms j).testBit k = true) :
    ∃ e ∈ o.after, Region.binds .any e = true ∧ (e.on = k ∨ (maskAt ms e.on).testBit k = true) := by
  unfold maskOk at h
  rw [List.all_eq_true] at h
  have h1 := h j (List.mem_range.2 (Array.getElem?_eq_some_iff.1 hj).1)
  rw [List.all_eq_true] at h1
  have h2 := h1 k (List.mem_range.2 hk)
  simp only [hb, Bool.not_true, Bool.false_or, hj, List.any_eq_true, Bool.and_eq_true, Bool.or_eq_true, beq_iff_eq] at h2
  obtain ⟨e, he, h3, h4⟩ := h2
  exact ⟨e, by simpa using he, h3, h4⟩

theorem MC.ready {ms : List Nat} (hm : maskOk ops ms = true) {listed : Array Bool} (hc : MC ops.size ms listed) {j : Nat} (hr : j ∈ Region.ready .any ops listed) {k : Nat} (hk : k < ops.size)
    (hb : (maskAt ms j).testBit k = true) : listed.getD k false = true := by
  obtain ⟨_, o, ho, hall⟩ := mem_ready.1 hr
  obtain ⟨e, he, h1, h2⟩ := maskOk_spec hm ho hk hb
  have hl := hall e he h1
  rcases h2 with rfl | h2
  · exact hl
  · exact hc _ hl _ hk h2

theorem getD_set {listed : Array Bool} {j k : Nat} (hj : j < listed.size) : (listed.setIfInBounds j true).getD k false = if j = k then true else listed.getD k false := by
  by_cases e : j = k
  · subst e; simp [hj]
  · rw [if_neg e, getD_set_ne false e]

theorem MC.set {ms : List Nat} (hm : maskOk ops ms = true) {listed : Array Bool} (hsz : listed.size = ops.size) (hc : MC ops.size ms listed) {j : Nat} (hr : j ∈ Region.ready .any ops listed) :
    MC ops.size ms (listed.setIfInBounds j true) := by
  have hj : j < listed.size := by
    obtain ⟨_, o, ho, _⟩ := mem_ready.1 hr
    rw [hsz]; exact (Array.getElem?_eq_some_iff.1 ho).1
  intro j' hl k hk hb
  rw [getD_set hj] at hl ⊢
  split
  · rfl
  · split at hl
    · rename_i e; subst e; exact hc.ready hm hr hk hb
    · exact hc _ hl _ hk hb

theorem anyS_true {ms : List Nat} {i : Nat} : ∀ (k : Nat) (fl : Fl) (listed : Array Bool) (a : Act) (w : World), anyS r m P ops ms Q k fl listed a w → anyS r m P ops ms Q k ((i, fun _ => True) :: fl) listed a w
  | 0, _, _, _, _, h => h
  | k + 1, fl, _, _, _, h => ⟨h.1, fun j hj => wpOpIn_mono (fun a' w' h' => by
      cases hb : (maskAt ms j).testBit i
      · rw [flt_cons hb]
        refine ⟨fun p hp => ?_, anyS_true k _ _ a' w' h'.2⟩
        rcases List.mem_cons.1 hp with rfl | hp
        · trivial
        · exact h'.1 p hp
      · have e : flt (maskAt ms j) ((i, fun _ => True) :: fl) = flt (maskAt ms j) fl := by simp [flt, hb]
        rw [e]; exact h') (h.2 j hj)⟩

theorem anyS_first {ms : List Nat} (hm : maskOk ops ms = true) (hns : ∀ (j : Nat) o, ops[j]? = some o → noSel o = true) (hQ : ∀ c a w, ¬ Q (.panic c) a w)
    {S : World → Prop} {i : Nat} {oi : Oper} {v : Value} (hi : ops[i]? = some oi) :
    ∀ (k : Nat) (fl : Fl) (listed : Array Bool) (a : Act) (w : World), listed.size = ops.size → MC ops.size ms listed →
      (∀ j oj, ops[j]? = some oj → j ≠ i → listed.getD j true = false → (∀ e ∈ oj.after, Region.binds .any e = true → e.on ≠ i) → oi.apart ops oj = true) →
      i ∈ Region.ready .any ops listed → YS P ops S oi v a → S w → (∀ p ∈ fl, p.2 w) →
      anyS r m P ops ms Q k ((i, S) :: fl) (listed.setIfInBounds i true) (a.put oi.dst v) w → anyS r m P ops ms Q (k + 1) fl listed a w := by
  intro k
  have hisz : i < ops.size := (Array.getElem?_eq_some_iff.1 hi).1
  induction k with
  | zero =>
    intro fl listed a w hsz hc hfree hr hy hS hfl H
    refine ⟨fun h => (by rw [h] at hr; cases hr), fun j hj => ?_⟩
    by_cases hji : j = i
    · subst hji
      exact hy.wpOpIn hi (hns _ _ hi) hS ⟨fun p hp => hfl p (mem_flt.1 hp).1, anyS_less 0 _ _ _ _ _ (fun p hp => List.mem_cons_of_mem _ (mem_flt.1 hp).1) H⟩
    · have := ready_mono hj hji
      rw [H.1] at this
      cases this
  | succ k ih =>
    intro fl listed a w hsz hc hfree hr hy hS hfl H
    refine ⟨fun h => (by rw [h] at hr; cases hr), fun j hj => ?_⟩
    by_cases hji : j = i
    · subst hji
      exact hy.wpOpIn hi (hns _ _ hi) hS ⟨fun p hp => hfl p (mem_flt.1 hp).1, anyS_less _ _ _ _ _ _ (fun p hp => List.mem_cons_of_mem _ (mem_flt.1 hp).1) H⟩
    · have h1 := H.2 j (ready_mono hj hji)
      obtain ⟨hjun, oj, hoj, hall⟩ := mem_ready.1 hj
      have hinot : listed.getD i false = false := by
        have h0 := (mem_ready.1 hr).1
        rw [← hsz] at hisz
        simp [hisz] at h0 ⊢
        exact h0
      have hnot : ∀ e ∈ oj.after, Region.binds .any e = true → e.on ≠ i := fun e he hb heq => by
        have h1 := hall e he hb
        rw [heq, hinot] at h1
        cases h1
      have hbit : (maskAt ms j).testBit i = false := by
        cases hb : (maskAt ms j).testBit i
        · rfl
        · have := hc.ready hm hj hisz hb
          rw [hinot] at this
          cases this
      rw [flt_cons hbit] at h1
      have h2 := wpOpIn_putS hoj (hfree j oj hoj hji hjun hnot) (hns _ _ hi) (hns _ _ hoj) hQ hy h1
      have hfree' : ∀ k ok, ops[k]? = some ok → k ≠ i → (listed.setIfInBounds j true).getD k true = false →
          (∀ e ∈ ok.after, Region.binds .any e = true → e.on ≠ i) → oi.apart ops ok = true := fun k ok hk hki hun hno => by
        refine hfree k ok hk hki ?_ hno
        by_cases hjk : j = k
        · subst hjk; exact hjun
        · rw [getD_set_ne true hjk] at hun; exact hun
      refine wpOpIn_mono (fun a' w' h3 => ?_) h2
      obtain ⟨hy', hob, H'⟩ := h3
      refine ⟨fun p hp => hob p (List.mem_cons_of_mem _ hp), ih _ (listed.setIfInBounds j true) a' w' (by simp [hsz]) (hc.set hm hsz hj) hfree' (ready_mono hr (Ne.symm hji)) hy' (hob _ List.mem_cons_self)
        (fun p hp => hob p (List.mem_cons_of_mem _ hp)) ?_⟩
      rw [Array.setIfInBounds_comm _ _ hji]
      exact H'

theorem anyS_done {ms : List Nat} {listed : Array Bool} {a : Act} {w : World} (hr : Region.ready .any ops listed = []) (h : Q .normal a w) :
    ∀ (k : Nat) (fl : Fl), anyS r m P ops ms Q k fl listed a w
  | 0, _ => ⟨hr, h⟩
  | _ + 1, _ => ⟨fun _ => h, by rw [hr]; simp⟩

/-- the region's own end -/
def regQ (n : Nat) (ds : List Deferred) (K : Env → World → Prop) : Exit → Act → World → Prop
  | .normal, a, w => ∃ ρ, Sat n ds ρ a ∧ K ρ w
  | _, _, _ => False

theorem planW_sound (hng : NG P) {ms : List Nat} (hm : maskOk ops ms = true) (hns : ∀ (j : Nat) o, ops[j]? = some o → noSel o = true) {K : Env → World → Prop} :
    ∀ (π : List Nat) (k : Nat) (fl : Fl) (listed : Array Bool) (ρ : Env) (a : Act) (w : World), π.length ≤ k → listed.size = ops.size → MC ops.size ms listed → chk ops π listed = true →
      Sat n ds ρ a → (∀ p ∈ fl, p.2 w) → planW P n ops ms π ρ fl w K → anyS r m P ops ms (regQ n ds K) k fl listed a w
  | [], k, fl, listed, ρ, a, w, _, _, _, hch, hs, _, h => by
    simp only [chk, List.isEmpty_iff] at hch
    exact anyS_done hch ⟨ρ, hs, h⟩ k fl
  | i :: π, 0, _, _, _, _, _, hk, _, _, _, _, _, _ => by simp at hk
  | i :: π, k + 1, fl, listed, ρ, a, w, hk, hsz, hc, hch, hs, hfl, h => by
    simp only [planW] at h
    cases ho : ops[i]? with
    | none => rw [ho] at h; exact h.elim
    | some o =>
      simp only [ho] at h
      simp only [chk, ho, Bool.and_eq_true] at hch
      obtain ⟨hcl, hch⟩ := hch
      have hk' : π.length ≤ k := by simpa using hk
      have hsz' : (listed.setIfInBounds i true).size = ops.size := by simp [hsz]
      have hQ : ∀ c a w, ¬ regQ n ds K (.panic c) a w := fun _ _ _ h => h
      have hrd : i ∈ Region.ready .any ops listed := by
        cases hcs : cls o <;> rw [hcs] at hcl <;> simp at hcl
        · exact hcl.1
        · exact hcl.1
        · rw [hcl]; simp
      have hc' := hc.set hm hsz hrd
      obtain ⟨ρ', hs', ⟨hw, h⟩ | ⟨hw, h⟩⟩ := guarded_sound hs h
      · cases hkn : known ρ' o
        · rw [hkn] at h; exact h.elim
        · rw [hkn, cond_true] at h
          have he := known_exec hs' hkn
          cases hcs : cls o <;> rw [hcs] at h hcl
          · obtain ⟨v, hv, h⟩ := pureStep_sound h
            obtain ⟨ρ'', hs'', h⟩ := putD_sat hs' h
            simp only [Bool.and_eq_true] at hcl
            exact anyS_first hm hns hQ (S := fun _ => True) ho k fl listed a w hsz hc (Region.free_spec ho hcl.2) hrd (.inl ⟨hw, fun w' _ => by rw [he]; exact hv w'⟩) trivial hfl
              (anyS_true _ _ _ _ _ (planW_sound hng hm hns π k fl _ ρ'' _ w hk' hsz' hc' hch hs'' hfl h))
          · obtain ⟨v, h1, h2, h⟩ := readStep_sound h
            obtain ⟨ρ'', hs'', h⟩ := putD_sat hs' h
            simp only [Bool.and_eq_true] at hcl
            refine anyS_first hm hns hQ (S := readSame P (eval ρ') o v) ho k fl listed a w hsz hc (Region.free_spec ho hcl.2) hrd (.inl ⟨hw, fun w' hw' => by rw [he]; exact h2 w' hw'⟩) h1 hfl
              (planW_sound hng hm hns π k _ _ ρ'' _ w hk' hsz' hc' hch hs'' ?_ h)
            intro p hp
            rcases List.mem_cons.1 hp with rfl | hp
            · exact h1
            · exact hfl p hp
          · have hone : Region.ready .any ops listed = [i] := by simpa using hcl
            refine ⟨fun h0 => (by rw [h0] at hone; cases hone), fun j hj => ?_⟩
            rw [hone] at hj
            simp only [List.mem_singleton] at hj
            subst hj
            unfold Go.wpOpIn
            simp only [ho, hw, if_true]
            have hacts : Acts P a.eval o w fun v w' => ∃ ρ'', Sat n ds ρ'' (a.put o.dst v) ∧ obl (maskAt ms j) fl w' (planW P n ops ms π ρ'' (flt (maskAt ms j) fl) w' K) := by
              unfold Acts
              rw [he]
              rcases effStep_sound hng h with ⟨v, w', hr, h⟩ | ⟨w', hr, h⟩ | ⟨g, args, hr, h⟩
              · exact .inl ⟨v, w', hr, putD_sat hs' h⟩
              · exact .inr (.inl ⟨w', hr, putD_sat hs' h⟩)
              · exact .inr (.inr ⟨g, args, hr, Calls.mono h fun e w' ⟨v, hv, h⟩ => ⟨v, hv, putD_sat hs' h⟩⟩)
            refine hacts.wpIn (known_noDefer hkn) ?_
            rintro v w' ⟨ρ'', hs'', h⟩
            obtain ⟨hob, h⟩ := obl_out h
            exact ⟨hob, planW_sound hng hm hns π k _ _ ρ'' _ w' hk' hsz' hc' hch hs'' hob h⟩
      · obtain ⟨ρ'', hs'', h⟩ := putD_sat hs' h
        have IH : anyS r m P ops ms (regQ n ds K) k fl _ _ w := planW_sound hng hm hns π k fl _ ρ'' _ w hk' hsz' hc' hch hs'' hfl h
        cases hcs : cls o <;> rw [hcs] at hcl
        · simp only [Bool.and_eq_true] at hcl
          exact anyS_first hm hns hQ (S := fun _ => True) ho k fl listed a w hsz hc (Region.free_spec ho hcl.2) hrd (.inr ⟨hw, rfl⟩) trivial hfl (anyS_true _ _ _ _ _ IH)
        · simp only [Bool.and_eq_true] at hcl
          exact anyS_first hm hns hQ (S := fun _ => True) ho k fl listed a w hsz hc (Region.free_spec ho hcl.2) hrd (.inr ⟨hw, rfl⟩) trivial hfl (anyS_true _ _ _ _ _ IH)
        · have hone : Region.ready .any ops listed = [i] := by simpa using hcl
          refine ⟨fun h0 => (by rw [h0] at hone; cases hone), fun j hj => ?_⟩
          rw [hone] at hj
          simp only [List.mem_singleton] at hj
          subst hj
          unfold Go.wpOpIn
          simp only [ho, hw, Bool.false_eq_true, if_false]
          exact ⟨fun _ _ => trivial, fun p hp => hfl p (mem_flt.1 hp).1, anyS_less _ _ _ _ _ _ (fun p hp => (mem_flt.1 hp).1) IH⟩

theorem drawW_sound (hng : NG P) (hmix : P.follows .mixedOrders = true) {id : Nat} {ρ : Env} {a : Act} {w : World} {K : Env → World → Prop} (hs : Sat n ds ρ a) (h : drawW P n ops ρ w K) :
    (Code.region id ops true).wpIn (FR r) m P (regQ n ds K) a w := by
  unfold drawW at h
  simp only at h
  split at h
  · rename_i hb
    simp only [Bool.and_eq_true] at hb
    obtain ⟨⟨hm, hch⟩, hns⟩ := hb
    have hns' : ∀ (j : Nat) o, ops[j]? = some o → noSel o = true := fun j o ho => by
      rw [List.all_eq_true] at hns
      exact hns o (by simpa using Array.mem_of_getElem? ho)
    refine wpIn_region_any hmix (anyS_any _ [] _ _ _ (planW_sound hng hm hns' _ _ _ _ ρ a _ ?_ (by simp) ?_ hch hs (by simp) h))
    · have : ∀ k listed, (pl ops k listed).length ≤ k := by
        intro k
        induction k with
        | zero => intro listed; simp [pl]
        | succ k ih =>
          intro listed
          simp only [pl]
          split
          · simp
          · simp only [List.length_cons]; exact Nat.succ_le_succ (ih _)
      exact this _ _
    · intro j hj
      exfalso
      have : (Array.replicate ops.size false).getD j false = false := by simp [Array.getD]
      rw [this] at hj
      cases hj
  · exact h.elim

end
end Go.Lite
