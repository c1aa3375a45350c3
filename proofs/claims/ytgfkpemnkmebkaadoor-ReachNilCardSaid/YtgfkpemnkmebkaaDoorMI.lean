/-
  Reach, plainly: selected parents, chains, covers (no program in sight).
-/
import Derived.Test.YtgfkpemnkmebkaaDoorMG
import Derived.Test.YtgfkpemnkmebkaaDoorMH
import Derived.Test.YtgfkpemnkmebkaaDoorME
import Derived.Laws.AppendOwn
set_option linter.unusedVariables false
namespace Go.Proofs.YtgfkpemnkmebkaaDoor
open Go Go.Lite
open Tr (Und)

/-- selected parents, by places -/
structure Sel (D : DG) (P : List Int) : Prop where
  len : P.length = D.length
  root : P[0]? = some (-1)
  up : ∀ (i : Nat) (p : Int) nd, 0 < i → P[i]? = some p → D[i]? = some nd → ∃ (j : Nat) (m : DN), p = (j : Int) ∧ j < i ∧ D[j]? = some m ∧ m.id ∈ nd.ps
/-- a is on b's chain -/
def Ch (D : DG) (P : List Int) (a b : HT) : Prop := ∃ (i k : Nat) (ni nk : DN), D[i]? = some ni ∧ ni.id = b ∧ D[k]? = some nk ∧ nk.id = a ∧ Und P i k
/-- s is the selected parent of c -/
def SelOf (D : DG) (P : List Int) (s c : HT) : Prop := ∃ (i j : Nat) (ni m : DN), D[i]? = some ni ∧ ni.id = c ∧ P[i]? = some (j : Int) ∧ D[j]? = some m ∧ m.id = s
/-- c covers h -/
def Cov (D : DG) (P : List Int) (h c : HT) : Prop := Anc D h c ∧ ∃ s, SelOf D P s c ∧ h ≠ s ∧ ¬ Anc D h s

section
variable {D : DG} {P : List Int}
theorem SelOf.par (H : Sel D P) {s c : HT} (h : SelOf D P s c) : Par D s c := by
  obtain ⟨i, j, ni, m, h1, rfl, h3, h4, rfl⟩ := h
  have hi : 0 < i := by
    rcases Nat.eq_zero_or_pos i with rfl | h
    · rw [H.root] at h3; simp only [Option.some.injEq] at h3; omega
    · exact h
  obtain ⟨j', m', e, _, h5, h6⟩ := H.up i _ ni hi h3 h1
  have : j' = j := by omega
  subst this
  rw [h4] at h5
  cases h5
  exact ⟨ni, List.mem_of_getElem? h1, rfl, h6⟩
theorem SelOf.one (W : WfD D) {s s' c : HT} (h : SelOf D P s c) (h' : SelOf D P s' c) : s = s' := by
  obtain ⟨i, j, ni, m, h1, rfl, h3, h4, rfl⟩ := h
  obtain ⟨i', j', ni', m', h1', e, h3', h4', rfl⟩ := h'
  have := W.inj h1 h1' e.symm
  subst this
  rw [h3] at h3'
  simp only [Option.some.injEq] at h3'
  have : j = j' := by omega
  subst this
  rw [h4] at h4'
  cases h4'
  rfl
theorem SelOf.ex (H : Sel D P) {i : Nat} {ni : DN} (hi : 0 < i) (h : D[i]? = some ni) : ∃ (j : Nat) (m : DN), j < i ∧ P[i]? = some (j : Int) ∧ D[j]? = some m ∧ SelOf D P m.id ni.id := by
  have hil := (List.getElem?_eq_some_iff.1 h).1
  obtain ⟨p, hp⟩ : ∃ p, P[i]? = some p := ⟨_, List.getElem?_eq_getElem (by rw [H.len]; exact hil)⟩
  obtain ⟨j, m, rfl, hj, hm, _⟩ := H.up i p ni hi hp h
  exact ⟨j, m, hj, hp, hm, i, j, ni, m, h, rfl, hp, hm, rfl⟩
theorem Ch.refl (H : Sel D P) {a : HT} (h : a ∈ ids D) : Ch D P a a := by
  obtain ⟨nd, hnd, e⟩ := ids_mem.1 h
  obtain ⟨i, hi⟩ := List.mem_iff_getElem?.1 hnd
  exact ⟨i, i, nd, nd, hi, e, hi, e, .refl (by rw [H.len]; exact (List.getElem?_eq_some_iff.1 hi).1)⟩
theorem Ch.mem {a b : HT} (h : Ch D P a b) : a ∈ ids D ∧ b ∈ ids D := by
  obtain ⟨i, k, ni, nk, h1, h2, h3, h4, _⟩ := h
  exact ⟨ids_mem.2 ⟨nk, List.mem_of_getElem? h3, h4⟩, ids_mem.2 ⟨ni, List.mem_of_getElem? h1, h2⟩⟩
theorem Ch.step (W : WfD D) {a s c : HT} (hs : SelOf D P s c) (h : Ch D P a s) : Ch D P a c := by
  obtain ⟨i, j, ni, m, h1, rfl, h3, h4, rfl⟩ := hs
  obtain ⟨j', k, nj, nk, g1, g2, g3, g4, g5⟩ := h
  have := W.inj g1 h4 g2
  subst this
  exact ⟨i, k, ni, nk, h1, rfl, g3, g4, .step h3 g5⟩
/-- a chain is its own one, or its selected parent's -/
theorem Ch.inv (W : WfD D) (H : Sel D P) {a c : HT} (h : Ch D P a c) : a = c ∨ ∃ s, SelOf D P s c ∧ Ch D P a s := by
  obtain ⟨i, k, ni, nk, h1, rfl, h3, rfl, h5⟩ := h
  cases h5 with
  | refl _ => rw [h1] at h3; cases h3; exact .inl rfl
  | @step _ j _ hj hu =>
    have hjl := hu.lt
    rw [H.len] at hjl
    obtain ⟨m, hm⟩ : ∃ m, D[j]? = some m := ⟨_, List.getElem?_eq_getElem hjl⟩
    exact .inr ⟨m.id, ⟨i, j, ni, m, h1, rfl, hj, hm, rfl⟩, j, k, m, nk, hm, rfl, h3, rfl, hu⟩
theorem Ch.anc (W : WfD D) (H : Sel D P) {a b : HT} (h : Ch D P a b) : a = b ∨ Anc D a b := by
  obtain ⟨i, k, ni, nk, h1, rfl, h3, rfl, h5⟩ := h
  induction h5 generalizing ni with
  | refl _ => rw [h1] at h3; cases h3; exact .inl rfl
  | @step i j k hj hu ih =>
    have hjl := hu.lt
    rw [H.len] at hjl
    obtain ⟨m, hm⟩ : ∃ m, D[j]? = some m := ⟨_, List.getElem?_eq_getElem hjl⟩
    have hp : Par D m.id ni.id := SelOf.par H ⟨i, j, ni, m, h1, rfl, hj, hm, rfl⟩
    rcases ih m hm h3 with e | e
    · rw [e]; exact .inr (.one hp)
    · exact .inr (.more e hp)
/-- who stands ahead, by chains and covers alone -/
theorem anc_by (W : WfD D) (H : Sel D P) {a b : HT} (hne : a ≠ b) : Anc D a b ↔ Ch D P a b ∨ ∃ c, Cov D P a c ∧ Ch D P c b := by
  constructor
  · intro h
    obtain ⟨nb, hnb, e⟩ := ids_mem.1 (h.mem W).2
    obtain ⟨i, hb⟩ := List.mem_iff_getElem?.1 hnb
    clear hnb
    subst e
    induction i using Nat.strongRecOn generalizing nb with
    | _ i ih =>
      have hi : 0 < i := by
        rcases Nat.eq_zero_or_pos i with rfl | h0
        · exfalso
          obtain ⟨x, y, mx, my, hxy, _, hy, _, e2⟩ := h.at_ W
          have := W.inj hy hb e2
          omega
        · exact h0
      obtain ⟨j, m, hj, _, hm, hs⟩ := SelOf.ex H hi hb
      by_cases e1 : a = m.id
      · exact .inl (Ch.step W hs (by rw [e1]; exact Ch.refl H (ids_mem.2 ⟨m, List.mem_of_getElem? hm, rfl⟩)))
      · by_cases e2 : Anc D a m.id
        · rcases ih j hj m hm e1 e2 with e3 | ⟨c, e3, e4⟩
          · exact .inl (Ch.step W hs e3)
          · exact .inr ⟨c, e3, Ch.step W hs e4⟩
        · exact .inr ⟨nb.id, ⟨h, m.id, hs, e1, e2⟩, Ch.refl H (ids_mem.2 ⟨nb, List.mem_of_getElem? hb, rfl⟩)⟩
  · rintro (h | ⟨c, ⟨h1, _⟩, h2⟩)
    · exact (h.anc W H).resolve_left hne
    · rcases h2.anc W H with e | e
      · rw [← e]; exact h1
      · exact h1.trans e
/-! one more -/
theorem Sel.snoc (H : Sel D P) {nd : DN} {j : Nat} {m : DN} (hj : D[j]? = some m) (hm : m.id ∈ nd.ps) (hpos : 0 < D.length) : Sel (D ++ [nd]) (P ++ [(j : Int)]) where
  len := by simp [H.len]
  root := by rw [List.getElem?_append_left (by rw [H.len]; exact hpos)]; exact H.root
  up := fun i p nd' hi hp hnd => by
    have hjl := (List.getElem?_eq_some_iff.1 hj).1
    by_cases h : i < D.length
    · rw [List.getElem?_append_left (by rw [H.len]; exact h)] at hp
      rw [List.getElem?_append_left h] at hnd
      obtain ⟨j', m', e, h1, h2, h3⟩ := H.up i p nd' hi hp hnd
      exact ⟨j', m', e, h1, by rw [List.getElem?_append_left (by omega)]; exact h2, h3⟩
    · have hil := (List.getElem?_eq_some_iff.1 hnd).1
      have e : i = D.length := by simp at hil; omega
      subst e
      rw [← H.len] at hp
      simp at hp hnd
      subst hp hnd
      exact ⟨j, m, rfl, hjl, by rw [List.getElem?_append_left hjl]; exact hj, hm⟩
theorem selOf_snoc (W : WfD D) (H : Sel D P) {nd : DN} (hn : nd.id ∉ ids D) {j : Nat} {m : DN} (hj : D[j]? = some m) {s c : HT} :
    SelOf (D ++ [nd]) (P ++ [(j : Int)]) s c ↔ SelOf D P s c ∨ (c = nd.id ∧ s = m.id) := by
  have hjl := (List.getElem?_eq_some_iff.1 hj).1
  constructor
  · rintro ⟨i, k, ni, mk, h1, rfl, h3, h4, rfl⟩
    by_cases h : i < D.length
    · rw [List.getElem?_append_left h] at h1
      rw [List.getElem?_append_left (by rw [H.len]; exact h)] at h3
      have hk : k < D.length := by
        rcases Nat.eq_zero_or_pos i with rfl | h0
        · rw [H.root] at h3; simp only [Option.some.injEq] at h3; omega
        · obtain ⟨k', _, e, h5, _⟩ := H.up i _ ni h0 h3 h1
          omega
      rw [List.getElem?_append_left hk] at h4
      exact .inl ⟨i, k, ni, mk, h1, rfl, h3, h4, rfl⟩
    · have hil := (List.getElem?_eq_some_iff.1 h1).1
      have e : i = D.length := by simp at hil; omega
      subst e
      have h3' := h3
      rw [← H.len] at h3'
      simp at h1 h3'
      subst h1
      have : k = j := by omega
      subst this
      rw [List.getElem?_append_left hjl, hj] at h4
      cases h4
      exact .inr ⟨rfl, rfl⟩
  · rintro (⟨i, k, ni, mk, h1, rfl, h3, h4, rfl⟩ | ⟨rfl, rfl⟩)
    · have hi := (List.getElem?_eq_some_iff.1 h1).1
      have hk := (List.getElem?_eq_some_iff.1 h4).1
      exact ⟨i, k, ni, mk, by rw [List.getElem?_append_left hi]; exact h1, rfl, by rw [List.getElem?_append_left (by rw [H.len]; exact hi)]; exact h3, by rw [List.getElem?_append_left hk]; exact h4, rfl⟩
    · exact ⟨D.length, j, nd, m, by simp, rfl, by rw [← H.len]; simp, by rw [List.getElem?_append_left hjl]; exact hj, rfl⟩
theorem cov_snoc (W : WfD D) (H : Sel D P) {nd : DN} (hn : nd.id ∉ ids D) (hin : ∀ p ∈ nd.ps, p ∈ ids D) {j : Nat} {m : DN} (hj : D[j]? = some m) {h c : HT} :
    Cov (D ++ [nd]) (P ++ [(j : Int)]) h c ↔ Cov D P h c ∨ (c = nd.id ∧ Anc (D ++ [nd]) h nd.id ∧ h ≠ m.id ∧ ¬ Anc D h m.id) := by
  have hm : m.id ∈ ids D := ids_mem.2 ⟨m, List.mem_of_getElem? hj, rfl⟩
  have key : ∀ {s c}, SelOf D P s c → s ∈ ids D ∧ c ∈ ids D := fun hs => (Anc.one (SelOf.par H hs)).mem W
  constructor
  · rintro ⟨h1, s, hs, h2, h3⟩
    rcases (selOf_snoc W H hn hj).1 hs with hs | ⟨rfl, rfl⟩
    · obtain ⟨g1, g2⟩ := key hs
      exact .inl ⟨(anc_snoc W hn g2).1 h1, s, hs, h2, fun e => h3 ((anc_snoc W hn g1).2 e)⟩
    · exact .inr ⟨rfl, h1, h2, fun e => h3 ((anc_snoc W hn hm).2 e)⟩
  · rintro (⟨h1, s, hs, h2, h3⟩ | ⟨rfl, h1, h2, h3⟩)
    · obtain ⟨g1, g2⟩ := key hs
      exact ⟨(anc_snoc W hn g2).2 h1, s, (selOf_snoc W H hn hj).2 (.inl hs), h2, fun e => h3 ((anc_snoc W hn g1).1 e)⟩
    · exact ⟨h1, m.id, (selOf_snoc W H hn hj).2 (.inr ⟨rfl, rfl⟩), h2, fun e => h3 ((anc_snoc W hn hm).1 e)⟩

/-! chains, one by one -/
inductive Up (P : List Int) : Nat → List Nat → Prop
  | root : Up P 0 [0]
  | step {i j : Nat} {l : List Nat} : P[i]? = some (j : Int) → Up P j l → Up P i (i :: l)
end
end Go.Proofs.YtgfkpemnkmebkaaDoor
/-
  Maps from hashes to any values.
-/
namespace Go.Proofs.YtgfkpemnkmebkaaDoor
open Go Go.Lite Go.RowKit

/-- what a map type is: its values' type, and their zero -/
structure MapT (mt te : TypeId) (z : Value) : Prop where
  und : Tryd.prog.underlying mt = some (.map T_api_Hash te)
  zero : ∀ w, (zeroValue te).run Tryd.prog w = .ok z w

def assoc (h : HT) : List (HT × Value) → Option Value
  | [] => none
  | (x, v) :: l => if h = x then some v else assoc h l
def findv (h : HT) : List (HT × Value) → Nat → Option (Nat × Value)
  | [], _ => none
  | (x, v) :: l, i => if h = x then some (i, v) else findv h l (i + 1)
theorem findv_assoc (h : HT) : ∀ (l : List (HT × Value)) (i : Nat), (findv h l i).map (·.2) = assoc h l
  | [], _ => rfl
  | (x, v) :: l, i => by
    unfold findv assoc
    split
    · rfl
    · exact findv_assoc h l (i + 1)
theorem findv_some {h : HT} : ∀ {l : List (HT × Value)} {i j : Nat} {v : Value}, findv h l i = some (j, v) → i ≤ j ∧ l[j - i]? = some (h, v) ∧ ∀ (x : HT) (u : Value), assoc x (l.set (j - i) (h, u)) = if x = h then some u else assoc x l
  | [], i, j, v, e => by simp [findv] at e
  | (x, u) :: l, i, j, v, e => by
    unfold findv at e
    split at e
    · rename_i hx
      cases e
      subst hx
      refine ⟨Nat.le_refl _, by rw [Nat.sub_self]; rfl, fun x u => ?_⟩
      rw [Nat.sub_self]
      simp only [List.set_cons_zero, assoc]
      by_cases hx : x = h <;> simp [hx]
    · rename_i hx
      obtain ⟨h1, h2, h3⟩ := findv_some e
      have e1 : j - i = (j - (i + 1)) + 1 := by omega
      refine ⟨by omega, by rw [e1]; exact h2, fun y u' => ?_⟩
      rw [e1]
      simp only [List.set_cons_succ, assoc, h3]
      by_cases hy : y = h
      · subst hy; simp [hx]
      · simp [hy]
theorem assoc_snoc {h : HT} {v : Value} : ∀ {l : List (HT × Value)}, assoc h l = none → ∀ x, assoc x (l ++ [(h, v)]) = if x = h then some v else assoc x l
  | [], _, x => by simp [assoc]
  | (y, u) :: l, e, x => by
    unfold assoc at e
    split at e
    · cases e
    · rename_i hy
      have ih := assoc_snoc (v := v) e x
      simp only [List.cons_append, assoc, ih]
      by_cases hx : x = y
      · subst hx; simp [Ne.symm hy]
      · simp [hx]
def Entv (es : List MapEntry) (l : List (HT × Value)) : Prop := match es, l with
  | [], [] => True
  | e :: es, p :: l => (e.key = .agg p.1.1 ∧ e.val = p.2) ∧ Entv es l
  | _, _ => False
theorem Entv.snoc : ∀ {es : List MapEntry} {l : List (HT × Value)} {e : MapEntry} {p : HT × Value}, Entv es l → e.key = .agg p.1.1 → e.val = p.2 → Entv (es ++ [e]) (l ++ [p])
  | [], [], _, _, _, h1, h2 => ⟨⟨h1, h2⟩, trivial⟩
  | _ :: _, _ :: _, _, _, he, h1, h2 => ⟨he.1, Entv.snoc he.2 h1 h2⟩
  | [], _ :: _, _, _, he, _, _ => he.elim
  | _ :: _, [], _, _, he, _, _ => he.elim
theorem Entv.get : ∀ {es : List MapEntry} {l : List (HT × Value)} {j : Nat} {p : HT × Value}, Entv es l → l[j]? = some p → ∃ e, es[j]? = some e ∧ e.key = .agg p.1.1 ∧ e.val = p.2
  | [], [], _, _, _, h => by simp at h
  | e :: _, _ :: _, 0, _, he, h => by
    simp only [List.getElem?_cons_zero, Option.some.injEq] at h
    subst h
    exact ⟨e, rfl, he.1⟩
  | _ :: _, _ :: _, j + 1, _, he, h => by
    obtain ⟨e, h1, h2⟩ := Entv.get he.2 (j := j) (by simpa using h)
    exact ⟨e, by simpa using h1, h2⟩
  | [], _ :: _, _, _, he, _ => he.elim
  | _ :: _, [], _, _, he, _ => he.elim
theorem Entv.set : ∀ {es : List MapEntry} {l : List (HT × Value)} {j : Nat} {p : HT × Value} {f : MapEntry → MapEntry}, Entv es l → (∀ e, (f e).key = .agg p.1.1 ∧ (f e).val = p.2) → Entv (es.modify j f) (l.set j p)
  | [], [], _, _, _, he, _ => by simpa using he
  | _ :: _, _ :: _, 0, _, _, he, hf => ⟨hf _, he.2⟩
  | _ :: _, _ :: _, j + 1, _, _, he, hf => by
    simp only [List.modify_succ_cons, List.set_cons_succ]
    exact ⟨he.1, Entv.set he.2 hf⟩
  | [], _ :: _, _, _, _, he, _ => he.elim
  | _ :: _, [], _, _, _, he, _ => he.elim
section
variable {w : World}
theorem run_findAskV (h : HT) (w : World) : ∀ (es : List MapEntry) (l : List (HT × Value)) (i : Nat), Entv es l →
    (Instr.findAsking T_api_Hash (.agg h.1) es i).run Tryd.prog w = .ok (findv h l i) w
  | [], [], i, _ => by simp [Instr.findAsking, findv]
  | e :: es, (x, v) :: l, i, he => by
    have hq := run_equalH h x w
    have ih := run_findAskV h w es l (i + 1) he.2
    simp only [Instr.findAsking, he.1.1, Sem.run_bind, hq, Result.andThen_ok]
    by_cases hx : h = x
    · simp [hx, findv, he.1.2]
    · simp [hx, findv, ih]
  | [], _ :: _, _, he => he.elim
  | _ :: _, [], _, he => he.elim
theorem run_findKeyV (h : HT) (w : World) {es : List MapEntry} {l : List (HT × Value)} (he : Entv es l) :
    (Instr.findKey T_api_Hash (.agg h.1) es).run Tryd.prog w = .ok (findv h l 0) w := by
  have h1 := run_findAskV h w es l 0 he
  simp only [Instr.findKey, Sem.run_bind, run_underlying undH, Result.andThen_ok]
  cases es with
  | nil =>
    cases l with
    | nil => simp [Instr.findNow, findv]
    | cons x l => exact he.elim
  | cons e es =>
    have : Instr.findNow (.array 32 T_uint8) (.agg h.1) (e :: es) 0 = none := by
      simp only [Instr.findNow, Instr.sameNow]
    rw [this]
    exact h1
theorem sameBitsH (h : HT) : Instr.sameBits 10000 (.agg h.1) (.agg h.1) = true := by
  show Instr.sameBits (9999 + 1) (.agg h.1) (.agg h.1) = true
  rw [Instr.sameBits]
  simp only [beq_self_eq_true, Bool.true_and, List.all_eq_true]
  rintro ⟨x, y⟩ hxy
  have hxe : x = y := by
    obtain ⟨i, hi⟩ := List.mem_iff_getElem?.1 hxy
    rw [List.getElem?_zip_eq_some] at hi
    have := hi.1.symm.trans hi.2
    simpa using this
  subst hxe
  have hm := (List.of_mem_zip hxy).1
  obtain ⟨n, rfl, _⟩ := h.2.2 x hm
  simp [Instr.sameBits]

/-- block m holds this map -/
structure MapF (w : World) (m : Nat) (f : HT → Option Value) : Prop where
  ex : ∃ es clock l, w.heap[m]? = some (.map es clock) ∧ Entv es.toList l ∧ (∀ x, assoc x l = f x) ∧ (∀ e ∈ es.toList, e.born < clock) ∧ (es.toList.map (·.born)).Nodup ∧ (l.map (·.1)).Nodup
theorem MapF.keep {S : Nat → Prop} {w w' : World} {m : Nat} {f : HT → Option Value} (h : MapF w m f) (hk : Kept S w w') (hn : ¬ S m) : MapF w' m f := by
  obtain ⟨es, clock, l, h1, h2⟩ := h.ex
  exact ⟨es, clock, l, hk.heap h1 hn, h2⟩
theorem MapF.lt {w : World} {m : Nat} {f : HT → Option Value} (h : MapF w m f) : m < w.heap.size := by
  obtain ⟨es, clock, l, h1, _⟩ := h.ex
  exact lt_blk h1
theorem MapF.new (w : World) : MapF (w.alloc (.map #[] 0)) w.heap.size (fun _ => none) := ⟨#[], 0, [], new_blk w _, trivial, fun _ => rfl, by simp, by simp, by simp⟩
theorem MapF.look {mt te : TypeId} {z : Value} (T : MapT mt te z) {m : Nat} {f : HT → Option Value} (hm : MapF w m f) (h : HT) :
    (Instr.lookup mt (.map (some m)) (.agg h.1) false).run Tryd.prog w = .ok ((f h).getD z) w := by
  obtain ⟨es, clock, l, h1, h2, h3, _⟩ := hm.ex
  have h4 := run_findKeyV h w h2
  have h5 := findv_assoc h l 0
  rw [h3] at h5
  simp only [Instr.lookup, Sem.run_bind, run_underlying T.und, getMap h1, Result.andThen_ok, Sem.run_pure, run_checkH, h4]
  cases hp : findv h l 0 with
  | none => rw [hp] at h5; simp [← h5, T.zero]
  | some p => rw [hp] at h5; simp [← h5]
theorem MapF.put {mt te : TypeId} {z : Value} (T : MapT mt te z) {m : Nat} {f : HT → Option Value} (hm : MapF w m f) (h : HT) (v : Value) :
    ∃ w', (Instr.mapUpdate mt (.map (some m)) (.agg h.1) v).run Tryd.prog w = .ok () w' ∧ MapF w' m (fun x => if x = h then some v else f x) ∧ Kept (· = m) w w' := by
  obtain ⟨es, clock, l, h1, h2, h3, hb, hd, hk⟩ := hm.ex
  have h4 := run_findKeyV h w h2
  have kept : ∀ o, Kept (· = m) w { w with heap := w.heap.setIfInBounds m o } := fun o => ⟨rfl, rfl, rfl, by simp, fun k _ hk => by simp [Ne.symm hk]⟩
  cases hp : findv h l 0 with
  | none =>
    rw [hp] at h4
    have h5 := findv_assoc h l 0
    rw [hp] at h5
    refine ⟨{ w with heap := w.heap.setIfInBounds m (.map (es.push { key := .agg h.1, val := v, born := clock }) (clock + 1)) }, ?_, ⟨es.push { key := .agg h.1, val := v, born := clock }, clock + 1, l ++ [(h, v)], ?_, ?_, ?_, ?_, ?_, ?_⟩, kept _⟩
    · simp only [Instr.mapUpdate, Sem.run_bind, run_underlying T.und, getMap h1, Result.andThen_ok, run_checkH, h4, setMap _ h1]
    · simp [lt_blk h1]
    · have := h2.snoc (e := { key := .agg h.1, val := v, born := clock }) (p := (h, v)) rfl rfl
      simpa using this
    · intro x
      rw [assoc_snoc h5.symm, h3]
    · intro e he
      rw [Array.toList_push, List.mem_append, List.mem_singleton] at he
      rcases he with he | rfl
      · have := hb e he; omega
      · exact Nat.lt_succ_self _
    · rw [Array.toList_push, List.map_append, List.nodup_append]
      refine ⟨hd, by simp, fun a ha b hb' e => ?_⟩
      simp only [List.map_cons, List.map_nil, List.mem_singleton] at hb'
      obtain ⟨e', he', rfl⟩ := List.mem_map.1 ha
      have := hb e' he'
      omega
    · rw [List.map_append, List.nodup_append]
      refine ⟨hk, by simp, fun a ha b hb' e => ?_⟩
      simp only [List.map_cons, List.map_nil, List.mem_singleton] at hb'
      subst hb'
      subst e
      have key : ∀ l : List (HT × Value), a ∈ l.map (·.1) → assoc a l ≠ none := fun l => by
        induction l with
        | nil => simp
        | cons p l ih =>
          obtain ⟨y, u⟩ := p
          intro hm
          unfold assoc
          split
          · simp
          · rename_i hy
            simp only [List.map_cons, List.mem_cons] at hm
            exact ih (hm.resolve_left hy)
      exact key l ha h5.symm
  | some p =>
    obtain ⟨j, u⟩ := p
    rw [hp] at h4
    obtain ⟨_, h6, h7⟩ := findv_some hp
    rw [Nat.sub_zero] at h6 h7
    obtain ⟨e, he1, he2, _⟩ := h2.get h6
    have hes : es[j]? = some e := by simpa using he1
    refine ⟨{ w with heap := w.heap.setIfInBounds m (.map (es.modify j fun e => { e with key := .agg h.1, val := v }) clock) }, ?_, ⟨es.modify j fun e => { e with key := .agg h.1, val := v }, clock, l.set j (h, v), ?_, ?_, ?_, ?_, ?_, ?_⟩, kept _⟩
    · simp only [Instr.mapUpdate, Sem.run_bind, run_underlying T.und, getMap h1, Result.andThen_ok, run_checkH, h4, Instr.keyThatStays, hes, Option.map_some, Option.getD_some, he2, sameBitsH, if_true, Sem.run_pure, setMap _ h1]
    · simp [lt_blk h1]
    · rw [Array.toList_modify]
      exact h2.set (p := (h, v)) fun e => ⟨rfl, rfl⟩
    · intro x
      rw [h7, h3]
    · intro x hx
      rw [Array.toList_modify] at hx
      obtain ⟨i, hi⟩ := List.mem_iff_getElem?.1 hx
      rw [List.getElem?_modify] at hi
      cases hg : es.toList[i]? with
      | none => rw [hg] at hi; simp at hi
      | some y =>
        rw [hg] at hi
        have := hb y (List.mem_of_getElem? hg)
        by_cases hij : j = i
        · simp [hij] at hi
          rw [← hi]
          exact this
        · simp [hij] at hi
          rw [← hi]
          exact this
    · have : (es.modify j fun e => { e with key := .agg h.1, val := v }).toList.map (·.born) = es.toList.map (·.born) := by
        rw [Array.toList_modify]
        apply List.ext_getElem?
        intro i
        rw [List.getElem?_map, List.getElem?_map, List.getElem?_modify]
        cases es.toList[i]? with
        | none => simp
        | some y => by_cases hij : j = i <;> simp [hij]
      rw [this]
      exact hd
    · have : (l.set j (h, v)).map (·.1) = l.map (·.1) := by
        apply List.ext_getElem?
        intro i
        rw [List.getElem?_map, List.getElem?_map, List.getElem?_set]
        by_cases hij : j = i
        · subst hij
          have hlt := (List.getElem?_eq_some_iff.1 h6).1
          have hge := (List.getElem?_eq_some_iff.1 h6).2
          simp [hlt, hge]
        · simp [hij]
      rw [this]
      exact hk
end
end Go.Proofs.YtgfkpemnkmebkaaDoor
/-
  The index in memory; there, has, Chain, Before.
-/
namespace Go.Proofs.YtgfkpemnkmebkaaDoor
open Go Go.Lite Go.RowKit
open Tr (Und)

theorem zero_of {te : TypeId} {z : Value} (h : (Tryd.prog.info? te).bind (·.zero) = some z) (w : World) : (zeroValue te).run Tryd.prog w = .ok z w := by
  cases hi : Tryd.prog.info? te with
  | none => rw [hi] at h; cases h
  | some i =>
    rw [hi] at h
    have hz : i.zero = some z := h
    simp [zeroValue, typeInfo, hi, hz]
theorem mtCover : MapT T_map_api_Hash_sl_api_Hash T_sl_api_Hash (.slice none 0 0) := ⟨by kernel_rfl, zero_of (by kernel_rfl)⟩
theorem mtOld : MapT T_map_api_Hash_struct_is_bool T_struct_is_bool (.agg #[.bool false]) := ⟨by kernel_rfl, zero_of (by kernel_rfl)⟩

/-- where an index lies -/
structure XM where
  g : Nat
  t : Nat
  mb : Nat
  ib : Nat
  ic : Nat
  cb : Nat
  T : List Tr.Nd
  d : Int
  SG : Nat → Prop
  ST : Nat → Prop
  SO : Nat → Prop
def XM.own (m : XM) (x k : Nat) : Prop := k = x ∨ k = m.mb ∨ k = m.ib ∨ k = m.cb
def XM.foot (m : XM) (x k : Nat) : Prop := m.SG k ∨ m.ST k ∨ m.SO k ∨ m.own x k
/-- a cover, as it lies in the map -/
def CovAt (w : World) (SO : Nat → Prop) (N : Nat) (v : Option Value) (l : List HT) : Prop :=
  (v = none ∧ l = []) ∨ ∃ (A : Option Addr) (n c : Nat), v = some (.slice A n c) ∧ n ≤ c ∧ HS w A n l ∧ n ≤ N ∧ ∀ a, A = some a → SO a.block
structure XV (w : World) (F : Nat → Prop) (x : Nat) (D : DG) (P : List Int) (m : XM) : Prop where
  top : w.heap[x]? = some (.cells #[.pointer (some ⟨m.g, 0, none⟩), .pointer (some ⟨m.t, 0, none⟩), .map (some m.mb), .slice (some ⟨m.ib, 0, none⟩) D.length m.ic, .map (some m.cb)] T_reach_Index (0, 0))
  G : IsG w m.SG F m.g D
  T : Tr.IsT w m.ST m.t m.T m.d
  fine : Tr.Fine m.T
  pars : Tr.pars m.T = P
  dl : 0 ≤ m.d ∧ m.d ≤ D.length
  at_ : IsMap w m.mb (ids D)
  row : HRow w 0 (some ⟨m.ib, 0, none⟩) D.length m.ic (ids D)
  cov : ∃ f, MapF w m.cb f ∧ ∀ h, ∃ l, CovAt w m.SO D.length (f h) l ∧ ∀ c, c ∈ l ↔ Cov D P h c
  sel : Sel D P
  W : WfD D
  gt : ∀ k, m.SG k → ¬ m.ST k ∧ ¬ m.SO k
  to : ∀ k, m.ST k → ¬ m.SO k
  fd : ∀ k, F k → ¬ m.ST k ∧ ¬ m.SO k
  od : ∀ k, m.own x k → ¬ m.SG k ∧ ¬ m.ST k ∧ ¬ m.SO k ∧ ¬ F k
  ne : x ≠ m.mb ∧ x ≠ m.ib ∧ x ≠ m.cb ∧ m.mb ≠ m.ib ∧ m.mb ≠ m.cb ∧ m.ib ≠ m.cb
  low : ∀ k, m.foot x k ∨ F k → k < w.heap.size
def IsX (w : World) (S F : Nat → Prop) (x : Nat) (D : DG) (P : List Int) : Prop := ∃ m, XV w F x D P m ∧ ∀ k, m.foot x k → S k

section
variable {w w' : World} {F S : Nat → Prop} {x : Nat} {D : DG} {P : List Int} {m : XM} {K : Value → World → Prop}
theorem CovAt.keep {S0 SO : Nat → Prop} {N : Nat} {v : Option Value} {l : List HT} (h : CovAt w SO N v l) (hk : Kept S0 w w') (hn : ∀ k, SO k → ¬ S0 k) : CovAt w' SO N v l := by
  rcases h with h | ⟨A, n, c, h1, h2, h3, h4, h5⟩
  · exact .inl h
  · exact .inr ⟨A, n, c, h1, h2, h3.keep hk (fun a ha => hn _ (h5 a ha)), h4, h5⟩
theorem XV.keep {S0 : Nat → Prop} (h : XV w F x D P m) (hk : Kept S0 w w') (hS : ∀ k, m.foot x k → ¬ S0 k) (hF : ∀ k, F k → ¬ S0 k) : XV w' F x D P m where
  top := hk.heap h.top (hS _ (.inr (.inr (.inr (.inl rfl)))))
  G := h.G.keep hk (fun k e => hS k (.inl e)) hF
  T := h.T.keep hk (fun k e => hS k (.inr (.inl e)))
  fine := h.fine
  pars := h.pars
  dl := h.dl
  at_ := h.at_.keep hk (hS _ (.inr (.inr (.inr (.inr (.inl rfl))))))
  row := Row.keep h.row hk (fun k e => by cases e; exact hS _ (.inr (.inr (.inr (.inr (.inr (.inl rfl)))))))
  cov := by
    obtain ⟨f, h1, h2⟩ := h.cov
    refine ⟨f, h1.keep hk (hS _ (.inr (.inr (.inr (.inr (.inr (.inr rfl))))))), fun y => ?_⟩
    obtain ⟨l, h3, h4⟩ := h2 y
    exact ⟨l, h3.keep hk (fun k e => hS k (.inr (.inr (.inl e)))), h4⟩
  sel := h.sel
  W := h.W
  gt := h.gt
  to := h.to
  fd := h.fd
  od := h.od
  ne := h.ne
  low := fun k e => Nat.lt_of_lt_of_le (h.low k e) hk.size
theorem XV.same (h : XV w F x D P m) (hk : Kept Nil w w') : XV w' F x D P m := h.keep hk (fun _ _ h => h) (fun _ _ h => h)
theorem IsX.keep {S0 : Nat → Prop} (h : IsX w S F x D P) (hk : Kept S0 w w') (hS : ∀ k, S k → ¬ S0 k) (hF : ∀ k, F k → ¬ S0 k) : IsX w' S F x D P :=
  let ⟨m, h1, h2⟩ := h; ⟨m, h1.keep hk (fun k e => hS k (h2 k e)) hF, h2⟩
theorem IsX.same (h : IsX w S F x D P) (hk : Kept Nil w w') : IsX w' S F x D P := h.keep hk (fun _ _ h => h) (fun _ _ h => h)
/-! the five fields -/
theorem XV.c0 (h : XV w F x D P m) : w.cell? ((⟨x, 0, none⟩ : Addr).add 0) = some (.pointer (some ⟨m.g, 0, none⟩)) := by rw [add_at, cell_blk h.top]; rfl
theorem XV.c1 (h : XV w F x D P m) : w.cell? ((⟨x, 0, none⟩ : Addr).add 1) = some (.pointer (some ⟨m.t, 0, none⟩)) := by rw [add_at, cell_blk h.top]; rfl
theorem XV.c2 (h : XV w F x D P m) : w.cell? ((⟨x, 0, none⟩ : Addr).add 2) = some (.map (some m.mb)) := by rw [add_at, cell_blk h.top]; rfl
theorem XV.c4 (h : XV w F x D P m) : w.cell? ((⟨x, 0, none⟩ : Addr).add 4) = some (.map (some m.cb)) := by rw [add_at, cell_blk h.top]; rfl
theorem XV.tlen (h : XV w F x D P m) : m.T.length = D.length := by
  have := Tr.pars_len m.T
  rw [h.pars, h.sel.len] at this
  exact this.symm
theorem XV.und (h : XV w F x D P m) {i k : Nat} {id kd : Tr.Nd} (hi : m.T[i]? = some id) (hk : m.T[k]? = some kd) : decide (kd.lo ≤ id.lo ∧ id.hi ≤ kd.hi) = true ↔ Und P i k := by
  rw [decide_eq_true_iff, ← h.pars]
  exact h.fine.under hi hk

theorem hcells2 (a b : HT) : a.1.toList ++ (b.1.toList ++ []) = hcells [a, b] := by simp [hcells]
theorem reach_there (h : XV w F x D P m) (hK : K (.bool true) w) : Ret Tryd.prog reach_Index_there.id #[.pointer (some ⟨x, 0, none⟩)] w K :=
  reach_Index_there.of (Split.yes rfl ⟨_, h.c0, hK⟩)
theorem contains_has {xb : Nat} (h : XV w F x D P m) (hg : w.heap[xb]? = some (.cells #[.pointer (some ⟨x, 0, none⟩)] T_p_reach_Index (0, 0))) {A : Option Addr} {n cx : Nat} {l : List HT} (hl : HS w A n l) (hn : n ≤ 400000)
    (hK : ∀ w' (b : Bool), (b = true ↔ ∃ p ∈ l, p ∉ ids D) → Kept Nil w w' → K (.bool b) w') :
    Ret Tryd.prog slices_ContainsFunc_of_api_Hash.id #[.slice A n cx, .func (.func reach_Index_has_fn1.id) #[] #[.pointer (some ⟨xb, 0, none⟩)]] w K := by
  have hlen := hl.len
  refine slices_ContainsFunc_of_api_Hash__reach_Index_has_fn1.of (slices_IndexFunc_of_api_Hash__reach_Index_has_fn1.of ?_)
  refine slices_IndexFunc_of_api_Hash__reach_Index_has_fn1.loop1 (I := fun s w' => ∃ i : Nat, s = (0, (i : Int)) ∧ i ≤ n ∧ (∀ p ∈ l.take i, p ∈ ids D) ∧ Kept Nil w w') (μ := fun s _ => ((n : Int) - s.2).toNat) (s := (0, 0)) ⟨0, rfl, Nat.zero_le _, by simp, Kept.refl _ _⟩ ?_
  rintro s w' ⟨i, rfl, hi, hall, kw⟩
  refine Split.dec (fun hil0 => ?_) (fun hge => ?_)
  · simp only at hil0
    have hil : i < n := by omega
    obtain ⟨y, hy⟩ : ∃ y, l[i]? = some y := ⟨_, List.getElem?_eq_getElem (by omega)⟩
    refine (hl.same kw).load (i := (i : Int)) (by omega) hy ?_
    refine reach_Index_has_fn1.of ?_
    unfold reach_Index_has_fn1.W
    intro w3 w4
    have k3 : Kept Nil w' w3 := (Kept.refl _ _).alloc _
    have hb3 : w3.heap[w'.heap.size]? = some (.cells y.1 T_api_Hash (0, 0)) := new_blk w' _
    have k4 : Kept Nil w3 w4 := (Kept.refl _ _).drew
    clear_value w4
    have hb4 := k4.heap hb3 (fun h => h)
    have kw4 := (kw.trans k3 (fun _ _ h => h)).trans k4 (fun _ _ h => h)
    obtain ⟨bl, c, mb, M, G⟩ := (h.same kw4).G
    refine ⟨some ⟨x, 0, none⟩, by rw [cell_blk (kw4.heap hg (fun h => h))]; rfl, _, (h.same kw4).c0, y.1, ⟨y.2.1, Cells.blk hb4⟩, dag_Has G y fun w7 k7 => ⟨_, rfl, _, rfl, ?_⟩⟩
    have kw7 := kw4.trans k7 (fun _ _ h => h)
    by_cases hm : y ∈ ids D
    · refine Split.no (by rw [decide_eq_true hm]; rfl) ?_
      simp only
      rw [wrapP (n := (i : Int)) (by omega) (by omega)]
      refine ⟨(0, (i : Int) + 1), rfl, ⟨i + 1, rfl, hil, fun p hp => ?_, kw7⟩, by simp only; omega⟩
      rcases (mem_take_succ hy).1 hp with hp | rfl
      · exact hall p hp
      · exact hm
    · refine Split.yes (by rw [decide_eq_false hm]; rfl) ?_
      refine ⟨(i : Int), rfl, ?_⟩
      exact hK w7 _ ⟨fun _ => ⟨y, List.mem_of_getElem? hy, hm⟩, fun _ => decide_eq_true (by omega)⟩ kw7
  · simp only at hge
    rw [roundQ_exit, slices_IndexFunc_of_api_Hash__reach_Index_has_fn1.x1_0]
    rw [List.take_of_length_le (by omega)] at hall
    exact ⟨-1, rfl, hK w' _ ⟨fun h => absurd (of_decide_eq_true h) (by omega), fun ⟨p, hp, hn⟩ => absurd (hall p hp) hn⟩ kw⟩
theorem reach_has (h : XV w F x D P m) {A : Option Addr} {n cx : Nat} {l : List HT} (hl : HS w A n l) (hn : n ≤ 400000) (hK : ∀ w', Kept Nil w w' → K (.bool (decide (∀ p ∈ l, p ∈ ids D))) w') :
    Ret Tryd.prog reach_Index_has.id #[.pointer (some ⟨x, 0, none⟩), .slice A n cx] w K := by
  refine reach_Index_has.of ?_
  unfold reach_Index_has.W
  intro w3
  have k3 : Kept Nil w w3 := (Kept.refl _ _).alloc _
  have hb3 : w3.heap[w.heap.size]? = some (.cells #[.pointer (some ⟨x, 0, none⟩)] T_p_reach_Index (0, 0)) := new_blk w _
  clear_value w3
  refine ⟨_, by rw [cell_blk hb3]; rfl, reach_there (h.same k3) ⟨true, rfl, Split.yes rfl ?_⟩⟩
  refine contains_has (h.same k3) hb3 (hl.same k3) hn fun w9 b hb k9 => ⟨b, rfl, ?_⟩
  have : (!b) = decide (∀ p ∈ l, p ∈ ids D) := by
    rw [Bool.eq_iff_iff, decide_eq_true_iff, Bool.not_eq_true', ← Bool.not_eq_true, hb]
    constructor
    · exact fun hn p hp => Classical.byContradiction fun hc => hn ⟨p, hp, hc⟩
    · rintro ha ⟨p, hp, hc⟩; exact hc (ha p hp)
  rw [this]
  exact hK w9 (k3.trans k9 (fun _ _ h => h))
/-- Chain -/
theorem reach_Chain (h : XV w F x D P m) (a b : HT) (hK : ∀ w' (r : Bool), (r = true ↔ Ch D P a b) → Kept Nil w w' → K (.bool r) w') :
    Ret Tryd.prog reach_Index_Chain.id #[.pointer (some ⟨x, 0, none⟩), .agg a.1, .agg b.1] w K := by
  refine reach_Index_Chain.of ?_
  unfold reach_Index_Chain.W
  intro w4 w5 w6
  have k4 : Kept Nil w w4 := (Kept.refl _ _).alloc _
  have ha4 : w4.heap[w.heap.size]? = some (.cells a.1 T_api_Hash (0, 0)) := new_blk w _
  have k5 : Kept Nil w4 w5 := (Kept.refl _ _).alloc _
  have hb5 : w5.heap[w4.heap.size]? = some (.cells b.1 T_api_Hash (0, 0)) := new_blk w4 _
  have k6 : Kept Nil w5 w6 := (Kept.refl _ _).drew
  clear_value w6
  have ha6 := (k5.trans k6 (fun _ _ h => h)).heap ha4 (fun h => h)
  have hb6 := k6.heap hb5 (fun h => h)
  have k06 := (k4.trans k5 (fun _ _ h => h)).trans k6 (fun _ _ h => h)
  refine ⟨a.1, ⟨a.2.1, Cells.blk ha6⟩, b.1, ⟨b.2.1, Cells.blk hb6⟩, a.2.1, b.2.1, ?_⟩
  intro w9
  have k9 : Kept Nil w6 w9 := (Kept.refl _ _).alloc _
  have hx9 : HS w9 (some ⟨w6.heap.size, 0, none⟩) 2 [a, b] := HS.lay (l := [a, b]) (t := T_api_Hash) (by rw [← hcells2 a b]; exact new_blk w6 _)
  clear_value w9
  have k09 := k06.trans k9 (fun _ _ h => h)
  refine reach_has (h.same k09) hx9 (by omega) fun w11 k11 => ⟨_, rfl, ?_⟩
  have k011 := k09.trans k11 (fun _ _ h => h)
  have h11 := h.same k011
  by_cases hall : ∀ p ∈ [a, b], p ∈ ids D
  · refine Split.yes (decide_eq_true hall) ?_
    obtain ⟨na, hna, ea⟩ := ids_mem.1 (hall a (by simp))
    obtain ⟨nb, hnb, eb⟩ := ids_mem.1 (hall b (by simp))
    obtain ⟨k, hk⟩ := List.mem_iff_getElem?.1 hna
    obtain ⟨i, hi⟩ := List.mem_iff_getElem?.1 hnb
    have hkl := (List.getElem?_eq_some_iff.1 hk).1
    have hil := (List.getElem?_eq_some_iff.1 hi).1
    have htl := h.tlen
    obtain ⟨kd, hkd⟩ := Tr.get_of_lt (T := m.T) (i := k) (by omega)
    obtain ⟨nd, hnd⟩ := Tr.get_of_lt (T := m.T) (i := i) (by omega)
    have k611 := k9.trans k11 (fun _ _ h => h)
    have l1 := h11.at_.look1 b
    have l2 := h11.at_.look1 a
    rw [← eb, h.W.pos_eq hi] at l1
    rw [← ea, h.W.pos_eq hk] at l2
    rw [eb] at l1
    rw [ea] at l2
    refine ⟨_, h11.c1, _, h11.c2, b.1, ⟨b.2.1, Cells.blk (k611.heap hb6 (fun h => h))⟩, _, l1, _, h11.c2, a.1, ⟨a.2.1, Cells.blk (k611.heap ha6 (fun h => h))⟩, _, l2, ?_⟩
    refine Tr.tree_Under h11.T hnd hkd fun w24 k24 => ⟨_, rfl, hK w24 _ ?_ (k011.trans k24 (fun _ _ h => h))⟩
    rw [h.und hnd hkd]
    constructor
    · exact fun hu => ⟨i, k, nb, na, hi, eb, hk, ea, hu⟩
    · rintro ⟨i', k', ni, nk, h1, h2, h3, h4, h5⟩
      have e1 := h.W.inj h1 hi (by rw [h2, eb])
      have e2 := h.W.inj h3 hk (by rw [h4, ea])
      rw [← e1, ← e2]
      exact h5
  · refine Split.no (decide_eq_false hall) (hK w11 false ⟨(fun e => by cases e), fun e => absurd (fun p hp => ?_) hall⟩ k011)
    simp only [List.mem_cons, List.not_mem_nil, or_false] at hp
    rcases hp with rfl | rfl
    · exact e.mem.1
    · exact e.mem.2
theorem contains_cover {xb bb : Nat} {b : HT} (h : XV w F x D P m) (hg : w.heap[xb]? = some (.cells #[.pointer (some ⟨x, 0, none⟩)] T_p_reach_Index (0, 0))) (hb : w.heap[bb]? = some (.cells b.1 T_api_Hash (0, 0))) {A : Option Addr} {n cx : Nat} {l : List HT} (hl : HS w A n l) (hn : n ≤ 400000)
    (hK : ∀ w' (r : Bool), (r = true ↔ ∃ c ∈ l, Ch D P c b) → Kept Nil w w' → K (.bool r) w') :
    Ret Tryd.prog slices_ContainsFunc_of_api_Hash.id #[.slice A n cx, .func (.func reach_Index_Before_fn1.id) #[] #[.pointer (some ⟨xb, 0, none⟩), .pointer (some ⟨bb, 0, none⟩)]] w K := by
  have hlen := hl.len
  refine slices_ContainsFunc_of_api_Hash__reach_Index_Before_fn1.of (slices_IndexFunc_of_api_Hash__reach_Index_Before_fn1.of ?_)
  refine slices_IndexFunc_of_api_Hash__reach_Index_Before_fn1.loop1 (I := fun s w' => ∃ i : Nat, s = (0, (i : Int)) ∧ i ≤ n ∧ (∀ p ∈ l.take i, ¬ Ch D P p b) ∧ Kept Nil w w') (μ := fun s _ => ((n : Int) - s.2).toNat) (s := (0, 0)) ⟨0, rfl, Nat.zero_le _, by simp, Kept.refl _ _⟩ ?_
  rintro s w' ⟨i, rfl, hi, hall, kw⟩
  refine Split.dec (fun hil0 => ?_) (fun hge => ?_)
  · simp only at hil0
    have hil : i < n := by omega
    obtain ⟨y, hy⟩ : ∃ y, l[i]? = some y := ⟨_, List.getElem?_eq_getElem (by omega)⟩
    refine (hl.same kw).load (i := (i : Int)) (by omega) hy ?_
    refine reach_Index_Before_fn1.of ?_
    unfold reach_Index_Before_fn1.W
    intro w4
    have k4 : Kept Nil w' w4 := (Kept.refl _ _).alloc _
    have hb4 : w4.heap[w'.heap.size]? = some (.cells y.1 T_api_Hash (0, 0)) := new_blk w' _
    clear_value w4
    have kw4 := kw.trans k4 (fun _ _ h => h)
    refine ⟨some ⟨x, 0, none⟩, by rw [cell_blk (kw4.heap hg (fun h => h))]; rfl, y.1, ⟨y.2.1, Cells.blk hb4⟩, b.1, ⟨b.2.1, Cells.blk (kw4.heap hb (fun h => h))⟩, reach_Chain (h.same kw4) y b fun w7 r hr k7 => ⟨r, rfl, r, rfl, ?_⟩⟩
    have kw7 := kw4.trans k7 (fun _ _ h => h)
    cases r with
    | false =>
      refine Split.no rfl ?_
      simp only
      rw [wrapP (n := (i : Int)) (by omega) (by omega)]
      refine ⟨(0, (i : Int) + 1), rfl, ⟨i + 1, rfl, hil, fun p hp hc => ?_, kw7⟩, by simp only; omega⟩
      rcases (mem_take_succ hy).1 hp with hp | rfl
      · exact hall p hp hc
      · cases hr.2 hc
    | true =>
      refine Split.yes rfl ⟨(i : Int), rfl, ?_⟩
      exact hK w7 _ ⟨fun _ => ⟨y, List.mem_of_getElem? hy, hr.1 rfl⟩, fun _ => decide_eq_true (by omega)⟩ kw7
  · simp only at hge
    rw [roundQ_exit, slices_IndexFunc_of_api_Hash__reach_Index_Before_fn1.x1_0]
    rw [List.take_of_length_le (by omega)] at hall
    exact ⟨-1, rfl, hK w' _ ⟨fun h => absurd (of_decide_eq_true h) (by omega), fun ⟨p, hp, hn⟩ => absurd hn (hall p hp)⟩ kw⟩
/-- Before -/
theorem reach_Before (h : XV w F x D P m) (hD : D.length ≤ 5000) (a b : HT) (hK : ∀ w' (r : Bool), (r = true ↔ Anc D a b) → Kept Nil w w' → K (.bool r) w') :
    Ret Tryd.prog reach_Index_Before.id #[.pointer (some ⟨x, 0, none⟩), .agg a.1, .agg b.1] w K := by
  refine reach_Index_Before.of ?_
  unfold reach_Index_Before.W
  intro w4 w5 w6
  have k4 : Kept Nil w w4 := (Kept.refl _ _).alloc _
  have hx4 : w4.heap[w.heap.size]? = some (.cells #[.pointer (some ⟨x, 0, none⟩)] T_p_reach_Index (0, 0)) := new_blk w _
  have k5 : Kept Nil w4 w5 := (Kept.refl _ _).alloc _
  have ha5 : w5.heap[w4.heap.size]? = some (.cells a.1 T_api_Hash (0, 0)) := new_blk w4 _
  have k6 : Kept Nil w5 w6 := (Kept.refl _ _).alloc _
  have hb6 : w6.heap[w5.heap.size]? = some (.cells b.1 T_api_Hash (0, 0)) := new_blk w5 _
  clear_value w6
  have ha6 := k6.heap ha5 (fun h => h)
  have hx6 := (k5.trans k6 (fun _ _ h => h)).heap hx4 (fun h => h)
  have k06 := (k4.trans k5 (fun _ _ h => h)).trans k6 (fun _ _ h => h)
  refine ⟨_, by rw [cell_blk hx6]; rfl, a.1, ⟨a.2.1, Cells.blk ha6⟩, b.1, ⟨b.2.1, Cells.blk hb6⟩, a.2.1, b.2.1, ?_⟩
  intro w10
  have k10 : Kept Nil w6 w10 := (Kept.refl _ _).alloc _
  have hs10 : HS w10 (some ⟨w6.heap.size, 0, none⟩) 2 [a, b] := HS.lay (l := [a, b]) (t := T_api_Hash) (by rw [← hcells2 a b]; exact new_blk w6 _)
  clear_value w10
  have k010 := k06.trans k10 (fun _ _ h => h)
  refine reach_has (h.same k010) hs10 (by omega) fun w12 k12 => ⟨_, rfl, ?_⟩
  have k012 := k010.trans k12 (fun _ _ h => h)
  have k612 := k10.trans k12 (fun _ _ h => h)
  by_cases hall : ∀ p ∈ [a, b], p ∈ ids D
  · refine Split.no (by rw [decide_eq_true hall]; rfl) ?_
    have ha12 := k612.heap ha6 (fun h => h)
    have hb12 := k612.heap hb6 (fun h => h)
    refine ⟨a.1, ⟨a.2.1, Cells.blk ha12⟩, b.1, ⟨b.2.1, Cells.blk hb12⟩, ⟨a.2.ints, b.2.ints⟩, ?_⟩
    rw [sameInts_eq]
    refine Split.dec (fun he => ?_) (fun he => ?_)
    · subst he
      exact hK w12 false ⟨(fun e => by cases e), fun e => absurd e (Anc.irrefl h.W a)⟩ k012
    · intro w16
      have k16 : Kept Nil w12 w16 := (Kept.refl _ _).drew
      clear_value w16
      have k016 := k012.trans k16 (fun _ _ h => h)
      have k616 := k612.trans k16 (fun _ _ h => h)
      refine ⟨_, by rw [cell_blk (k616.heap hx6 (fun h => h))]; rfl, a.1, ⟨a.2.1, Cells.blk (k616.heap ha6 (fun h => h))⟩, b.1, ⟨b.2.1, Cells.blk (k616.heap hb6 (fun h => h))⟩, ?_⟩
      refine reach_Chain (h.same k016) a b fun w21 r hr k21 => ⟨r, rfl, ?_⟩
      have k021 := k016.trans k21 (fun _ _ h => h)
      have k621 := k616.trans k21 (fun _ _ h => h)
      cases r with
      | true => exact Split.yes rfl (hK w21 true ⟨fun _ => (anc_by h.W h.sel he).2 (.inl (hr.1 rfl)), fun _ => rfl⟩ k021)
      | false =>
        refine Split.no rfl ?_
        have h21 := h.same k021
        obtain ⟨f, hf, hcv⟩ := h21.cov
        obtain ⟨l, hl, hmem⟩ := hcv a
        have hlook := hf.look mtCover a
        have fin : ∀ {A : Option Addr} {n c : Nat}, (f a).getD (.slice none 0 0) = .slice A n c → HS w21 A n l → n ≤ D.length →
            Ret Tryd.prog slices_ContainsFunc_of_api_Hash.id #[.slice A n c, .func (.func reach_Index_Before_fn1.id) #[] #[.pointer (some ⟨w.heap.size, 0, none⟩), .pointer (some ⟨w5.heap.size, 0, none⟩)]] w21 fun v28 w_29 => ∃ t : Bool, v28 = .bool t ∧ K (.bool t) w_29 := fun _ hs hn =>
          contains_cover h21 (k621.heap hx6 (fun h => h)) (k621.heap hb6 (fun h => h)) hs (by omega) fun w29 r2 hr2 k29 => ⟨r2, rfl, hK w29 r2 (by
            rw [hr2, anc_by h.W h.sel he]
            constructor
            · rintro ⟨c, h1, h2⟩; exact .inr ⟨c, (hmem c).1 h1, h2⟩
            · rintro (h1 | ⟨c, h1, h2⟩)
              · cases hr.2 h1
              · exact ⟨c, (hmem c).2 h1, h2⟩) (k021.trans k29 (fun _ _ h => h))⟩
        refine ⟨some ⟨x, 0, none⟩, by rw [cell_blk (k621.heap hx6 (fun h => h))]; rfl, _, h21.c4, a.1, ⟨a.2.1, Cells.blk (k621.heap ha6 (fun h => h))⟩, ?_⟩
        rcases hl with ⟨h1, rfl⟩ | ⟨A, n, c, h1, h2, h3, h4, h5⟩
        · rw [h1] at hlook
          exact ⟨none, 0, 0, hlook, fin (by rw [h1]; rfl) (HS.nil _ _) (by omega)⟩
        · rw [h1] at hlook
          exact ⟨A, n, c, hlook, fin (by rw [h1]; rfl) h3 h4⟩
  · refine Split.yes (by rw [decide_eq_false hall]; rfl) (hK w12 false ⟨(fun e => by cases e), fun e => absurd (fun p hp => ?_) hall⟩ k012)
    simp only [List.mem_cons, List.not_mem_nil, or_false] at hp
    rcases hp with rfl | rfl
    · exact (e.mem h.W).1
    · exact (e.mem h.W).2
end
end Go.Proofs.YtgfkpemnkmebkaaDoor
/-
  Small things of the index: Clip, Contains, a list of hashes that is laid anew.
-/
namespace Go.Proofs.YtgfkpemnkmebkaaDoor
open Go Go.Lite Go.RowKit

section
variable {w w' : World} {K : Value → World → Prop}
theorem clip_hash {A : Option Addr} {n c : Nat} (hnc : n ≤ c) (hK : K (.slice A n n) w) : Ret Tryd.prog slices_Clip_of_api_Hash.id #[.slice A n c] w K := by
  refine slices_Clip_of_api_Hash.of ⟨⟨by omega, by omega⟩, ⟨by omega, by simp⟩, ?_⟩
  have e : (if (n : Int).toNat = 0 then A else A.map (·.add (0 * 32))) = A := by
    split
    · rfl
    · cases A with
      | none => rfl
      | some a => simp [add_zero]
  rw [e]
  simpa using hK
theorem contains_hash {A : Option Addr} {n c : Nat} {l : List HT} (h : HT) (hl : HS w A n l) (hn : n ≤ 1000000) (hK : ∀ w', Kept Nil w w' → K (.bool (decide (h ∈ l))) w') :
    Ret Tryd.prog slices_Contains_of_api_Hash.id #[.slice A n c, .agg h.1] w K := by
  have hlen := hl.len
  refine slices_Contains_of_api_Hash.of ?_
  unfold slices_Contains_of_api_Hash.W
  intro w3
  have k3 : Kept Nil w w3 := (Kept.refl _ _).alloc _
  have hb3 : w3.heap[w.heap.size]? = some (.cells h.1 T_api_Hash (0, 0)) := new_blk w _
  clear_value w3
  refine ⟨h.1, ⟨h.2.1, Cells.blk hb3⟩, ?_⟩
  refine slices_Index_of_api_Hash.of ?_
  unfold slices_Index_of_api_Hash.W
  intro w4
  have k4 : Kept Nil w3 w4 := (Kept.refl _ _).alloc _
  have hb4 : w4.heap[w3.heap.size]? = some (.cells h.1 T_api_Hash (0, 0)) := new_blk w3 _
  clear_value w4
  have k04 := k3.trans k4 (fun _ _ h => h)
  refine slices_Index_of_api_Hash.loop1 (I := fun s w' => ∃ i : Nat, s = (0, (i : Int)) ∧ i ≤ n ∧ Kept Nil w4 w' ∧ h ∉ l.take i) (μ := fun s _ => ((n : Int) - s.2).toNat) (s := (0, 0)) ⟨0, rfl, Nat.zero_le _, Kept.refl _ _, by simp⟩ ?_
  rintro s w' ⟨i, rfl, hi, kw, hno⟩
  refine Split.dec (fun hlt => ?_) (fun hge => ?_)
  · simp only at hlt
    have hil : i < n := by omega
    obtain ⟨y, hy⟩ : ∃ y, l[i]? = some y := ⟨_, List.getElem?_eq_getElem (by omega)⟩
    intro w9
    have k9 : Kept Nil w' w9 := (Kept.refl _ _).drew
    clear_value w9
    have k49 := kw.trans k9 (fun _ _ h => h)
    have k09 := k04.trans k49 (fun _ _ h => h)
    refine ⟨h.1, ⟨h.2.1, Cells.blk (k49.heap hb4 (fun h => h))⟩, ?_⟩
    refine (hl.same k09).load (i := (i : Int)) (by omega) hy ⟨⟨h.2.ints, y.2.ints⟩, ?_⟩
    rw [sameInts_eq]
    refine Split.dec (fun he => ?_) (fun he => ?_)
    · refine ⟨(i : Int), rfl, ?_⟩
      have := hK w9 k09
      rw [decide_eq_true (by rw [he]; exact List.mem_of_getElem? hy)] at this
      rw [show decide ((i : Int) ≥ (0 : Int)) = true from decide_eq_true (by omega)]
      exact this
    · simp only
      rw [wrapI (x := (i : Int) + 1) (by omega) (by omega)]
      refine ⟨(0, (i : Int) + 1), rfl, ⟨i + 1, rfl, hil, k49, ?_⟩, by simp only; omega⟩
      rw [List.take_add_one, hy]
      simp only [Option.toList_some, List.mem_append, List.mem_singleton, not_or]
      exact ⟨hno, he⟩
  · simp only at hge
    rw [roundQ_exit, slices_Index_of_api_Hash.x1_0]
    refine ⟨-1, rfl, ?_⟩
    have := hK w' (k04.trans kw (fun _ _ h => h))
    rw [List.take_of_length_le (by omega)] at hno
    rw [decide_eq_false hno] at this
    exact this
/-- a full list gets one more: it is laid anew -/
theorem append_fresh {A : Option Addr} {n cx : Nat} {l : List HT} {h : HT} {b : Nat} (hl : HS w A n l) (hb : HS w (some ⟨b, 0, none⟩) 1 [h]) (hn : n ≤ 100000) :
    ∃ A' c' w', (Builtin.append_ #[T_sl_api_Hash, T_sl_api_Hash] T_sl_api_Hash #[.slice A n n, .slice (some ⟨b, 0, none⟩) 1 cx]).run Tryd.prog w = .ok (.slice A' (n + 1) c') w' ∧
      HS w' A' (n + 1) (l ++ [h]) ∧ n + 1 ≤ c' ∧ (∀ a, A' = some a → w.heap.size ≤ a.block ∧ a.block < w'.heap.size) ∧ Kept Nil w w' := by
  have hlen := hl.len
  cases A with
  | none =>
    obtain ⟨rfl, rfl⟩ := hl.none
    obtain ⟨A', c', w', hr, hrow, hg, hbk⟩ := append_hs (cx := cx) T_sl_api_Hash (HRow.nil w w.heap.size) hb (by omega) (Nat.le_refl _)
    rw [Nat.zero_add] at hr hrow
    rw [List.nil_append] at hrow
    obtain ⟨b', rfl⟩ := Row.some hrow (by omega)
    have hbb := Row.blk hrow (k := b') rfl
    refine ⟨some ⟨b', 0, Option.none⟩, c', w', hr, HRow.hs hrow, ?_, fun a ha => ?_, Kept.growNew (Kept.refl _ _) hg (fun k hk => by cases hk)⟩
    · rcases Row.own hrow with ⟨h1, _⟩ | ⟨_, _, _, _, _, h1, _⟩
      · cases h1
      · exact h1
    · cases ha
      obtain ⟨h1, cur, h2⟩ := hbb
      exact ⟨h1, lt_blk h2⟩
  | some a =>
    obtain ⟨i, z, hi, hz, hs, hby, hzs⟩ := slHash.inf
    have hr := run_append_grow (P := Tryd.prog) (w := w) T_sl_api_Hash T_sl_api_Hash T_api_Hash i z slHash.und hi hz a n n (hcells l) (by rw [hcells_len, hs, hlen]) hl.cells ⟨b, 0, Option.none⟩ 1 cx (hcells [h]) (by rw [hcells_len, hs]; rfl) hb.cells (by omega) (by omega) (growslice_fits (by omega) (by rw [hby]; omega))
    refine ⟨_, _, _, hr, ⟨by simp [hlen], fun j y hj => ⟨_, rfl, ?_, ?_⟩⟩, grownCap_ge _ _ _ _, fun a' ha' => ?_, ?_⟩
    · have := new_blk w.drew (.cells ((hcells l).toArray ++ (hcells [h]).toArray ++ Builtin.zeroCells z.cells (grownCap w (n + 1) n T_api_Hash - (n + 1))) T_api_Hash)
      exact lt_blk this
    · intro q v hq
      rw [add_at, add_at, Nat.zero_add]
      have hblk := new_blk w.drew (.cells ((hcells l).toArray ++ (hcells [h]).toArray ++ Builtin.zeroCells z.cells (grownCap w (n + 1) n T_api_Hash - (n + 1))) T_api_Hash)
      have e : (w.drew.heap.size) = w.heap.size := rfl
      rw [e] at hblk
      rw [cell_blk hblk]
      have h1 := hcells_get hj hq
      rw [hcells_app] at h1
      have hlt := (List.getElem?_eq_some_iff.1 h1).1
      rw [Array.getElem?_append_left (by simpa using hlt)]
      simpa using h1
    · cases ha'
      have := new_blk w.drew (.cells ((hcells l).toArray ++ (hcells [h]).toArray ++ Builtin.zeroCells z.cells (grownCap w (n + 1) n T_api_Hash - (n + 1))) T_api_Hash)
      exact ⟨Nat.le_refl _, lt_blk this⟩
    · exact (Kept.refl Nil w).drew.alloc _
end
end Go.Proofs.YtgfkpemnkmebkaaDoor
/-
  Add of the index.
-/
namespace Go.Proofs.YtgfkpemnkmebkaaDoor
open Go Go.Lite Go.RowKit

/-- what comes of one that comes -/
def addXC (D : DG) (h s : HT) (l : List HT) : Int := if addC D h l = 0 then (if s ∈ l then 0 else 2) else addC D h l
theorem addD_yes {D : DG} {h : HT} {l : List HT} (e : addC D h l = 0) : addD D h l = D ++ [⟨h, srt l⟩] := by unfold addD; rw [if_pos e]
section
variable {w w' : World} {S ST : Nat → Prop} {t : Nat} {T : List Tr.Nd} {d : Int}
theorem IsT_bound (h : Tr.IsT w ST t T d) : Tr.IsT w (fun k => ST k ∧ k < w.heap.size) t T d := by
  obtain ⟨b, c, L, h⟩ := h
  refine ⟨b, c, L, { h with footG := ⟨h.footG, h.lt⟩, footB := ⟨h.footB, ?_⟩, kid := fun i p hi => ?_ }⟩
  · obtain ⟨A, m, hk⟩ := h.kid i p hi
    exact ⟨A, m, { hk with foot := fun k e => ⟨hk.foot k e, let ⟨_, _, hc⟩ := Row.blk hk.row e; lt_blk hc⟩ }⟩
  · obtain ⟨cur, hc⟩ := h.bheap
    exact lt_blk hc
end
section
variable {w w' : World} {F : Nat → Prop} {x : Nat} {D : DG} {P : List Int} {m : XM} {K : Value → World → Prop}
/-- the last steps: the tree, the numbers, the list -/
theorem add_last {v : World} {hid s : HT} {S2 F2 SO2 : Nat → Prop} {ps : List HT} {j : Nat} {mj : DN} {idb sb : Nat} {b8 : Int} {old : Option Nat} {A7 : Option Addr} {n7 c7 : Nat} {i7 : Int} {s1 s2 : Nat}
    (h : XV w F x D P m) (hD : D.length ≤ 5000) (hn : hid ∉ ids D) (hin : ∀ p ∈ ps, p ∈ ids D) (hss : SS ps) (hj : D[j]? = some mj) (hs : mj.id = s) (hsp : s ∈ ps)
    (htop : v.heap[x]? = some (.cells #[.pointer (some ⟨m.g, 0, none⟩), .pointer (some ⟨m.t, 0, none⟩), .map (some m.mb), .slice (some ⟨m.ib, 0, none⟩) D.length m.ic, .map (some m.cb)] T_reach_Index (0, 0)))
    (hid0 : w.heap.size ≤ idb) (hsb0 : w.heap.size ≤ sb) (hidb : v.heap[idb]? = some (.cells hid.1 T_api_Hash (0, 0))) (hsb : v.heap[sb]? = some (.cells s.1 T_api_Hash (0, 0)))
    (hG : IsG v S2 F2 m.g (D ++ [⟨hid, ps⟩])) (hT : Tr.IsT v m.ST m.t m.T m.d) (hat : IsMap v m.mb (ids D)) (hrow : HRow v 0 (some ⟨m.ib, 0, none⟩) D.length m.ic (ids D))
    (hcov : ∃ f, MapF v m.cb f ∧ ∀ y, ∃ l, CovAt v SO2 (D.length + 1) (f y) l ∧ ∀ c, c ∈ l ↔ Cov (D ++ [⟨hid, ps⟩]) (P ++ [(j : Int)]) y c)
    (hs1 : w.heap.size ≤ s1) (hs2 : s1 ≤ s2) (hs3 : s2 ≤ v.heap.size)
    (kS2 : ∀ k, S2 k → (m.SG k ∨ w.heap.size ≤ k) ∧ k < s1) (kF2 : ∀ k, F2 k → (F k ∨ w.heap.size ≤ k) ∧ k < s1) (kSO : ∀ k, SO2 k → m.SO k ∨ (s2 ≤ k ∧ k < v.heap.size))
    (kv : Kept (fun k => m.foot x k) w v)
    (hK : ∀ u S' F', IsX u S' F' x (D ++ [⟨hid, ps⟩]) (P ++ [(j : Int)]) → Kept (fun k => m.foot x k) w u → (∀ k, S' k → m.foot x k ∨ w.heap.size ≤ k) → (∀ k, F' k → F k ∨ w.heap.size ≤ k) → K (.int .i64 0) u) :
    reach_Index_Add.X2_3 (some ⟨x, 0, none⟩) ⟨idb, 0, none⟩ ⟨sb, 0, none⟩ b8 old A7 n7 c7 i7 i7 K v := by
  have W := h.W
  have hlow := h.low
  have hjl := (List.getElem?_eq_some_iff.1 hj).1
  have htl := h.tlen
  have hox : m.own x x := .inl rfl
  have homb : m.own x m.mb := .inr (.inl rfl)
  have hoib : m.own x m.ib := .inr (.inr (.inl rfl))
  have hocb : m.own x m.cb := .inr (.inr (.inr rfl))
  obtain ⟨ne1, ne2, ne3, ne4, ne5, ne6⟩ := h.ne
  unfold reach_Index_Add.X2_3
  intro w119
  have k119 : Kept Nil v w119 := (Kept.refl _ _).drew
  clear_value w119
  have c1 : w119.cell? ((⟨x, 0, none⟩ : Addr).add 1) = some (.pointer (some ⟨m.t, 0, none⟩)) := by rw [add_at, cell_blk (k119.heap htop (fun h => h))]; rfl
  have c2 : w119.cell? ((⟨x, 0, none⟩ : Addr).add 2) = some (.map (some m.mb)) := by rw [add_at, cell_blk (k119.heap htop (fun h => h))]; rfl
  have hat119 := hat.keep k119 (fun h => h)
  have lk := hat119.look1 s
  rw [← hs, W.pos_eq hj] at lk
  rw [hs] at lk
  refine ⟨_, c1, _, c2, s.1, ⟨s.2.1, Cells.blk (k119.heap hsb (fun h => h))⟩, _, lk, ?_⟩
  have hT119 := IsT_bound (hT.same k119)
  refine Tr.tree_Add hT119 h.fine (p := j) (by omega) (by omega) ⟨h.dl.1, by have := h.dl.2; omega⟩ fun w127 ST' T' d' hT127 hF' hpars hd' k127 hST' => ⟨_, _, rfl, ?_⟩
  have s119 := k119.size
  have kST : ∀ k, ST' k → m.ST k ∨ w119.heap.size ≤ k := fun k hk => (hST' k hk).imp (fun h => h.1) (fun h => h)
  have nST : ∀ k, (m.ST k ∧ k < w119.heap.size) → m.ST k := fun k h => h.1
  -- own blocks are not the tree's
  have top127 := k127.heap (k119.heap htop (fun h => h)) (fun e => (h.od x hox).2.1 e.1)
  intro w130
  have k130 : Kept Nil w127 w130 := (Kept.refl _ _).drew
  clear_value w130
  have top130 := k130.heap top127 (fun h => h)
  have hlowT : ∀ k, m.ST k → k < w.heap.size := fun k e => hlow k (.inl (.inr (.inl e)))
  have lox : x < w.heap.size := hlow x (.inl (.inr (.inr (.inr hox))))
  have lomb : m.mb < w.heap.size := hlow _ (.inl (.inr (.inr (.inr homb))))
  have loib : m.ib < w.heap.size := hlow _ (.inl (.inr (.inr (.inr hoib))))
  have locb : m.cb < w.heap.size := hlow _ (.inl (.inr (.inr (.inr hocb))))
  have sv := kv.size
  have hidb130 : w130.heap[idb]? = some (.cells hid.1 T_api_Hash (0, 0)) := k130.heap (k127.heap (k119.heap hidb (fun h => h)) (fun e => by have := hlowT _ e.1; omega)) (fun h => h)
  have c2' : w130.cell? ((⟨x, 0, none⟩ : Addr).add 2) = some (.map (some m.mb)) := by rw [add_at, cell_blk top130]; rfl
  have hat130 : IsMap w130 m.mb (ids D) := (hat119.keep k127 (fun e => (h.od _ homb).2.1 e.1)).keep k130 (fun h => h)
  obtain ⟨w134, hr134, hat134, k134⟩ := hat130.put hn
  rw [ids_len, ← htl] at hr134
  refine ⟨_, c2', hid.1, ⟨hid.2.1, Cells.blk hidb130⟩, w134, hr134, ?_⟩
  intro w135
  have k135 : Kept Nil w134 w135 := (Kept.refl _ _).drew
  clear_value w135
  have k130135 := k134.trans k135 (fun _ _ h => h.elim)
  have top135 := k130135.heap top130 (fun e => ne1 e)
  have c3 : ∀ {u : World}, Kept Nil w135 u → u.cell? ((⟨x, 0, none⟩ : Addr).add 3) = some (.slice (some ⟨m.ib, 0, none⟩) D.length m.ic) := fun k => by rw [add_at, cell_blk (k.heap top135 (fun h => h))]; rfl
  have hidb135 := k130135.heap hidb130 (fun e => by omega)
  refine ⟨_, _, _, c3 (Kept.refl _ _), hid.1, ⟨hid.2.1, Cells.blk hidb135⟩, hid.2.1, ?_⟩
  intro w139
  have k139 : Kept Nil w135 w139 := (Kept.refl _ _).alloc _
  have hb139 : HS w139 (some ⟨w135.heap.size, 0, none⟩) 1 [hid] := hbox w135 hid
  clear_value w139
  have k130139 := k130135.trans k139 (fun _ _ h => h.elim)
  have row139 : HRow w139 0 (some ⟨m.ib, 0, none⟩) D.length m.ic (ids D) :=
    Row.keep (Row.keep (Row.keep (Row.keep hrow k119 (fun _ _ h => h)) k127 (fun k e e' => by cases e; exact (h.od _ hoib).2.1 e'.1)) k130 (fun _ _ h => h)) k130139 (fun k e e' => by cases e; exact ne4 e'.symm)
  obtain ⟨A', c', w141, hr141, row141, hg141, hb141⟩ := append_hs (cx := 1) T_sl_api_Hash row139 hb139 (by omega) (Nat.zero_le _)
  have k141 : Kept (· = m.ib) w139 w141 := Kept.grown (Kept.refl _ _) hg141 (fun k e _ => by cases e; rfl)
  obtain ⟨ib', rfl⟩ := Row.some row141 (by omega)
  have hib' : ib' = m.ib ∨ w139.heap.size ≤ ib' := by
    rcases hb141 ib' rfl with e | e
    · left; simpa [blkOf] using e.symm
    · exact .inr e
  have top141 := k141.heap (k139.heap top135 (fun h => h)) (fun e => ne2 e)
  refine ⟨c3 k139, some ⟨ib', 0, none⟩, _, c', w141, hr141, Is.mk rfl ⟨?_, ?_⟩⟩
  · rw [add_at]
    exact wr_blk top141 (by simp)
  intro w143
  have e143 : w143 = w141.setCell ⟨x, 3, none⟩ (.slice (some ⟨ib', 0, none⟩) (D.length + 1) c') := by
    show w141.setCell ((⟨x, 0, none⟩ : Addr).add 3) _ = _
    rw [add_at]
  have k143 : Kept (· = x) w141 w143 := by rw [e143]; exact Kept.setCell (S := fun k => k = x) (Kept.refl _ w141) (p := ⟨x, 3, none⟩) (fun _ => rfl) _
  have top143 : w143.heap[x]? = some (.cells #[.pointer (some ⟨m.g, 0, none⟩), .pointer (some ⟨m.t, 0, none⟩), .map (some m.mb), .slice (some ⟨ib', 0, none⟩) (D.length + 1) c', .map (some m.cb)] T_reach_Index (0, 0)) := by
    rw [e143, set_blk top141 3]
    rfl
  clear_value w143
  have s127 := k127.size
  have s130 := k130.size
  have s139 := k130139.size
  have s141 := k141.size
  have s143 := k143.size
  -- from place to place
  have kC : Kept (fun k => k = m.ib ∨ k = x) w134 w143 := (((k135.trans k139 (fun _ _ h => h)).mono (S' := fun k => k = m.ib ∨ k = x) (fun _ _ h => h.elim)).trans k141 (fun _ _ h => .inl h)).trans k143 (fun _ _ h => .inr h)
  have kB : Kept (fun k => k = m.mb ∨ k = m.ib ∨ k = x) w127 w143 := ((k130.mono (S' := fun k => k = m.mb ∨ k = m.ib ∨ k = x) (fun _ _ h => h.elim)).trans k134 (fun _ _ h => .inl h)).trans kC (fun _ _ h => .inr h)
  have kA : Kept (fun k => m.ST k ∨ k = m.mb ∨ k = m.ib ∨ k = x) v w143 := ((k119.mono (S' := fun k => m.ST k ∨ k = m.mb ∨ k = m.ib ∨ k = x) (fun _ _ h => h.elim)).trans k127 (fun _ _ h => .inl h.1)).trans kB (fun _ _ h => .inr h)
  have own3 : ∀ k, (k = m.mb ∨ k = m.ib ∨ k = x) → m.own x k := fun k e => by
    rcases e with e | e | e
    · exact .inr (.inl e)
    · exact .inr (.inr (.inl e))
    · exact .inl e
  have own0 : ∀ k, m.own x k → k < w.heap.size := fun k e => hlow k (.inl (.inr (.inr (.inr e))))
  have lowG : ∀ k, m.SG k → k < w.heap.size := fun k e => hlow k (.inl (.inl e))
  have lowO : ∀ k, m.SO k → k < w.heap.size := fun k e => hlow k (.inl (.inr (.inr (.inl e))))
  have nG : ∀ k, S2 k → ¬ (m.ST k ∨ k = m.mb ∨ k = m.ib ∨ k = x) := fun k h1 h2 => by
    obtain ⟨h3, _⟩ := kS2 k h1
    rcases h2 with h2 | h2
    · rcases h3 with h3 | h3
      · exact (h.gt k h3).1 h2
      · have := hlowT k h2; omega
    · have h4 := own3 k h2
      rcases h3 with h3 | h3
      · exact (h.od k h4).1 h3
      · have := own0 k h4; omega
  have nF : ∀ k, F2 k → ¬ (m.ST k ∨ k = m.mb ∨ k = m.ib ∨ k = x) := fun k h1 h2 => by
    obtain ⟨h3, _⟩ := kF2 k h1
    rcases h2 with h2 | h2
    · rcases h3 with h3 | h3
      · exact (h.fd k h3).1 h2
      · have := hlowT k h2; omega
    · have h4 := own3 k h2
      rcases h3 with h3 | h3
      · exact (h.od k h4).2.2.2 h3
      · have := own0 k h4; omega
  have nSO : ∀ k, SO2 k → ¬ (m.ST k ∨ k = m.mb ∨ k = m.ib ∨ k = x) := fun k h1 h2 => by
    rcases kSO k h1 with h3 | ⟨h3, _⟩
    · rcases h2 with h2 | h2
      · exact h.to k h2 h3
      · exact (h.od k (own3 k h2)).2.2.1 h3
    · rcases h2 with h2 | h2
      · have := hlowT k h2; omega
      · have := own0 k (own3 k h2); omega
  have nT : ∀ k, (ST' k ∧ k < w127.heap.size) → ¬ (k = m.mb ∨ k = m.ib ∨ k = x) := fun k h1 h2 => by
    have h4 := own3 k h2
    rcases kST k h1.1 with h3 | h3
    · exact (h.od k h4).2.1 h3
    · have := own0 k h4; omega
  refine hK w143 (fun k => (S2 k ∨ (ST' k ∧ k < w127.heap.size) ∨ SO2 k ∨ (k = x ∨ k = m.mb ∨ k = ib' ∨ k = m.cb))) F2 ⟨{ m with ib := ib', ic := c', T := T', d := d', SG := S2, ST := fun k => ST' k ∧ k < w127.heap.size, SO := SO2 }, ?_, fun k e => e⟩ ?_ ?_ ?_
  · refine ⟨?_, hG.keep kA nG nF, (IsT_bound hT127).keep kB nT, hF', ?_, ?_, ?_, ?_, ?_, ?_, ?_, ?_, ?_, ?_, ?_, ?_, ?_⟩
    · rw [List.length_append]; exact top143
    · show Tr.pars T' = _
      rw [hpars, h.pars]
    · have := h.dl
      simp only [List.length_append, List.length_singleton]
      show 0 ≤ d' ∧ d' ≤ _
      omega
    · rw [ids_snoc]
      exact hat134.keep kC (fun e => e.elim (fun e => ne4 e) (fun e => ne1 e.symm))
    · rw [ids_snoc, List.length_append]
      refine Row.keep row141 k143 (fun k e e' => ?_)
      have e1 : ib' = k := by simpa [blkOf] using e
      rcases hib' with e | e
      · exact ne2 (e'.symm.trans (e1.symm.trans e))
      · omega
    · obtain ⟨f, hf, hc⟩ := hcov
      refine ⟨f, hf.keep kA (fun e => ?_), fun y => ?_⟩
      · rcases e with e | e | e | e
        · exact (h.od _ hocb).2.1 e
        · exact ne5 e.symm
        · exact ne6 e.symm
        · exact ne3 e.symm
      · obtain ⟨l, h1, h2⟩ := hc y
        refine ⟨l, ?_, h2⟩
        rw [List.length_append]
        exact h1.keep kA nSO
    · exact h.sel.snoc hj (by rw [hs]; exact hsp) W.pos
    · exact W.snoc (nd := ⟨hid, ps⟩) hn hin hss
    · intro k h1
      obtain ⟨h3, h4⟩ := kS2 k h1
      refine ⟨fun h2 => ?_, fun h2 => ?_⟩
      · rcases kST k h2.1 with h5 | h5
        · exact nG k h1 (.inl h5)
        · omega
      · rcases kSO k h2 with h5 | h5
        · rcases h3 with h3 | h3
          · exact (h.gt k h3).2 h5
          · have := lowO k h5; omega
        · omega
    · intro k h1 h2
      rcases kST k h1.1 with h5 | h5
      · exact nSO k h2 (.inl h5)
      · rcases kSO k h2 with h6 | h6
        · have := lowO k h6; omega
        · omega
    · intro k h1
      obtain ⟨h3, h4⟩ := kF2 k h1
      refine ⟨fun h2 => ?_, fun h2 => ?_⟩
      · rcases kST k h2.1 with h5 | h5
        · exact nF k h1 (.inl h5)
        · omega
      · rcases kSO k h2 with h5 | h5
        · rcases h3 with h3 | h3
          · exact (h.fd k h3).2 h5
          · have := lowO k h5; omega
        · omega
    · intro k e
      have e' : (k = m.mb ∨ k = m.ib ∨ k = x) ∨ (k = m.cb) ∨ (k = ib' ∧ w139.heap.size ≤ ib') := by
        rcases e with e | e | e | e
        · exact .inl (.inr (.inr e))
        · exact .inl (.inl e)
        · rcases hib' with h5 | h5
          · exact .inl (.inr (.inl (e.trans h5)))
          · exact .inr (.inr ⟨e, h5⟩)
        · exact .inr (.inl e)
      have big : w139.heap.size ≤ k → ¬ S2 k ∧ ¬ (ST' k ∧ k < w127.heap.size) ∧ ¬ SO2 k ∧ ¬ F2 k := fun hb =>
        ⟨fun h1 => by have := (kS2 k h1).2; omega, fun h1 => by have := h1.2; omega, fun h1 => (kSO k h1).elim (fun h2 => by have := lowO k h2; omega) (fun h2 => by omega), fun h1 => by have := (kF2 k h1).2; omega⟩
      rcases e' with e' | e' | ⟨rfl, e'⟩
      · exact ⟨fun h1 => nG k h1 (.inr e'), fun h1 => nT k h1 e', fun h1 => nSO k h1 (.inr e'), fun h1 => nF k h1 (.inr e')⟩
      · subst e'
        have hcb := h.od _ hocb
        refine ⟨fun h1 => ?_, fun h1 => ?_, fun h1 => ?_, fun h1 => ?_⟩
        · rcases (kS2 _ h1).1 with h2 | h2
          · exact hcb.1 h2
          · omega
        · rcases kST _ h1.1 with h2 | h2
          · exact hcb.2.1 h2
          · omega
        · rcases kSO _ h1 with h2 | h2
          · exact hcb.2.2.1 h2
          · omega
        · rcases (kF2 _ h1).1 with h2 | h2
          · exact hcb.2.2.2 h2
          · omega
      · exact big e'
    · show x ≠ m.mb ∧ x ≠ ib' ∧ x ≠ m.cb ∧ m.mb ≠ ib' ∧ m.mb ≠ m.cb ∧ ib' ≠ m.cb
      rcases hib' with h5 | h5
      · rw [h5]; exact ⟨ne1, ne2, ne3, ne4, ne5, ne6⟩
      · exact ⟨ne1, by omega, ne3, by omega, ne5, by omega⟩
    · intro k e
      have hblk := (Row.blk row141 (k := ib') rfl).2
      obtain ⟨cur, hcur⟩ := hblk
      have lib := lt_blk hcur
      rcases e with e | e
      · rcases e with e | e | e | e
        · have := (kS2 k e).2; omega
        · have := e.2; omega
        · rcases kSO k e with h2 | h2
          · have := lowO k h2; omega
          · omega
        · rcases e with e | e | e | e
          · omega
          · have e : k = m.mb := e; omega
          · have e : k = ib' := e; omega
          · have e : k = m.cb := e; omega
      · have := (kF2 k e).2; omega
  · refine kv.trans kA (fun k _ e => ?_)
    rcases e with e | e
    · exact .inr (.inl e)
    · exact .inr (.inr (.inr (own3 k e)))
  · intro k e
    rcases e with e | e | e | e
    · exact (kS2 k e).1.imp (fun h => .inl h) (fun h => h)
    · rcases kST k e.1 with h5 | h5
      · exact .inl (.inr (.inl h5))
      · exact .inr (by omega)
    · rcases kSO k e with h5 | h5
      · exact .inl (.inr (.inr (.inl h5)))
      · exact .inr (by omega)
    · rcases e with e | e | e | e
      · exact .inl (.inr (.inr (.inr (.inl e))))
      · exact .inl (.inr (.inr (.inr (.inr (.inl e)))))
      · rcases hib' with h5 | h5
        · exact .inl (.inr (.inr (.inr (.inr (.inr (.inl (e.trans h5)))))))
        · exact .inr (by omega)
      · exact .inl (.inr (.inr (.inr (.inr (.inr (.inr e))))))
  · exact fun k e => (kF2 k e).1
end
end Go.Proofs.YtgfkpemnkmebkaaDoor
/-
  Add of the index, whole.
-/
namespace Go.Proofs.YtgfkpemnkmebkaaDoor
open Go Go.Lite Go.RowKit

section
variable {w w' : World} {F S : Nat → Prop} {x : Nat} {D : DG} {P : List Int} {m : XM} {K : Value → World → Prop}
/-- one that is in the new one's past: is it covered? -/
theorem add_cover {u v : World} {hid s : HT} {D' : DG} {ps pl : List HT} {idb ob i : Nat} {A7 : Option Addr} {c7 : Nat} {b8 : Int} {sb : Addr} {f0 : HT → Option Value} {Q : Post} {ob' : Option Nat}
    (h : XV w F x D P m) (hD : D.length ≤ 5000) (hwu : w.heap.size ≤ u.heap.size)
    (htop : u.heap[x]? = some (.cells #[.pointer (some ⟨m.g, 0, none⟩), .pointer (some ⟨m.t, 0, none⟩), .map (some m.mb), .slice (some ⟨m.ib, 0, none⟩) D.length m.ic, .map (some m.cb)] T_reach_Index (0, 0)))
    (hidb : u.heap[idb]? = some (.cells hid.1 T_api_Hash (0, 0))) (hnid : w.heap.size ≤ idb) (hold : MapF u ob f0) (hob0 : w.heap.size ≤ ob) (hob' : ob' = some ob)
    (hf0 : ∀ y, (y = s ∨ Anc D y s → f0 y = some (.agg #[.bool true])) ∧ (¬ (y = s ∨ Anc D y s) → f0 y = none))
    (row7 : HRow u w.heap.size A7 pl.length c7 pl) (hpl : pl.length ≤ 10000)
    (kv : Kept (· = m.cb) u v) (hi : i ≤ pl.length) {Z : HT → HT → Prop}
    (hcov : ∃ f, MapF v m.cb f ∧ ∀ y, ∃ l, CovAt v (fun k => m.SO k ∨ (u.heap.size ≤ k ∧ k < v.heap.size)) (D.length + if y ∈ pl.take i then 1 else 0) (f y) l ∧ ∀ c, c ∈ l ↔ Cov D P y c ∨ (c = hid ∧ y ∈ pl.take i ∧ y ≠ s ∧ ¬ Anc D y s)) (hnd : pl.Nodup)
    (hQ : ∀ v', Kept (· = m.cb) u v' → (∃ f, MapF v' m.cb f ∧ ∀ y, ∃ l, CovAt v' (fun k => m.SO k ∨ (u.heap.size ≤ k ∧ k < v'.heap.size)) (D.length + if y ∈ pl.take (i + 1) then 1 else 0) (f y) l ∧ ∀ c, c ∈ l ↔ Cov D P y c ∨ (c = hid ∧ y ∈ pl.take (i + 1) ∧ y ≠ s ∧ ¬ Anc D y s)) → i < pl.length →
      Q .normal (reach_Index_Add.e2 (some ⟨x, 0, none⟩) ⟨idb, 0, none⟩ sb b8 ob' A7 pl.length c7 (pl.length : Int) ((i : Int) + 1)) v')
    (hE : i = pl.length → Q (.exit 3) (reach_Index_Add.e2 (some ⟨x, 0, none⟩) ⟨idb, 0, none⟩ sb b8 ob' A7 pl.length c7 (pl.length : Int) (i : Int)) v) :
    reach_Index_Add.B2 (some ⟨x, 0, none⟩) ⟨idb, 0, none⟩ sb b8 ob' A7 pl.length c7 (pl.length : Int) (i : Int) Q v := by
  subst hob'
  have hox : m.own x x := .inl rfl
  have hocb : m.own x m.cb := .inr (.inr (.inr rfl))
  obtain ⟨ne1, ne2, ne3, ne4, ne5, ne6⟩ := h.ne
  have locb : m.cb < w.heap.size := h.low _ (.inl (.inr (.inr (.inr hocb))))
  have sv := kv.size
  unfold reach_Index_Add.B2
  refine Split.dec (fun hil0 => ?_) (fun hge => hE (by omega))
  have hil : i < pl.length := by omega
  obtain ⟨y, hy⟩ : ∃ y, pl[i]? = some y := ⟨_, List.getElem?_eq_getElem hil⟩
  have hyi : y ∉ pl.take i := fun hm => by
    obtain ⟨j, hj⟩ := List.mem_iff_getElem?.1 hm
    rw [List.getElem?_take] at hj
    split at hj
    · rename_i hlt
      have h1 := pos_of_get 0 j hnd hj
      rw [pos_of_get 0 i hnd hy] at h1
      simp only [Option.some.injEq] at h1
      omega
    · cases hj
  have rowv : HS v A7 pl.length pl := HRow.hs (Row.keep row7 kv (fun k hk e => by have := (Row.blk row7 hk).1; omega))
  refine rowv.load (i := (i : Int)) (by omega) (by rw [Int.toNat_natCast]; exact hy) ?_
  intro w81
  obtain ⟨hwr, hbx, hkx⟩ := box_set (w := v) (z := (#[.int .u8 0, .int .u8 0, .int .u8 0, .int .u8 0, .int .u8 0, .int .u8 0, .int .u8 0, .int .u8 0, .int .u8 0, .int .u8 0, .int .u8 0, .int .u8 0, .int .u8 0, .int .u8 0, .int .u8 0, .int .u8 0, .int .u8 0, .int .u8 0, .int .u8 0, .int .u8 0, .int .u8 0, .int .u8 0, .int .u8 0, .int .u8 0, .int .u8 0, .int .u8 0, .int .u8 0, .int .u8 0, .int .u8 0, .int .u8 0, .int .u8 0, .int .u8 0] : Array Value)) (cs := y.1) (t := T_api_Hash) (by rw [y.2.1]; rfl)
  refine ⟨⟨y.2.1, y.2.one, fun j hj => hwr j (by rw [y.2.1]; exact hj)⟩, ?_⟩
  intro w84
  replace hbx : w84.heap[v.heap.size]? = some (.cells y.1 T_api_Hash (0, 0)) := hbx
  replace hkx : Kept Nil v w84 := hkx
  clear_value w84
  have k84 : Kept (· = m.cb) u w84 := kv.trans hkx (fun _ _ h => h.elim)
  have hold84 : MapF w84 ob f0 := hold.keep k84 (fun e => by omega)
  have lk := hold84.look mtOld y
  obtain ⟨f, hf, hc⟩ := hcov
  have hf84 := hf.keep hkx (fun h => h)
  obtain ⟨l, hcl, hml⟩ := hc y
  have hs84 := hkx.size
  have cmono : ∀ {v' : World} {N N' : Nat} {a : Option Value} {l : List HT}, v.heap.size ≤ v'.heap.size → N ≤ N' → CovAt v' (fun k => m.SO k ∨ (u.heap.size ≤ k ∧ k < v.heap.size)) N a l → CovAt v' (fun k => m.SO k ∨ (u.heap.size ≤ k ∧ k < v'.heap.size)) N' a l := fun hv hN hcc => by
    rcases hcc with hcc | ⟨A, n, c, h1, h2, h3, h4, h5⟩
    · exact .inl hcc
    · exact .inr ⟨A, n, c, h1, h2, h3, by omega, fun a ha => (h5 a ha).imp (fun h => h) (fun h => ⟨h.1, by omega⟩)⟩
  have ckeep : ∀ {v' : World} {N : Nat} {a : Option Value} {l : List HT}, Kept (· = m.cb) v v' → CovAt v (fun k => m.SO k ∨ (u.heap.size ≤ k ∧ k < v.heap.size)) N a l → CovAt v' (fun k => m.SO k ∨ (u.heap.size ≤ k ∧ k < v.heap.size)) N a l := fun hk hcc => hcc.keep hk (fun k hk' e => by
    rcases hk' with h1 | h1
    · exact (h.od _ hocb).2.2.1 (e ▸ h1)
    · omega)
  refine ⟨y.1, ⟨y.2.1, Cells.blk hbx⟩, ?_⟩
  by_cases hcase : y = s ∨ Anc D y s
  · rw [(hf0 y).1 hcase] at lk
    refine ⟨_, lk, true, rfl, Split.no rfl ?_⟩
    rw [wrapP (n := (i : Int)) (by omega) (by omega)]
    refine hQ w84 k84 ⟨f, hf84, fun z => ?_⟩ hil
    obtain ⟨lz, h1, h2⟩ := hc z
    refine ⟨lz, cmono hs84 (by
      by_cases hz : z ∈ pl.take i
      · rw [if_pos hz, if_pos ((mem_take_succ hy).2 (.inl hz))]; exact Nat.le_refl _
      · rw [if_neg hz]; omega) (ckeep (hkx.mono (fun _ _ h => h.elim)) h1), fun c => ?_⟩
    rw [h2, mem_take_succ hy]
    constructor
    · rintro (h3 | ⟨h3, h4, h5, h6⟩)
      · exact .inl h3
      · exact .inr ⟨h3, .inl h4, h5, h6⟩
    · rintro (h3 | ⟨h3, h4 | rfl, h5, h6⟩)
      · exact .inl h3
      · exact .inr ⟨h3, h4, h5, h6⟩
      · exact absurd hcase (fun e => e.elim h5 h6)
  · rw [(hf0 y).2 hcase] at lk
    refine ⟨_, lk, false, rfl, Split.yes rfl ?_⟩
    intro w88
    have k88 : Kept Nil w84 w88 := (Kept.refl _ _).drew
    clear_value w88
    have kv88 := hkx.trans k88 (fun _ _ h => h)
    have hbx88 := k88.heap hbx (fun h => h)
    have cell4 : ∀ {q : World}, Kept Nil w88 q → q.cell? ((⟨x, 0, none⟩ : Addr).add 4) = some (.map (some m.cb)) := fun k => by
      rw [add_at, cell_blk (k.heap (k88.heap (k84.heap htop (fun e => ne3 e)) (fun h => h)) (fun h => h))]; rfl
    have hcs : ∀ {q : World}, Kept Nil w88 q → ∃ cs : Array Value, (.agg y.1 : Value) = .agg cs ∧ cs.size = 32 ∧ Cells q (⟨v.heap.size, 0, none⟩ : Addr) cs := fun k => ⟨y.1, rfl, y.2.1, Cells.blk (k.heap hbx88 (fun h => h))⟩
    have hid88 : w88.heap[idb]? = some (.cells hid.1 T_api_Hash (0, 0)) := k88.heap (k84.heap hidb (fun e => by omega)) (fun h => h)
    have hcsI : ∀ {q : World}, Kept Nil w88 q → ∃ cs : Array Value, (.agg hid.1 : Value) = .agg cs ∧ cs.size = 32 ∧ Cells q (⟨idb, 0, none⟩ : Addr) cs := fun k => ⟨hid.1, rfl, hid.2.1, Cells.blk (k.heap hid88 (fun h => h))⟩
    have hf88 := hf84.keep k88 (fun h => h)
    -- the list as it lies
    obtain ⟨A, n, c, hget, hnc, hsl, hnN⟩ : ∃ (A : Option Addr) (n c : Nat), (f y).getD (.slice none 0 0) = .slice A n c ∧ n ≤ c ∧ HS v A n l ∧ n ≤ D.length := by
      rcases hcl with ⟨h1, h2⟩ | ⟨A, n, c, h1, h2, h3, h4, _⟩
      · exact ⟨none, 0, 0, by rw [h1]; rfl, Nat.le_refl _, by rw [h2]; exact HS.nil _ _, by omega⟩
      · rw [if_neg hyi] at h4
        exact ⟨A, n, c, by rw [h1]; rfl, h2, h3, by omega⟩
    have lk2 : ∀ {q : World}, Kept Nil w88 q → (Instr.lookup T_map_api_Hash_sl_api_Hash (.map (some m.cb)) (.agg y.1) false).run Tryd.prog q = .ok (.slice A n c) q := fun k => by
      have := (hf88.keep k (fun h => h)).look mtCover y
      rw [hget] at this
      exact this
    -- append, and into the map
    have fin : ∀ {q : World} {bb : Nat}, Kept Nil w88 q → HS q (some ⟨bb, 0, none⟩) 1 [hid] →
        ∃ (A' : Option Addr) (n' c' : Nat) (q2 : World), (Builtin.append_ #[T_sl_api_Hash, T_sl_api_Hash] T_sl_api_Hash #[.slice A n n, .slice (some ⟨bb, 0, none⟩) 1 1]).run Tryd.prog q = .ok (.slice A' n' c') q2 ∧ (∃ cs : Array Value, (.agg y.1 : Value) = .agg cs ∧ cs.size = 32 ∧ Cells q2 (⟨v.heap.size, 0, none⟩ : Addr) cs) ∧ q2.cell? ((⟨x, 0, none⟩ : Addr).add 4) = some (.map (some m.cb)) ∧
          ∃ q3 : World, (Instr.mapUpdate T_map_api_Hash_sl_api_Hash (.map (some m.cb)) (.agg y.1) (.slice A' n' c')).run Tryd.prog q2 = .ok () q3 ∧ Q .normal (reach_Index_Add.e2 (some ⟨x, 0, none⟩) ⟨idb, 0, none⟩ sb b8 (some ob) A7 pl.length c7 (pl.length : Int) (IntKind.i64.wrap ((i : Int) + (1 : Int)))) q3 := by
      intro q bb kq hbb
      have kvq := kv88.trans kq (fun _ _ h => h)
      obtain ⟨A', c', q2, hr, hs2, hc2, hb2, kq2⟩ := append_fresh (cx := 1) (hsl.same kvq) hbb (by omega)
      have k2 := kq.trans kq2 (fun _ _ h => h)
      obtain ⟨q3, hr3, hf3, k3⟩ := (hf88.keep k2 (fun h => h)).put mtCover y (.slice A' (n + 1) c')
      refine ⟨A', _, c', q2, hr, hcs k2, cell4 k2, q3, hr3, ?_⟩
      rw [wrapP (n := (i : Int)) (by omega) (by omega)]
      have kvq2 := kvq.trans kq2 (fun _ _ h => h)
      have kvq3 : Kept (· = m.cb) v q3 := (kvq2.mono (S' := (· = m.cb)) (fun _ _ h => h.elim)).trans k3 (fun _ _ h => h)
      have sq2 := kvq2.size
      have sq3 := k3.size
      have svq := kvq.size
      refine hQ q3 (kv.trans kvq3 (fun _ _ h => h)) ⟨_, hf3, fun z => ?_⟩ hil
      by_cases hz : z = y
      · subst hz
        refine ⟨l ++ [hid], .inr ⟨A', n + 1, c', by simp, hc2, hs2.keep k3 (fun a ha e => by have := (hb2 a ha).1; omega), ?_, fun a ha => .inr ?_⟩, fun c => ?_⟩
        · rw [if_pos ((mem_take_succ hy).2 (.inr rfl))]; omega
        · have := hb2 a ha; omega
        · rw [List.mem_append, List.mem_singleton, hml, mem_take_succ hy]
          constructor
          · rintro ((h3 | ⟨h3, h4, h5, h6⟩) | h3)
            · exact .inl h3
            · exact .inr ⟨h3, .inl h4, h5, h6⟩
            · exact .inr ⟨h3, .inr rfl, fun e => hcase (.inl e), fun e => hcase (.inr e)⟩
          · rintro (h3 | ⟨h3, h4, h5, h6⟩)
            · exact .inl (.inl h3)
            · exact .inr h3
      · obtain ⟨lz, h1, h2⟩ := hc z
        refine ⟨lz, ?_, fun c => ?_⟩
        · simp only [hz, if_false]
          refine cmono (by omega) ?_ (ckeep kvq3 h1)
          by_cases hzi : z ∈ pl.take i
          · rw [if_pos hzi, if_pos ((mem_take_succ hy).2 (.inl hzi))]; exact Nat.le_refl _
          · rw [if_neg hzi]; omega
        · rw [h2, mem_take_succ hy]
          constructor
          · rintro (h3 | ⟨h3, h4, h5, h6⟩)
            · exact .inl h3
            · exact .inr ⟨h3, .inl h4, h5, h6⟩
          · rintro (h3 | ⟨h3, h4 | h4, h5, h6⟩)
            · exact .inl h3
            · exact .inr ⟨h3, h4, h5, h6⟩
            · exact absurd h4 hz
    refine ⟨_, cell4 (Kept.refl _ _), y.1, ⟨y.2.1, Cells.blk hbx88⟩, _, cell4 (Kept.refl _ _), y.1, ⟨y.2.1, Cells.blk hbx88⟩, A, n, c, lk2 (Kept.refl _ _), hid.1, ⟨hid.2.1, Cells.blk hid88⟩, ?_, ⟨hid.2.1, ?_⟩⟩
    · refine clip_hash hnc ⟨A, n, n, rfl, hcsI (Kept.refl _ _), hcs (Kept.refl _ _), cell4 (Kept.refl _ _), hid.2.1, ?_⟩
      intro w100
      have k100 : Kept Nil w88 w100 := (Kept.refl _ _).alloc _
      have hb100 : HS w100 (some ⟨w88.heap.size, 0, none⟩) 1 [hid] := hbox w88 hid
      clear_value w100
      exact ⟨hcs k100, cell4 k100, fin k100 hb100⟩
    · intro w104
      have k104 : Kept Nil w88 w104 := (Kept.refl _ _).alloc _
      have hb104 : HS w104 (some ⟨w88.heap.size, 0, none⟩) 1 [hid] := hbox w88 hid
      clear_value w104
      exact ⟨lk2 k104, hcs k104, cell4 k104, hcs k104, cell4 k104, clip_hash hnc ⟨A, n, n, rfl, hcs k104, cell4 k104, fin k104 hb104⟩⟩
end
end Go.Proofs.YtgfkpemnkmebkaaDoor
/-
  Add of the index, from its beginning.
-/
namespace Go.Proofs.YtgfkpemnkmebkaaDoor
open Go Go.Lite Go.RowKit

def addXD (D : DG) (h s : HT) (l : List HT) : DG := if addXC D h s l = 0 then D ++ [⟨h, srt l⟩] else D
def addXP (D : DG) (P : List Int) (h s : HT) (l : List HT) : List Int := if addXC D h s l = 0 then P ++ [(((pos s (ids D) 0).getD 0 : Nat) : Int)] else P
section
variable {w w' : World} {F S : Nat → Prop} {x : Nat} {D : DG} {P : List Int} {m : XM} {K : Value → World → Prop}
theorem reach_Add (h : XV w F x D P m) (hD : D.length ≤ 5000) (hT : Tab w) (hTn : ¬ m.SG (Tryd.tzL_ren.g 1)) {A : Option Addr} {n cx : Nat} {lp : List HT} (hl : HS w A n lp) (hn : n ≤ 5000) (hid s : HT)
    (hno : ∀ v, Kept Nil w v → addXC D hid s lp ≠ 0 → K (.int .i64 (addXC D hid s lp)) v)
    (hyes : ∀ u S' F', IsX u S' F' x (addXD D hid s lp) (addXP D P hid s lp) → Kept (fun k => m.foot x k) w u → (∀ k, S' k → m.foot x k ∨ w.heap.size ≤ k) → (∀ k, F' k → F k ∨ w.heap.size ≤ k) → addXC D hid s lp = 0 → K (.int .i64 0) u) :
    Ret Tryd.prog reach_Index_Add.id #[.pointer (some ⟨x, 0, none⟩), .agg hid.1, .agg s.1, .slice A n cx] w K := by
  have hlen := hl.len
  have W := h.W
  refine reach_Index_Add.of ?_
  unfold reach_Index_Add.W
  intro w5 w6
  have k5 : Kept Nil w w5 := (Kept.refl _ _).alloc _
  have hi5 : w5.heap[w.heap.size]? = some (.cells hid.1 T_api_Hash (0, 0)) := new_blk w _
  have k6 : Kept Nil w5 w6 := (Kept.refl _ _).alloc _
  have hs6 : w6.heap[w5.heap.size]? = some (.cells s.1 T_api_Hash (0, 0)) := new_blk w5 _
  clear_value w6
  have hi6 := k6.heap hi5 (fun h => h)
  have k06 := k5.trans k6 (fun _ _ h => h)
  have s5 := k5.size
  have l5 := lt_blk hi5
  obtain ⟨bl, c, mbg, M, G⟩ := h.G
  have hG : ∀ {v : World}, Kept Nil w v → GV v m.SG F m.g D (childL D) bl c mbg M := fun k => G.same k
  refine reach_there (h.same k06) ⟨true, rfl, Split.no rfl ⟨_, (h.same k06).c0, hid.1, ⟨hid.2.1, Cells.blk hi6⟩, ?_⟩⟩
  refine dag_Has (hG k06) hid fun w14 k14 => ⟨_, rfl, ?_⟩
  have k014 := k06.trans k14 (fun _ _ h => h)
  by_cases hin : hid ∈ ids D
  · have e : addXC D hid s lp = 7 := by simp [addXC, addC, hin]
    have := hno w14 k014 (by rw [e]; decide)
    rw [e] at this
    exact Split.yes (decide_eq_true hin) this
  refine Split.no (decide_eq_false hin) ?_
  by_cases h0 : n = 0
  · have el : lp = [] := List.length_eq_zero_iff.1 (by omega)
    have e : addXC D hid s lp = 9 := by subst el; simp [addXC, addC, hin, srt_nil]
    have := hno w14 k014 (by rw [e]; decide)
    rw [e] at this
    exact Split.yes (by simp [h0]) this
  refine Split.no (by simp [h0]) ?_
  refine dag_Sorted_ok (hl.same k014) (by omega) fun A17 c17 w17 row17 k17 => ⟨A17, _, c17, rfl, ?_⟩
  have k017 := k014.trans k17 (fun _ _ h => h)
  have hne : lp ≠ [] := fun e => h0 (by rw [← hlen, e]; rfl)
  by_cases hsl : ¬ (srt lp).length = n
  · have e : addXC D hid s lp = 9 := by
      have h1 : (srt lp).length = 0 ∨ (srt lp).length ≠ lp.length := .inr (by omega)
      have h2 : addC D hid lp = 9 := by unfold addC; rw [if_neg hin, if_pos h1]
      simp [addXC, h2]
    have := hno w17 k017 (by rw [e]; decide)
    rw [e] at this
    exact Split.yes (by simp only [bne_iff_ne, ne_eq]; omega) this
  replace hsl := Classical.not_not.1 hsl
  refine Split.no (by rw [hsl]; simp) ?_
  refine reach_has (h.same k017) (hl.same k017) (by omega) fun w20 k20 => ⟨_, rfl, ?_⟩
  have k020 := k017.trans k20 (fun _ _ h => h)
  have hnn : ¬ ((srt lp).length = 0 ∨ (srt lp).length ≠ lp.length) := by omega
  by_cases hall : ¬ ∀ p ∈ lp, p ∈ ids D
  · have hex : ∃ p ∈ srt lp, p ∉ ids D := Classical.byContradiction fun hc => hall fun p hp => Classical.byContradiction fun hq => hc ⟨p, mem_srt.2 hp, hq⟩
    have e : addXC D hid s lp = 6 := by
      have : addC D hid lp = 6 := by unfold addC; rw [if_neg hin, if_neg hnn, if_pos hex]
      simp [addXC, this]
    have := hno w20 k020 (by rw [e]; decide)
    rw [e] at this
    exact Split.yes (by rw [decide_eq_false hall]; rfl) this
  replace hall := Classical.not_not.1 hall
  refine Split.no (by rw [decide_eq_true hall]; rfl) ?_
  have hcex : ¬ ∃ p ∈ srt lp, p ∉ ids D := fun ⟨p, hp, hq⟩ => hq (hall p (mem_srt.1 hp))
  have eC : addC D hid lp = 0 := by unfold addC; rw [if_neg hin, if_neg hnn, if_neg hcex]
  have k620 := (k14.trans k17 (fun _ _ h => h)).trans k20 (fun _ _ h => h)
  refine ⟨s.1, ⟨s.2.1, Cells.blk (k620.heap hs6 (fun h => h))⟩, ?_⟩
  refine contains_hash s (hl.same k020) (by omega) fun w24 k24 => ⟨_, rfl, ?_⟩
  have k024 := k020.trans k24 (fun _ _ h => h)
  by_cases hsm : ¬ s ∈ lp
  · have e : addXC D hid s lp = 2 := by simp [addXC, eC, hsm]
    have := hno w24 k024 (by rw [e]; decide)
    rw [e] at this
    exact Split.yes (by rw [decide_eq_false hsm]; rfl) this
  replace hsm := Classical.not_not.1 hsm
  refine Split.no (by rw [decide_eq_true hsm]; rfl) ?_
  have eX : addXC D hid s lp = 0 := by simp [addXC, eC, hsm]
  have k624 := k620.trans k24 (fun _ _ h => h)
  obtain ⟨mj, hmj, hms⟩ := ids_mem.1 (hall s hsm)
  obtain ⟨j, hj⟩ := List.mem_iff_getElem?.1 hmj
  have eP : addXP D P hid s lp = P ++ [(j : Int)] := by
    unfold addXP
    rw [if_pos eX, ← hms, W.pos_eq hj]
    rfl
  have eD : addXD D hid s lp = D ++ [⟨hid, srt lp⟩] := by unfold addXD; rw [if_pos eX]
  -- who is in the selected one's past
  intro w26
  have k26 : Kept Nil w24 w26 := (Kept.refl _ _).alloc _
  have hm26 : MapF w26 w24.heap.size (fun _ => none) := MapF.new w24
  clear_value w26
  have hs26 := (k624.trans k26 (fun _ _ h => h)).heap hs6 (fun h => h)
  obtain ⟨w28, hr28, hm28, k28⟩ := hm26.put mtOld s (.agg #[.bool true])
  refine ⟨s.1, ⟨s.2.1, Cells.blk hs26⟩, w28, hr28, ?_⟩
  have ob0 : w5.heap.size < w24.heap.size := by have := lt_blk hs6; have := k624.size; omega
  have hs28 := k28.heap hs26 (fun e => by omega)
  refine ⟨s.1, ⟨s.2.1, Cells.blk hs28⟩, s.2.1, ?_⟩
  intro w30
  have k30 : Kept Nil w28 w30 := (Kept.refl _ _).alloc _
  have hx30 : HS w30 (some ⟨w28.heap.size, 0, none⟩) 1 [s] := hbox w28 s
  clear_value w30
  have s024 := k024.size
  have k2430 : Kept Nil w24 w30 := (k26.trans k28 (fun k hk e => by omega)).trans k30 (fun _ _ h => h)
  have k030 := k024.trans k2430 (fun _ _ h => h)
  refine dag_Past (hG k030) W (by omega) (hT.same k030) hx30 (by omega) fun A32 c32 w32 row32 k32 => ⟨A32, _, c32, rfl, ?_⟩
  have k032 := k030.trans k32 (fun _ _ h => h)
  have hm32 : MapF w32 w24.heap.size (fun z => if z = s then some (.agg #[.bool true]) else none) := (hm28.keep k30 (fun h => h)).keep k32 (fun h => h)
  have p1 := pick_len D fun a => ∃ z ∈ [s], Anc D a z
  change (pastsL D [s]).length ≤ _ at p1
  have s2430 := k2430.size
  have ob1 := hm28.lt
  have s30 := k30.size
  have hpast : ∀ y, y ∈ pastsL D [s] ↔ Anc D y s := fun y => by
    unfold pastsL
    rw [mem_pick]
    constructor
    · rintro ⟨_, z, hz, e⟩
      rw [List.mem_singleton] at hz
      rwa [hz] at e
    · exact fun e => ⟨(e.mem W).1, s, by simp, e⟩
  have lb24 : ∀ k, k = w24.heap.size → ¬ k < w.heap.size := fun k e => by omega
  refine reach_Index_Add.loop1 (I := fun i v => ∃ (q : Nat) (f : HT → Option Value), i = (q : Int) ∧ q ≤ (pastsL D [s]).length ∧ MapF v w24.heap.size f ∧ (∀ y, (y = s ∨ y ∈ (pastsL D [s]).take q → f y = some (.agg #[.bool true])) ∧ (¬ (y = s ∨ y ∈ (pastsL D [s]).take q) → f y = none)) ∧ Kept (· = w24.heap.size) w32 v)
    (μ := fun i _ => (((pastsL D [s]).length : Int) - i).toNat) (s := 0) ⟨0, _, rfl, Nat.zero_le _, hm32, fun y => ⟨fun e => by
      rcases e with e | e
      · rw [if_pos e]
      · simp at e, fun e => if_neg fun e' => e (.inl e')⟩, Kept.refl _ _⟩ ?_
  rintro i v ⟨q, f, rfl, hq, hmv, hfv, kv⟩
  have k0v : Kept Nil w v := k032.trans kv (fun k hk e => by omega)
  refine Split.dec (fun hil0 => ?_) (fun hge => ?_)
  · have hil : q < (pastsL D [s]).length := by omega
    obtain ⟨y, hy⟩ : ∃ y, (pastsL D [s])[q]? = some y := ⟨_, List.getElem?_eq_getElem hil⟩
    have rowv := HRow.hs (Row.keep row32 kv (fun k hk e => by have := (Row.blk row32 hk).1; omega))
    refine rowv.load (i := (q : Int)) (by omega) (by rw [Int.toNat_natCast]; exact hy) ?_
    intro w46
    obtain ⟨hwr, hbx, hkx⟩ := box_set (w := v) (z := (#[.int .u8 0, .int .u8 0, .int .u8 0, .int .u8 0, .int .u8 0, .int .u8 0, .int .u8 0, .int .u8 0, .int .u8 0, .int .u8 0, .int .u8 0, .int .u8 0, .int .u8 0, .int .u8 0, .int .u8 0, .int .u8 0, .int .u8 0, .int .u8 0, .int .u8 0, .int .u8 0, .int .u8 0, .int .u8 0, .int .u8 0, .int .u8 0, .int .u8 0, .int .u8 0, .int .u8 0, .int .u8 0, .int .u8 0, .int .u8 0, .int .u8 0, .int .u8 0] : Array Value)) (cs := y.1) (t := T_api_Hash) (by rw [y.2.1]; rfl)
    refine ⟨⟨y.2.1, y.2.one, fun j hj => hwr j (by rw [y.2.1]; exact hj)⟩, ?_⟩
    intro w49
    replace hbx : w49.heap[v.heap.size]? = some (.cells y.1 T_api_Hash (0, 0)) := hbx
    replace hkx : Kept Nil v w49 := hkx
    clear_value w49
    obtain ⟨w51, hr51, hm51, k51⟩ := (hmv.keep hkx (fun h => h)).put mtOld y (.agg #[.bool true])
    refine ⟨y.1, ⟨y.2.1, Cells.blk hbx⟩, w51, hr51, ?_⟩
    rw [wrapP (n := (q : Int)) (by omega) (by omega)]
    refine ⟨(q : Int) + 1, rfl, ⟨q + 1, _, rfl, hil, hm51, fun z => ?_, (kv.trans hkx (fun _ _ h => h.elim)).trans k51 (fun _ _ h => h)⟩, by simp only; omega⟩
    rw [mem_take_succ hy]
    constructor
    · intro e
      by_cases hz : z = y
      · rw [if_pos hz]
      · rw [if_neg hz]
        exact (hfv z).1 (e.imp (fun h => h) (fun h => h.resolve_right hz))
    · intro e
      rw [if_neg (fun hz => e (.inr (.inr hz)))]
      exact (hfv z).2 (fun e' => e (e'.imp (fun h => h) (fun h => .inl h)))
  · have hqe : q = (pastsL D [s]).length := by omega
    subst hqe
    rw [List.take_of_length_le (Nat.le_refl _)] at hfv
    rw [roundQ_exit, reach_Index_Add.x1_1]
    unfold reach_Index_Add.X1_1
    have k2v : Kept (· = w24.heap.size) w24 v := ((k2430.trans k32 (fun _ _ h => h)).mono (S' := (· = w24.heap.size)) (fun _ _ h => h.elim)).trans kv (fun _ _ h => h)
    have hiv : v.heap[w.heap.size]? = some (.cells hid.1 T_api_Hash (0, 0)) := k2v.heap (k624.heap hi6 (fun h => h)) (fun e => by omega)
    have hsv : v.heap[w5.heap.size]? = some (.cells s.1 T_api_Hash (0, 0)) := k2v.heap (k624.heap hs6 (fun h => h)) (fun e => by omega)
    have sv := k0v.size
    have s2v := k2v.size
    refine ⟨hid.1, ⟨hid.2.1, Cells.blk hiv⟩, ?_⟩
    refine dag_Add (hG k0v) W (by omega) (hl.same k0v) (by omega) hid fun w64 S2 F2 hG64 k64 hS2 hF2 => ⟨_, rfl, ?_⟩
    rw [addD_yes eC] at hG64
    have lowG : ∀ k, m.SG k → k < w.heap.size := fun k e => h.low k (.inl (.inl e))
    have s64 := k64.size
    have hi64 := k64.heap hiv (fun e => by have := lowG _ e; omega)
    have hs64 := k64.heap hsv (fun e => by have := lowG _ e; omega)
    have hm64 := hmv.keep k64 (fun e => by have := lowG _ e; omega)
    refine ⟨hid.1, ⟨hid.2.1, Cells.blk hi64⟩, hid.2.1, ?_⟩
    intro w67
    have k67 : Kept Nil w64 w67 := (Kept.refl _ _).alloc _
    have hx67 : HS w67 (some ⟨w64.heap.size, 0, none⟩) 1 [hid] := hbox w64 hid
    clear_value w67
    have hin' : ∀ p ∈ srt lp, p ∈ ids D := fun p hp => hall p (mem_srt.1 hp)
    have W' : WfD (D ++ [⟨hid, srt lp⟩]) := W.snoc (nd := ⟨hid, srt lp⟩) hin hin' (SS_srt lp)
    obtain ⟨bl', c', mbg', M', G64⟩ := hG64
    have lowOwn : ∀ k, m.own x k → k < w.heap.size := fun k e => h.low k (.inl (.inr (.inr (.inr e))))
    have hTv : Tab w64 := (hT.same k0v).keep k64 hTn
    refine dag_Past (G64.same k67) W' (by simp; omega) (hTv.same k67) hx67 (by omega) fun A69 c69 w69 row69 k69 => ⟨A69, _, c69, rfl, ?_⟩
    have k6469 := k67.trans k69 (fun _ _ h => h)
    have s6469 := k6469.size
    have p2 := pick_len (D ++ [⟨hid, srt lp⟩]) fun a => ∃ z ∈ [hid], Anc (D ++ [⟨hid, srt lp⟩]) a z
    change (pastsL (D ++ [⟨hid, srt lp⟩]) [hid]).length ≤ _ at p2
    rw [List.length_append, List.length_singleton] at p2
    have hpast' : ∀ y, y ∈ pastsL (D ++ [⟨hid, srt lp⟩]) [hid] ↔ Anc (D ++ [⟨hid, srt lp⟩]) y hid := fun y => by
      unfold pastsL
      rw [mem_pick]
      constructor
      · rintro ⟨_, z, hz, e⟩
        rw [List.mem_singleton] at hz
        rwa [hz] at e
      · exact fun e => ⟨(e.mem W').1, hid, by simp, e⟩
    -- all the rest of the index stands
    have kall : Kept (fun k => m.SG k) w w69 := ((k0v.mono (S' := fun k => m.SG k) (fun _ _ h => h.elim)).trans k64 (fun _ _ h => h)).trans k6469 (fun _ _ h => h.elim)
    have nOwn : ∀ k, m.own x k → ¬ m.SG k := fun k e => (h.od k e).1
    have top69 := kall.heap h.top (nOwn _ (.inl rfl))
    have hnd : (pastsL (D ++ [⟨hid, srt lp⟩]) [hid]).Nodup := (SS_srt _).nodup
    obtain ⟨f0, hcf0, hcc0⟩ := h.cov
    have nOwnK : ∀ k, m.own x k → ¬ (k = m.cb) ∨ k = m.cb := fun k _ => (Classical.em _).symm
    have hocb : m.own x m.cb := .inr (.inr (.inr rfl))
    have locb := lowOwn _ hocb
    generalize hpl : pastsL (D ++ [⟨hid, srt lp⟩]) [hid] = pl at row69 p2 hpast' hnd ⊢
    refine reach_Index_Add.loop2 (I := fun i u => ∃ q : Nat, i = (q : Int) ∧ q ≤ pl.length ∧ Kept (· = m.cb) w69 u ∧ ∃ f, MapF u m.cb f ∧ ∀ y, ∃ l, CovAt u (fun k => m.SO k ∨ (w69.heap.size ≤ k ∧ k < u.heap.size)) (D.length + if y ∈ pl.take q then 1 else 0) (f y) l ∧ ∀ c, c ∈ l ↔ Cov D P y c ∨ (c = hid ∧ y ∈ pl.take q ∧ y ≠ s ∧ ¬ Anc D y s))
      (μ := fun i _ => ((pl.length : Int) - i).toNat) (s := 0) ⟨0, rfl, Nat.zero_le _, Kept.refl _ _, f0, hcf0.keep kall (nOwn _ hocb), fun y => ?_⟩ ?_
    · obtain ⟨l, h1, h2⟩ := hcc0 y
      refine ⟨l, ?_, fun c => ?_⟩
      · rcases h1.keep kall (fun k e e' => (h.gt k e').2 e) with h3 | ⟨A, n, c, g1, g2, g3, g4, g5⟩
        · exact .inl h3
        · exact .inr ⟨A, n, c, g1, g2, g3, by omega, fun a ha => .inl (g5 a ha)⟩
      · rw [h2]
        simp
    · rintro i u ⟨q, rfl, hq2, ku, hcv⟩
      refine add_cover h hD kall.size top69 (k6469.heap hi64 (fun h => h)) (Nat.le_refl _) ((hm64.keep k67 (fun h => h)).keep k69 (fun h => h)) (by omega) rfl
        (fun y => ⟨fun e => (hfv y).1 (e.imp (fun h => h) (fun h => (hpast y).2 h)), fun e => (hfv y).2 (fun e' => e (e'.imp (fun h => h) (fun h => (hpast y).1 h)))⟩)
        (Row.base row69 (fun b hb => by have := (Row.blk row69 hb).1; have := k67.size; omega)) (by omega) ku hq2 (Z := fun _ _ => True) hcv hnd (hid := hid) (s := s) (D' := D) (ps := []) (fun v' kv' hcv' hlt => ?_) (fun hqe => ?_)
      · exact ⟨(q : Int) + 1, rfl, ⟨q + 1, rfl, hlt, kv', hcv'⟩, by simp only; omega⟩
      · subst hqe
        rw [roundQ_exit]
        unfold reach_Index_Add.e2
        rw [reach_Index_Add.x2_3]
        rw [List.take_of_length_le (Nat.le_refl _)] at hcv
        have kfin : Kept (fun k => m.SG k ∨ k = m.cb) w u := (kall.mono (S' := fun k => m.SG k ∨ k = m.cb) (fun _ _ h => .inl h)).trans ku (fun _ _ h => .inr h)
        have su := ku.size
        obtain ⟨ne1, ne2, ne3, ne4, ne5, ne6⟩ := h.ne
        have lowF : ∀ k, F k → k < w.heap.size := fun k e => h.low k (.inr e)
        have hG69 : GV w69 S2 F2 m.g (D ++ [⟨hid, srt lp⟩]) (childL (D ++ [⟨hid, srt lp⟩])) bl' c' mbg' M' := G64.same k6469
        have nS2 : ∀ k, S2 k → ¬ k = m.cb := fun k h1 e => by
          rcases hS2 k h1 with h2 | h2
          · exact (h.od _ hocb).1 (e ▸ h2)
          · omega
        have nF2 : ∀ k, F2 k → ¬ k = m.cb := fun k h1 e => by
          rcases hF2 k h1 with h2 | h2
          · exact (h.od _ hocb).2.2.2 (e ▸ h2)
          · omega
        have kv2 : ∀ k, m.own x k → k ≠ m.cb → ¬ (m.SG k ∨ k = m.cb) := fun k e hne e' => e'.elim (nOwn k e) hne
        refine add_last (s1 := w64.heap.size) (s2 := w69.heap.size) (S2 := S2) (F2 := F2) (SO2 := fun k => m.SO k ∨ (w69.heap.size ≤ k ∧ k < u.heap.size)) (mj := mj) h hD hin hin' (SS_srt lp) hj hms (mem_srt.2 hsm) (kfin.heap h.top (kv2 _ (.inl rfl) ne3))
          (Nat.le_refl _) (by omega) (ku.heap (k6469.heap hi64 (fun h => h)) (fun e => by omega)) (ku.heap (k6469.heap hs64 (fun h => h)) (fun e => by omega)) ⟨bl', c', mbg', M', hG69.keep ku nS2 nF2⟩
          (h.T.keep kfin (fun k e e' => e'.elim (fun e' => (h.gt k e').1 e) (fun e' => (h.od _ hocb).2.1 (e' ▸ e)))) (h.at_.keep kfin (kv2 _ (.inr (.inl rfl)) ne5)) (Row.keep h.row kfin (fun k e => by cases e; exact kv2 _ (.inr (.inr (.inl rfl))) ne6))
          ?_ (by omega) (by omega) su (fun k e => ⟨(hS2 k e).imp (fun h => h) (fun h => by omega), G64.low k (.inl e)⟩) (fun k e => ⟨(hF2 k e).imp (fun h => h) (fun h => by omega), G64.low k (.inr e)⟩) (fun k e => e)
          (kfin.mono (S' := fun k => m.foot x k) (fun k _ e => e.elim (fun e => .inl e) (fun e => .inr (.inr (.inr (.inr (.inr (.inr e)))))))) (fun u2 S' F' hI kU hSu hFu => ?_)
        · obtain ⟨f, hf, hc⟩ := hcv
          refine ⟨f, hf, fun y => ?_⟩
          obtain ⟨l, h1, h2⟩ := hc y
          refine ⟨l, ?_, fun c => ?_⟩
          · rcases h1 with h3 | ⟨A, n, c, g1, g2, g3, g4, g5⟩
            · exact .inl h3
            · refine .inr ⟨A, n, c, g1, g2, g3, ?_, g5⟩
              split at g4 <;> omega
          · rw [h2, cov_snoc W h.sel (nd := ⟨hid, srt lp⟩) hin hin' hj, hms]
            constructor
            · rintro (h3 | ⟨h3, h4, h5, h6⟩)
              · exact .inl h3
              · exact .inr ⟨h3, (hpast' y).1 h4, h5, h6⟩
            · rintro (h3 | ⟨h3, h4, h5, h6⟩)
              · exact .inl h3
              · exact .inr ⟨h3, (hpast' y).2 h4, h5, h6⟩
        · refine hyes u2 S' F' ?_ kU hSu hFu eX
          rw [eD, eP]
          exact hI
end
end Go.Proofs.YtgfkpemnkmebkaaDoor
/-
  Selected, Cover, Up of the index.
-/
namespace Go.Proofs.YtgfkpemnkmebkaaDoor
open Go Go.Lite Go.RowKit

def hnull : HT := hx 0 (by decide)
noncomputable def coverL (D : DG) (P : List Int) (h : HT) : List HT := pick D fun c => Cov D P h c
section
variable {w w' : World} {F S : Nat → Prop} {x : Nat} {D : DG} {P : List Int} {m : XM} {K : Value → World → Prop}
/-- Cover -/
theorem reach_Cover (h : XV w F x D P m) (hD : D.length ≤ 5000) (a : HT) (hno : ∀ w', a ∉ ids D → Kept Nil w w' → K (.tuple #[.slice none 0 0, .int .i64 6]) w')
    (hK : ∀ A c w', a ∈ ids D → HRow w' w.heap.size A (coverL D P a).length c (coverL D P a) → Kept Nil w w' → K (.tuple #[.slice A (coverL D P a).length c, .int .i64 0]) w') :
    Ret Tryd.prog reach_Index_Cover.id #[.pointer (some ⟨x, 0, none⟩), .agg a.1] w K := by
  have W := h.W
  refine reach_Index_Cover.of ?_
  unfold reach_Index_Cover.W
  intro w3
  have k3 : Kept Nil w w3 := (Kept.refl _ _).alloc _
  have ha3 : w3.heap[w.heap.size]? = some (.cells a.1 T_api_Hash (0, 0)) := new_blk w _
  clear_value w3
  refine reach_there (h.same k3) ⟨true, rfl, Split.no rfl ⟨a.1, ⟨a.2.1, Cells.blk ha3⟩, a.2.1, ?_⟩⟩
  intro w8
  have k8 : Kept Nil w3 w8 := (Kept.refl _ _).alloc _
  have hb8 : HS w8 (some ⟨w3.heap.size, 0, none⟩) 1 [a] := hbox w3 a
  clear_value w8
  have k08 := k3.trans k8 (fun _ _ h => h)
  refine reach_has (h.same k08) hb8 (by omega) fun w10 k10 => ⟨_, rfl, ?_⟩
  have k010 := k08.trans k10 (fun _ _ h => h)
  by_cases hm : a ∈ ids D
  · refine Split.no (by rw [decide_eq_true (by simpa using hm)]; rfl) ?_
    intro w12
    have k12 : Kept Nil w10 w12 := (Kept.refl _ _).drew
    clear_value w12
    have k012 := k010.trans k12 (fun _ _ h => h)
    have h12 := h.same k012
    obtain ⟨f, hf, hc⟩ := h12.cov
    obtain ⟨l, hl, hml⟩ := hc a
    have lk := hf.look mtCover a
    refine ⟨_, h12.c4, a.1, ⟨a.2.1, Cells.blk ((k8.trans (k10.trans k12 (fun _ _ h => h)) (fun _ _ h => h)).heap ha3 (fun h => h))⟩, ?_⟩
    have e : srt l = coverL D P a := pick_of fun c => by
      rw [hml]
      exact ⟨fun h => ⟨(h.1.mem W).2, h⟩, fun h => h.2⟩
    have fin : ∀ {A : Option Addr} {n c : Nat}, (f a).getD (.slice none 0 0) = .slice A n c → HS w12 A n l → n ≤ D.length → ∃ (A : Option Addr) (n c : Nat), (Instr.lookup T_map_api_Hash_sl_api_Hash (.map (some m.cb)) (.agg a.1) false).run Tryd.prog w12 = .ok (.slice A n c) w12 ∧
        Ret Tryd.prog dag_Sorted.id #[.slice A n c] w12 fun v17 w_18 => ∃ A2 : Option Addr, ∃ n2 : Nat, ∃ c2 : Nat, v17 = .slice A2 n2 c2 ∧ K (.tuple #[.slice A2 n2 c2, .int .i64 0]) w_18 := by
      intro A n c hg hs hn
      rw [hg] at lk
      refine ⟨A, n, c, lk, dag_Sorted_ok hs (by omega) fun A2 c2 w18 row18 k18 => ⟨A2, _, c2, rfl, ?_⟩⟩
      rw [e] at row18 ⊢
      have k018 := k012.trans k18 (fun _ _ h => h)
      exact hK A2 c2 w18 hm (Row.base row18 (fun b hb => Nat.le_trans k012.size (Row.blk row18 hb).1)) k018
    rcases hl with ⟨h1, rfl⟩ | ⟨A, n, c, h1, _, h3, h4, _⟩
    · exact fin (by rw [h1]; rfl) (HS.nil _ _) (by omega)
    · exact fin (by rw [h1]; rfl) h3 h4
  · refine Split.yes (by rw [decide_eq_false (by simpa using hm)]; rfl) (hno w10 hm k010)
end
end Go.Proofs.YtgfkpemnkmebkaaDoor
/-
  New of the index. (The theorem's steps, order by order, are printed by our rn.py.)
-/
namespace Go.Proofs.YtgfkpemnkmebkaaDoor
open Go Go.Lite Go.RowKit

/-- an index in the making; own: whose a block is -/
structure XN (w v : World) (r : HT) (own : Nat → Nat) (G T E I Z : Option Nat) (l : List HT) : Prop where
  kp : Kept Nil w v
  gr : ∀ g, G = some g → ∃ SG, IsG v SG (fun _ => False) g [⟨r, []⟩] ∧ ∀ k, SG k → w.heap.size ≤ k ∧ own k = 1
  tr : ∀ t, T = some t → ∃ ST, Tr.IsT v ST t Tr.rootT 0 ∧ ∀ k, ST k → w.heap.size ≤ k ∧ k < v.heap.size ∧ own k = 2
  mp : ∀ b, E = some b → w.heap.size ≤ b ∧ own b = 3 ∧ IsMap v b l
  il : ∀ b, I = some b → w.heap.size ≤ b ∧ own b = 4 ∧ v.heap[b]? = some (.cells (r.1.toList ++ []).toArray T_api_Hash (0, 0))
  cv : ∀ b, Z = some b → w.heap.size ≤ b ∧ own b = 5 ∧ MapF v b (fun _ => none)
def tag (n t : Nat) (own : Nat → Nat) (k : Nat) : Nat := if n ≤ k then t else own k
theorem tag_old {n t k : Nat} {own : Nat → Nat} (h : k < n) : tag n t own k = own k := by unfold tag; rw [if_neg (by omega)]
theorem tag_new {n t k : Nat} {own : Nat → Nat} (h : n ≤ k) : tag n t own k = t := by unfold tag; rw [if_pos h]
section
variable {w v v' : World} {r : HT} {own : Nat → Nat} {G T E I Z : Option Nat} {l : List HT} {K : Value → World → Prop}
theorem XN.grow (h : XN w v r own G T E I Z l) (t : Nat) (k : Kept Nil v v') : XN w v' r (tag v.heap.size t own) G T E I Z l := by
  have hs := k.size
  refine ⟨h.kp.trans k (fun _ _ h => h), fun g e => ?_, fun g e => ?_, fun b e => ?_, fun b e => ?_, fun b e => ?_⟩
  · obtain ⟨SG, h1, h2⟩ := h.gr g e
    exact ⟨SG, h1.same k, fun q hq => ⟨(h2 q hq).1, by rw [tag_old (by obtain ⟨bl, c, mb, M, G⟩ := h1; exact G.low q (.inl hq))]; exact (h2 q hq).2⟩⟩
  · obtain ⟨ST, h1, h2⟩ := h.tr g e
    exact ⟨ST, h1.same k, fun q hq => ⟨(h2 q hq).1, by have := (h2 q hq).2.1; omega, by rw [tag_old (h2 q hq).2.1]; exact (h2 q hq).2.2⟩⟩
  · obtain ⟨h1, h2, h3⟩ := h.mp b e
    exact ⟨h1, by rw [tag_old h3.lt]; exact h2, h3.keep k (fun h => h)⟩
  · obtain ⟨h1, h2, h3⟩ := h.il b e
    exact ⟨h1, by rw [tag_old (lt_blk h3)]; exact h2, k.heap h3 (fun h => h)⟩
  · obtain ⟨h1, h2, h3⟩ := h.cv b e
    exact ⟨h1, by rw [tag_old h3.lt]; exact h2, h3.keep k (fun h => h)⟩
theorem XN.addG (h : XN w v r own none T E I Z l) {gb : Nat} (hG : IsG v' (fun k => v.heap.size ≤ k ∧ k < v'.heap.size) (fun _ => False) gb [⟨r, []⟩]) (k : Kept Nil v v') : XN w v' r (tag v.heap.size 1 own) (some gb) T E I Z l := by
  have g := h.grow 1 k
  refine ⟨g.kp, ?_, g.tr, g.mp, g.il, g.cv⟩
  intro g' e
  cases e
  have := h.kp.size
  exact ⟨_, hG, fun q hq => ⟨by omega, tag_new hq.1⟩⟩
theorem XN.addT (h : XN w v r own G none E I Z l) {t : Nat} (hT : Tr.IsT v' (fun k => v.heap.size ≤ k) t Tr.rootT 0) (k : Kept Nil v v') : XN w v' r (tag v.heap.size 2 own) G (some t) E I Z l := by
  have g := h.grow 2 k
  refine ⟨g.kp, g.gr, ?_, g.mp, g.il, g.cv⟩
  intro t' e
  cases e
  have := h.kp.size
  exact ⟨_, IsT_bound hT, fun q hq => ⟨by omega, hq.2, tag_new hq.1⟩⟩
theorem XN.addE (h : XN w v r own G T none I Z []) : XN w (v.alloc (.map #[] 0)) r (tag v.heap.size 3 own) G T (some v.heap.size) I Z [] := by
  have g := h.grow 3 ((Kept.refl Nil v).alloc (.map #[] 0))
  refine ⟨g.kp, g.gr, g.tr, ?_, g.il, g.cv⟩
  intro b e
  cases e
  exact ⟨h.kp.size, tag_new (Nat.le_refl _), ⟨#[], 0, new_blk v _, trivial⟩⟩
theorem XN.addI (h : XN w v r own G T E none Z l) : XN w (v.alloc (.cells (r.1.toList ++ []).toArray T_api_Hash)) r (tag v.heap.size 4 own) G T E (some v.heap.size) Z l := by
  have g := h.grow 4 ((Kept.refl Nil v).alloc (.cells (r.1.toList ++ []).toArray T_api_Hash))
  refine ⟨g.kp, g.gr, g.tr, g.mp, ?_, g.cv⟩
  intro b e
  cases e
  exact ⟨h.kp.size, tag_new (Nat.le_refl _), new_blk v _⟩
theorem XN.addZ (h : XN w v r own G T E I none l) : XN w (v.alloc (.map #[] 0)) r (tag v.heap.size 5 own) G T E I (some v.heap.size) l := by
  have g := h.grow 5 ((Kept.refl Nil v).alloc (.map #[] 0))
  refine ⟨g.kp, g.gr, g.tr, g.mp, g.il, ?_⟩
  intro b e
  cases e
  exact ⟨h.kp.size, tag_new (Nat.le_refl _), MapF.new v⟩
theorem XN.put {mb : Nat} (h : XN w v r own G T (some mb) I Z []) : ∃ v', (Instr.mapUpdate T_map_api_Hash_int (.map (some mb)) (.agg r.1) (.int .i64 0)).run Tryd.prog v = .ok () v' ∧ XN w v' r own G T (some mb) I Z [r] := by
  obtain ⟨h1, h2, h3⟩ := h.mp mb rfl
  obtain ⟨v', hr, hm, hk⟩ := h3.put (h := r) (by simp)
  refine ⟨v', hr, (h.kp.trans hk (fun k hk e => by omega)), fun g e => ?_, fun g e => ?_, fun b e => ?_, fun b e => ?_, fun b e => ?_⟩
  · obtain ⟨SG, g1, g2⟩ := h.gr g e
    exact ⟨SG, g1.keep hk (fun q hq e => by have := (g2 q hq).2; rw [e, h2] at this; cases this) (fun q hq => hq.elim), g2⟩
  · obtain ⟨ST, g1, g2⟩ := h.tr g e
    exact ⟨ST, g1.keep hk (fun q hq e => by have := (g2 q hq).2.2; rw [e, h2] at this; cases this), fun q hq => ⟨(g2 q hq).1, Nat.lt_of_lt_of_le (g2 q hq).2.1 hk.size, (g2 q hq).2.2⟩⟩
  · cases e
    exact ⟨h1, h2, hm⟩
  · obtain ⟨g1, g2, g3⟩ := h.il b e
    exact ⟨g1, g2, hk.heap g3 (fun e => by rw [e, h2] at g2; cases g2)⟩
  · obtain ⟨g1, g2, g3⟩ := h.cv b e
    exact ⟨g1, g2, g3.keep hk (fun e => by rw [e, h2] at g2; cases g2)⟩
theorem XN.fin {g t mb ib cb : Nat} {w0 : World} (h : XN w v r own (some g) (some t) (some mb) (some ib) (some cb) [r]) (hw : w0.heap.size ≤ w.heap.size) :
    IsX (v.alloc (.cells #[.pointer (some ⟨g, 0, none⟩), .pointer (some ⟨t, 0, none⟩), .map (some mb), .slice (some ⟨ib, 0, none⟩) 1 1, .map (some cb)] T_reach_Index)) (fun k => w0.heap.size ≤ k ∧ k < (v.alloc (.cells #[.pointer (some ⟨g, 0, none⟩), .pointer (some ⟨t, 0, none⟩), .map (some mb), .slice (some ⟨ib, 0, none⟩) 1 1, .map (some cb)] T_reach_Index)).heap.size) (fun _ => False) v.heap.size [⟨r, []⟩] [-1] := by
  have htop := new_blk v (.cells #[.pointer (some ⟨g, 0, none⟩), .pointer (some ⟨t, 0, none⟩), .map (some mb), .slice (some ⟨ib, 0, none⟩) 1 1, .map (some cb)] T_reach_Index)
  have kx := (Kept.refl Nil v).alloc (.cells #[.pointer (some ⟨g, 0, none⟩), .pointer (some ⟨t, 0, none⟩), .map (some mb), .slice (some ⟨ib, 0, none⟩) 1 1, .map (some cb)] T_reach_Index)
  have hx := lt_blk htop
  generalize v.alloc (.cells #[.pointer (some ⟨g, 0, none⟩), .pointer (some ⟨t, 0, none⟩), .map (some mb), .slice (some ⟨ib, 0, none⟩) 1 1, .map (some cb)] T_reach_Index) = u at htop kx hx
  obtain ⟨SG, hG, gG⟩ := h.gr g rfl
  obtain ⟨ST, hT, gT⟩ := h.tr t rfl
  obtain ⟨m1, m2, m3⟩ := h.mp mb rfl
  obtain ⟨i1, i2, i3⟩ := h.il ib rfl
  obtain ⟨c1, c2, c3⟩ := h.cv cb rfl
  have hlow : ∀ k, SG k → k < v.heap.size := fun k e => by obtain ⟨bl, c, mb, M, G⟩ := hG; exact G.low k (.inl e)
  have sw := h.kp.size
  have lm := m3.lt
  have li := lt_blk i3
  have lc := c3.lt
  have hanc : ∀ {a b : HT}, ¬ Anc [(⟨r, []⟩ : DN)] a b := root_anc r
  refine ⟨⟨g, t, mb, ib, 1, cb, Tr.rootT, 0, SG, ST, fun _ => False⟩, ⟨htop, hG.same kx, hT.same kx, Tr.rootT_fine, rfl, ⟨Int.le_refl 0, by show (0 : Int) ≤ _; simp⟩, m3.keep kx (fun h => h), ?_, ⟨_, c3.keep kx (fun h => h), fun y => ⟨[], .inl ⟨rfl, rfl⟩, fun c => ?_⟩⟩, ?_, WfD.root r, ?_, ?_, ?_, ?_, ?_, ?_⟩, ?_⟩
  · have e : hcells [r] = (r.1.toList ++ []).toArray.toList := by simp [hcells]
    show Row _ _ _ _ _ _ _ (hcells [r])
    rw [e]
    exact Row.made (kx.heap i3 (fun h => h)) (Nat.zero_le _) (by simp [r.2.1]) (by show 1 ≤ maxLen; decide)
  · simp only [List.not_mem_nil, false_iff]
    exact fun hc => hanc hc.1
  · refine ⟨rfl, rfl, fun i p nd hi hp => ?_⟩
    cases i with
    | zero => omega
    | succ i => simp at hp
  · exact fun k e => ⟨fun e' => by have := (gG k e).2; have := (gT k e').2.2; omega, fun e' => e'.elim⟩
  · exact fun k e e' => e'.elim
  · exact fun k e => e.elim
  · intro k e
    have key : v.heap.size ≤ k ∨ 3 ≤ own k := by
      rcases e with e | e | e | e
      · exact .inl (by omega)
      · exact .inr (by have e : k = mb := e; rw [e]; omega)
      · exact .inr (by have e : k = ib := e; rw [e]; omega)
      · exact .inr (by have e : k = cb := e; rw [e]; omega)
    refine ⟨fun e' => ?_, fun e' => ?_, fun e' => e'.elim, fun e' => e'.elim⟩
    · have h1 := (gG k e').2
      have h2 := hlow k e'
      omega
    · have h1 := (gT k e').2.2
      have h2 := (gT k e').2.1
      omega
  · refine ⟨by show v.heap.size ≠ mb; omega, by show v.heap.size ≠ ib; omega, by show v.heap.size ≠ cb; omega, fun e => ?_, fun e => ?_, fun e => ?_⟩
    · have e : mb = ib := e
      rw [e] at m2; omega
    · have e : mb = cb := e
      rw [e] at m2; omega
    · have e : ib = cb := e
      rw [e] at i2; omega
  · intro k e
    rcases e with e | e
    · rcases e with e | e | e | e
      · have := hlow k e; omega
      · have := (gT k e).2.1; omega
      · exact e.elim
      · rcases e with e | e | e | e
        · omega
        · have e : k = mb := e; omega
        · have e : k = ib := e; omega
        · have e : k = cb := e; omega
    · exact e.elim
  · intro k e
    rcases e with e | e | e | e
    · have := hlow k e; have := (gG k e).1; omega
    · have := (gT k e).1; have := (gT k e).2.1; omega
    · exact e.elim
    · rcases e with e | e | e | e
      · omega
      · have e : k = mb := e; omega
      · have e : k = ib := e; omega
      · have e : k = cb := e; omega
theorem reach_New_ok {w : World} (r : HT) (hK : ∀ v x, IsX v (fun k => w.heap.size ≤ k ∧ k < v.heap.size) (fun _ => False) x [⟨r, []⟩] [-1] → Kept Nil w v → K (.pointer (some ⟨x, 0, none⟩)) v) :
    Ret Tryd.prog reach_New.id #[.agg r.1] w K := by
  refine reach_New.of ?_
  unfold reach_New.W
  intro w_2 w_3
  have k2 : Kept Nil w w_2 := (Kept.refl _ _).alloc _
  have hb2 : w_2.heap[w.heap.size]? = some (.cells r.1 T_api_Hash (0, 0)) := new_blk w _
  have k3 : Kept Nil w w_3 := k2.drew
  have hb3 : w_3.heap[w.heap.size]? = some (.cells r.1 T_api_Hash (0, 0)) := hb2
  clear_value w_3
  have N_3 : XN w_3 w_3 r (fun _ => 0) none none none none none [] := ⟨Kept.refl _ _, (fun b e => by cases e), (fun b e => by cases e), (fun b e => by cases e), (fun b e => by cases e), (fun b e => by cases e)⟩
  have hcs : ∀ {v : World}, Kept Nil w_3 v → ∃ cs : Array Value, (.agg r.1 : Value) = .agg cs ∧ cs.size = 32 ∧ Cells v (⟨w.heap.size, 0, none⟩ : Addr) cs := fun k => ⟨r.1, rfl, r.2.1, Cells.blk (k.heap hb3 (fun h => h))⟩
  have hfin : ∀ {v : World} {own : Nat → Nat} {g t mb ib cb : Nat}, XN w_3 v r own (some g) (some t) (some mb) (some ib) (some cb) [r] → K (.pointer (some ⟨v.heap.size, 0, none⟩)) (v.alloc (.cells #[.pointer (some ⟨g, 0, none⟩), .pointer (some ⟨t, 0, none⟩), .map (some mb), .slice (some ⟨ib, 0, none⟩) 1 1, .map (some cb)] T_reach_Index)) :=
    fun h => hK _ _ (h.fin k3.size) ((k3.trans h.kp (fun _ _ h => h)).alloc _)
  have c3 : r.1.size = 32 ∧ Cells w_3 (⟨w.heap.size, 0, none⟩ : Addr) r.1 := ⟨r.2.1, Cells.blk hb3⟩
  refine ⟨r.1, c3, r.1, c3, r.1, c3, ?_⟩
  refine ⟨?_, ?_⟩
  · refine dag_New_ok r fun w_8 g_8 hG_8 k_8 => ⟨_, rfl, ?_⟩
    have N_8 := N_3.addG hG_8 k_8
    refine ⟨hcs N_8.kp, ?_⟩
    refine ⟨hcs N_8.kp, ?_⟩
    refine ⟨?_, ?_⟩
    · refine Tr.tree_New fun w_11 g_11 hT_11 k_11 => ⟨_, rfl, ?_⟩
      have N_11 := N_8.addT hT_11 k_11
      refine ⟨hcs N_11.kp, ?_⟩
      refine ⟨hcs N_11.kp, ?_⟩
      refine ⟨?_, ?_⟩
      · intro w_13
        have N_13 := N_11.addE
        refine ⟨hcs N_13.kp, ?_⟩
        refine ⟨hcs N_13.kp, ?_⟩
        refine ⟨?_, ?_⟩
        · obtain ⟨w_14, hr_14, N_14⟩ := N_13.put
          refine ⟨w_14, hr_14, ?_⟩
          refine ⟨hcs N_14.kp, ?_⟩
          refine ⟨?_, ?_⟩
          · refine ⟨r.2.1, ?_⟩
            intro w_15
            have N_15 := N_14.addI
            intro w_16
            have N_16 := N_15.addZ
            exact hfin N_16
          · intro w_18
            have N_18 := N_14.addZ
            refine ⟨hcs N_18.kp, ?_⟩
            refine ⟨r.2.1, ?_⟩
            intro w_19
            have N_19 := N_18.addI
            exact hfin N_19
        · refine ⟨?_, ?_⟩
          · refine ⟨r.2.1, ?_⟩
            intro w_21
            have N_21 := N_13.addI
            refine ⟨hcs N_21.kp, ?_⟩
            refine ⟨?_, ?_⟩
            · obtain ⟨w_22, hr_22, N_22⟩ := N_21.put
              refine ⟨w_22, hr_22, ?_⟩
              intro w_23
              have N_23 := N_22.addZ
              exact hfin N_23
            · intro w_25
              have N_25 := N_21.addZ
              refine ⟨hcs N_25.kp, ?_⟩
              obtain ⟨w_26, hr_26, N_26⟩ := N_25.put
              refine ⟨w_26, hr_26, ?_⟩
              exact hfin N_26
          · intro w_28
            have N_28 := N_13.addZ
            refine ⟨hcs N_28.kp, ?_⟩
            refine ⟨hcs N_28.kp, ?_⟩
            refine ⟨?_, ?_⟩
            · obtain ⟨w_29, hr_29, N_29⟩ := N_28.put
              refine ⟨w_29, hr_29, ?_⟩
              refine ⟨hcs N_29.kp, ?_⟩
              refine ⟨r.2.1, ?_⟩
              intro w_30
              have N_30 := N_29.addI
              exact hfin N_30
            · refine ⟨r.2.1, ?_⟩
              intro w_32
              have N_32 := N_28.addI
              refine ⟨hcs N_32.kp, ?_⟩
              obtain ⟨w_33, hr_33, N_33⟩ := N_32.put
              refine ⟨w_33, hr_33, ?_⟩
              exact hfin N_33
      · refine ⟨?_, ?_⟩
        · refine ⟨r.2.1, ?_⟩
          intro w_35
          have N_35 := N_11.addI
          refine ⟨hcs N_35.kp, ?_⟩
          refine ⟨?_, ?_⟩
          · intro w_36
            have N_36 := N_35.addE
            refine ⟨hcs N_36.kp, ?_⟩
            refine ⟨?_, ?_⟩
            · obtain ⟨w_37, hr_37, N_37⟩ := N_36.put
              refine ⟨w_37, hr_37, ?_⟩
              intro w_38
              have N_38 := N_37.addZ
              exact hfin N_38
            · intro w_40
              have N_40 := N_36.addZ
              refine ⟨hcs N_40.kp, ?_⟩
              obtain ⟨w_41, hr_41, N_41⟩ := N_40.put
              refine ⟨w_41, hr_41, ?_⟩
              exact hfin N_41
          · intro w_43
            have N_43 := N_35.addZ
            refine ⟨hcs N_43.kp, ?_⟩
            intro w_44
            have N_44 := N_43.addE
            refine ⟨hcs N_44.kp, ?_⟩
            obtain ⟨w_45, hr_45, N_45⟩ := N_44.put
            refine ⟨w_45, hr_45, ?_⟩
            exact hfin N_45
        · intro w_47
          have N_47 := N_11.addZ
          refine ⟨hcs N_47.kp, ?_⟩
          refine ⟨hcs N_47.kp, ?_⟩
          refine ⟨?_, ?_⟩
          · intro w_48
            have N_48 := N_47.addE
            refine ⟨hcs N_48.kp, ?_⟩
            refine ⟨hcs N_48.kp, ?_⟩
            refine ⟨?_, ?_⟩
            · obtain ⟨w_49, hr_49, N_49⟩ := N_48.put
              refine ⟨w_49, hr_49, ?_⟩
              refine ⟨hcs N_49.kp, ?_⟩
              refine ⟨r.2.1, ?_⟩
              intro w_50
              have N_50 := N_49.addI
              exact hfin N_50
            · refine ⟨r.2.1, ?_⟩
              intro w_52
              have N_52 := N_48.addI
              refine ⟨hcs N_52.kp, ?_⟩
              obtain ⟨w_53, hr_53, N_53⟩ := N_52.put
              refine ⟨w_53, hr_53, ?_⟩
              exact hfin N_53
          · refine ⟨r.2.1, ?_⟩
            intro w_55
            have N_55 := N_47.addI
            refine ⟨hcs N_55.kp, ?_⟩
            intro w_56
            have N_56 := N_55.addE
            refine ⟨hcs N_56.kp, ?_⟩
            obtain ⟨w_57, hr_57, N_57⟩ := N_56.put
            refine ⟨w_57, hr_57, ?_⟩
            exact hfin N_57
    · refine ⟨?_, ?_⟩
      · intro w_59
        have N_59 := N_8.addE
        refine ⟨hcs N_59.kp, ?_⟩
        refine ⟨hcs N_59.kp, ?_⟩
        refine ⟨?_, ?_⟩
        · refine Tr.tree_New fun w_61 g_61 hT_61 k_61 => ⟨_, rfl, ?_⟩
          have N_61 := N_59.addT hT_61 k_61
          refine ⟨hcs N_61.kp, ?_⟩
          refine ⟨hcs N_61.kp, ?_⟩
          refine ⟨?_, ?_⟩
          · obtain ⟨w_63, hr_63, N_63⟩ := N_61.put
            refine ⟨w_63, hr_63, ?_⟩
            refine ⟨hcs N_63.kp, ?_⟩
            refine ⟨?_, ?_⟩
            · refine ⟨r.2.1, ?_⟩
              intro w_64
              have N_64 := N_63.addI
              intro w_65
              have N_65 := N_64.addZ
              exact hfin N_65
            · intro w_67
              have N_67 := N_63.addZ
              refine ⟨hcs N_67.kp, ?_⟩
              refine ⟨r.2.1, ?_⟩
              intro w_68
              have N_68 := N_67.addI
              exact hfin N_68
          · refine ⟨?_, ?_⟩
            · refine ⟨r.2.1, ?_⟩
              intro w_70
              have N_70 := N_61.addI
              refine ⟨hcs N_70.kp, ?_⟩
              refine ⟨?_, ?_⟩
              · obtain ⟨w_71, hr_71, N_71⟩ := N_70.put
                refine ⟨w_71, hr_71, ?_⟩
                intro w_72
                have N_72 := N_71.addZ
                exact hfin N_72
              · intro w_74
                have N_74 := N_70.addZ
                refine ⟨hcs N_74.kp, ?_⟩
                obtain ⟨w_75, hr_75, N_75⟩ := N_74.put
                refine ⟨w_75, hr_75, ?_⟩
                exact hfin N_75
            · intro w_77
              have N_77 := N_61.addZ
              refine ⟨hcs N_77.kp, ?_⟩
              refine ⟨hcs N_77.kp, ?_⟩
              refine ⟨?_, ?_⟩
              · obtain ⟨w_78, hr_78, N_78⟩ := N_77.put
                refine ⟨w_78, hr_78, ?_⟩
                refine ⟨hcs N_78.kp, ?_⟩
                refine ⟨r.2.1, ?_⟩
                intro w_79
                have N_79 := N_78.addI
                exact hfin N_79
              · refine ⟨r.2.1, ?_⟩
                intro w_81
                have N_81 := N_77.addI
                refine ⟨hcs N_81.kp, ?_⟩
                obtain ⟨w_82, hr_82, N_82⟩ := N_81.put
                refine ⟨w_82, hr_82, ?_⟩
                exact hfin N_82
        · refine ⟨?_, ?_⟩
          · obtain ⟨w_84, hr_84, N_84⟩ := N_59.put
            refine ⟨w_84, hr_84, ?_⟩
            refine ⟨hcs N_84.kp, ?_⟩
            refine ⟨?_, ?_⟩
            · refine Tr.tree_New fun w_86 g_86 hT_86 k_86 => ⟨_, rfl, ?_⟩
              have N_86 := N_84.addT hT_86 k_86
              refine ⟨hcs N_86.kp, ?_⟩
              refine ⟨?_, ?_⟩
              · refine ⟨r.2.1, ?_⟩
                intro w_88
                have N_88 := N_86.addI
                intro w_89
                have N_89 := N_88.addZ
                exact hfin N_89
              · intro w_91
                have N_91 := N_86.addZ
                refine ⟨hcs N_91.kp, ?_⟩
                refine ⟨r.2.1, ?_⟩
                intro w_92
                have N_92 := N_91.addI
                exact hfin N_92
            · refine ⟨?_, ?_⟩
              · refine ⟨r.2.1, ?_⟩
                intro w_94
                have N_94 := N_84.addI
                refine ⟨?_, ?_⟩
                · refine Tr.tree_New fun w_96 g_96 hT_96 k_96 => ⟨_, rfl, ?_⟩
                  have N_96 := N_94.addT hT_96 k_96
                  intro w_98
                  have N_98 := N_96.addZ
                  exact hfin N_98
                · intro w_100
                  have N_100 := N_94.addZ
                  refine Tr.tree_New fun w_102 g_102 hT_102 k_102 => ⟨_, rfl, ?_⟩
                  have N_102 := N_100.addT hT_102 k_102
                  exact hfin N_102
              · intro w_105
                have N_105 := N_84.addZ
                refine ⟨hcs N_105.kp, ?_⟩
                refine ⟨?_, ?_⟩
                · refine Tr.tree_New fun w_107 g_107 hT_107 k_107 => ⟨_, rfl, ?_⟩
                  have N_107 := N_105.addT hT_107 k_107
                  refine ⟨hcs N_107.kp, ?_⟩
                  refine ⟨r.2.1, ?_⟩
                  intro w_109
                  have N_109 := N_107.addI
                  exact hfin N_109
                · refine ⟨r.2.1, ?_⟩
                  intro w_111
                  have N_111 := N_105.addI
                  refine Tr.tree_New fun w_113 g_113 hT_113 k_113 => ⟨_, rfl, ?_⟩
                  have N_113 := N_111.addT hT_113 k_113
                  exact hfin N_113
          · refine ⟨?_, ?_⟩
            · refine ⟨r.2.1, ?_⟩
              intro w_116
              have N_116 := N_59.addI
              refine ⟨hcs N_116.kp, ?_⟩
              refine ⟨?_, ?_⟩
              · refine Tr.tree_New fun w_118 g_118 hT_118 k_118 => ⟨_, rfl, ?_⟩
                have N_118 := N_116.addT hT_118 k_118
                refine ⟨hcs N_118.kp, ?_⟩
                refine ⟨?_, ?_⟩
                · obtain ⟨w_120, hr_120, N_120⟩ := N_118.put
                  refine ⟨w_120, hr_120, ?_⟩
                  intro w_121
                  have N_121 := N_120.addZ
                  exact hfin N_121
                · intro w_123
                  have N_123 := N_118.addZ
                  refine ⟨hcs N_123.kp, ?_⟩
                  obtain ⟨w_124, hr_124, N_124⟩ := N_123.put
                  refine ⟨w_124, hr_124, ?_⟩
                  exact hfin N_124
              · refine ⟨?_, ?_⟩
                · obtain ⟨w_126, hr_126, N_126⟩ := N_116.put
                  refine ⟨w_126, hr_126, ?_⟩
                  refine ⟨?_, ?_⟩
                  · refine Tr.tree_New fun w_128 g_128 hT_128 k_128 => ⟨_, rfl, ?_⟩
                    have N_128 := N_126.addT hT_128 k_128
                    intro w_130
                    have N_130 := N_128.addZ
                    exact hfin N_130
                  · intro w_132
                    have N_132 := N_126.addZ
                    refine Tr.tree_New fun w_134 g_134 hT_134 k_134 => ⟨_, rfl, ?_⟩
                    have N_134 := N_132.addT hT_134 k_134
                    exact hfin N_134
                · intro w_137
                  have N_137 := N_116.addZ
                  refine ⟨hcs N_137.kp, ?_⟩
                  refine ⟨?_, ?_⟩
                  · refine Tr.tree_New fun w_139 g_139 hT_139 k_139 => ⟨_, rfl, ?_⟩
                    have N_139 := N_137.addT hT_139 k_139
                    refine ⟨hcs N_139.kp, ?_⟩
                    obtain ⟨w_141, hr_141, N_141⟩ := N_139.put
                    refine ⟨w_141, hr_141, ?_⟩
                    exact hfin N_141
                  · obtain ⟨w_143, hr_143, N_143⟩ := N_137.put
                    refine ⟨w_143, hr_143, ?_⟩
                    refine Tr.tree_New fun w_145 g_145 hT_145 k_145 => ⟨_, rfl, ?_⟩
                    have N_145 := N_143.addT hT_145 k_145
                    exact hfin N_145
            · intro w_148
              have N_148 := N_59.addZ
              refine ⟨hcs N_148.kp, ?_⟩
              refine ⟨hcs N_148.kp, ?_⟩
              refine ⟨?_, ?_⟩
              · refine Tr.tree_New fun w_150 g_150 hT_150 k_150 => ⟨_, rfl, ?_⟩
                have N_150 := N_148.addT hT_150 k_150
                refine ⟨hcs N_150.kp, ?_⟩
                refine ⟨hcs N_150.kp, ?_⟩
                refine ⟨?_, ?_⟩
                · obtain ⟨w_152, hr_152, N_152⟩ := N_150.put
                  refine ⟨w_152, hr_152, ?_⟩
                  refine ⟨hcs N_152.kp, ?_⟩
                  refine ⟨r.2.1, ?_⟩
                  intro w_153
                  have N_153 := N_152.addI
                  exact hfin N_153
                · refine ⟨r.2.1, ?_⟩
                  intro w_155
                  have N_155 := N_150.addI
                  refine ⟨hcs N_155.kp, ?_⟩
                  obtain ⟨w_156, hr_156, N_156⟩ := N_155.put
                  refine ⟨w_156, hr_156, ?_⟩
                  exact hfin N_156
              · refine ⟨?_, ?_⟩
                · obtain ⟨w_158, hr_158, N_158⟩ := N_148.put
                  refine ⟨w_158, hr_158, ?_⟩
                  refine ⟨hcs N_158.kp, ?_⟩
                  refine ⟨?_, ?_⟩
                  · refine Tr.tree_New fun w_160 g_160 hT_160 k_160 => ⟨_, rfl, ?_⟩
                    have N_160 := N_158.addT hT_160 k_160
                    refine ⟨hcs N_160.kp, ?_⟩
                    refine ⟨r.2.1, ?_⟩
                    intro w_162
                    have N_162 := N_160.addI
                    exact hfin N_162
                  · refine ⟨r.2.1, ?_⟩
                    intro w_164
                    have N_164 := N_158.addI
                    refine Tr.tree_New fun w_166 g_166 hT_166 k_166 => ⟨_, rfl, ?_⟩
                    have N_166 := N_164.addT hT_166 k_166
                    exact hfin N_166
                · refine ⟨r.2.1, ?_⟩
                  intro w_169
                  have N_169 := N_148.addI
                  refine ⟨hcs N_169.kp, ?_⟩
                  refine ⟨?_, ?_⟩
                  · refine Tr.tree_New fun w_171 g_171 hT_171 k_171 => ⟨_, rfl, ?_⟩
                    have N_171 := N_169.addT hT_171 k_171
                    refine ⟨hcs N_171.kp, ?_⟩
                    obtain ⟨w_173, hr_173, N_173⟩ := N_171.put
                    refine ⟨w_173, hr_173, ?_⟩
                    exact hfin N_173
                  · obtain ⟨w_175, hr_175, N_175⟩ := N_169.put
                    refine ⟨w_175, hr_175, ?_⟩
                    refine Tr.tree_New fun w_177 g_177 hT_177 k_177 => ⟨_, rfl, ?_⟩
                    have N_177 := N_175.addT hT_177 k_177
                    exact hfin N_177
      · refine ⟨?_, ?_⟩
        · refine ⟨r.2.1, ?_⟩
          intro w_180
          have N_180 := N_8.addI
          refine ⟨hcs N_180.kp, ?_⟩
          refine ⟨?_, ?_⟩
          · refine Tr.tree_New fun w_182 g_182 hT_182 k_182 => ⟨_, rfl, ?_⟩
            have N_182 := N_180.addT hT_182 k_182
            refine ⟨hcs N_182.kp, ?_⟩
            refine ⟨?_, ?_⟩
            · intro w_184
              have N_184 := N_182.addE
              refine ⟨hcs N_184.kp, ?_⟩
              refine ⟨?_, ?_⟩
              · obtain ⟨w_185, hr_185, N_185⟩ := N_184.put
                refine ⟨w_185, hr_185, ?_⟩
                intro w_186
                have N_186 := N_185.addZ
                exact hfin N_186
              · intro w_188
                have N_188 := N_184.addZ
                refine ⟨hcs N_188.kp, ?_⟩
                obtain ⟨w_189, hr_189, N_189⟩ := N_188.put
                refine ⟨w_189, hr_189, ?_⟩
                exact hfin N_189
            · intro w_191
              have N_191 := N_182.addZ
              refine ⟨hcs N_191.kp, ?_⟩
              intro w_192
              have N_192 := N_191.addE
              refine ⟨hcs N_192.kp, ?_⟩
              obtain ⟨w_193, hr_193, N_193⟩ := N_192.put
              refine ⟨w_193, hr_193, ?_⟩
              exact hfin N_193
          · refine ⟨?_, ?_⟩
            · intro w_195
              have N_195 := N_180.addE
              refine ⟨hcs N_195.kp, ?_⟩
              refine ⟨?_, ?_⟩
              · refine Tr.tree_New fun w_197 g_197 hT_197 k_197 => ⟨_, rfl, ?_⟩
                have N_197 := N_195.addT hT_197 k_197
                refine ⟨hcs N_197.kp, ?_⟩
                refine ⟨?_, ?_⟩
                · obtain ⟨w_199, hr_199, N_199⟩ := N_197.put
                  refine ⟨w_199, hr_199, ?_⟩
                  intro w_200
                  have N_200 := N_199.addZ
                  exact hfin N_200
                · intro w_202
                  have N_202 := N_197.addZ
                  refine ⟨hcs N_202.kp, ?_⟩
                  obtain ⟨w_203, hr_203, N_203⟩ := N_202.put
                  refine ⟨w_203, hr_203, ?_⟩
                  exact hfin N_203
              · refine ⟨?_, ?_⟩
                · obtain ⟨w_205, hr_205, N_205⟩ := N_195.put
                  refine ⟨w_205, hr_205, ?_⟩
                  refine ⟨?_, ?_⟩
                  · refine Tr.tree_New fun w_207 g_207 hT_207 k_207 => ⟨_, rfl, ?_⟩
                    have N_207 := N_205.addT hT_207 k_207
                    intro w_209
                    have N_209 := N_207.addZ
                    exact hfin N_209
                  · intro w_211
                    have N_211 := N_205.addZ
                    refine Tr.tree_New fun w_213 g_213 hT_213 k_213 => ⟨_, rfl, ?_⟩
                    have N_213 := N_211.addT hT_213 k_213
                    exact hfin N_213
                · intro w_216
                  have N_216 := N_195.addZ
                  refine ⟨hcs N_216.kp, ?_⟩
                  refine ⟨?_, ?_⟩
                  · refine Tr.tree_New fun w_218 g_218 hT_218 k_218 => ⟨_, rfl, ?_⟩
                    have N_218 := N_216.addT hT_218 k_218
                    refine ⟨hcs N_218.kp, ?_⟩
                    obtain ⟨w_220, hr_220, N_220⟩ := N_218.put
                    refine ⟨w_220, hr_220, ?_⟩
                    exact hfin N_220
                  · obtain ⟨w_222, hr_222, N_222⟩ := N_216.put
                    refine ⟨w_222, hr_222, ?_⟩
                    refine Tr.tree_New fun w_224 g_224 hT_224 k_224 => ⟨_, rfl, ?_⟩
                    have N_224 := N_222.addT hT_224 k_224
                    exact hfin N_224
            · intro w_227
              have N_227 := N_180.addZ
              refine ⟨hcs N_227.kp, ?_⟩
              refine ⟨?_, ?_⟩
              · refine Tr.tree_New fun w_229 g_229 hT_229 k_229 => ⟨_, rfl, ?_⟩
                have N_229 := N_227.addT hT_229 k_229
                refine ⟨hcs N_229.kp, ?_⟩
                intro w_231
                have N_231 := N_229.addE
                refine ⟨hcs N_231.kp, ?_⟩
                obtain ⟨w_232, hr_232, N_232⟩ := N_231.put
                refine ⟨w_232, hr_232, ?_⟩
                exact hfin N_232
              · intro w_234
                have N_234 := N_227.addE
                refine ⟨hcs N_234.kp, ?_⟩
                refine ⟨?_, ?_⟩
                · refine Tr.tree_New fun w_236 g_236 hT_236 k_236 => ⟨_, rfl, ?_⟩
                  have N_236 := N_234.addT hT_236 k_236
                  refine ⟨hcs N_236.kp, ?_⟩
                  obtain ⟨w_238, hr_238, N_238⟩ := N_236.put
                  refine ⟨w_238, hr_238, ?_⟩
                  exact hfin N_238
                · obtain ⟨w_240, hr_240, N_240⟩ := N_234.put
                  refine ⟨w_240, hr_240, ?_⟩
                  refine Tr.tree_New fun w_242 g_242 hT_242 k_242 => ⟨_, rfl, ?_⟩
                  have N_242 := N_240.addT hT_242 k_242
                  exact hfin N_242
        · intro w_245
          have N_245 := N_8.addZ
          refine ⟨hcs N_245.kp, ?_⟩
          refine ⟨hcs N_245.kp, ?_⟩
          refine ⟨?_, ?_⟩
          · refine Tr.tree_New fun w_247 g_247 hT_247 k_247 => ⟨_, rfl, ?_⟩
            have N_247 := N_245.addT hT_247 k_247
            refine ⟨hcs N_247.kp, ?_⟩
            refine ⟨hcs N_247.kp, ?_⟩
            refine ⟨?_, ?_⟩
            · intro w_249
              have N_249 := N_247.addE
              refine ⟨hcs N_249.kp, ?_⟩
              refine ⟨hcs N_249.kp, ?_⟩
              refine ⟨?_, ?_⟩
              · obtain ⟨w_250, hr_250, N_250⟩ := N_249.put
                refine ⟨w_250, hr_250, ?_⟩
                refine ⟨hcs N_250.kp, ?_⟩
                refine ⟨r.2.1, ?_⟩
                intro w_251
                have N_251 := N_250.addI
                exact hfin N_251
              · refine ⟨r.2.1, ?_⟩
                intro w_253
                have N_253 := N_249.addI
                refine ⟨hcs N_253.kp, ?_⟩
                obtain ⟨w_254, hr_254, N_254⟩ := N_253.put
                refine ⟨w_254, hr_254, ?_⟩
                exact hfin N_254
            · refine ⟨r.2.1, ?_⟩
              intro w_256
              have N_256 := N_247.addI
              refine ⟨hcs N_256.kp, ?_⟩
              intro w_257
              have N_257 := N_256.addE
              refine ⟨hcs N_257.kp, ?_⟩
              obtain ⟨w_258, hr_258, N_258⟩ := N_257.put
              refine ⟨w_258, hr_258, ?_⟩
              exact hfin N_258
          · refine ⟨?_, ?_⟩
            · intro w_260
              have N_260 := N_245.addE
              refine ⟨hcs N_260.kp, ?_⟩
              refine ⟨hcs N_260.kp, ?_⟩
              refine ⟨?_, ?_⟩
              · refine Tr.tree_New fun w_262 g_262 hT_262 k_262 => ⟨_, rfl, ?_⟩
                have N_262 := N_260.addT hT_262 k_262
                refine ⟨hcs N_262.kp, ?_⟩
                refine ⟨hcs N_262.kp, ?_⟩
                refine ⟨?_, ?_⟩
                · obtain ⟨w_264, hr_264, N_264⟩ := N_262.put
                  refine ⟨w_264, hr_264, ?_⟩
                  refine ⟨hcs N_264.kp, ?_⟩
                  refine ⟨r.2.1, ?_⟩
                  intro w_265
                  have N_265 := N_264.addI
                  exact hfin N_265
                · refine ⟨r.2.1, ?_⟩
                  intro w_267
                  have N_267 := N_262.addI
                  refine ⟨hcs N_267.kp, ?_⟩
                  obtain ⟨w_268, hr_268, N_268⟩ := N_267.put
                  refine ⟨w_268, hr_268, ?_⟩
                  exact hfin N_268
              · refine ⟨?_, ?_⟩
                · obtain ⟨w_270, hr_270, N_270⟩ := N_260.put
                  refine ⟨w_270, hr_270, ?_⟩
                  refine ⟨hcs N_270.kp, ?_⟩
                  refine ⟨?_, ?_⟩
                  · refine Tr.tree_New fun w_272 g_272 hT_272 k_272 => ⟨_, rfl, ?_⟩
                    have N_272 := N_270.addT hT_272 k_272
                    refine ⟨hcs N_272.kp, ?_⟩
                    refine ⟨r.2.1, ?_⟩
                    intro w_274
                    have N_274 := N_272.addI
                    exact hfin N_274
                  · refine ⟨r.2.1, ?_⟩
                    intro w_276
                    have N_276 := N_270.addI
                    refine Tr.tree_New fun w_278 g_278 hT_278 k_278 => ⟨_, rfl, ?_⟩
                    have N_278 := N_276.addT hT_278 k_278
                    exact hfin N_278
                · refine ⟨r.2.1, ?_⟩
                  intro w_281
                  have N_281 := N_260.addI
                  refine ⟨hcs N_281.kp, ?_⟩
                  refine ⟨?_, ?_⟩
                  · refine Tr.tree_New fun w_283 g_283 hT_283 k_283 => ⟨_, rfl, ?_⟩
                    have N_283 := N_281.addT hT_283 k_283
                    refine ⟨hcs N_283.kp, ?_⟩
                    obtain ⟨w_285, hr_285, N_285⟩ := N_283.put
                    refine ⟨w_285, hr_285, ?_⟩
                    exact hfin N_285
                  · obtain ⟨w_287, hr_287, N_287⟩ := N_281.put
                    refine ⟨w_287, hr_287, ?_⟩
                    refine Tr.tree_New fun w_289 g_289 hT_289 k_289 => ⟨_, rfl, ?_⟩
                    have N_289 := N_287.addT hT_289 k_289
                    exact hfin N_289
            · refine ⟨r.2.1, ?_⟩
              intro w_292
              have N_292 := N_245.addI
              refine ⟨hcs N_292.kp, ?_⟩
              refine ⟨?_, ?_⟩
              · refine Tr.tree_New fun w_294 g_294 hT_294 k_294 => ⟨_, rfl, ?_⟩
                have N_294 := N_292.addT hT_294 k_294
                refine ⟨hcs N_294.kp, ?_⟩
                intro w_296
                have N_296 := N_294.addE
                refine ⟨hcs N_296.kp, ?_⟩
                obtain ⟨w_297, hr_297, N_297⟩ := N_296.put
                refine ⟨w_297, hr_297, ?_⟩
                exact hfin N_297
              · intro w_299
                have N_299 := N_292.addE
                refine ⟨hcs N_299.kp, ?_⟩
                refine ⟨?_, ?_⟩
                · refine Tr.tree_New fun w_301 g_301 hT_301 k_301 => ⟨_, rfl, ?_⟩
                  have N_301 := N_299.addT hT_301 k_301
                  refine ⟨hcs N_301.kp, ?_⟩
                  obtain ⟨w_303, hr_303, N_303⟩ := N_301.put
                  refine ⟨w_303, hr_303, ?_⟩
                  exact hfin N_303
                · obtain ⟨w_305, hr_305, N_305⟩ := N_299.put
                  refine ⟨w_305, hr_305, ?_⟩
                  refine Tr.tree_New fun w_307 g_307 hT_307 k_307 => ⟨_, rfl, ?_⟩
                  have N_307 := N_305.addT hT_307 k_307
                  exact hfin N_307
  · refine ⟨?_, ?_⟩
    · intro w_310
      have N_310 := N_3.addE
      refine ⟨hcs N_310.kp, ?_⟩
      refine ⟨hcs N_310.kp, ?_⟩
      refine ⟨hcs N_310.kp, ?_⟩
      refine ⟨?_, ?_⟩
      · refine dag_New_ok r fun w_312 g_312 hG_312 k_312 => ⟨_, rfl, ?_⟩
        have N_312 := N_310.addG hG_312 k_312
        refine ⟨hcs N_312.kp, ?_⟩
        refine ⟨hcs N_312.kp, ?_⟩
        refine ⟨?_, ?_⟩
        · refine Tr.tree_New fun w_315 g_315 hT_315 k_315 => ⟨_, rfl, ?_⟩
          have N_315 := N_312.addT hT_315 k_315
          refine ⟨hcs N_315.kp, ?_⟩
          refine ⟨hcs N_315.kp, ?_⟩
          refine ⟨?_, ?_⟩
          · obtain ⟨w_317, hr_317, N_317⟩ := N_315.put
            refine ⟨w_317, hr_317, ?_⟩
            refine ⟨hcs N_317.kp, ?_⟩
            refine ⟨?_, ?_⟩
            · refine ⟨r.2.1, ?_⟩
              intro w_318
              have N_318 := N_317.addI
              intro w_319
              have N_319 := N_318.addZ
              exact hfin N_319
            · intro w_321
              have N_321 := N_317.addZ
              refine ⟨hcs N_321.kp, ?_⟩
              refine ⟨r.2.1, ?_⟩
              intro w_322
              have N_322 := N_321.addI
              exact hfin N_322
          · refine ⟨?_, ?_⟩
            · refine ⟨r.2.1, ?_⟩
              intro w_324
              have N_324 := N_315.addI
              refine ⟨hcs N_324.kp, ?_⟩
              refine ⟨?_, ?_⟩
              · obtain ⟨w_325, hr_325, N_325⟩ := N_324.put
                refine ⟨w_325, hr_325, ?_⟩
                intro w_326
                have N_326 := N_325.addZ
                exact hfin N_326
              · intro w_328
                have N_328 := N_324.addZ
                refine ⟨hcs N_328.kp, ?_⟩
                obtain ⟨w_329, hr_329, N_329⟩ := N_328.put
                refine ⟨w_329, hr_329, ?_⟩
                exact hfin N_329
            · intro w_331
              have N_331 := N_315.addZ
              refine ⟨hcs N_331.kp, ?_⟩
              refine ⟨hcs N_331.kp, ?_⟩
              refine ⟨?_, ?_⟩
              · obtain ⟨w_332, hr_332, N_332⟩ := N_331.put
                refine ⟨w_332, hr_332, ?_⟩
                refine ⟨hcs N_332.kp, ?_⟩
                refine ⟨r.2.1, ?_⟩
                intro w_333
                have N_333 := N_332.addI
                exact hfin N_333
              · refine ⟨r.2.1, ?_⟩
                intro w_335
                have N_335 := N_331.addI
                refine ⟨hcs N_335.kp, ?_⟩
                obtain ⟨w_336, hr_336, N_336⟩ := N_335.put
                refine ⟨w_336, hr_336, ?_⟩
                exact hfin N_336
        · refine ⟨?_, ?_⟩
          · obtain ⟨w_338, hr_338, N_338⟩ := N_312.put
            refine ⟨w_338, hr_338, ?_⟩
            refine ⟨hcs N_338.kp, ?_⟩
            refine ⟨?_, ?_⟩
            · refine Tr.tree_New fun w_340 g_340 hT_340 k_340 => ⟨_, rfl, ?_⟩
              have N_340 := N_338.addT hT_340 k_340
              refine ⟨hcs N_340.kp, ?_⟩
              refine ⟨?_, ?_⟩
              · refine ⟨r.2.1, ?_⟩
                intro w_342
                have N_342 := N_340.addI
                intro w_343
                have N_343 := N_342.addZ
                exact hfin N_343
              · intro w_345
                have N_345 := N_340.addZ
                refine ⟨hcs N_345.kp, ?_⟩
                refine ⟨r.2.1, ?_⟩
                intro w_346
                have N_346 := N_345.addI
                exact hfin N_346
            · refine ⟨?_, ?_⟩
              · refine ⟨r.2.1, ?_⟩
                intro w_348
                have N_348 := N_338.addI
                refine ⟨?_, ?_⟩
                · refine Tr.tree_New fun w_350 g_350 hT_350 k_350 => ⟨_, rfl, ?_⟩
                  have N_350 := N_348.addT hT_350 k_350
                  intro w_352
                  have N_352 := N_350.addZ
                  exact hfin N_352
                · intro w_354
                  have N_354 := N_348.addZ
                  refine Tr.tree_New fun w_356 g_356 hT_356 k_356 => ⟨_, rfl, ?_⟩
                  have N_356 := N_354.addT hT_356 k_356
                  exact hfin N_356
              · intro w_359
                have N_359 := N_338.addZ
                refine ⟨hcs N_359.kp, ?_⟩
                refine ⟨?_, ?_⟩
                · refine Tr.tree_New fun w_361 g_361 hT_361 k_361 => ⟨_, rfl, ?_⟩
                  have N_361 := N_359.addT hT_361 k_361
                  refine ⟨hcs N_361.kp, ?_⟩
                  refine ⟨r.2.1, ?_⟩
                  intro w_363
                  have N_363 := N_361.addI
                  exact hfin N_363
                · refine ⟨r.2.1, ?_⟩
                  intro w_365
                  have N_365 := N_359.addI
                  refine Tr.tree_New fun w_367 g_367 hT_367 k_367 => ⟨_, rfl, ?_⟩
                  have N_367 := N_365.addT hT_367 k_367
                  exact hfin N_367
          · refine ⟨?_, ?_⟩
            · refine ⟨r.2.1, ?_⟩
              intro w_370
              have N_370 := N_312.addI
              refine ⟨hcs N_370.kp, ?_⟩
              refine ⟨?_, ?_⟩
              · refine Tr.tree_New fun w_372 g_372 hT_372 k_372 => ⟨_, rfl, ?_⟩
                have N_372 := N_370.addT hT_372 k_372
                refine ⟨hcs N_372.kp, ?_⟩
                refine ⟨?_, ?_⟩
                · obtain ⟨w_374, hr_374, N_374⟩ := N_372.put
                  refine ⟨w_374, hr_374, ?_⟩
                  intro w_375
                  have N_375 := N_374.addZ
                  exact hfin N_375
                · intro w_377
                  have N_377 := N_372.addZ
                  refine ⟨hcs N_377.kp, ?_⟩
                  obtain ⟨w_378, hr_378, N_378⟩ := N_377.put
                  refine ⟨w_378, hr_378, ?_⟩
                  exact hfin N_378
              · refine ⟨?_, ?_⟩
                · obtain ⟨w_380, hr_380, N_380⟩ := N_370.put
                  refine ⟨w_380, hr_380, ?_⟩
                  refine ⟨?_, ?_⟩
                  · refine Tr.tree_New fun w_382 g_382 hT_382 k_382 => ⟨_, rfl, ?_⟩
                    have N_382 := N_380.addT hT_382 k_382
                    intro w_384
                    have N_384 := N_382.addZ
                    exact hfin N_384
                  · intro w_386
                    have N_386 := N_380.addZ
                    refine Tr.tree_New fun w_388 g_388 hT_388 k_388 => ⟨_, rfl, ?_⟩
                    have N_388 := N_386.addT hT_388 k_388
                    exact hfin N_388
                · intro w_391
                  have N_391 := N_370.addZ
                  refine ⟨hcs N_391.kp, ?_⟩
                  refine ⟨?_, ?_⟩
                  · refine Tr.tree_New fun w_393 g_393 hT_393 k_393 => ⟨_, rfl, ?_⟩
                    have N_393 := N_391.addT hT_393 k_393
                    refine ⟨hcs N_393.kp, ?_⟩
                    obtain ⟨w_395, hr_395, N_395⟩ := N_393.put
                    refine ⟨w_395, hr_395, ?_⟩
                    exact hfin N_395
                  · obtain ⟨w_397, hr_397, N_397⟩ := N_391.put
                    refine ⟨w_397, hr_397, ?_⟩
                    refine Tr.tree_New fun w_399 g_399 hT_399 k_399 => ⟨_, rfl, ?_⟩
                    have N_399 := N_397.addT hT_399 k_399
                    exact hfin N_399
            · intro w_402
              have N_402 := N_312.addZ
              refine ⟨hcs N_402.kp, ?_⟩
              refine ⟨hcs N_402.kp, ?_⟩
              refine ⟨?_, ?_⟩
              · refine Tr.tree_New fun w_404 g_404 hT_404 k_404 => ⟨_, rfl, ?_⟩
                have N_404 := N_402.addT hT_404 k_404
                refine ⟨hcs N_404.kp, ?_⟩
                refine ⟨hcs N_404.kp, ?_⟩
                refine ⟨?_, ?_⟩
                · obtain ⟨w_406, hr_406, N_406⟩ := N_404.put
                  refine ⟨w_406, hr_406, ?_⟩
                  refine ⟨hcs N_406.kp, ?_⟩
                  refine ⟨r.2.1, ?_⟩
                  intro w_407
                  have N_407 := N_406.addI
                  exact hfin N_407
                · refine ⟨r.2.1, ?_⟩
                  intro w_409
                  have N_409 := N_404.addI
                  refine ⟨hcs N_409.kp, ?_⟩
                  obtain ⟨w_410, hr_410, N_410⟩ := N_409.put
                  refine ⟨w_410, hr_410, ?_⟩
                  exact hfin N_410
              · refine ⟨?_, ?_⟩
                · obtain ⟨w_412, hr_412, N_412⟩ := N_402.put
                  refine ⟨w_412, hr_412, ?_⟩
                  refine ⟨hcs N_412.kp, ?_⟩
                  refine ⟨?_, ?_⟩
                  · refine Tr.tree_New fun w_414 g_414 hT_414 k_414 => ⟨_, rfl, ?_⟩
                    have N_414 := N_412.addT hT_414 k_414
                    refine ⟨hcs N_414.kp, ?_⟩
                    refine ⟨r.2.1, ?_⟩
                    intro w_416
                    have N_416 := N_414.addI
                    exact hfin N_416
                  · refine ⟨r.2.1, ?_⟩
                    intro w_418
                    have N_418 := N_412.addI
                    refine Tr.tree_New fun w_420 g_420 hT_420 k_420 => ⟨_, rfl, ?_⟩
                    have N_420 := N_418.addT hT_420 k_420
                    exact hfin N_420
                · refine ⟨r.2.1, ?_⟩
                  intro w_423
                  have N_423 := N_402.addI
                  refine ⟨hcs N_423.kp, ?_⟩
                  refine ⟨?_, ?_⟩
                  · refine Tr.tree_New fun w_425 g_425 hT_425 k_425 => ⟨_, rfl, ?_⟩
                    have N_425 := N_423.addT hT_425 k_425
                    refine ⟨hcs N_425.kp, ?_⟩
                    obtain ⟨w_427, hr_427, N_427⟩ := N_425.put
                    refine ⟨w_427, hr_427, ?_⟩
                    exact hfin N_427
                  · obtain ⟨w_429, hr_429, N_429⟩ := N_423.put
                    refine ⟨w_429, hr_429, ?_⟩
                    refine Tr.tree_New fun w_431 g_431 hT_431 k_431 => ⟨_, rfl, ?_⟩
                    have N_431 := N_429.addT hT_431 k_431
                    exact hfin N_431
      · refine ⟨?_, ?_⟩
        · obtain ⟨w_434, hr_434, N_434⟩ := N_310.put
          refine ⟨w_434, hr_434, ?_⟩
          refine ⟨hcs N_434.kp, ?_⟩
          refine ⟨hcs N_434.kp, ?_⟩
          refine ⟨?_, ?_⟩
          · refine dag_New_ok r fun w_436 g_436 hG_436 k_436 => ⟨_, rfl, ?_⟩
            have N_436 := N_434.addG hG_436 k_436
            refine ⟨hcs N_436.kp, ?_⟩
            refine ⟨?_, ?_⟩
            · refine Tr.tree_New fun w_439 g_439 hT_439 k_439 => ⟨_, rfl, ?_⟩
              have N_439 := N_436.addT hT_439 k_439
              refine ⟨hcs N_439.kp, ?_⟩
              refine ⟨?_, ?_⟩
              · refine ⟨r.2.1, ?_⟩
                intro w_441
                have N_441 := N_439.addI
                intro w_442
                have N_442 := N_441.addZ
                exact hfin N_442
              · intro w_444
                have N_444 := N_439.addZ
                refine ⟨hcs N_444.kp, ?_⟩
                refine ⟨r.2.1, ?_⟩
                intro w_445
                have N_445 := N_444.addI
                exact hfin N_445
            · refine ⟨?_, ?_⟩
              · refine ⟨r.2.1, ?_⟩
                intro w_447
                have N_447 := N_436.addI
                refine ⟨?_, ?_⟩
                · refine Tr.tree_New fun w_449 g_449 hT_449 k_449 => ⟨_, rfl, ?_⟩
                  have N_449 := N_447.addT hT_449 k_449
                  intro w_451
                  have N_451 := N_449.addZ
                  exact hfin N_451
                · intro w_453
                  have N_453 := N_447.addZ
                  refine Tr.tree_New fun w_455 g_455 hT_455 k_455 => ⟨_, rfl, ?_⟩
                  have N_455 := N_453.addT hT_455 k_455
                  exact hfin N_455
              · intro w_458
                have N_458 := N_436.addZ
                refine ⟨hcs N_458.kp, ?_⟩
                refine ⟨?_, ?_⟩
                · refine Tr.tree_New fun w_460 g_460 hT_460 k_460 => ⟨_, rfl, ?_⟩
                  have N_460 := N_458.addT hT_460 k_460
                  refine ⟨hcs N_460.kp, ?_⟩
                  refine ⟨r.2.1, ?_⟩
                  intro w_462
                  have N_462 := N_460.addI
                  exact hfin N_462
                · refine ⟨r.2.1, ?_⟩
                  intro w_464
                  have N_464 := N_458.addI
                  refine Tr.tree_New fun w_466 g_466 hT_466 k_466 => ⟨_, rfl, ?_⟩
                  have N_466 := N_464.addT hT_466 k_466
                  exact hfin N_466
          · refine ⟨?_, ?_⟩
            · refine ⟨r.2.1, ?_⟩
              intro w_469
              have N_469 := N_434.addI
              refine ⟨hcs N_469.kp, ?_⟩
              refine ⟨?_, ?_⟩
              · refine dag_New_ok r fun w_471 g_471 hG_471 k_471 => ⟨_, rfl, ?_⟩
                have N_471 := N_469.addG hG_471 k_471
                refine ⟨?_, ?_⟩
                · refine Tr.tree_New fun w_474 g_474 hT_474 k_474 => ⟨_, rfl, ?_⟩
                  have N_474 := N_471.addT hT_474 k_474
                  intro w_476
                  have N_476 := N_474.addZ
                  exact hfin N_476
                · intro w_478
                  have N_478 := N_471.addZ
                  refine Tr.tree_New fun w_480 g_480 hT_480 k_480 => ⟨_, rfl, ?_⟩
                  have N_480 := N_478.addT hT_480 k_480
                  exact hfin N_480
              · intro w_483
                have N_483 := N_469.addZ
                refine ⟨hcs N_483.kp, ?_⟩
                refine dag_New_ok r fun w_485 g_485 hG_485 k_485 => ⟨_, rfl, ?_⟩
                have N_485 := N_483.addG hG_485 k_485
                refine Tr.tree_New fun w_488 g_488 hT_488 k_488 => ⟨_, rfl, ?_⟩
                have N_488 := N_485.addT hT_488 k_488
                exact hfin N_488
            · intro w_491
              have N_491 := N_434.addZ
              refine ⟨hcs N_491.kp, ?_⟩
              refine ⟨hcs N_491.kp, ?_⟩
              refine ⟨?_, ?_⟩
              · refine dag_New_ok r fun w_493 g_493 hG_493 k_493 => ⟨_, rfl, ?_⟩
                have N_493 := N_491.addG hG_493 k_493
                refine ⟨hcs N_493.kp, ?_⟩
                refine ⟨?_, ?_⟩
                · refine Tr.tree_New fun w_496 g_496 hT_496 k_496 => ⟨_, rfl, ?_⟩
                  have N_496 := N_493.addT hT_496 k_496
                  refine ⟨hcs N_496.kp, ?_⟩
                  refine ⟨r.2.1, ?_⟩
                  intro w_498
                  have N_498 := N_496.addI
                  exact hfin N_498
                · refine ⟨r.2.1, ?_⟩
                  intro w_500
                  have N_500 := N_493.addI
                  refine Tr.tree_New fun w_502 g_502 hT_502 k_502 => ⟨_, rfl, ?_⟩
                  have N_502 := N_500.addT hT_502 k_502
                  exact hfin N_502
              · refine ⟨r.2.1, ?_⟩
                intro w_505
                have N_505 := N_491.addI
                refine ⟨hcs N_505.kp, ?_⟩
                refine dag_New_ok r fun w_507 g_507 hG_507 k_507 => ⟨_, rfl, ?_⟩
                have N_507 := N_505.addG hG_507 k_507
                refine Tr.tree_New fun w_510 g_510 hT_510 k_510 => ⟨_, rfl, ?_⟩
                have N_510 := N_507.addT hT_510 k_510
                exact hfin N_510
        · refine ⟨?_, ?_⟩
          · refine ⟨r.2.1, ?_⟩
            intro w_513
            have N_513 := N_310.addI
            refine ⟨hcs N_513.kp, ?_⟩
            refine ⟨hcs N_513.kp, ?_⟩
            refine ⟨?_, ?_⟩
            · refine dag_New_ok r fun w_515 g_515 hG_515 k_515 => ⟨_, rfl, ?_⟩
              have N_515 := N_513.addG hG_515 k_515
              refine ⟨hcs N_515.kp, ?_⟩
              refine ⟨?_, ?_⟩
              · refine Tr.tree_New fun w_518 g_518 hT_518 k_518 => ⟨_, rfl, ?_⟩
                have N_518 := N_515.addT hT_518 k_518
                refine ⟨hcs N_518.kp, ?_⟩
                refine ⟨?_, ?_⟩
                · obtain ⟨w_520, hr_520, N_520⟩ := N_518.put
                  refine ⟨w_520, hr_520, ?_⟩
                  intro w_521
                  have N_521 := N_520.addZ
                  exact hfin N_521
                · intro w_523
                  have N_523 := N_518.addZ
                  refine ⟨hcs N_523.kp, ?_⟩
                  obtain ⟨w_524, hr_524, N_524⟩ := N_523.put
                  refine ⟨w_524, hr_524, ?_⟩
                  exact hfin N_524
              · refine ⟨?_, ?_⟩
                · obtain ⟨w_526, hr_526, N_526⟩ := N_515.put
                  refine ⟨w_526, hr_526, ?_⟩
                  refine ⟨?_, ?_⟩
                  · refine Tr.tree_New fun w_528 g_528 hT_528 k_528 => ⟨_, rfl, ?_⟩
                    have N_528 := N_526.addT hT_528 k_528
                    intro w_530
                    have N_530 := N_528.addZ
                    exact hfin N_530
                  · intro w_532
                    have N_532 := N_526.addZ
                    refine Tr.tree_New fun w_534 g_534 hT_534 k_534 => ⟨_, rfl, ?_⟩
                    have N_534 := N_532.addT hT_534 k_534
                    exact hfin N_534
                · intro w_537
                  have N_537 := N_515.addZ
                  refine ⟨hcs N_537.kp, ?_⟩
                  refine ⟨?_, ?_⟩
                  · refine Tr.tree_New fun w_539 g_539 hT_539 k_539 => ⟨_, rfl, ?_⟩
                    have N_539 := N_537.addT hT_539 k_539
                    refine ⟨hcs N_539.kp, ?_⟩
                    obtain ⟨w_541, hr_541, N_541⟩ := N_539.put
                    refine ⟨w_541, hr_541, ?_⟩
                    exact hfin N_541
                  · obtain ⟨w_543, hr_543, N_543⟩ := N_537.put
                    refine ⟨w_543, hr_543, ?_⟩
                    refine Tr.tree_New fun w_545 g_545 hT_545 k_545 => ⟨_, rfl, ?_⟩
                    have N_545 := N_543.addT hT_545 k_545
                    exact hfin N_545
            · refine ⟨?_, ?_⟩
              · obtain ⟨w_548, hr_548, N_548⟩ := N_513.put
                refine ⟨w_548, hr_548, ?_⟩
                refine ⟨hcs N_548.kp, ?_⟩
                refine ⟨?_, ?_⟩
                · refine dag_New_ok r fun w_550 g_550 hG_550 k_550 => ⟨_, rfl, ?_⟩
                  have N_550 := N_548.addG hG_550 k_550
                  refine ⟨?_, ?_⟩
                  · refine Tr.tree_New fun w_553 g_553 hT_553 k_553 => ⟨_, rfl, ?_⟩
                    have N_553 := N_550.addT hT_553 k_553
                    intro w_555
                    have N_555 := N_553.addZ
                    exact hfin N_555
                  · intro w_557
                    have N_557 := N_550.addZ
                    refine Tr.tree_New fun w_559 g_559 hT_559 k_559 => ⟨_, rfl, ?_⟩
                    have N_559 := N_557.addT hT_559 k_559
                    exact hfin N_559
                · intro w_562
                  have N_562 := N_548.addZ
                  refine ⟨hcs N_562.kp, ?_⟩
                  refine dag_New_ok r fun w_564 g_564 hG_564 k_564 => ⟨_, rfl, ?_⟩
                  have N_564 := N_562.addG hG_564 k_564
                  refine Tr.tree_New fun w_567 g_567 hT_567 k_567 => ⟨_, rfl, ?_⟩
                  have N_567 := N_564.addT hT_567 k_567
                  exact hfin N_567
              · intro w_570
                have N_570 := N_513.addZ
                refine ⟨hcs N_570.kp, ?_⟩
                refine ⟨hcs N_570.kp, ?_⟩
                refine ⟨?_, ?_⟩
                · refine dag_New_ok r fun w_572 g_572 hG_572 k_572 => ⟨_, rfl, ?_⟩
                  have N_572 := N_570.addG hG_572 k_572
                  refine ⟨hcs N_572.kp, ?_⟩
                  refine ⟨?_, ?_⟩
                  · refine Tr.tree_New fun w_575 g_575 hT_575 k_575 => ⟨_, rfl, ?_⟩
                    have N_575 := N_572.addT hT_575 k_575
                    refine ⟨hcs N_575.kp, ?_⟩
                    obtain ⟨w_577, hr_577, N_577⟩ := N_575.put
                    refine ⟨w_577, hr_577, ?_⟩
                    exact hfin N_577
                  · obtain ⟨w_579, hr_579, N_579⟩ := N_572.put
                    refine ⟨w_579, hr_579, ?_⟩
                    refine Tr.tree_New fun w_581 g_581 hT_581 k_581 => ⟨_, rfl, ?_⟩
                    have N_581 := N_579.addT hT_581 k_581
                    exact hfin N_581
                · obtain ⟨w_584, hr_584, N_584⟩ := N_570.put
                  refine ⟨w_584, hr_584, ?_⟩
                  refine ⟨hcs N_584.kp, ?_⟩
                  refine dag_New_ok r fun w_586 g_586 hG_586 k_586 => ⟨_, rfl, ?_⟩
                  have N_586 := N_584.addG hG_586 k_586
                  refine Tr.tree_New fun w_589 g_589 hT_589 k_589 => ⟨_, rfl, ?_⟩
                  have N_589 := N_586.addT hT_589 k_589
                  exact hfin N_589
          · intro w_592
            have N_592 := N_310.addZ
            refine ⟨hcs N_592.kp, ?_⟩
            refine ⟨hcs N_592.kp, ?_⟩
            refine ⟨hcs N_592.kp, ?_⟩
            refine ⟨?_, ?_⟩
            · refine dag_New_ok r fun w_594 g_594 hG_594 k_594 => ⟨_, rfl, ?_⟩
              have N_594 := N_592.addG hG_594 k_594
              refine ⟨hcs N_594.kp, ?_⟩
              refine ⟨hcs N_594.kp, ?_⟩
              refine ⟨?_, ?_⟩
              · refine Tr.tree_New fun w_597 g_597 hT_597 k_597 => ⟨_, rfl, ?_⟩
                have N_597 := N_594.addT hT_597 k_597
                refine ⟨hcs N_597.kp, ?_⟩
                refine ⟨hcs N_597.kp, ?_⟩
                refine ⟨?_, ?_⟩
                · obtain ⟨w_599, hr_599, N_599⟩ := N_597.put
                  refine ⟨w_599, hr_599, ?_⟩
                  refine ⟨hcs N_599.kp, ?_⟩
                  refine ⟨r.2.1, ?_⟩
                  intro w_600
                  have N_600 := N_599.addI
                  exact hfin N_600
                · refine ⟨r.2.1, ?_⟩
                  intro w_602
                  have N_602 := N_597.addI
                  refine ⟨hcs N_602.kp, ?_⟩
                  obtain ⟨w_603, hr_603, N_603⟩ := N_602.put
                  refine ⟨w_603, hr_603, ?_⟩
                  exact hfin N_603
              · refine ⟨?_, ?_⟩
                · obtain ⟨w_605, hr_605, N_605⟩ := N_594.put
                  refine ⟨w_605, hr_605, ?_⟩
                  refine ⟨hcs N_605.kp, ?_⟩
                  refine ⟨?_, ?_⟩
                  · refine Tr.tree_New fun w_607 g_607 hT_607 k_607 => ⟨_, rfl, ?_⟩
                    have N_607 := N_605.addT hT_607 k_607
                    refine ⟨hcs N_607.kp, ?_⟩
                    refine ⟨r.2.1, ?_⟩
                    intro w_609
                    have N_609 := N_607.addI
                    exact hfin N_609
                  · refine ⟨r.2.1, ?_⟩
                    intro w_611
                    have N_611 := N_605.addI
                    refine Tr.tree_New fun w_613 g_613 hT_613 k_613 => ⟨_, rfl, ?_⟩
                    have N_613 := N_611.addT hT_613 k_613
                    exact hfin N_613
                · refine ⟨r.2.1, ?_⟩
                  intro w_616
                  have N_616 := N_594.addI
                  refine ⟨hcs N_616.kp, ?_⟩
                  refine ⟨?_, ?_⟩
                  · refine Tr.tree_New fun w_618 g_618 hT_618 k_618 => ⟨_, rfl, ?_⟩
                    have N_618 := N_616.addT hT_618 k_618
                    refine ⟨hcs N_618.kp, ?_⟩
                    obtain ⟨w_620, hr_620, N_620⟩ := N_618.put
                    refine ⟨w_620, hr_620, ?_⟩
                    exact hfin N_620
                  · obtain ⟨w_622, hr_622, N_622⟩ := N_616.put
                    refine ⟨w_622, hr_622, ?_⟩
                    refine Tr.tree_New fun w_624 g_624 hT_624 k_624 => ⟨_, rfl, ?_⟩
                    have N_624 := N_622.addT hT_624 k_624
                    exact hfin N_624
            · refine ⟨?_, ?_⟩
              · obtain ⟨w_627, hr_627, N_627⟩ := N_592.put
                refine ⟨w_627, hr_627, ?_⟩
                refine ⟨hcs N_627.kp, ?_⟩
                refine ⟨hcs N_627.kp, ?_⟩
                refine ⟨?_, ?_⟩
                · refine dag_New_ok r fun w_629 g_629 hG_629 k_629 => ⟨_, rfl, ?_⟩
                  have N_629 := N_627.addG hG_629 k_629
                  refine ⟨hcs N_629.kp, ?_⟩
                  refine ⟨?_, ?_⟩
                  · refine Tr.tree_New fun w_632 g_632 hT_632 k_632 => ⟨_, rfl, ?_⟩
                    have N_632 := N_629.addT hT_632 k_632
                    refine ⟨hcs N_632.kp, ?_⟩
                    refine ⟨r.2.1, ?_⟩
                    intro w_634
                    have N_634 := N_632.addI
                    exact hfin N_634
                  · refine ⟨r.2.1, ?_⟩
                    intro w_636
                    have N_636 := N_629.addI
                    refine Tr.tree_New fun w_638 g_638 hT_638 k_638 => ⟨_, rfl, ?_⟩
                    have N_638 := N_636.addT hT_638 k_638
                    exact hfin N_638
                · refine ⟨r.2.1, ?_⟩
                  intro w_641
                  have N_641 := N_627.addI
                  refine ⟨hcs N_641.kp, ?_⟩
                  refine dag_New_ok r fun w_643 g_643 hG_643 k_643 => ⟨_, rfl, ?_⟩
                  have N_643 := N_641.addG hG_643 k_643
                  refine Tr.tree_New fun w_646 g_646 hT_646 k_646 => ⟨_, rfl, ?_⟩
                  have N_646 := N_643.addT hT_646 k_646
                  exact hfin N_646
              · refine ⟨r.2.1, ?_⟩
                intro w_649
                have N_649 := N_592.addI
                refine ⟨hcs N_649.kp, ?_⟩
                refine ⟨hcs N_649.kp, ?_⟩
                refine ⟨?_, ?_⟩
                · refine dag_New_ok r fun w_651 g_651 hG_651 k_651 => ⟨_, rfl, ?_⟩
                  have N_651 := N_649.addG hG_651 k_651
                  refine ⟨hcs N_651.kp, ?_⟩
                  refine ⟨?_, ?_⟩
                  · refine Tr.tree_New fun w_654 g_654 hT_654 k_654 => ⟨_, rfl, ?_⟩
                    have N_654 := N_651.addT hT_654 k_654
                    refine ⟨hcs N_654.kp, ?_⟩
                    obtain ⟨w_656, hr_656, N_656⟩ := N_654.put
                    refine ⟨w_656, hr_656, ?_⟩
                    exact hfin N_656
                  · obtain ⟨w_658, hr_658, N_658⟩ := N_651.put
                    refine ⟨w_658, hr_658, ?_⟩
                    refine Tr.tree_New fun w_660 g_660 hT_660 k_660 => ⟨_, rfl, ?_⟩
                    have N_660 := N_658.addT hT_660 k_660
                    exact hfin N_660
                · obtain ⟨w_663, hr_663, N_663⟩ := N_649.put
                  refine ⟨w_663, hr_663, ?_⟩
                  refine ⟨hcs N_663.kp, ?_⟩
                  refine dag_New_ok r fun w_665 g_665 hG_665 k_665 => ⟨_, rfl, ?_⟩
                  have N_665 := N_663.addG hG_665 k_665
                  refine Tr.tree_New fun w_668 g_668 hT_668 k_668 => ⟨_, rfl, ?_⟩
                  have N_668 := N_665.addT hT_668 k_668
                  exact hfin N_668
    · refine ⟨?_, ?_⟩
      · refine ⟨r.2.1, ?_⟩
        intro w_671
        have N_671 := N_3.addI
        refine ⟨hcs N_671.kp, ?_⟩
        refine ⟨hcs N_671.kp, ?_⟩
        refine ⟨?_, ?_⟩
        · refine dag_New_ok r fun w_673 g_673 hG_673 k_673 => ⟨_, rfl, ?_⟩
          have N_673 := N_671.addG hG_673 k_673
          refine ⟨hcs N_673.kp, ?_⟩
          refine ⟨?_, ?_⟩
          · refine Tr.tree_New fun w_676 g_676 hT_676 k_676 => ⟨_, rfl, ?_⟩
            have N_676 := N_673.addT hT_676 k_676
            refine ⟨hcs N_676.kp, ?_⟩
            refine ⟨?_, ?_⟩
            · intro w_678
              have N_678 := N_676.addE
              refine ⟨hcs N_678.kp, ?_⟩
              refine ⟨?_, ?_⟩
              · obtain ⟨w_679, hr_679, N_679⟩ := N_678.put
                refine ⟨w_679, hr_679, ?_⟩
                intro w_680
                have N_680 := N_679.addZ
                exact hfin N_680
              · intro w_682
                have N_682 := N_678.addZ
                refine ⟨hcs N_682.kp, ?_⟩
                obtain ⟨w_683, hr_683, N_683⟩ := N_682.put
                refine ⟨w_683, hr_683, ?_⟩
                exact hfin N_683
            · intro w_685
              have N_685 := N_676.addZ
              refine ⟨hcs N_685.kp, ?_⟩
              intro w_686
              have N_686 := N_685.addE
              refine ⟨hcs N_686.kp, ?_⟩
              obtain ⟨w_687, hr_687, N_687⟩ := N_686.put
              refine ⟨w_687, hr_687, ?_⟩
              exact hfin N_687
          · refine ⟨?_, ?_⟩
            · intro w_689
              have N_689 := N_673.addE
              refine ⟨hcs N_689.kp, ?_⟩
              refine ⟨?_, ?_⟩
              · refine Tr.tree_New fun w_691 g_691 hT_691 k_691 => ⟨_, rfl, ?_⟩
                have N_691 := N_689.addT hT_691 k_691
                refine ⟨hcs N_691.kp, ?_⟩
                refine ⟨?_, ?_⟩
                · obtain ⟨w_693, hr_693, N_693⟩ := N_691.put
                  refine ⟨w_693, hr_693, ?_⟩
                  intro w_694
                  have N_694 := N_693.addZ
                  exact hfin N_694
                · intro w_696
                  have N_696 := N_691.addZ
                  refine ⟨hcs N_696.kp, ?_⟩
                  obtain ⟨w_697, hr_697, N_697⟩ := N_696.put
                  refine ⟨w_697, hr_697, ?_⟩
                  exact hfin N_697
              · refine ⟨?_, ?_⟩
                · obtain ⟨w_699, hr_699, N_699⟩ := N_689.put
                  refine ⟨w_699, hr_699, ?_⟩
                  refine ⟨?_, ?_⟩
                  · refine Tr.tree_New fun w_701 g_701 hT_701 k_701 => ⟨_, rfl, ?_⟩
                    have N_701 := N_699.addT hT_701 k_701
                    intro w_703
                    have N_703 := N_701.addZ
                    exact hfin N_703
                  · intro w_705
                    have N_705 := N_699.addZ
                    refine Tr.tree_New fun w_707 g_707 hT_707 k_707 => ⟨_, rfl, ?_⟩
                    have N_707 := N_705.addT hT_707 k_707
                    exact hfin N_707
                · intro w_710
                  have N_710 := N_689.addZ
                  refine ⟨hcs N_710.kp, ?_⟩
                  refine ⟨?_, ?_⟩
                  · refine Tr.tree_New fun w_712 g_712 hT_712 k_712 => ⟨_, rfl, ?_⟩
                    have N_712 := N_710.addT hT_712 k_712
                    refine ⟨hcs N_712.kp, ?_⟩
                    obtain ⟨w_714, hr_714, N_714⟩ := N_712.put
                    refine ⟨w_714, hr_714, ?_⟩
                    exact hfin N_714
                  · obtain ⟨w_716, hr_716, N_716⟩ := N_710.put
                    refine ⟨w_716, hr_716, ?_⟩
                    refine Tr.tree_New fun w_718 g_718 hT_718 k_718 => ⟨_, rfl, ?_⟩
                    have N_718 := N_716.addT hT_718 k_718
                    exact hfin N_718
            · intro w_721
              have N_721 := N_673.addZ
              refine ⟨hcs N_721.kp, ?_⟩
              refine ⟨?_, ?_⟩
              · refine Tr.tree_New fun w_723 g_723 hT_723 k_723 => ⟨_, rfl, ?_⟩
                have N_723 := N_721.addT hT_723 k_723
                refine ⟨hcs N_723.kp, ?_⟩
                intro w_725
                have N_725 := N_723.addE
                refine ⟨hcs N_725.kp, ?_⟩
                obtain ⟨w_726, hr_726, N_726⟩ := N_725.put
                refine ⟨w_726, hr_726, ?_⟩
                exact hfin N_726
              · intro w_728
                have N_728 := N_721.addE
                refine ⟨hcs N_728.kp, ?_⟩
                refine ⟨?_, ?_⟩
                · refine Tr.tree_New fun w_730 g_730 hT_730 k_730 => ⟨_, rfl, ?_⟩
                  have N_730 := N_728.addT hT_730 k_730
                  refine ⟨hcs N_730.kp, ?_⟩
                  obtain ⟨w_732, hr_732, N_732⟩ := N_730.put
                  refine ⟨w_732, hr_732, ?_⟩
                  exact hfin N_732
                · obtain ⟨w_734, hr_734, N_734⟩ := N_728.put
                  refine ⟨w_734, hr_734, ?_⟩
                  refine Tr.tree_New fun w_736 g_736 hT_736 k_736 => ⟨_, rfl, ?_⟩
                  have N_736 := N_734.addT hT_736 k_736
                  exact hfin N_736
        · refine ⟨?_, ?_⟩
          · intro w_739
            have N_739 := N_671.addE
            refine ⟨hcs N_739.kp, ?_⟩
            refine ⟨hcs N_739.kp, ?_⟩
            refine ⟨?_, ?_⟩
            · refine dag_New_ok r fun w_741 g_741 hG_741 k_741 => ⟨_, rfl, ?_⟩
              have N_741 := N_739.addG hG_741 k_741
              refine ⟨hcs N_741.kp, ?_⟩
              refine ⟨?_, ?_⟩
              · refine Tr.tree_New fun w_744 g_744 hT_744 k_744 => ⟨_, rfl, ?_⟩
                have N_744 := N_741.addT hT_744 k_744
                refine ⟨hcs N_744.kp, ?_⟩
                refine ⟨?_, ?_⟩
                · obtain ⟨w_746, hr_746, N_746⟩ := N_744.put
                  refine ⟨w_746, hr_746, ?_⟩
                  intro w_747
                  have N_747 := N_746.addZ
                  exact hfin N_747
                · intro w_749
                  have N_749 := N_744.addZ
                  refine ⟨hcs N_749.kp, ?_⟩
                  obtain ⟨w_750, hr_750, N_750⟩ := N_749.put
                  refine ⟨w_750, hr_750, ?_⟩
                  exact hfin N_750
              · refine ⟨?_, ?_⟩
                · obtain ⟨w_752, hr_752, N_752⟩ := N_741.put
                  refine ⟨w_752, hr_752, ?_⟩
                  refine ⟨?_, ?_⟩
                  · refine Tr.tree_New fun w_754 g_754 hT_754 k_754 => ⟨_, rfl, ?_⟩
                    have N_754 := N_752.addT hT_754 k_754
                    intro w_756
                    have N_756 := N_754.addZ
                    exact hfin N_756
                  · intro w_758
                    have N_758 := N_752.addZ
                    refine Tr.tree_New fun w_760 g_760 hT_760 k_760 => ⟨_, rfl, ?_⟩
                    have N_760 := N_758.addT hT_760 k_760
                    exact hfin N_760
                · intro w_763
                  have N_763 := N_741.addZ
                  refine ⟨hcs N_763.kp, ?_⟩
                  refine ⟨?_, ?_⟩
                  · refine Tr.tree_New fun w_765 g_765 hT_765 k_765 => ⟨_, rfl, ?_⟩
                    have N_765 := N_763.addT hT_765 k_765
                    refine ⟨hcs N_765.kp, ?_⟩
                    obtain ⟨w_767, hr_767, N_767⟩ := N_765.put
                    refine ⟨w_767, hr_767, ?_⟩
                    exact hfin N_767
                  · obtain ⟨w_769, hr_769, N_769⟩ := N_763.put
                    refine ⟨w_769, hr_769, ?_⟩
                    refine Tr.tree_New fun w_771 g_771 hT_771 k_771 => ⟨_, rfl, ?_⟩
                    have N_771 := N_769.addT hT_771 k_771
                    exact hfin N_771
            · refine ⟨?_, ?_⟩
              · obtain ⟨w_774, hr_774, N_774⟩ := N_739.put
                refine ⟨w_774, hr_774, ?_⟩
                refine ⟨hcs N_774.kp, ?_⟩
                refine ⟨?_, ?_⟩
                · refine dag_New_ok r fun w_776 g_776 hG_776 k_776 => ⟨_, rfl, ?_⟩
                  have N_776 := N_774.addG hG_776 k_776
                  refine ⟨?_, ?_⟩
                  · refine Tr.tree_New fun w_779 g_779 hT_779 k_779 => ⟨_, rfl, ?_⟩
                    have N_779 := N_776.addT hT_779 k_779
                    intro w_781
                    have N_781 := N_779.addZ
                    exact hfin N_781
                  · intro w_783
                    have N_783 := N_776.addZ
                    refine Tr.tree_New fun w_785 g_785 hT_785 k_785 => ⟨_, rfl, ?_⟩
                    have N_785 := N_783.addT hT_785 k_785
                    exact hfin N_785
                · intro w_788
                  have N_788 := N_774.addZ
                  refine ⟨hcs N_788.kp, ?_⟩
                  refine dag_New_ok r fun w_790 g_790 hG_790 k_790 => ⟨_, rfl, ?_⟩
                  have N_790 := N_788.addG hG_790 k_790
                  refine Tr.tree_New fun w_793 g_793 hT_793 k_793 => ⟨_, rfl, ?_⟩
                  have N_793 := N_790.addT hT_793 k_793
                  exact hfin N_793
              · intro w_796
                have N_796 := N_739.addZ
                refine ⟨hcs N_796.kp, ?_⟩
                refine ⟨hcs N_796.kp, ?_⟩
                refine ⟨?_, ?_⟩
                · refine dag_New_ok r fun w_798 g_798 hG_798 k_798 => ⟨_, rfl, ?_⟩
                  have N_798 := N_796.addG hG_798 k_798
                  refine ⟨hcs N_798.kp, ?_⟩
                  refine ⟨?_, ?_⟩
                  · refine Tr.tree_New fun w_801 g_801 hT_801 k_801 => ⟨_, rfl, ?_⟩
                    have N_801 := N_798.addT hT_801 k_801
                    refine ⟨hcs N_801.kp, ?_⟩
                    obtain ⟨w_803, hr_803, N_803⟩ := N_801.put
                    refine ⟨w_803, hr_803, ?_⟩
                    exact hfin N_803
                  · obtain ⟨w_805, hr_805, N_805⟩ := N_798.put
                    refine ⟨w_805, hr_805, ?_⟩
                    refine Tr.tree_New fun w_807 g_807 hT_807 k_807 => ⟨_, rfl, ?_⟩
                    have N_807 := N_805.addT hT_807 k_807
                    exact hfin N_807
                · obtain ⟨w_810, hr_810, N_810⟩ := N_796.put
                  refine ⟨w_810, hr_810, ?_⟩
                  refine ⟨hcs N_810.kp, ?_⟩
                  refine dag_New_ok r fun w_812 g_812 hG_812 k_812 => ⟨_, rfl, ?_⟩
                  have N_812 := N_810.addG hG_812 k_812
                  refine Tr.tree_New fun w_815 g_815 hT_815 k_815 => ⟨_, rfl, ?_⟩
                  have N_815 := N_812.addT hT_815 k_815
                  exact hfin N_815
          · intro w_818
            have N_818 := N_671.addZ
            refine ⟨hcs N_818.kp, ?_⟩
            refine ⟨hcs N_818.kp, ?_⟩
            refine ⟨?_, ?_⟩
            · refine dag_New_ok r fun w_820 g_820 hG_820 k_820 => ⟨_, rfl, ?_⟩
              have N_820 := N_818.addG hG_820 k_820
              refine ⟨hcs N_820.kp, ?_⟩
              refine ⟨?_, ?_⟩
              · refine Tr.tree_New fun w_823 g_823 hT_823 k_823 => ⟨_, rfl, ?_⟩
                have N_823 := N_820.addT hT_823 k_823
                refine ⟨hcs N_823.kp, ?_⟩
                intro w_825
                have N_825 := N_823.addE
                refine ⟨hcs N_825.kp, ?_⟩
                obtain ⟨w_826, hr_826, N_826⟩ := N_825.put
                refine ⟨w_826, hr_826, ?_⟩
                exact hfin N_826
              · intro w_828
                have N_828 := N_820.addE
                refine ⟨hcs N_828.kp, ?_⟩
                refine ⟨?_, ?_⟩
                · refine Tr.tree_New fun w_830 g_830 hT_830 k_830 => ⟨_, rfl, ?_⟩
                  have N_830 := N_828.addT hT_830 k_830
                  refine ⟨hcs N_830.kp, ?_⟩
                  obtain ⟨w_832, hr_832, N_832⟩ := N_830.put
                  refine ⟨w_832, hr_832, ?_⟩
                  exact hfin N_832
                · obtain ⟨w_834, hr_834, N_834⟩ := N_828.put
                  refine ⟨w_834, hr_834, ?_⟩
                  refine Tr.tree_New fun w_836 g_836 hT_836 k_836 => ⟨_, rfl, ?_⟩
                  have N_836 := N_834.addT hT_836 k_836
                  exact hfin N_836
            · intro w_839
              have N_839 := N_818.addE
              refine ⟨hcs N_839.kp, ?_⟩
              refine ⟨hcs N_839.kp, ?_⟩
              refine ⟨?_, ?_⟩
              · refine dag_New_ok r fun w_841 g_841 hG_841 k_841 => ⟨_, rfl, ?_⟩
                have N_841 := N_839.addG hG_841 k_841
                refine ⟨hcs N_841.kp, ?_⟩
                refine ⟨?_, ?_⟩
                · refine Tr.tree_New fun w_844 g_844 hT_844 k_844 => ⟨_, rfl, ?_⟩
                  have N_844 := N_841.addT hT_844 k_844
                  refine ⟨hcs N_844.kp, ?_⟩
                  obtain ⟨w_846, hr_846, N_846⟩ := N_844.put
                  refine ⟨w_846, hr_846, ?_⟩
                  exact hfin N_846
                · obtain ⟨w_848, hr_848, N_848⟩ := N_841.put
                  refine ⟨w_848, hr_848, ?_⟩
                  refine Tr.tree_New fun w_850 g_850 hT_850 k_850 => ⟨_, rfl, ?_⟩
                  have N_850 := N_848.addT hT_850 k_850
                  exact hfin N_850
              · obtain ⟨w_853, hr_853, N_853⟩ := N_839.put
                refine ⟨w_853, hr_853, ?_⟩
                refine ⟨hcs N_853.kp, ?_⟩
                refine dag_New_ok r fun w_855 g_855 hG_855 k_855 => ⟨_, rfl, ?_⟩
                have N_855 := N_853.addG hG_855 k_855
                refine Tr.tree_New fun w_858 g_858 hT_858 k_858 => ⟨_, rfl, ?_⟩
                have N_858 := N_855.addT hT_858 k_858
                exact hfin N_858
      · intro w_861
        have N_861 := N_3.addZ
        refine ⟨hcs N_861.kp, ?_⟩
        refine ⟨hcs N_861.kp, ?_⟩
        refine ⟨hcs N_861.kp, ?_⟩
        refine ⟨?_, ?_⟩
        · refine dag_New_ok r fun w_863 g_863 hG_863 k_863 => ⟨_, rfl, ?_⟩
          have N_863 := N_861.addG hG_863 k_863
          refine ⟨hcs N_863.kp, ?_⟩
          refine ⟨hcs N_863.kp, ?_⟩
          refine ⟨?_, ?_⟩
          · refine Tr.tree_New fun w_866 g_866 hT_866 k_866 => ⟨_, rfl, ?_⟩
            have N_866 := N_863.addT hT_866 k_866
            refine ⟨hcs N_866.kp, ?_⟩
            refine ⟨hcs N_866.kp, ?_⟩
            refine ⟨?_, ?_⟩
            · intro w_868
              have N_868 := N_866.addE
              refine ⟨hcs N_868.kp, ?_⟩
              refine ⟨hcs N_868.kp, ?_⟩
              refine ⟨?_, ?_⟩
              · obtain ⟨w_869, hr_869, N_869⟩ := N_868.put
                refine ⟨w_869, hr_869, ?_⟩
                refine ⟨hcs N_869.kp, ?_⟩
                refine ⟨r.2.1, ?_⟩
                intro w_870
                have N_870 := N_869.addI
                exact hfin N_870
              · refine ⟨r.2.1, ?_⟩
                intro w_872
                have N_872 := N_868.addI
                refine ⟨hcs N_872.kp, ?_⟩
                obtain ⟨w_873, hr_873, N_873⟩ := N_872.put
                refine ⟨w_873, hr_873, ?_⟩
                exact hfin N_873
            · refine ⟨r.2.1, ?_⟩
              intro w_875
              have N_875 := N_866.addI
              refine ⟨hcs N_875.kp, ?_⟩
              intro w_876
              have N_876 := N_875.addE
              refine ⟨hcs N_876.kp, ?_⟩
              obtain ⟨w_877, hr_877, N_877⟩ := N_876.put
              refine ⟨w_877, hr_877, ?_⟩
              exact hfin N_877
          · refine ⟨?_, ?_⟩
            · intro w_879
              have N_879 := N_863.addE
              refine ⟨hcs N_879.kp, ?_⟩
              refine ⟨hcs N_879.kp, ?_⟩
              refine ⟨?_, ?_⟩
              · refine Tr.tree_New fun w_881 g_881 hT_881 k_881 => ⟨_, rfl, ?_⟩
                have N_881 := N_879.addT hT_881 k_881
                refine ⟨hcs N_881.kp, ?_⟩
                refine ⟨hcs N_881.kp, ?_⟩
                refine ⟨?_, ?_⟩
                · obtain ⟨w_883, hr_883, N_883⟩ := N_881.put
                  refine ⟨w_883, hr_883, ?_⟩
                  refine ⟨hcs N_883.kp, ?_⟩
                  refine ⟨r.2.1, ?_⟩
                  intro w_884
                  have N_884 := N_883.addI
                  exact hfin N_884
                · refine ⟨r.2.1, ?_⟩
                  intro w_886
                  have N_886 := N_881.addI
                  refine ⟨hcs N_886.kp, ?_⟩
                  obtain ⟨w_887, hr_887, N_887⟩ := N_886.put
                  refine ⟨w_887, hr_887, ?_⟩
                  exact hfin N_887
              · refine ⟨?_, ?_⟩
                · obtain ⟨w_889, hr_889, N_889⟩ := N_879.put
                  refine ⟨w_889, hr_889, ?_⟩
                  refine ⟨hcs N_889.kp, ?_⟩
                  refine ⟨?_, ?_⟩
                  · refine Tr.tree_New fun w_891 g_891 hT_891 k_891 => ⟨_, rfl, ?_⟩
                    have N_891 := N_889.addT hT_891 k_891
                    refine ⟨hcs N_891.kp, ?_⟩
                    refine ⟨r.2.1, ?_⟩
                    intro w_893
                    have N_893 := N_891.addI
                    exact hfin N_893
                  · refine ⟨r.2.1, ?_⟩
                    intro w_895
                    have N_895 := N_889.addI
                    refine Tr.tree_New fun w_897 g_897 hT_897 k_897 => ⟨_, rfl, ?_⟩
                    have N_897 := N_895.addT hT_897 k_897
                    exact hfin N_897
                · refine ⟨r.2.1, ?_⟩
                  intro w_900
                  have N_900 := N_879.addI
                  refine ⟨hcs N_900.kp, ?_⟩
                  refine ⟨?_, ?_⟩
                  · refine Tr.tree_New fun w_902 g_902 hT_902 k_902 => ⟨_, rfl, ?_⟩
                    have N_902 := N_900.addT hT_902 k_902
                    refine ⟨hcs N_902.kp, ?_⟩
                    obtain ⟨w_904, hr_904, N_904⟩ := N_902.put
                    refine ⟨w_904, hr_904, ?_⟩
                    exact hfin N_904
                  · obtain ⟨w_906, hr_906, N_906⟩ := N_900.put
                    refine ⟨w_906, hr_906, ?_⟩
                    refine Tr.tree_New fun w_908 g_908 hT_908 k_908 => ⟨_, rfl, ?_⟩
                    have N_908 := N_906.addT hT_908 k_908
                    exact hfin N_908
            · refine ⟨r.2.1, ?_⟩
              intro w_911
              have N_911 := N_863.addI
              refine ⟨hcs N_911.kp, ?_⟩
              refine ⟨?_, ?_⟩
              · refine Tr.tree_New fun w_913 g_913 hT_913 k_913 => ⟨_, rfl, ?_⟩
                have N_913 := N_911.addT hT_913 k_913
                refine ⟨hcs N_913.kp, ?_⟩
                intro w_915
                have N_915 := N_913.addE
                refine ⟨hcs N_915.kp, ?_⟩
                obtain ⟨w_916, hr_916, N_916⟩ := N_915.put
                refine ⟨w_916, hr_916, ?_⟩
                exact hfin N_916
              · intro w_918
                have N_918 := N_911.addE
                refine ⟨hcs N_918.kp, ?_⟩
                refine ⟨?_, ?_⟩
                · refine Tr.tree_New fun w_920 g_920 hT_920 k_920 => ⟨_, rfl, ?_⟩
                  have N_920 := N_918.addT hT_920 k_920
                  refine ⟨hcs N_920.kp, ?_⟩
                  obtain ⟨w_922, hr_922, N_922⟩ := N_920.put
                  refine ⟨w_922, hr_922, ?_⟩
                  exact hfin N_922
                · obtain ⟨w_924, hr_924, N_924⟩ := N_918.put
                  refine ⟨w_924, hr_924, ?_⟩
                  refine Tr.tree_New fun w_926 g_926 hT_926 k_926 => ⟨_, rfl, ?_⟩
                  have N_926 := N_924.addT hT_926 k_926
                  exact hfin N_926
        · refine ⟨?_, ?_⟩
          · intro w_929
            have N_929 := N_861.addE
            refine ⟨hcs N_929.kp, ?_⟩
            refine ⟨hcs N_929.kp, ?_⟩
            refine ⟨hcs N_929.kp, ?_⟩
            refine ⟨?_, ?_⟩
            · refine dag_New_ok r fun w_931 g_931 hG_931 k_931 => ⟨_, rfl, ?_⟩
              have N_931 := N_929.addG hG_931 k_931
              refine ⟨hcs N_931.kp, ?_⟩
              refine ⟨hcs N_931.kp, ?_⟩
              refine ⟨?_, ?_⟩
              · refine Tr.tree_New fun w_934 g_934 hT_934 k_934 => ⟨_, rfl, ?_⟩
                have N_934 := N_931.addT hT_934 k_934
                refine ⟨hcs N_934.kp, ?_⟩
                refine ⟨hcs N_934.kp, ?_⟩
                refine ⟨?_, ?_⟩
                · obtain ⟨w_936, hr_936, N_936⟩ := N_934.put
                  refine ⟨w_936, hr_936, ?_⟩
                  refine ⟨hcs N_936.kp, ?_⟩
                  refine ⟨r.2.1, ?_⟩
                  intro w_937
                  have N_937 := N_936.addI
                  exact hfin N_937
                · refine ⟨r.2.1, ?_⟩
                  intro w_939
                  have N_939 := N_934.addI
                  refine ⟨hcs N_939.kp, ?_⟩
                  obtain ⟨w_940, hr_940, N_940⟩ := N_939.put
                  refine ⟨w_940, hr_940, ?_⟩
                  exact hfin N_940
              · refine ⟨?_, ?_⟩
                · obtain ⟨w_942, hr_942, N_942⟩ := N_931.put
                  refine ⟨w_942, hr_942, ?_⟩
                  refine ⟨hcs N_942.kp, ?_⟩
                  refine ⟨?_, ?_⟩
                  · refine Tr.tree_New fun w_944 g_944 hT_944 k_944 => ⟨_, rfl, ?_⟩
                    have N_944 := N_942.addT hT_944 k_944
                    refine ⟨hcs N_944.kp, ?_⟩
                    refine ⟨r.2.1, ?_⟩
                    intro w_946
                    have N_946 := N_944.addI
                    exact hfin N_946
                  · refine ⟨r.2.1, ?_⟩
                    intro w_948
                    have N_948 := N_942.addI
                    refine Tr.tree_New fun w_950 g_950 hT_950 k_950 => ⟨_, rfl, ?_⟩
                    have N_950 := N_948.addT hT_950 k_950
                    exact hfin N_950
                · refine ⟨r.2.1, ?_⟩
                  intro w_953
                  have N_953 := N_931.addI
                  refine ⟨hcs N_953.kp, ?_⟩
                  refine ⟨?_, ?_⟩
                  · refine Tr.tree_New fun w_955 g_955 hT_955 k_955 => ⟨_, rfl, ?_⟩
                    have N_955 := N_953.addT hT_955 k_955
                    refine ⟨hcs N_955.kp, ?_⟩
                    obtain ⟨w_957, hr_957, N_957⟩ := N_955.put
                    refine ⟨w_957, hr_957, ?_⟩
                    exact hfin N_957
                  · obtain ⟨w_959, hr_959, N_959⟩ := N_953.put
                    refine ⟨w_959, hr_959, ?_⟩
                    refine Tr.tree_New fun w_961 g_961 hT_961 k_961 => ⟨_, rfl, ?_⟩
                    have N_961 := N_959.addT hT_961 k_961
                    exact hfin N_961
            · refine ⟨?_, ?_⟩
              · obtain ⟨w_964, hr_964, N_964⟩ := N_929.put
                refine ⟨w_964, hr_964, ?_⟩
                refine ⟨hcs N_964.kp, ?_⟩
                refine ⟨hcs N_964.kp, ?_⟩
                refine ⟨?_, ?_⟩
                · refine dag_New_ok r fun w_966 g_966 hG_966 k_966 => ⟨_, rfl, ?_⟩
                  have N_966 := N_964.addG hG_966 k_966
                  refine ⟨hcs N_966.kp, ?_⟩
                  refine ⟨?_, ?_⟩
                  · refine Tr.tree_New fun w_969 g_969 hT_969 k_969 => ⟨_, rfl, ?_⟩
                    have N_969 := N_966.addT hT_969 k_969
                    refine ⟨hcs N_969.kp, ?_⟩
                    refine ⟨r.2.1, ?_⟩
                    intro w_971
                    have N_971 := N_969.addI
                    exact hfin N_971
                  · refine ⟨r.2.1, ?_⟩
                    intro w_973
                    have N_973 := N_966.addI
                    refine Tr.tree_New fun w_975 g_975 hT_975 k_975 => ⟨_, rfl, ?_⟩
                    have N_975 := N_973.addT hT_975 k_975
                    exact hfin N_975
                · refine ⟨r.2.1, ?_⟩
                  intro w_978
                  have N_978 := N_964.addI
                  refine ⟨hcs N_978.kp, ?_⟩
                  refine dag_New_ok r fun w_980 g_980 hG_980 k_980 => ⟨_, rfl, ?_⟩
                  have N_980 := N_978.addG hG_980 k_980
                  refine Tr.tree_New fun w_983 g_983 hT_983 k_983 => ⟨_, rfl, ?_⟩
                  have N_983 := N_980.addT hT_983 k_983
                  exact hfin N_983
              · refine ⟨r.2.1, ?_⟩
                intro w_986
                have N_986 := N_929.addI
                refine ⟨hcs N_986.kp, ?_⟩
                refine ⟨hcs N_986.kp, ?_⟩
                refine ⟨?_, ?_⟩
                · refine dag_New_ok r fun w_988 g_988 hG_988 k_988 => ⟨_, rfl, ?_⟩
                  have N_988 := N_986.addG hG_988 k_988
                  refine ⟨hcs N_988.kp, ?_⟩
                  refine ⟨?_, ?_⟩
                  · refine Tr.tree_New fun w_991 g_991 hT_991 k_991 => ⟨_, rfl, ?_⟩
                    have N_991 := N_988.addT hT_991 k_991
                    refine ⟨hcs N_991.kp, ?_⟩
                    obtain ⟨w_993, hr_993, N_993⟩ := N_991.put
                    refine ⟨w_993, hr_993, ?_⟩
                    exact hfin N_993
                  · obtain ⟨w_995, hr_995, N_995⟩ := N_988.put
                    refine ⟨w_995, hr_995, ?_⟩
                    refine Tr.tree_New fun w_997 g_997 hT_997 k_997 => ⟨_, rfl, ?_⟩
                    have N_997 := N_995.addT hT_997 k_997
                    exact hfin N_997
                · obtain ⟨w_1000, hr_1000, N_1000⟩ := N_986.put
                  refine ⟨w_1000, hr_1000, ?_⟩
                  refine ⟨hcs N_1000.kp, ?_⟩
                  refine dag_New_ok r fun w_1002 g_1002 hG_1002 k_1002 => ⟨_, rfl, ?_⟩
                  have N_1002 := N_1000.addG hG_1002 k_1002
                  refine Tr.tree_New fun w_1005 g_1005 hT_1005 k_1005 => ⟨_, rfl, ?_⟩
                  have N_1005 := N_1002.addT hT_1005 k_1005
                  exact hfin N_1005
          · refine ⟨r.2.1, ?_⟩
            intro w_1008
            have N_1008 := N_861.addI
            refine ⟨hcs N_1008.kp, ?_⟩
            refine ⟨hcs N_1008.kp, ?_⟩
            refine ⟨?_, ?_⟩
            · refine dag_New_ok r fun w_1010 g_1010 hG_1010 k_1010 => ⟨_, rfl, ?_⟩
              have N_1010 := N_1008.addG hG_1010 k_1010
              refine ⟨hcs N_1010.kp, ?_⟩
              refine ⟨?_, ?_⟩
              · refine Tr.tree_New fun w_1013 g_1013 hT_1013 k_1013 => ⟨_, rfl, ?_⟩
                have N_1013 := N_1010.addT hT_1013 k_1013
                refine ⟨hcs N_1013.kp, ?_⟩
                intro w_1015
                have N_1015 := N_1013.addE
                refine ⟨hcs N_1015.kp, ?_⟩
                obtain ⟨w_1016, hr_1016, N_1016⟩ := N_1015.put
                refine ⟨w_1016, hr_1016, ?_⟩
                exact hfin N_1016
              · intro w_1018
                have N_1018 := N_1010.addE
                refine ⟨hcs N_1018.kp, ?_⟩
                refine ⟨?_, ?_⟩
                · refine Tr.tree_New fun w_1020 g_1020 hT_1020 k_1020 => ⟨_, rfl, ?_⟩
                  have N_1020 := N_1018.addT hT_1020 k_1020
                  refine ⟨hcs N_1020.kp, ?_⟩
                  obtain ⟨w_1022, hr_1022, N_1022⟩ := N_1020.put
                  refine ⟨w_1022, hr_1022, ?_⟩
                  exact hfin N_1022
                · obtain ⟨w_1024, hr_1024, N_1024⟩ := N_1018.put
                  refine ⟨w_1024, hr_1024, ?_⟩
                  refine Tr.tree_New fun w_1026 g_1026 hT_1026 k_1026 => ⟨_, rfl, ?_⟩
                  have N_1026 := N_1024.addT hT_1026 k_1026
                  exact hfin N_1026
            · intro w_1029
              have N_1029 := N_1008.addE
              refine ⟨hcs N_1029.kp, ?_⟩
              refine ⟨hcs N_1029.kp, ?_⟩
              refine ⟨?_, ?_⟩
              · refine dag_New_ok r fun w_1031 g_1031 hG_1031 k_1031 => ⟨_, rfl, ?_⟩
                have N_1031 := N_1029.addG hG_1031 k_1031
                refine ⟨hcs N_1031.kp, ?_⟩
                refine ⟨?_, ?_⟩
                · refine Tr.tree_New fun w_1034 g_1034 hT_1034 k_1034 => ⟨_, rfl, ?_⟩
                  have N_1034 := N_1031.addT hT_1034 k_1034
                  refine ⟨hcs N_1034.kp, ?_⟩
                  obtain ⟨w_1036, hr_1036, N_1036⟩ := N_1034.put
                  refine ⟨w_1036, hr_1036, ?_⟩
                  exact hfin N_1036
                · obtain ⟨w_1038, hr_1038, N_1038⟩ := N_1031.put
                  refine ⟨w_1038, hr_1038, ?_⟩
                  refine Tr.tree_New fun w_1040 g_1040 hT_1040 k_1040 => ⟨_, rfl, ?_⟩
                  have N_1040 := N_1038.addT hT_1040 k_1040
                  exact hfin N_1040
              · obtain ⟨w_1043, hr_1043, N_1043⟩ := N_1029.put
                refine ⟨w_1043, hr_1043, ?_⟩
                refine ⟨hcs N_1043.kp, ?_⟩
                refine dag_New_ok r fun w_1045 g_1045 hG_1045 k_1045 => ⟨_, rfl, ?_⟩
                have N_1045 := N_1043.addG hG_1045 k_1045
                refine Tr.tree_New fun w_1048 g_1048 hT_1048 k_1048 => ⟨_, rfl, ?_⟩
                have N_1048 := N_1045.addT hT_1048 k_1048
                exact hfin N_1048
end
end Go.Proofs.YtgfkpemnkmebkaaDoor
