/-
  Maps from hashes to numbers.
-/
import Derived.Test.YtljckpecmlnbiaaME
import Derived.Test.YtljckpecmlnbiaaMC
import Derived.LaidEql
namespace Go.Proofs.Ytljckpecmlnbiaa
open Go Go.Lite Go.RowKit

/-- the first place of a hash -/
def pos (h : HT) : List HT → Nat → Option Nat
  | [], _ => none
  | x :: l, i => if h = x then some i else pos h l (i + 1)
theorem pos_none {h : HT} : ∀ {l : List HT} {i : Nat}, pos h l i = none ↔ h ∉ l
  | [], i => by simp [pos]
  | x :: l, i => by
    unfold pos
    split
    · rename_i e; simp [e]
    · rename_i e
      rw [pos_none (l := l)]
      simp [e]
theorem pos_some {h : HT} : ∀ {l : List HT} {i j : Nat}, pos h l i = some j → i ≤ j ∧ l[j - i]? = some h
  | [], i, j, e => by simp [pos] at e
  | x :: l, i, j, e => by
    unfold pos at e
    split at e
    · rename_i hx
      cases e
      subst hx
      exact ⟨Nat.le_refl _, by rw [Nat.sub_self]; rfl⟩
    · obtain ⟨h1, h2⟩ := pos_some e
      refine ⟨by omega, ?_⟩
      rw [show j - i = (j - (i + 1)) + 1 by omega]
      exact h2
theorem pos_of_get {h : HT} : ∀ {l : List HT} (i j : Nat), l.Nodup → l[j]? = some h → pos h l i = some (i + j)
  | [], i, j, _, e => by simp at e
  | x :: l, i, 0, _, e => by
    simp only [List.getElem?_cons_zero, Option.some.injEq] at e
    unfold pos
    rw [if_pos e.symm]
    simp
  | x :: l, i, j + 1, hn, e => by
    simp only [List.getElem?_cons_succ] at e
    rw [List.nodup_cons] at hn
    unfold pos
    rw [if_neg (fun hx => hn.1 (by rw [← hx]; exact List.mem_of_getElem? e)), pos_of_get (i + 1) j hn.2 e]
    congr 1
    omega

section
variable {w : World}
theorem undH : Try.prog.underlying T_api_Hash = some (.array 32 T_uint8) := by kernel_rfl
theorem undU : Try.prog.underlying T_uint8 = some (.int .u8) := by kernel_rfl
theorem infoU : ∃ i, Try.prog.info? T_uint8 = some i ∧ i.size = 1 := by
  have h : (match Try.prog.info? T_uint8 with | some i => Nat.beq i.size 1 | none => false) = true := by kernel_rfl
  split at h
  · rename_i i hi; exact ⟨i, hi, Nat.eq_of_beq_eq_true h⟩
  · cases h
theorem undM : Try.prog.underlying T_map_api_Hash_int = some (.map T_api_Hash T_int) := by kernel_rfl
theorem undI : Try.prog.underlying T_int = some (.int .i64) := by kernel_rfl
theorem zeroI (w : World) : (zeroValue T_int).run Try.prog w = .ok (.int .i64 0) w := by
  have h : (match Try.prog.info? T_int with | some i => (match i.zero with | some (.int .i64 n) => n == 0 | _ => false) | none => false) = true := by kernel_rfl
  split at h
  · rename_i i hi
    split at h
    · rename_i n hz
      have : n = 0 := by simpa using h
      subst this
      simp [zeroValue, typeInfo, hi, hz]
    · cases h
  · cases h
theorem run_equalH (a b : HT) (w : World) : (Op.equal T_api_Hash (.agg a.1) (.agg b.1)).run Try.prog w = .ok (decide (a = b)) w := by
  obtain ⟨i, hi, h1⟩ := infoU
  have := run_eq_ints (P := Try.prog) 9998 w undH undU hi h1 a.2.ints b.2.ints
  rw [sameInts_eq] at this
  simp only [Op.equal, Op.maxDepth]
  exact this
theorem run_checkH (h : HT) (em : Bool) (w : World) : (Instr.checkKey em 10000 T_api_Hash (.agg h.1)).run Try.prog w = .ok () w := by
  obtain ⟨i, hi, h1⟩ := infoU
  have hc : Try.prog.cellsOf T_uint8 = 1 := by simp [Program.cellsOf, hi, h1]
  rw [show (10000 : Nat) = 9999 + 1 from rfl, Instr.checkKey]
  simp only [Sem.run_bind, run_underlying undH, Result.andThen_ok]
  simp only [Std.Legacy.Range.forIn_eq_forIn_range', Std.Legacy.Range.size, Nat.sub_zero, Nat.add_one_sub_one, Nat.div_one]
  have each : ∀ j ∈ List.range' 0 32, ∃ v, h.1[j]? = some v ∧ ∃ x : Int, v = .int .u8 x := fun j hj => by
    have hj' : j < h.1.size := by rw [h.2.1]; simpa using hj
    obtain ⟨x, hx, _⟩ := h.2.2 h.1[j] (by simp)
    exact ⟨_, Array.getElem?_eq_getElem hj', x, hx⟩
  generalize List.range' 0 32 = is at each
  induction is with
  | nil => simp
  | cons j is ih =>
    obtain ⟨v, hv, x, rfl⟩ := each j (by simp)
    have hagg : (isAgg T_uint8).run Try.prog w = .ok false w := by simp [isAgg, run_underlying undU]
    have p1 : (part T_uint8 h.1 (j * 1)).run Try.prog w = .ok (.int .u8 x) w := by simp [part, hagg, hv]
    have p2 : (Instr.checkKey em 9999 T_uint8 (.int .u8 x)).run Try.prog w = .ok () w := by
      rw [show (9999 : Nat) = 9998 + 1 from rfl, Instr.checkKey]
      simp [run_underlying undU]
    simp only [List.forIn_cons, Sem.run_bind, Go.Lite.run_sizeOf hi w, hc, Result.andThen_ok, p1, p2, Sem.run_pure]
    exact ih (fun y hy => each y (by simp [hy]))

/-- a map's entries: the hashes in a row, each with its place -/
def Ents (es : List MapEntry) (l : List HT) (i : Nat) : Prop := match es, l with
  | [], [] => True
  | e :: es, h :: l => (e.key = .agg h.1 ∧ e.val = .int .i64 (i : Int)) ∧ Ents es l (i + 1)
  | _, _ => False
theorem Ents.snoc : ∀ {es : List MapEntry} {l : List HT} {i : Nat} {e : MapEntry} {h : HT}, Ents es l i → e.key = .agg h.1 → e.val = .int .i64 ((i + l.length : Nat) : Int) → Ents (es ++ [e]) (l ++ [h]) i
  | [], [], i, e, h, _, h1, h2 => ⟨⟨h1, by simpa using h2⟩, trivial⟩
  | x :: es, y :: l, i, e, h, he, h1, h2 => ⟨he.1, Ents.snoc he.2 h1 (by rw [h2]; congr 2; simp; omega)⟩
  | [], _ :: _, _, _, _, he, _, _ => he.elim
  | _ :: _, [], _, _, _, he, _, _ => he.elim
theorem run_findAskH (h : HT) (w : World) : ∀ (es : List MapEntry) (l : List HT) (i : Nat), Ents es l i →
    (Instr.findAsking T_api_Hash (.agg h.1) es i).run Try.prog w = .ok ((pos h l i).map fun j => (j, .int .i64 (j : Int))) w
  | [], [], i, _ => by simp [Instr.findAsking, pos]
  | e :: es, x :: l, i, he => by
    have hq := run_equalH h x w
    have ih := run_findAskH h w es l (i + 1) he.2
    simp only [Instr.findAsking, he.1.1, Sem.run_bind, hq, Result.andThen_ok]
    by_cases hx : h = x
    · simp [hx, pos, he.1.2]
    · simp [hx, pos, ih]
  | [], _ :: _, _, he => he.elim
  | _ :: _, [], _, he => he.elim
theorem run_findKeyH (h : HT) (w : World) {es : List MapEntry} {l : List HT} (he : Ents es l 0) :
    (Instr.findKey T_api_Hash (.agg h.1) es).run Try.prog w = .ok ((pos h l 0).map fun j => (j, .int .i64 (j : Int))) w := by
  have h1 := run_findAskH h w es l 0 he
  simp only [Instr.findKey, Sem.run_bind, run_underlying undH, Result.andThen_ok]
  cases es with
  | nil =>
    cases l with
    | nil => simp [Instr.findNow, pos]
    | cons x l => exact he.elim
  | cons e es =>
    have : Instr.findNow (.array 32 T_uint8) (.agg h.1) (e :: es) 0 = none := by
      simp only [Instr.findNow, Instr.sameNow]
    rw [this]
    exact h1
theorem getMap {r : Nat} {es : Array MapEntry} {clock : Nat} (hb : w.heap[r]? = some (.map es clock)) : (getObj r).run Try.prog w = .ok (.map es clock) w := by
  simp [getObj, Sem.run, hb]
theorem setMap {r : Nat} {es : Array MapEntry} {clock : Nat} (o : Obj) (hb : w.heap[r]? = some (.map es clock)) : (setObj r o).run Try.prog w = .ok () { w with heap := w.heap.setIfInBounds r o } := by
  simp [setObj, Sem.run, hb]

/-- block m holds the map of hashes to their places -/
structure IsMap (w : World) (m : Nat) (l : List HT) : Prop where
  ex : ∃ es clock, w.heap[m]? = some (.map es clock) ∧ Ents es.toList l 0
theorem IsMap.keep {S : Nat → Prop} {w w' : World} {m : Nat} {l : List HT} (h : IsMap w m l) (hk : Kept S w w') (hn : ¬ S m) : IsMap w' m l := by
  obtain ⟨es, clock, h1, h2⟩ := h.ex
  exact ⟨es, clock, hk.heap h1 hn, h2⟩
theorem IsMap.lt {w : World} {m : Nat} {l : List HT} (h : IsMap w m l) : m < w.heap.size := by
  obtain ⟨es, clock, h1, _⟩ := h.ex
  exact lt_blk h1
theorem IsMap.look {m : Nat} {l : List HT} (hm : IsMap w m l) (h : HT) :
    (Instr.lookup T_map_api_Hash_int (.map (some m)) (.agg h.1) true).run Try.prog w = .ok (.tuple #[.int .i64 (((pos h l 0).getD 0 : Nat) : Int), .bool (pos h l 0).isSome]) w := by
  obtain ⟨es, clock, h1, h2⟩ := hm.ex
  have h3 := run_findKeyH h w h2
  simp only [Instr.lookup, Sem.run_bind, run_underlying undM, getMap h1, Result.andThen_ok, Sem.run_pure, run_checkH, h3]
  cases hp : pos h l 0 <;> simp [zeroI]
theorem IsMap.look1 {m : Nat} {l : List HT} (hm : IsMap w m l) (h : HT) :
    (Instr.lookup T_map_api_Hash_int (.map (some m)) (.agg h.1) false).run Try.prog w = .ok (.int .i64 (((pos h l 0).getD 0 : Nat) : Int)) w := by
  obtain ⟨es, clock, h1, h2⟩ := hm.ex
  have h3 := run_findKeyH h w h2
  simp only [Instr.lookup, Sem.run_bind, run_underlying undM, getMap h1, Result.andThen_ok, Sem.run_pure, run_checkH, h3]
  cases hp : pos h l 0 <;> simp [zeroI]
theorem IsMap.look1_none (h : HT) : (Instr.lookup T_map_api_Hash_int (.map none) (.agg h.1) false).run Try.prog w = .ok (.int .i64 0) w := by
  have h3 := run_findKeyH (es := []) (l := []) h w trivial
  simp only [Instr.lookup, Sem.run_bind, run_underlying undM, Result.andThen_ok, Sem.run_pure, run_checkH]
  simp [h3, pos, zeroI]
theorem IsMap.put {m : Nat} {l : List HT} (hm : IsMap w m l) {h : HT} (hn : h ∉ l) :
    ∃ w', (Instr.mapUpdate T_map_api_Hash_int (.map (some m)) (.agg h.1) (.int .i64 ((l.length : Nat) : Int))).run Try.prog w = .ok () w' ∧ IsMap w' m (l ++ [h]) ∧ Kept (· = m) w w' := by
  obtain ⟨es, clock, h1, h2⟩ := hm.ex
  have h3 := run_findKeyH h w h2
  rw [pos_none.2 hn] at h3
  refine ⟨{ w with heap := w.heap.setIfInBounds m (.map (es.push { key := .agg h.1, val := .int .i64 ((l.length : Nat) : Int), born := clock }) (clock + 1)) }, ?_, ⟨es.push { key := .agg h.1, val := .int .i64 ((l.length : Nat) : Int), born := clock }, clock + 1, ?_, ?_⟩, ?_⟩
  · simp only [Instr.mapUpdate, Sem.run_bind, run_underlying undM, getMap h1, Result.andThen_ok, Sem.run_pure, run_checkH, h3, Option.map_none, setMap _ h1]
  · simp [lt_blk h1]
  · have := h2.snoc (e := { key := .agg h.1, val := .int .i64 ((l.length : Nat) : Int), born := clock }) (h := h) rfl (by simp)
    simpa using this
  · exact ⟨rfl, rfl, rfl, by simp, fun k _ hk => by simp [Array.getElem?_setIfInBounds, Ne.symm hk]⟩
end
end Go.Proofs.Ytljckpecmlnbiaa
/-
  A graph, plainly: hashes with their parents, in the order in which they came (no program in sight).
-/
namespace Go.Proofs.Ytljckpecmlnbiaa
open Go Go.Lite

structure DN where
  id : HT
  ps : List HT
abbrev DG := List DN
def ids (D : DG) : List HT := D.map (·.id)
/-- p is a parent of h -/
def Par (D : DG) (p h : HT) : Prop := ∃ nd ∈ D, nd.id = h ∧ p ∈ nd.ps
/-- a stands ahead of h -/
inductive Anc (D : DG) : HT → HT → Prop
  | one {p h : HT} : Par D p h → Anc D p h
  | more {a p h : HT} : Anc D a p → Par D p h → Anc D a h
theorem Anc.trans {D : DG} {a b c : HT} (h : Anc D a b) (h' : Anc D b c) : Anc D a c := by
  induction h' with
  | one hp => exact .more h hp
  | more _ hp ih => exact .more ih hp

structure WfD (D : DG) : Prop where
  pos : 0 < D.length
  nodup : (ids D).Nodup
  ss : ∀ nd ∈ D, SS nd.ps
  up : ∀ (i : Nat) nd p, D[i]? = some nd → p ∈ nd.ps → ∃ (j : Nat) (m : DN), j < i ∧ D[j]? = some m ∧ m.id = p
theorem ids_len (D : DG) : (ids D).length = D.length := by simp [ids]
theorem ids_get {D : DG} {i : Nat} {nd : DN} (h : D[i]? = some nd) : (ids D)[i]? = some nd.id := by simp [ids, h]
theorem ids_at {D : DG} {i : Nat} {h : HT} (e : (ids D)[i]? = some h) : ∃ nd, D[i]? = some nd ∧ nd.id = h := by
  unfold ids at e
  rw [List.getElem?_map] at e
  cases hd : D[i]? with
  | none => rw [hd] at e; cases e
  | some nd => rw [hd] at e; exact ⟨nd, rfl, by simpa using e⟩
theorem ids_mem {D : DG} {h : HT} : h ∈ ids D ↔ ∃ nd ∈ D, nd.id = h := by simp [ids]

section
variable {D : DG}
theorem WfD.inj (W : WfD D) {i j : Nat} {a b : DN} (ha : D[i]? = some a) (hb : D[j]? = some b) (e : a.id = b.id) : i = j := by
  have h1 := pos_of_get 0 i W.nodup (ids_get ha)
  have h2 := pos_of_get 0 j W.nodup (ids_get hb)
  rw [e, h2] at h1
  simpa using h1.symm
theorem WfD.pos_eq (W : WfD D) {i : Nat} {nd : DN} (h : D[i]? = some nd) : Proofs.Ytljckpecmlnbiaa.pos nd.id (ids D) 0 = some i := by
  have := pos_of_get 0 i W.nodup (ids_get h)
  rwa [Nat.zero_add] at this
/-- by places -/
theorem Par.at_ (W : WfD D) {p h : HT} (hp : Par D p h) : ∃ (i j : Nat) (m nd : DN), i < j ∧ D[i]? = some m ∧ D[j]? = some nd ∧ m.id = p ∧ nd.id = h ∧ p ∈ nd.ps := by
  obtain ⟨nd, hnd, rfl, hps⟩ := hp
  obtain ⟨j, hj⟩ := List.mem_iff_getElem?.1 hnd
  obtain ⟨i, m, hij, hm, e⟩ := W.up j nd p hj hps
  exact ⟨i, j, m, nd, hij, hm, hj, e, rfl, hps⟩
theorem Anc.at_ (W : WfD D) {a h : HT} (hp : Anc D a h) : ∃ (i j : Nat) (m nd : DN), i < j ∧ D[i]? = some m ∧ D[j]? = some nd ∧ m.id = a ∧ nd.id = h := by
  induction hp with
  | one hp =>
    obtain ⟨i, j, m, nd, h1, h2, h3, h4, h5, _⟩ := hp.at_ W
    exact ⟨i, j, m, nd, h1, h2, h3, h4, h5⟩
  | more _ hp ih =>
    obtain ⟨i, j, m, nd, h1, h2, h3, h4, h5⟩ := ih
    obtain ⟨i', j', m', nd', h1', h2', h3', h4', h5', _⟩ := hp.at_ W
    have e := W.inj h3 h2' (by rw [h5, h4'])
    exact ⟨i, j', m, nd', by omega, h2, h3', h4, h5'⟩
theorem Anc.irrefl (W : WfD D) (a : HT) : ¬ Anc D a a := fun h => by
  obtain ⟨i, j, m, nd, h1, h2, h3, h4, h5⟩ := h.at_ W
  have := W.inj h2 h3 (by rw [h4, h5])
  omega
theorem Anc.asymm (W : WfD D) {a b : HT} (h : Anc D a b) : ¬ Anc D b a := fun h' => Anc.irrefl W a (h.trans h')
theorem Anc.mem (W : WfD D) {a h : HT} (hp : Anc D a h) : a ∈ ids D ∧ h ∈ ids D := by
  obtain ⟨i, j, m, nd, _, h2, h3, h4, h5⟩ := hp.at_ W
  exact ⟨ids_mem.2 ⟨m, List.mem_of_getElem? h2, h4⟩, ids_mem.2 ⟨nd, List.mem_of_getElem? h3, h5⟩⟩
/-- one's ancestors, by one's parents -/
theorem anc_iff (W : WfD D) {i : Nat} {nd : DN} (h : D[i]? = some nd) (a : HT) : Anc D a nd.id ↔ ∃ p ∈ nd.ps, a = p ∨ Anc D a p := by
  have key : ∀ {p}, Par D p nd.id → p ∈ nd.ps := fun ⟨nd', hm, e, hp⟩ => by
    obtain ⟨j, hj⟩ := List.mem_iff_getElem?.1 hm
    have := W.inj h hj e.symm
    subst this
    rw [h] at hj
    cases hj
    exact hp
  constructor
  · intro ha
    generalize he : nd.id = x at ha
    cases ha with
    | one hp => subst he; exact ⟨a, key hp, .inl rfl⟩
    | more ha' hp => subst he; exact ⟨_, key hp, .inr ha'⟩
  · rintro ⟨p, hp, e⟩
    have hpar : Par D p nd.id := ⟨nd, List.mem_of_getElem? h, rfl, hp⟩
    rcases e with rfl | e
    · exact .one hpar
    · exact .more e hpar

/-- one more -/
theorem par_snoc {nd : DN} {p h : HT} : Par (D ++ [nd]) p h ↔ Par D p h ∨ (nd.id = h ∧ p ∈ nd.ps) := by
  unfold Par
  constructor
  · rintro ⟨m, hm, e, hp⟩
    rw [List.mem_append, List.mem_singleton] at hm
    rcases hm with hm | rfl
    · exact .inl ⟨m, hm, e, hp⟩
    · exact .inr ⟨e, hp⟩
  · rintro (⟨m, hm, e, hp⟩ | ⟨e, hp⟩)
    · exact ⟨m, by simp [hm], e, hp⟩
    · exact ⟨nd, by simp, e, hp⟩
theorem anc_snoc (W : WfD D) {nd : DN} (hn : nd.id ∉ ids D) {a h : HT} (hh : h ∈ ids D) : Anc (D ++ [nd]) a h ↔ Anc D a h := by
  constructor
  · intro ha
    induction ha with
    | one hp =>
      rcases par_snoc.1 hp with hp | ⟨e, _⟩
      · exact .one hp
      · subst e; exact absurd hh hn
    | more _ hp ih =>
      rcases par_snoc.1 hp with hp | ⟨e, _⟩
      · exact .more (ih (Anc.mem W (.one hp)).1) hp
      · subst e; exact absurd hh hn
  · intro ha
    induction ha with
    | one hp => exact .one (par_snoc.2 (.inl hp))
    | more ha' hp ih => exact .more (ih (Anc.mem W ha').2) (par_snoc.2 (.inl hp))
theorem ids_snoc (D : DG) (nd : DN) : ids (D ++ [nd]) = ids D ++ [nd.id] := by simp [ids]
theorem WfD.snoc (W : WfD D) {nd : DN} (hn : nd.id ∉ ids D) (hps : ∀ p ∈ nd.ps, p ∈ ids D) (hs : SS nd.ps) : WfD (D ++ [nd]) where
  pos := by simp
  nodup := by
    rw [ids_snoc, List.nodup_append]
    refine ⟨W.nodup, by simp, fun a ha b hb => ?_⟩
    rw [List.mem_singleton] at hb
    subst hb
    exact fun e => hn (e ▸ ha)
  ss := fun m hm => by
    rw [List.mem_append, List.mem_singleton] at hm
    rcases hm with hm | rfl
    · exact W.ss m hm
    · exact hs
  up := fun i m p hi hp => by
    rw [List.getElem?_append] at hi
    split at hi
    · rename_i hlt
      obtain ⟨j, q, h1, h2, h3⟩ := W.up i m p hi hp
      exact ⟨j, q, h1, by rw [List.getElem?_append_left (by omega)]; exact h2, h3⟩
    · rename_i hge
      have : m = nd := by
        cases hk : i - D.length with
        | zero => rw [hk] at hi; simpa using hi.symm
        | succ k => rw [hk] at hi; simp at hi
      subst this
      obtain ⟨q, hq, e⟩ := ids_mem.1 (hps p hp)
      obtain ⟨j, hj⟩ := List.mem_iff_getElem?.1 hq
      have hjl := (List.getElem?_eq_some_iff.1 hj).1
      exact ⟨j, q, by omega, by rw [List.getElem?_append_left hjl]; exact hj, e⟩
end
theorem WfD.root (r : HT) : WfD [⟨r, []⟩] where
  pos := by simp
  nodup := by simp [ids]
  ss := fun nd h => by simp at h; subst h; exact List.Pairwise.nil
  up := fun i nd p h hp => by
    cases i with
    | zero => simp at h; subst h; simp at hp
    | succ i => simp at h

/-- what comes of one that comes -/
def addC (D : DG) (h : HT) (l : List HT) : Int :=
  if h ∈ ids D then 7 else if (srt l).length = 0 ∨ (srt l).length ≠ l.length then 9 else if ∃ p ∈ srt l, p ∉ ids D then 6 else 0
def addD (D : DG) (h : HT) (l : List HT) : DG := if addC D h l = 0 then D ++ [⟨h, srt l⟩] else D
theorem addC_ok {D : DG} {h : HT} {l : List HT} (e : addC D h l = 0) : h ∉ ids D ∧ l ≠ [] ∧ l.Nodup ∧ ∀ p ∈ srt l, p ∈ ids D := by
  unfold addC at e
  split at e
  · cases e
  · rename_i h1
    split at e
    · cases e
    · rename_i h2
      split at e
      · cases e
      · rename_i h3
        simp only [not_or, Decidable.not_not] at h2
        refine ⟨h1, fun hl => h2.1 (by rw [hl]; rfl), nodup_of_srt h2.2, fun p hp => Classical.byContradiction fun hn => h3 ⟨p, hp, hn⟩⟩
theorem WfD.add {D : DG} (W : WfD D) (h : HT) (l : List HT) : WfD (addD D h l) := by
  unfold addD
  split
  · rename_i e
    obtain ⟨h1, _, _, h4⟩ := addC_ok e
    exact W.snoc h1 h4 (SS_srt l)
  · exact W
theorem addD_len (D : DG) (h : HT) (l : List HT) : (addD D h l).length ≤ D.length + 1 := by
  unfold addD; split <;> simp

/-! what a graph answers -/
open Classical in
noncomputable def pick (D : DG) (is : HT → Prop) : List HT := srt ((ids D).filter fun a => decide (is a))
theorem mem_pick {D : DG} {is : HT → Prop} {a : HT} : a ∈ pick D is ↔ a ∈ ids D ∧ is a := by
  unfold pick; rw [mem_srt, List.mem_filter]; simp
theorem pick_ext {D : DG} {is is' : HT → Prop} (h : ∀ a ∈ ids D, is a ↔ is' a) : pick D is = pick D is' := srt_ext fun x => by
  simp only [List.mem_filter, decide_eq_true_eq]
  exact ⟨fun ⟨h1, h2⟩ => ⟨h1, (h x h1).1 h2⟩, fun ⟨h1, h2⟩ => ⟨h1, (h x h1).2 h2⟩⟩
theorem pick_of {D : DG} {is : HT → Prop} {l : List HT} (h : ∀ a, a ∈ l ↔ a ∈ ids D ∧ is a) : srt l = pick D is := srt_ext fun x => by
  rw [h, List.mem_filter]; simp
theorem pick_len (D : DG) (is : HT → Prop) : (pick D is).length ≤ D.length := by
  unfold pick
  refine Nat.le_trans (srt_len _) (Nat.le_trans (List.length_filter_le _ _) ?_)
  rw [ids_len]; exact Nat.le_refl _
noncomputable def pastL (D : DG) (h : HT) : List HT := pick D fun a => Anc D a h
noncomputable def pastsL (D : DG) (l : List HT) : List HT := pick D fun a => ∃ h ∈ l, Anc D a h
noncomputable def futureL (D : DG) (h : HT) : List HT := pick D fun a => Anc D h a
noncomputable def antiL (D : DG) (h : HT) : List HT := pick D fun a => h ∈ ids D ∧ a ≠ h ∧ ¬ Anc D a h ∧ ¬ Anc D h a
noncomputable def childL (D : DG) (h : HT) : List HT := pick D fun a => Par D h a
noncomputable def tipsL (D : DG) : List HT := pick D fun a => ¬ ∃ b, Par D a b
end Go.Proofs.Ytljckpecmlnbiaa
/-
  Rows of hashes with their parents; the document's graph in memory.
-/
namespace Go.Proofs.Ytljckpecmlnbiaa
open Go Go.Lite Go.RowKit

/-- a slice of hashes with lists, to be read; F: where all that lies -/
structure NS (w : World) (F : Nat → Prop) (A : Option Addr) (n : Nat) (l : List DN) : Prop where
  len : l.length = n
  at_ : ∀ (i : Nat) nd, l[i]? = some nd → ∃ a pA pn pc, A = some a ∧ a.block < w.heap.size ∧ F a.block ∧ Cells w (a.add (i * 33)) (nd.id.1.push (.slice pA pn pc)) ∧ HS w pA pn nd.ps ∧ ∀ b, pA = some b → F b.block
section
variable {w w' : World} {F F' S : Nat → Prop} {A : Option Addr} {n : Nat} {l : List DN}
theorem NS.keep (h : NS w F A n l) (hk : Kept S w w') (hn : ∀ k, F k → ¬ S k) : NS w' F A n l := ⟨h.len, fun i nd hi => by
  obtain ⟨a, pA, pn, pc, h1, h2, h3, h4, h5, h6⟩ := h.at_ i nd hi
  exact ⟨a, pA, pn, pc, h1, Nat.lt_of_lt_of_le h2 hk.size, h3, Cells.keep h4 hk (by rw [addr_block]; exact hn _ h3), h5.keep hk (fun b hb => hn _ (h6 b hb)), h6⟩⟩
theorem NS.mono (h : NS w F A n l) (hf : ∀ k, F k → F' k) : NS w F' A n l := ⟨h.len, fun i nd hi => by
  obtain ⟨a, pA, pn, pc, h1, h2, h3, h4, h5, h6⟩ := h.at_ i nd hi
  exact ⟨a, pA, pn, pc, h1, h2, hf _ h3, h4, h5, fun b hb => hf _ (h6 b hb)⟩⟩
theorem push_get {h : HT} {v : Value} {j : Nat} {u : Value} (hj : h.1[j]? = some u) : (h.1.push v)[j]? = some u := by
  have hlt := (Array.getElem?_eq_some_iff.1 hj).1
  rw [Array.getElem?_push, if_neg (by omega), hj]
theorem push_last (h : HT) (v : Value) : (h.1.push v)[32]? = some v := by
  have := h.2.1
  rw [Array.getElem?_push, if_pos (by omega)]
theorem NS.id (h : NS w F A n l) {i : Int} {nd : DN} (h0 : 0 ≤ i) (hx : l[i.toNat]? = some nd) {k : Array Value → Prop} (hk : k nd.id.1) :
    (0 ≤ i ∧ i < (n : Int)) ∧ Is A fun a => ∃ t : Array Value, (t.size = 32 ∧ Cells w ((a.add (i.toNat * 33)).add 0) t) ∧ k t := by
  obtain ⟨a, pA, pn, pc, rfl, _, _, h4, _, _⟩ := h.at_ _ nd hx
  have := (List.getElem?_eq_some_iff.1 hx).1
  have := h.len
  refine ⟨⟨h0, by omega⟩, nd.id.1, ⟨nd.id.2.1, fun j v hj => ?_⟩, hk⟩
  rw [add_zero]
  exact h4 j v (push_get hj)
theorem NS.ps (h : NS w F A n l) {i : Int} {nd : DN} (h0 : 0 ≤ i) (hx : l[i.toNat]? = some nd) {k : Option Addr → Nat → Nat → Prop} (hk : ∀ pA pn pc, HS w pA pn nd.ps → (∀ b, pA = some b → F b.block) → k pA pn pc) :
    (0 ≤ i ∧ i < (n : Int)) ∧ Is A fun a => ∃ pA pn pc, w.cell? ((a.add (i.toNat * 33)).add 32) = some (.slice pA pn pc) ∧ k pA pn pc := by
  obtain ⟨a, pA, pn, pc, rfl, _, _, h4, h5, h6⟩ := h.at_ _ nd hx
  have := (List.getElem?_eq_some_iff.1 hx).1
  have := h.len
  exact ⟨⟨h0, by omega⟩, pA, pn, pc, h4 32 _ (push_last _ _), hk _ _ _ h5 h6⟩
/-- its cells in a row -/
theorem NS.cells (h : NS w F A n l) : ∀ k, k ≤ n → ∃ news : List Value, news.length = k * 33 ∧ (∀ a, A = some a → ∀ j u, news[j]? = some u → w.cell? (a.add j) = some u) ∧ (∀ u ∈ news, u.oneCell' = true) ∧
    ∀ (i : Nat) nd, i < k → l[i]? = some nd → ∃ pA pn pc, HS w pA pn nd.ps ∧ (∀ b, pA = some b → F b.block) ∧ ∀ (j : Nat) v, (nd.id.1.push (.slice pA pn pc))[j]? = some v → news[i * 33 + j]? = some v
  | 0, _ => ⟨[], rfl, by simp, by simp, by intro i nd hi; omega⟩
  | k + 1, hk => by
    obtain ⟨news, e1, e2, e3, e4⟩ := h.cells k (by omega)
    have hlen := h.len
    obtain ⟨nd, hnd⟩ : ∃ nd, l[k]? = some nd := ⟨_, List.getElem?_eq_getElem (by omega)⟩
    obtain ⟨a, pA, pn, pc, hA, h2, h3, h4, h5, h6⟩ := h.at_ _ nd hnd
    have hsz : (nd.id.1.push (.slice pA pn pc)).size = 33 := by rw [Array.size_push, nd.id.2.1]
    refine ⟨news ++ (nd.id.1.push (.slice pA pn pc)).toList, by rw [List.length_append, e1, Array.length_toList, hsz]; omega, fun a' ha' j u hj => ?_, fun u hu => ?_, fun i md hi hmd => ?_⟩
    · rw [List.getElem?_append] at hj
      split at hj
      · exact e2 a' ha' j u hj
      · rename_i hge
        rw [hA] at ha'
        cases ha'
        have := h4 (j - news.length) u (by rw [← Array.getElem?_toList]; exact hj)
        rwa [addr_add, show k * 33 + (j - news.length) = j by omega] at this
    · rw [List.mem_append] at hu
      rcases hu with hu | hu
      · exact e3 u hu
      · simp only [Array.toList_push, List.mem_append, List.mem_singleton] at hu
        rcases hu with hu | rfl
        · exact nd.id.2.one u hu
        · rfl
    · by_cases hik : i < k
      · obtain ⟨qA, qn, qc, f1, f2, f3⟩ := e4 i md hik hmd
        exact ⟨qA, qn, qc, f1, f2, fun j v hj => by
          have := f3 j v hj
          rw [List.getElem?_append_left (List.getElem?_eq_some_iff.1 this).1]
          exact this⟩
      · have : i = k := by omega
        subst this
        rw [hnd] at hmd
        cases hmd
        exact ⟨pA, pn, pc, h5, h6, fun j v hj => by
          rw [List.getElem?_append_right (by omega), e1, show i * 33 + j - i * 33 = j by omega, Array.getElem?_toList]
          exact hj⟩

theorem NS.ps' (h : NS w F A n l) (kw : Kept Nil w w') {i : Int} {nd : DN} (h0 : 0 ≤ i) (hx : l[i.toNat]? = some nd) {k : Option Addr → Nat → Nat → Prop} (hk : ∀ pA pn pc, HS w pA pn nd.ps → k pA pn pc) :
    (0 ≤ i ∧ i < (n : Int)) ∧ Is A fun a => ∃ pA pn pc, w'.cell? ((a.add (i.toNat * 33)).add 32) = some (.slice pA pn pc) ∧ k pA pn pc := by
  obtain ⟨a, pA, pn, pc, rfl, _, _, h4, h5, h6⟩ := h.at_ _ nd hx
  have := (List.getElem?_eq_some_iff.1 hx).1
  have := h.len
  exact ⟨⟨h0, by omega⟩, pA, pn, pc, (kw.cell (h4 32 _ (push_last _ _)) (fun h => h)), hk _ _ _ h5⟩

/-- a node's place -/
def atI (D : DG) (h : HT) : Int := match pos h (ids D) 0 with | some j => (j : Int) | none => -1
theorem atI_neg {D : DG} {h : HT} : atI D h < 0 ↔ h ∉ ids D := by
  unfold atI
  rw [← pos_none (l := ids D) (i := 0)]
  cases hp : pos h (ids D) 0 <;> simp
theorem atI_ge {D : DG} {h : HT} : atI D h ≥ 0 ↔ h ∈ ids D := by
  have := @atI_neg D h
  constructor
  · intro hg; exact Classical.byContradiction fun hn => by have := this.2 hn; omega
  · intro hm; exact Classical.byContradiction fun hn => this.1 (by omega) hm
theorem atI_get {D : DG} {h : HT} (hm : h ∈ ids D) : ∃ nd, atI D h ≥ 0 ∧ D[(atI D h).toNat]? = some nd ∧ nd.id = h := by
  have h1 := atI_ge.2 hm
  unfold atI at *
  cases hp : pos h (ids D) 0 with
  | none => rw [hp] at h1; simp at h1
  | some j =>
    obtain ⟨_, h2⟩ := pos_some hp
    obtain ⟨nd, h3, h4⟩ := ids_at h2
    exact ⟨nd, by simp, by simpa using h3, h4⟩
theorem ids_take_get {D : DG} {i : Nat} {nd : DN} (h : D[i]? = some nd) : (ids D).take (i + 1) = (ids D).take i ++ [nd.id] := by
  rw [List.take_add_one, ids_get h]; rfl
theorem pos_first {h : HT} : ∀ {l : List HT} {i k : Nat}, h ∉ l.take k → l[k]? = some h → pos h l i = some (i + k)
  | [], _, _, _, e => by simp at e
  | x :: l, i, 0, _, e => by
    simp only [List.getElem?_cons_zero, Option.some.injEq] at e
    unfold pos
    rw [if_pos e.symm, Nat.add_zero]
  | x :: l, i, k + 1, hn, e => by
    simp only [List.getElem?_cons_succ] at e
    rw [List.take_succ_cons, List.mem_cons, not_or] at hn
    unfold pos
    rw [if_neg hn.1, pos_first (i := i + 1) hn.2 e]
    congr 1
    omega

variable {r : Nat} {D : DG} {K : Value → World → Prop}
end
end Go.Proofs.Ytljckpecmlnbiaa
/-
  The document's Add.
-/
namespace Go.Proofs.Ytljckpecmlnbiaa
open Go Go.Lite Go.RowKit

section
variable {w w' : World} {F F' S : Nat → Prop} {A : Option Addr} {n c B : Nat} {l : List DN} {news : List Value} {r : Nat} {D : DG} {K : Value → World → Prop}
theorem NS.same (h : NS w F A n l) (hk : Kept Nil w w') : NS w' F A n l := h.keep hk fun _ _ h => h
theorem push_one (h : HT) (A : Option Addr) (n c : Nat) : ∀ u ∈ (h.1.push (.slice A n c)).toList, u.oneCell' = true := fun u hu => by
  simp only [Array.toList_push, List.mem_append, List.mem_singleton] at hu
  rcases hu with hu | rfl
  · exact h.2.one u hu
  · rfl

end
end Go.Proofs.Ytljckpecmlnbiaa
/-
  The document's Past.
-/
namespace Go.Proofs.Ytljckpecmlnbiaa
open Go Go.Lite Go.RowKit

theorem nodup_len : ∀ {l m : List HT}, l.Nodup → (∀ x ∈ l, x ∈ m) → l.length ≤ m.length
  | [], _, _, _ => Nat.zero_le _
  | x :: l, m, hn, h => by
    rw [List.nodup_cons] at hn
    have hx := h x (by simp)
    have := nodup_len (l := l) (m := m.erase x) hn.2 (fun y hy => by
      have hne : y ≠ x := fun e => hn.1 (e ▸ hy)
      exact (List.mem_erase_of_ne hne).2 (h y (by simp [hy])))
    rw [List.length_erase_of_mem hx] at this
    have hpos : 0 < m.length := List.length_pos_of_mem hx
    simp only [List.length_cons]
    omega

/-- what has been found, and what is to be looked at -/
structure PB (w0 w' : World) (D : DG) (l out : List HT) (A1 : Option Addr) (c1 : Nat) (A2 : Option Addr) (c2 : Nat) : Prop where
  r1 : HRow w' w0.heap.size A1 out.length c1 out
  r2 : HRow w' w0.heap.size A2 (l.length + out.length) c2 (l ++ out)
  ap : ∀ k, blkOf A1 = some k → blkOf A2 ≠ some k
  nd : out.Nodup
  anc : ∀ x ∈ out, ∃ h ∈ l, Anc D x h
  kp : Kept Nil w0 w'
section
variable {w w' w'' : World} {F S : Nat → Prop} {D : DG} {l out : List HT} {A1 A2 : Option Addr} {c1 c2 r : Nat} {K : Value → World → Prop}
theorem PB.same (h : PB w w' D l out A1 c1 A2 c2) (k : Kept Nil w' w'') : PB w w'' D l out A1 c1 A2 c2 :=
  ⟨Row.keep h.r1 k (fun _ _ h => h), Row.keep h.r2 k (fun _ _ h => h), h.ap, h.nd, h.anc, h.kp.trans k (fun _ _ h => h)⟩
theorem PB.len (h : PB w w' D l out A1 c1 A2 c2) (W : WfD D) : out.length ≤ D.length := by
  rw [← ids_len D]
  exact nodup_len h.nd fun x hx => by obtain ⟨_, _, ha⟩ := h.anc x hx; exact (ha.mem W).1
theorem hbox (w : World) (x : HT) : HS (w.alloc (.cells (x.1.toList ++ []).toArray T_api_Hash)) (some ⟨w.heap.size, 0, none⟩) 1 [x] := by
  refine HS.one (t := T_api_Hash) (fr := (0, 0)) ?_
  rw [List.append_nil, Array.toArray_toList]
  exact new_blk w _

/-- one more of both -/
theorem PB.add (h : PB w w' D l out A1 c1 A2 c2) {x : HT} (hx : x ∉ out) (ha : ∃ h ∈ l, Anc D x h) (hb : l.length + out.length ≤ 500000) :
    ∃ A1' c1' v, (Builtin.append_ #[T_sl_api_Hash, T_sl_api_Hash] T_sl_api_Hash #[.slice A1 out.length c1, .slice (some ⟨w'.heap.size, 0, none⟩) 1 1]).run Try.prog (w'.alloc (.cells (x.1.toList ++ []).toArray T_api_Hash)) = .ok (.slice A1' (out.length + 1) c1') v ∧ Kept (fun k => w.heap.size ≤ k) w' v ∧
    ∃ A2' c2' u, (Builtin.append_ #[T_sl_api_Hash, T_sl_api_Hash] T_sl_api_Hash #[.slice A2 (l.length + out.length) c2, .slice (some ⟨v.heap.size, 0, none⟩) 1 1]).run Try.prog (v.alloc (.cells (x.1.toList ++ []).toArray T_api_Hash)) = .ok (.slice A2' (l.length + out.length + 1) c2') u ∧
      PB w u D l (out ++ [x]) A1' c1' A2' c2' := by
  have hkw := h.kp.size
  have k1 : Kept Nil w' (w'.alloc (.cells (x.1.toList ++ []).toArray T_api_Hash)) := (Kept.refl _ _).alloc _
  have hs1 := hbox w' x
  generalize w'.alloc (.cells (x.1.toList ++ []).toArray T_api_Hash) = w1 at k1 hs1 ⊢
  have r1 : HRow w1 w.heap.size A1 out.length c1 out := Row.keep h.r1 k1 (fun _ _ h => h)
  have hs1' := k1.size
  obtain ⟨A1', c1', v, hr1, row1, hg1, hb1⟩ := append_hs (cx := 1) T_sl_api_Hash r1 hs1 (by omega) (by omega)
  have kv1 : Kept (fun k => blkOf A1 = some k) w1 v := Kept.grown (Kept.refl _ _) hg1 (fun k hk _ => hk)
  have hA1 : ∀ k, blkOf A1 = some k → w.heap.size ≤ k ∧ k < w'.heap.size := fun k hk => by
    obtain ⟨h1, cur, hc⟩ := Row.blk h.r1 hk
    exact ⟨h1, lt_blk hc⟩
  have hA2 : ∀ k, blkOf A2 = some k → w.heap.size ≤ k ∧ k < w'.heap.size := fun k hk => by
    obtain ⟨h1, cur, hc⟩ := Row.blk h.r2 hk
    exact ⟨h1, lt_blk hc⟩
  have kv : Kept (fun k => w.heap.size ≤ k) w' v := (k1.mono (fun _ _ h => h.elim)).trans kv1 (fun k _ e => (hA1 k e).1)
  refine ⟨A1', c1', v, hr1, kv, ?_⟩
  have k2 : Kept Nil v (v.alloc (.cells (x.1.toList ++ []).toArray T_api_Hash)) := (Kept.refl _ _).alloc _
  have hs2 := hbox v x
  generalize v.alloc (.cells (x.1.toList ++ []).toArray T_api_Hash) = w2 at k2 hs2 ⊢
  have r2v : HRow v w.heap.size A2 (l.length + out.length) c2 (l ++ out) := Row.keep (Row.keep h.r2 k1 (fun _ _ h => h)) kv1 (fun k hk e => h.ap k e hk)
  have r2 : HRow w2 w.heap.size A2 (l.length + out.length) c2 (l ++ out) := Row.keep r2v k2 (fun _ _ h => h)
  have hsv := kv1.size
  have hs2' := k2.size
  obtain ⟨A2', c2', u, hr2, row2, hg2, hb2⟩ := append_hs (cx := 1) T_sl_api_Hash r2 hs2 (by omega) (by omega)
  have ku : Kept (fun k => blkOf A2 = some k) w2 u := Kept.grown (Kept.refl _ _) hg2 (fun k hk _ => hk)
  have hA1v : ∀ k, blkOf A1' = some k → k < v.heap.size := fun k hk => by
    obtain ⟨_, cur, hc⟩ := Row.blk row1 hk
    exact lt_blk hc
  have hap1 : ∀ k, blkOf A1' = some k → blkOf A2 ≠ some k := fun k hk e => by
    rcases hb1 k hk with h' | h'
    · exact h.ap k h' e
    · have := (hA2 k e).2; omega
  have row1u : HRow u w.heap.size A1' (out.length + 1) c1' (out ++ [x]) := Row.keep (Row.keep row1 k2 (fun _ _ h => h)) ku (fun k hk e => hap1 k hk e)
  refine ⟨A2', c2', u, hr2, ?_⟩
  refine ⟨?_, ?_, fun k hk e => ?_, ?_, fun y hy => ?_, ?_⟩
  · rw [List.length_append]; exact row1u
  · rw [List.length_append, ← List.append_assoc, List.length_singleton, ← Nat.add_assoc]; exact row2
  · rcases hb2 k e with h' | h'
    · exact hap1 k hk h'
    · have := hA1v k hk; omega
  · rw [List.nodup_append]
    exact ⟨h.nd, by simp, fun u hu v hv e => hx (by rw [List.mem_singleton] at hv; rw [← hv, ← e]; exact hu)⟩
  · rw [List.mem_append, List.mem_singleton] at hy
    rcases hy with hy | rfl
    · exact h.anc y hy
    · exact ha
  · exact ((h.kp.trans kv (fun k hk e => absurd hk (by omega))).trans k2 (fun _ _ h => h)).trans ku (fun k hk e => absurd (hA2 k e).1 (by omega))

theorem past_done (W : WfD D) {l out : List HT} (ha : ∀ x ∈ out, ∃ h ∈ l, Anc D x h) (hc : ∀ h ∈ l ++ out, ∀ p, Par D p h → p ∈ out) : srt out = pastsL D l := by
  refine pick_of fun a => ⟨fun h => ?_, fun ⟨_, h, hl, han⟩ => ?_⟩
  · obtain ⟨b, hb, hab⟩ := ha a h
    exact ⟨(hab.mem W).1, b, hb, hab⟩
  · have key : ∀ {a h}, Anc D a h → h ∈ l ++ out → a ∈ out := by
      intro a h han
      induction han with
      | one hp => exact fun hm => hc _ hm _ hp
      | more _ hp ih => exact fun hm => ih (by rw [List.mem_append]; exact .inr (hc _ hm _ hp))
    exact key han (by rw [List.mem_append]; exact .inl hl)

end
end Go.Proofs.Ytljckpecmlnbiaa
/-
  The document's Before, Apart, Future, Anticone, Children, Tips.
-/
namespace Go.Proofs.Ytljckpecmlnbiaa
open Go Go.Lite Go.RowKit

/-- what has been gathered of the first i -/
structure GB (w0 w' : World) (D : DG) (is : HT → Prop) (i : Nat) (out : List HT) (A : Option Addr) (c : Nat) : Prop where
  r : HRow w' w0.heap.size A out.length c out
  mem : ∀ a, a ∈ out ↔ a ∈ (ids D).take i ∧ is a
  len : out.length ≤ i
  kp : Kept Nil w0 w'
section
variable {w w' w'' : World} {F S : Nat → Prop} {D : DG} {is : HT → Prop} {i : Nat} {l out : List HT} {A : Option Addr} {c r : Nat} {K : Value → World → Prop}
theorem GB.same (h : GB w w' D is i out A c) (k : Kept Nil w' w'') : GB w w'' D is i out A c := ⟨Row.keep h.r k (fun _ _ h => h), h.mem, h.len, h.kp.trans k (fun _ _ h => h)⟩
theorem GB.nil (k : Kept Nil w w') : GB w w' D is 0 [] none 0 := ⟨HRow.nil _ _, by simp, Nat.le_refl _, k⟩
theorem GB.skip (h : GB w w' D is i out A c) {nd : DN} (hnd : D[i]? = some nd) (hn : ¬ is nd.id) : GB w w' D is (i + 1) out A c := ⟨h.r, fun a => by
  rw [h.mem, mem_take_succ (ids_get hnd)]
  constructor
  · rintro ⟨h1, h2⟩; exact ⟨.inl h1, h2⟩
  · rintro ⟨h1 | rfl, h2⟩
    · exact ⟨h1, h2⟩
    · exact absurd h2 hn, Nat.le_succ_of_le h.len, h.kp⟩
theorem GB.add (h : GB w w' D is i out A c) {nd : DN} (hnd : D[i]? = some nd) (hi : i ≤ 10000) (hs : is nd.id) :
    ∃ A' c' v, (Builtin.append_ #[T_sl_api_Hash, T_sl_api_Hash] T_sl_api_Hash #[.slice A out.length c, .slice (some ⟨w'.heap.size, 0, none⟩) 1 1]).run Try.prog (w'.alloc (.cells (nd.id.1.toList ++ []).toArray T_api_Hash)) = .ok (.slice A' (out.length + 1) c') v ∧
      GB w v D is (i + 1) (out ++ [nd.id]) A' c' := by
  have hkw := h.kp.size
  have hlen := h.len
  have k1 : Kept Nil w' (w'.alloc (.cells (nd.id.1.toList ++ []).toArray T_api_Hash)) := (Kept.refl _ _).alloc _
  have hs1 := hbox w' nd.id
  generalize w'.alloc (.cells (nd.id.1.toList ++ []).toArray T_api_Hash) = w1 at k1 hs1 ⊢
  have r1 : HRow w1 w.heap.size A out.length c out := Row.keep h.r k1 (fun _ _ h => h)
  have hs1' := k1.size
  obtain ⟨A', c', v, hr1, row1, hg1, hb1⟩ := append_hs (cx := 1) T_sl_api_Hash r1 hs1 (by omega) (by omega)
  refine ⟨A', c', v, hr1, ?_, fun a => ?_, by simp; omega, Kept.growNew (h.kp.trans k1 (fun _ _ h => h)) hg1 (fun k hk => (Row.blk h.r hk).1)⟩
  · rw [List.length_append]; exact row1
  · rw [List.mem_append, List.mem_singleton, h.mem, mem_take_succ (ids_get hnd)]
    constructor
    · rintro (⟨h1, h2⟩ | rfl)
      · exact ⟨.inl h1, h2⟩
      · exact ⟨.inr rfl, hs⟩
    · rintro ⟨h1 | rfl, h2⟩
      · exact .inl ⟨h1, h2⟩
      · exact .inr rfl
theorem GB.done (h : GB w w' D is D.length out A c) : srt out = pick D is := pick_of fun a => by
  rw [h.mem, List.take_of_length_le (by rw [ids_len]; exact Nat.le_refl _)]
theorem GB.sorted (h : GB w w' D is D.length out A c) (hD : D.length ≤ 10000)
    (hK : ∀ A' c' w', HRow w' w.heap.size A' (pick D is).length c' (pick D is) → Kept Nil w w' → K (.slice A' (pick D is).length c') w') :
    Ret Try.prog ref10_Sorted.id #[.slice A out.length c] w' K := by
  have hlen := h.len
  refine ref_Sorted h.r.hs (by omega) fun A' c' w2 row k2 => ?_
  rw [h.done] at row ⊢
  exact hK A' c' w2 (Row.base row fun b hb => Nat.le_trans h.kp.size (Row.blk row hb).1) (h.kp.trans k2 (fun _ _ h => h))
theorem GB.sortedP (h : GB w w' D is D.length out A c) (hD : D.length ≤ 10000)
    (hK : ∀ A' c' w', HRow w' w.heap.size A' (pick D is).length c' (pick D is) → Kept Nil w w' → K (.slice A' (pick D is).length c') w') :
    Ret Try.prog dag_Sorted.id #[.slice A out.length c] w' K := by
  have hlen := h.len
  refine dag_Sorted_ok h.r.hs (by omega) fun A' c' w2 row k2 => ?_
  rw [h.done] at row ⊢
  exact hK A' c' w2 (Row.base row fun b hb => Nat.le_trans h.kp.size (Row.blk row hb).1) (h.kp.trans k2 (fun _ _ h => h))

theorem par_at (W : WfD D) {j : Nat} {nd : DN} (h2 : D[j]? = some nd) (p : HT) : Par D p nd.id ↔ p ∈ nd.ps := by
  constructor
  · rintro ⟨md, hmd, e, hp⟩
    obtain ⟨k, hk⟩ := List.mem_iff_getElem?.1 hmd
    have := W.inj hk h2 e
    subst this
    rw [h2] at hk
    cases hk
    exact hp
  · exact fun hp => ⟨nd, List.mem_of_getElem? h2, rfl, hp⟩
theorem child_none {D : DG} (W : WfD D) {h : HT} : (childL D h).length = 0 ↔ ¬ ∃ b, Par D h b := by
  constructor
  · rintro h0 ⟨b, hb⟩
    have : b ∈ childL D h := mem_pick.2 ⟨(Anc.mem W (.one hb)).2, hb⟩
    rw [List.eq_nil_of_length_eq_zero h0] at this
    cases this
  · intro hn
    rw [List.length_eq_zero_iff]
    cases hc : childL D h with
    | nil => rfl
    | cons b l => exact absurd ⟨b, (mem_pick.1 (show b ∈ childL D h by rw [hc]; simp)).2⟩ hn
end
end Go.Proofs.Ytljckpecmlnbiaa
/-
  The program's graph in memory; find, Has, Len, Root.
-/
namespace Go.Proofs.Ytljckpecmlnbiaa
open Go Go.Lite Go.RowKit

/-- where a node lies, and its rows -/
structure NM where
  b : Nat
  pA : Option Addr
  pn : Nat
  pc : Nat
  cA : Option Addr
  cn : Nat
  cc : Nat
  rA : Option Addr
  rn : Nat
  rc : Nat
  ws : List Nat
def ncell (h : HT) (m : NM) : Array Value := h.1 ++ #[.slice m.pA m.pn m.pc, .slice m.cA m.cn m.cc, .slice m.rA m.rn m.rc]
theorem ncell_size (h : HT) (m : NM) : (ncell h m).size = 35 := by unfold ncell; rw [Array.size_append, h.2.1]; rfl
theorem ncell_id (h : HT) (m : NM) {j : Nat} {v : Value} (hj : h.1[j]? = some v) : (ncell h m)[j]? = some v := by
  unfold ncell
  rw [Array.getElem?_append_left (Array.getElem?_eq_some_iff.1 hj).1]
  exact hj
theorem ncell_32 (h : HT) (m : NM) : (ncell h m)[32]? = some (.slice m.pA m.pn m.pc) := by
  unfold ncell; rw [Array.getElem?_append_right (by rw [h.2.1]; omega), h.2.1]; rfl
theorem ncell_33 (h : HT) (m : NM) : (ncell h m)[33]? = some (.slice m.cA m.cn m.cc) := by
  unfold ncell; rw [Array.getElem?_append_right (by rw [h.2.1]; omega), h.2.1]; rfl
theorem ncell_34 (h : HT) (m : NM) : (ncell h m)[34]? = some (.slice m.rA m.rn m.rc) := by
  unfold ncell; rw [Array.getElem?_append_right (by rw [h.2.1]; omega), h.2.1]; rfl
theorem ncell_inj {h h' : HT} {m m' : NM} (e : ncell h m = ncell h' m') : h = h' := by
  apply Subtype.ext
  have h1 := h.2.1
  have h2 := h'.2.1
  have := congrArg (fun a : Array Value => a.toList.take 32) e
  unfold ncell at this
  simp only [Array.toList_append] at this
  rw [List.take_left' (by simpa using h1), List.take_left' (by simpa using h2)] at this
  exact Array.ext' this

/-- a node: what it says (ch: its children) -/
structure NodeAt (w : World) (S F : Nat → Prop) (D : DG) (ch : List HT) (nd : DN) (m : NM) : Prop where
  blk : w.heap[m.b]? = some (.cells (ncell nd.id m) T_dag_node (0, 0))
  footB : S m.b
  ps : HS w m.pA m.pn nd.ps
  psF : ∀ a, m.pA = some a → F a.block
  ch : HRow w 0 m.cA m.cn m.cc ch
  chF : ∀ k, blkOf m.cA = some k → S k
  past : US w m.rA m.rn m.ws
  pastF : ∀ a, m.rA = some a → F a.block
  ok : okW m.ws
  bits : ∀ j, bit m.ws j = true ↔ ∃ nj, D[j]? = some nj ∧ Anc D nj.id nd.id
  small : m.rn ≤ 200
/-- a graph: S, what it may change; F, what it reads of and never changes; C, the children -/
structure GV (w : World) (S F : Nat → Prop) (g : Nat) (D : DG) (C : HT → List HT) (bl c mb : Nat) (M : List NM) : Prop where
  top : w.heap[g]? = some (.cells #[.slice (some ⟨bl, 0, none⟩) D.length c, .map (some mb)] T_dag_Graph (0, 0))
  row : Row w 0 T_p_dag_node 1 (some ⟨bl, 0, none⟩) D.length c (M.map fun m => .pointer (some ⟨m.b, 0, none⟩))
  map : IsMap w mb (ids D)
  len : M.length = D.length
  node : ∀ (i : Nat) nd m, D[i]? = some nd → M[i]? = some m → NodeAt w S F D (C nd.id) nd m
  apart : ∀ (i j : Nat) m m', M[i]? = some m → M[j]? = some m' → i ≠ j → ∀ k, blkOf m.cA = some k → blkOf m'.cA ≠ some k
  footG : S g
  footL : S bl
  footM : S mb
  dis : ∀ k, S k → ¬ F k
  low : ∀ k, S k ∨ F k → k < w.heap.size
def IsG (w : World) (S F : Nat → Prop) (g : Nat) (D : DG) : Prop := ∃ bl c mb M, GV w S F g D (childL D) bl c mb M

section
variable {w w' : World} {S F S' F' : Nat → Prop} {g bl c mb : Nat} {D : DG} {C : HT → List HT} {M : List NM} {K : Value → World → Prop}
theorem NodeAt.keep {ch : List HT} {nd : DN} {m : NM} {S0 : Nat → Prop} (h : NodeAt w S F D ch nd m) (hk : Kept S0 w w') (hS : ∀ k, S k → ¬ S0 k) (hF : ∀ k, F k → ¬ S0 k) : NodeAt w' S F D ch nd m :=
  ⟨hk.heap h.blk (hS _ h.footB), h.footB, h.ps.keep hk (fun a ha => hF _ (h.psF a ha)), h.psF, Row.keep h.ch hk (fun k hb => hS k (h.chF k hb)), h.chF, h.past.keep hk (fun a ha => hF _ (h.pastF a ha)), h.pastF, h.ok, h.bits, h.small⟩
theorem GV.keep {S0 : Nat → Prop} (h : GV w S F g D C bl c mb M) (hk : Kept S0 w w') (hS : ∀ k, S k → ¬ S0 k) (hF : ∀ k, F k → ¬ S0 k) : GV w' S F g D C bl c mb M :=
  ⟨hk.heap h.top (hS _ h.footG), Row.keep h.row hk (fun k e => by cases e; exact hS _ h.footL), h.map.keep hk (hS _ h.footM), h.len, fun i nd m h1 h2 => (h.node i nd m h1 h2).keep hk hS hF, h.apart, h.footG, h.footL, h.footM, h.dis, fun k hk' => Nat.lt_of_lt_of_le (h.low k hk') hk.size⟩
theorem GV.same (h : GV w S F g D C bl c mb M) (hk : Kept Nil w w') : GV w' S F g D C bl c mb M := h.keep hk (fun _ _ h => h) (fun _ _ h => h)
theorem IsG.keep {S0 : Nat → Prop} (h : IsG w S F g D) (hk : Kept S0 w w') (hS : ∀ k, S k → ¬ S0 k) (hF : ∀ k, F k → ¬ S0 k) : IsG w' S F g D := let ⟨bl, c, mb, M, h⟩ := h; ⟨bl, c, mb, M, h.keep hk hS hF⟩
theorem IsG.same (h : IsG w S F g D) (hk : Kept Nil w w') : IsG w' S F g D := h.keep hk (fun _ _ h => h) (fun _ _ h => h)
theorem GV.get (h : GV w S F g D C bl c mb M) {i : Nat} {nd : DN} (hi : D[i]? = some nd) : ∃ m, M[i]? = some m ∧ NodeAt w S F D (C nd.id) nd m := by
  have := (List.getElem?_eq_some_iff.1 hi).1
  have hl := h.len
  exact ⟨M[i], List.getElem?_eq_getElem (by omega), h.node i nd _ hi (List.getElem?_eq_getElem (by omega))⟩
theorem GV.nodes (h : GV w S F g D C bl c mb M) : w.cell? ((⟨g, 0, none⟩ : Addr).add 0) = some (.slice (some ⟨bl, 0, none⟩) D.length c) := by rw [add_zero, cell_blk h.top]; rfl
theorem GV.at_ (h : GV w S F g D C bl c mb M) : w.cell? ((⟨g, 0, none⟩ : Addr).add 1) = some (.map (some mb)) := by rw [add_at, cell_blk h.top]; rfl
theorem GV.ptr (h : GV w S F g D C bl c mb M) {i : Nat} {m : NM} (hm : M[i]? = some m) : w.cell? ((⟨bl, 0, none⟩ : Addr).add (i * 1)) = some (.pointer (some ⟨m.b, 0, none⟩)) := by
  rw [add_at, Nat.zero_add, Nat.mul_one]
  exact Row.cell h.row (by rw [List.getElem?_map, hm]; rfl)

theorem dag_there (h : GV w S F g D C bl c mb M) (hK : K (.bool true) w) : Ret Try.prog dag_Graph_there.id #[.pointer (some ⟨g, 0, none⟩)] w K :=
  dag_Graph_there.of (Split.yes rfl ⟨some mb, h.at_, hK⟩)
/-- what find answers -/
def Found (D : DG) (M : List NM) (h : HT) (x : Option Addr) : Prop := (x = none ∧ h ∉ ids D) ∨ ∃ (i : Nat) (nd : DN) (m : NM), D[i]? = some nd ∧ nd.id = h ∧ M[i]? = some m ∧ x = some ⟨m.b, 0, none⟩
theorem Found.isSome {h : HT} {x : Option Addr} (f : Found D M h x) : (!x.isNone) = decide (h ∈ ids D) := by
  rcases f with ⟨rfl, hn⟩ | ⟨i, nd, m, h1, h2, _, rfl⟩
  · rw [decide_eq_false hn]; rfl
  · rw [decide_eq_true (ids_mem.2 ⟨nd, List.mem_of_getElem? h1, h2⟩)]; rfl
theorem dag_find (G : GV w S F g D C bl c mb M) (h : HT) (hK : ∀ w' x, Kept Nil w w' → Found D M h x → K (.pointer x) w') :
    Ret Try.prog dag_Graph_find.id #[.pointer (some ⟨g, 0, none⟩), .agg h.1] w K := by
  refine dag_Graph_find.of ?_
  unfold dag_Graph_find.W
  intro w3
  have k3 : Kept Nil w w3 := (Kept.refl _ _).alloc _
  have hb3 : w3.heap[w.heap.size]? = some (.cells h.1 T_api_Hash (0, 0)) := new_blk w _
  clear_value w3
  refine dag_there (G.same k3) ⟨true, rfl, Split.yes rfl ?_⟩
  intro w7
  have k7 : Kept Nil w3 w7 := (Kept.refl _ _).drew
  clear_value w7
  have kw : Kept Nil w w7 := k3.trans k7 (fun _ _ h => h)
  have G7 := G.same kw
  refine ⟨some mb, G7.at_, h.1, ⟨h.2.1, Cells.blk (k7.heap hb3 (fun h => h))⟩, _, _, G7.map.look h, ?_⟩
  cases hp : pos h (ids D) 0 with
  | none => exact Split.no rfl (hK w7 none kw (.inl ⟨rfl, pos_none.1 hp⟩))
  | some i =>
    obtain ⟨_, hi⟩ := pos_some hp
    obtain ⟨nd, h1, h2⟩ := ids_at hi
    rw [Nat.sub_zero] at h1
    obtain ⟨m, hm, _⟩ := G7.get h1
    have hil := (List.getElem?_eq_some_iff.1 h1).1
    refine Split.yes rfl ⟨_, _, _, G7.nodes, ⟨by simp, by simp only [Option.getD_some]; omega⟩, some ⟨m.b, 0, none⟩, ?_, hK w7 _ kw (.inr ⟨i, nd, m, h1, h2, hm, rfl⟩)⟩
    rw [Option.getD_some, Int.toNat_natCast]
    exact G7.ptr hm
theorem dag_Has (G : GV w S F g D C bl c mb M) (h : HT) (hK : ∀ w', Kept Nil w w' → K (.bool (decide (h ∈ ids D))) w') :
    Ret Try.prog dag_Graph_Has.id #[.pointer (some ⟨g, 0, none⟩), .agg h.1] w K := by
  refine dag_Graph_Has.of ?_
  unfold dag_Graph_Has.W
  intro w3
  have k3 : Kept Nil w w3 := (Kept.refl _ _).alloc _
  have hb3 : w3.heap[w.heap.size]? = some (.cells h.1 T_api_Hash (0, 0)) := new_blk w _
  clear_value w3
  refine ⟨h.1, ⟨h.2.1, Cells.blk hb3⟩, dag_find (G.same k3) h fun w6 x k6 hx => ⟨x, rfl, ?_⟩⟩
  rw [hx.isSome]
  exact hK w6 (k3.trans k6 (fun _ _ h => h))
end
end Go.Proofs.Ytljckpecmlnbiaa
/-
  pick, by each of its three askers. Written by our dg2.py.
-/
namespace Go.Proofs.Ytljckpecmlnbiaa
open Go Go.Lite Go.RowKit
section
variable {w w' : World} {S F : Nat → Prop} {g bl c mb : Nat} {D : DG} {C : HT → List HT} {M : List NM} {K : Value → World → Prop}
/-- pick, asked by the closure of Anticone -/
theorem pick_Anticone (G : GV w S F g D C bl c mb M) (hD : D.length ≤ 10000) {is : HT → Prop} (p0 p1 : Addr)
    (his : ∀ (i : Nat) nd m w' (K' : Value → World → Prop), D[i]? = some nd → M[i]? = some m → Kept Nil w w' → (∀ w'' (x : Bool), (x = true ↔ is nd.id) → Kept Nil w' w'' → K' (.bool x) w'') →
      Ret Try.prog dag_Graph_Anticone_fn1.id #[.int .i64 (i : Int), .pointer (some ⟨m.b, 0, none⟩), .pointer (some p0), .pointer (some p1)] w' K')
    (hK : ∀ A' c' w', HRow w' w.heap.size A' (pick D is).length c' (pick D is) → Kept Nil w w' → K (.slice A' (pick D is).length c') w') :
    Ret Try.prog dag_Graph_pick.id #[.pointer (some ⟨g, 0, none⟩), .func (.func dag_Graph_Anticone_fn1.id) #[] #[.pointer (some p0), .pointer (some p1)]] w K := by
  refine dag_Graph_pick__dag_Graph_Anticone_fn1.of (dag_there G ⟨true, rfl, Split.yes rfl ⟨_, _, _, G.nodes, ?_⟩⟩)
  refine dag_Graph_pick__dag_Graph_Anticone_fn1.loop1 (I := fun s w' => ∃ (i : Nat) (out : List HT) (A : Option Addr) (c : Nat), s = (A, out.length, c, (i : Int)) ∧ i ≤ D.length ∧ GB w w' D is i out A c) (μ := fun s _ => ((D.length : Int) - s.2.2.2).toNat) (s := (none, 0, 0, 0))
    ⟨0, [], none, 0, rfl, Nat.zero_le _, GB.nil (Kept.refl _ _)⟩ ?_
  rintro s w' ⟨i, out, A, c0, rfl, hi, hg⟩
  refine Split.dec (fun hil0 => ?_) (fun hge => ?_)
  · simp only at hil0
    have hil : i < D.length := by omega
    obtain ⟨nd, hnd⟩ : ∃ nd, D[i]? = some nd := ⟨_, List.getElem?_eq_getElem hil⟩
    obtain ⟨m, hm, _⟩ := G.get hnd
    refine ⟨⟨by simp only; omega, by simp only; omega⟩, some ⟨m.b, 0, none⟩, ?_, ?_⟩
    · simp only [Int.toNat_natCast]
      exact (G.same hg.kp).ptr hm
    refine his i nd m w' _ hnd hm hg.kp fun w22 x hx k22 => ⟨x, rfl, ?_⟩
    have hg22 := hg.same k22
    simp -zeta only
    rw [wrapP (n := (i : Int)) (by omega) (by omega)]
    cases x with
    | true =>
      obtain ⟨m', hm', N⟩ := (G.same hg22.kp).get hnd
      rw [hm] at hm'
      cases hm'
      refine Split.yes rfl ⟨nd.id.1, ⟨nd.id.2.1, fun j v hj => ?_⟩, nd.id.2.1, ?_⟩
      · rw [add_zero, add_at, Nat.zero_add, cell_blk N.blk]
        exact ncell_id _ _ hj
      obtain ⟨A', c', v, hr, hgv⟩ := hg22.add hnd (by omega) (hx.1 rfl)
      refine ⟨A', _, c', v, hr, ?_⟩
      exact ⟨(A', out.length + 1, c', (i : Int) + 1), rfl, ⟨i + 1, out ++ [nd.id], A', c', by simp, hil, hgv⟩, by simp only; omega⟩
    | false =>
      refine Split.no rfl ?_
      exact ⟨(A, out.length, c0, (i : Int) + 1), rfl, ⟨i + 1, out, A, c0, rfl, hil, hg22.skip hnd (fun ha => by have := hx.2 ha; cases this)⟩, by simp only; omega⟩
  · simp only at hge
    have : i = D.length := by omega
    subst this
    rw [roundQ_exit, dag_Graph_pick__dag_Graph_Anticone_fn1.x1_0]
    exact hg.sortedP hD fun A' c' w2 row k2 => ⟨A', _, c', rfl, hK A' c' w2 row k2⟩
end
end Go.Proofs.Ytljckpecmlnbiaa
/-
  The program's Before, Parents, Children, Tips, Future, Anticone.
-/
namespace Go.Proofs.Ytljckpecmlnbiaa
open Go Go.Lite Go.RowKit

theorem ptrInfo : ∃ j, Try.prog.info? T_dag_node = some j ∧ j.size ≠ 0 := by
  have h : (match Try.prog.info? T_dag_node with | some j => !(Nat.beq j.size 0) | none => false) = true := by kernel_rfl
  split at h
  · rename_i j hj
    exact ⟨j, hj, fun e => by rw [e] at h; cases h⟩
  · cases h
theorem ptrUnd : Try.prog.underlying T_p_dag_node = some (.pointer T_dag_node) := by kernel_rfl
theorem neq_same (w : World) (a : Addr) : (Go.binOp .neq T_p_dag_node (.pointer (some a)) (.pointer (some a))).run Try.prog w = .ok (.bool false) w := by
  obtain ⟨j, hj, _⟩ := ptrInfo
  have h : ∀ d : Nat, (Op.equalIn (d + 1) T_p_dag_node (.pointer (some a)) (.pointer (some a))).run Try.prog w = .ok true w := fun d => by
    simp [Op.equalIn, run_underlying ptrUnd, sizeOf, typeInfo, hj, run_sameAddr_same]
  simp only [Go.binOp]
  simp [Op.equal, Op.maxDepth, h 9999]
theorem neq_other {w : World} {a b : Addr} {ca cb : Array Value} {ta tb : TypeId} (hne : a ≠ b) (ha : w.heap[a.block]? = some (.cells ca ta (0, 0))) (hb : w.heap[b.block]? = some (.cells cb tb (0, 0))) :
    (Go.binOp .neq T_p_dag_node (.pointer (some a)) (.pointer (some b))).run Try.prog w = .ok (.bool true) w := by
  obtain ⟨j, hj, hsz⟩ := ptrInfo
  have h : ∀ d : Nat, (Op.equalIn (d + 1) T_p_dag_node (.pointer (some a)) (.pointer (some b))).run Try.prog w = .ok false w := fun d => by
    simp [Op.equalIn, run_underlying ptrUnd, sizeOf, typeInfo, hj, hsz, run_sameAddr_other w hne ha hb]
  simp only [Go.binOp]
  simp [Op.equal, Op.maxDepth, h 9999]

section
variable {w w' : World} {S F : Nat → Prop} {g bl c mb : Nat} {D : DG} {C : HT → List HT} {M : List NM} {K : Value → World → Prop}
theorem node_past {D : DG} {nd : DN} {m : NM} {ch : List HT} (N : NodeAt w S F D ch nd m) : w.cell? ((⟨m.b, 0, none⟩ : Addr).add 34) = some (.slice m.rA m.rn m.rc) := by
  rw [add_at, Nat.zero_add, cell_blk N.blk]; exact ncell_34 _ _
theorem node_ch {D : DG} {nd : DN} {m : NM} {ch : List HT} (N : NodeAt w S F D ch nd m) : w.cell? ((⟨m.b, 0, none⟩ : Addr).add 33) = some (.slice m.cA m.cn m.cc) := by
  rw [add_at, Nat.zero_add, cell_blk N.blk]; exact ncell_33 _ _
theorem node_ps {D : DG} {nd : DN} {m : NM} {ch : List HT} (N : NodeAt w S F D ch nd m) : w.cell? ((⟨m.b, 0, none⟩ : Addr).add 32) = some (.slice m.pA m.pn m.pc) := by
  rw [add_at, Nat.zero_add, cell_blk N.blk]; exact ncell_32 _ _
/-- one of the bits, by the hash -/
theorem node_bit {nd na : DN} {m : NM} {ch : List HT} (N : NodeAt w S F D ch nd m) {i : Nat} (ha : D[i]? = some na) : bit m.ws i = true ↔ Anc D na.id nd.id := by
  rw [N.bits i]
  constructor
  · rintro ⟨nj, h1, h2⟩
    rw [ha] at h1
    cases h1
    exact h2
  · exact fun h => ⟨na, ha, h⟩

theorem dag_Before (G : GV w S F g D C bl c mb M) (W : WfD D) (hD : D.length ≤ 10000) (a b : HT) (hK : ∀ w' (x : Bool), (x = true ↔ Anc D a b) → Kept Nil w w' → K (.bool x) w') :
    Ret Try.prog dag_Graph_Before.id #[.pointer (some ⟨g, 0, none⟩), .agg a.1, .agg b.1] w K := by
  refine dag_Graph_Before.of ?_
  unfold dag_Graph_Before.W
  intro w4 w5 w6
  have k4 : Kept Nil w w4 := (Kept.refl _ _).alloc _
  have ha4 : w4.heap[w.heap.size]? = some (.cells a.1 T_api_Hash (0, 0)) := new_blk w _
  have k5 : Kept Nil w4 w5 := (Kept.refl _ _).alloc _
  have hb5 : w5.heap[w4.heap.size]? = some (.cells b.1 T_api_Hash (0, 0)) := new_blk w4 _
  have k6 : Kept Nil w5 w6 := (Kept.refl _ _).drew
  have ha6 := k6.heap (k5.heap ha4 (fun h => h)) (fun h => h)
  have hb6 := k6.heap hb5 (fun h => h)
  have kw6 : Kept Nil w w6 := (k4.trans k5 (fun _ _ h => h)).trans k6 (fun _ _ h => h)
  clear_value w6
  refine ⟨a.1, ⟨a.2.1, Cells.blk ha6⟩, b.1, ⟨b.2.1, Cells.blk hb6⟩, dag_find (G.same kw6) a fun w10 x k10 hx => ⟨x, rfl, ?_⟩⟩
  have kw10 := kw6.trans k10 (fun _ _ h => h)
  refine ⟨⟨b.1, rfl, b.2.1, Cells.blk (k10.heap hb6 (fun h => h))⟩, dag_find (G.same kw10) b fun w13 y k13 hy => ⟨y, rfl, ?_⟩⟩
  intro w15
  have k15 : Kept Nil w13 w15 := (Kept.refl _ _).drew
  clear_value w15
  have k1315 : Kept Nil w10 w15 := k13.trans k15 (fun _ _ h => h)
  have kw15 := kw10.trans k1315 (fun _ _ h => h)
  have G15 := G.same kw15
  rcases hx with ⟨rfl, hn⟩ | ⟨i, na, ma, h1, rfl, h3, rfl⟩
  · exact Split.no rfl (hK w15 false ⟨(fun h => by cases h), fun h => absurd (h.mem W).1 hn⟩ kw15)
  · refine Split.yes rfl ?_
    rcases hy with ⟨rfl, hn⟩ | ⟨j, nb, m', h1', rfl, h3', rfl⟩
    · exact Split.no rfl (hK w15 false ⟨(fun h => by cases h), fun h => absurd (h.mem W).2 hn⟩ kw15)
    · obtain ⟨m, hm, N⟩ := G15.get h1'
      rw [h3'] at hm
      cases hm
      have hil := (List.getElem?_eq_some_iff.1 h1).1
      refine Split.yes rfl ⟨_, _, _, node_past N, ⟨some mb, G15.at_, na.id.1, ⟨na.id.2.1, Cells.blk (k1315.heap (k10.heap ha6 (fun h => h)) (fun h => h))⟩, _, G15.map.look1 na.id, ?_⟩⟩
      rw [W.pos_eq h1, Option.getD_some]
      refine row_has_ok N.past N.ok (by omega) ⟨_, rfl, hK w15 _ (node_bit N h1) kw15⟩

theorem dag_Anticone (G : GV w S F g D C bl c mb M) (W : WfD D) (hD : D.length ≤ 10000) (h : HT)
    (hK : ∀ A' c' w', HRow w' w.heap.size A' (antiL D h).length c' (antiL D h) → Kept Nil w w' → K (.slice A' (antiL D h).length c') w') :
    Ret Try.prog dag_Graph_Anticone.id #[.pointer (some ⟨g, 0, none⟩), .agg h.1] w K := by
  refine dag_Graph_Anticone.of ?_
  unfold dag_Graph_Anticone.W
  intro w3
  have k3 : Kept Nil w w3 := (Kept.refl _ _).alloc _
  have hb3 : w3.heap[w.heap.size]? = some (.cells h.1 T_api_Hash (0, 0)) := new_blk w _
  clear_value w3
  refine ⟨h.1, ⟨h.2.1, Cells.blk hb3⟩, dag_find (G.same k3) h fun w6 x k6 hx => ⟨x, rfl, ?_⟩⟩
  have kw6 := k3.trans k6 (fun _ _ h => h)
  intro w8
  have hb8 : w8.heap[w6.heap.size]? = some (.cells #[.pointer none] T_p_dag_node (0, 0)) := new_blk w6 _
  have k8 : Kept Nil w6 w8 := (Kept.refl _ _).alloc _
  clear_value w8
  refine ⟨wr_blk hb8 (by simp), ?_⟩
  intro w9
  have k9 : Kept (· = w6.heap.size) w8 w9 := Kept.setCell (S := fun k => k = w6.heap.size) (Kept.refl _ w8) (p := ⟨w6.heap.size, 0, none⟩) (fun _ => rfl) _
  have hb9 : w9.heap[w6.heap.size]? = some (.cells #[.pointer x] T_p_dag_node (0, 0)) := set_blk hb8 0 _
  clear_value w9
  have k69 : Kept Nil w6 w9 := k8.trans k9 (fun k hk e => by omega)
  have kw9 := kw6.trans k69 (fun _ _ h => h)
  refine ⟨x, by rw [cell_blk hb9]; rfl, ?_⟩
  rcases hx with ⟨rfl, hn⟩ | ⟨i, nh, mh, hi, rfl, hmh, rfl⟩
  · refine Split.yes rfl ?_
    have e : antiL D h = [] := by
      cases hc : antiL D h with
      | nil => rfl
      | cons b l => exact absurd (mem_pick.1 (show b ∈ antiL D h by rw [hc]; simp)).2.1 hn
    have := hK none 0 w9 (by rw [e]; exact HRow.nil _ _) kw9
    rw [e] at this
    exact this
  refine Split.no rfl ?_
  intro w11
  have k11 : Kept Nil w9 w11 := (Kept.refl _ _).drew
  clear_value w11
  have kw11 := kw9.trans k11 (fun _ _ h => h)
  have G11 := G.same kw11
  have hb11 := k11.heap (k69.heap (k6.heap hb3 (fun h => h)) (fun h => h)) (fun h => h)
  have hx11 := k11.heap hb9 (fun h => h)
  have hil := (List.getElem?_eq_some_iff.1 hi).1
  have hmem : nh.id ∈ ids D := ids_mem.2 ⟨nh, List.mem_of_getElem? hi, rfl⟩
  refine ⟨some mb, G11.at_, nh.id.1, ⟨nh.id.2.1, Cells.blk hb11⟩, _, G11.map.look1 nh.id, ?_⟩
  rw [W.pos_eq hi, Option.getD_some]
  intro w16
  have k16 : Kept Nil w11 w16 := (Kept.refl _ _).alloc _
  have hb16 : w16.heap[w11.heap.size]? = some (.cells #[.int .i64 0] T_int (0, 0)) := new_blk w11 _
  clear_value w16
  have G16 := G11.same k16
  have hl16 := G16.map.look1 nh.id
  rw [W.pos_eq hi, Option.getD_some] at hl16
  refine ⟨hl16, ⟨nh.id.1, rfl, nh.id.2.1, Cells.blk (k16.heap hb11 (fun h => h))⟩, G16.at_, wr_blk hb16 (by simp), ?_⟩
  intro w17
  have k17 : Kept (· = w11.heap.size) w16 w17 := Kept.setCell (S := fun k => k = w11.heap.size) (Kept.refl _ w16) (p := ⟨w11.heap.size, 0, none⟩) (fun _ => rfl) _
  have hb17 : w17.heap[w11.heap.size]? = some (.cells #[.int .i64 (i : Int)] T_int (0, 0)) := set_blk hb16 0 _
  clear_value w17
  have k1117 : Kept Nil w11 w17 := k16.trans k17 (fun k hk e => by omega)
  have kw17 := kw11.trans k1117 (fun _ _ h => h)
  have hx17 := k1117.heap hx11 (fun h => h)
  refine pick_Anticone (G.same kw17) hD (is := fun a => nh.id ∈ ids D ∧ a ≠ nh.id ∧ ¬ Anc D a nh.id ∧ ¬ Anc D nh.id a) ⟨w6.heap.size, 0, none⟩ ⟨w11.heap.size, 0, none⟩ (fun j nd m w' K' h1 h2 k hk => ?_) fun A' c' w' row k => ⟨A', _, c', rfl, hK A' c' w' (Row.base row fun b hb => Nat.le_trans kw17.size (Row.blk row hb).1) (kw17.trans k (fun _ _ h => h))⟩
  have hjl := (List.getElem?_eq_some_iff.1 h1).1
  refine dag_Graph_Anticone_fn1.of ?_
  unfold dag_Graph_Anticone_fn1.W
  intro w5
  have k5 : Kept Nil w' w5 := (Kept.refl _ _).drew
  clear_value w5
  have kk := k.trans k5 (fun _ _ h => h)
  have G5 := (G.same kw17).same kk
  obtain ⟨m', hm', N⟩ := G5.get h1
  rw [h2] at hm'
  cases hm'
  obtain ⟨m'', hm'', Nh⟩ := G5.get hi
  rw [hmh] at hm''
  cases hm''
  refine ⟨_, by rw [cell_blk (kk.heap hx17 (fun h => h))]; rfl, ?_⟩
  by_cases hij : j = i
  · subst hij
    rw [hi] at h1
    cases h1
    rw [hmh] at h2
    cases h2
    refine ⟨false, neq_same _ _, Split.no rfl (hk w5 false ?_ k5)⟩
    exact ⟨(fun h => by cases h), fun h => absurd rfl h.2.1⟩
  · have hne : nd.id ≠ nh.id := fun e => hij (W.inj h1 hi e)
    have hbne : (⟨m.b, 0, none⟩ : Addr) ≠ ⟨mh.b, 0, none⟩ := fun e => by
      have e' : m.b = mh.b := congrArg Addr.block e
      have hb := N.blk
      rw [e', Nh.blk] at hb
      simp only [Option.some.injEq, Obj.cells.injEq] at hb
      exact hne (ncell_inj hb.1).symm
    refine ⟨true, neq_other hbne N.blk Nh.blk, Split.yes rfl ⟨_, _, _, node_past N, (i : Int), by rw [cell_blk (kk.heap hb17 (fun h => h))]; rfl, ?_⟩⟩
    refine row_has_ok N.past N.ok (by omega) ⟨_, rfl, ?_⟩
    cases hb1 : bit m.ws i with
    | true =>
      have ha := (node_bit N hi).1 hb1
      exact Split.no rfl (hk w5 false ⟨(fun h => by cases h), fun h => absurd ha h.2.2.2⟩ k5)
    | false =>
      have hna : ¬ Anc D nh.id nd.id := fun h => by rw [(node_bit N hi).2 h] at hb1; cases hb1
      refine Split.yes rfl ⟨some ⟨mh.b, 0, none⟩, by rw [cell_blk (kk.heap hx17 (fun h => h))]; rfl, _, _, _, node_past Nh, ?_⟩
      refine row_has_ok Nh.past Nh.ok (by omega) ⟨_, rfl, hk w5 _ ?_ k5⟩
      rw [Bool.not_eq_true', ← Bool.not_eq_true, node_bit Nh h1]
      exact ⟨fun h => ⟨hmem, hne, h, hna⟩, fun h => h.2.2.1⟩
end
end Go.Proofs.Ytljckpecmlnbiaa
/-
  The program's Past.
-/
namespace Go.Proofs.Ytljckpecmlnbiaa
open Go Go.Lite Go.RowKit

def idAt (D : DG) (j : Nat) : HT := match D[j]? with | some nd => nd.id | none => default
theorem nums_nodup : ∀ (ws : List Nat) (k : Nat), okW ws → (nums k ws).Nodup
  | [], _, _ => List.Pairwise.nil
  | x :: ws, k, ho => by
    have hx := ho x (by simp)
    have ho' : okW ws := fun y hy => ho y (by simp [hy])
    obtain ⟨_, h2, h3⟩ := lows_spec x hx
    rw [nums, List.nodup_append]
    refine ⟨List.Pairwise.map _ (fun a b hab e => hab (by omega)) h2, nums_nodup ws (k + 1) ho', fun a ha b hb e => ?_⟩
    rw [List.mem_map] at ha
    obtain ⟨t, ht, rfl⟩ := ha
    have := ((mem_nums ws (k + 1) b ho').1 hb).1
    have := h3 t ht
    omega

section
variable {w w' : World} {S F : Nat → Prop} {g bl c mb : Nat} {D : DG} {C : HT → List HT} {M : List NM} {K : Value → World → Prop}
end
end Go.Proofs.Ytljckpecmlnbiaa
/-
  Are all there? And a node whose children are laid anew.
-/
namespace Go.Proofs.Ytljckpecmlnbiaa
open Go Go.Lite Go.RowKit

section
variable {w w' : World} {S F : Nat → Prop} {g bl c mb gb : Nat} {D : DG} {C : HT → List HT} {M : List NM} {K : Value → World → Prop}
theorem contains_ok (G : GV w S F g D C bl c mb M) (hg : w.heap[gb]? = some (.cells #[.pointer (some ⟨g, 0, none⟩)] T_p_dag_Graph (0, 0))) {A : Option Addr} {n cx : Nat} {l : List HT} (hl : HS w A n l) (hn : n ≤ 400000)
    (hK : ∀ w' (x : Bool), (x = true ↔ ∃ p ∈ l, p ∉ ids D) → Kept Nil w w' → K (.bool x) w') :
    Ret Try.prog slices_ContainsFunc_of_api_Hash.id #[.slice A n cx, .func (.func dag_Graph_Add_fn1.id) #[] #[.pointer (some ⟨gb, 0, none⟩)]] w K := by
  have hlen := hl.len
  refine slices_ContainsFunc_of_api_Hash__dag_Graph_Add_fn1.of (slices_IndexFunc_of_api_Hash__dag_Graph_Add_fn1.of ?_)
  refine slices_IndexFunc_of_api_Hash__dag_Graph_Add_fn1.loop1 (I := fun s w' => ∃ i : Nat, s = (0, (i : Int)) ∧ i ≤ n ∧ (∀ p ∈ l.take i, p ∈ ids D) ∧ Kept Nil w w') (μ := fun s _ => ((n : Int) - s.2).toNat) (s := (0, 0)) ⟨0, rfl, Nat.zero_le _, by simp, Kept.refl _ _⟩ ?_
  rintro s w' ⟨i, rfl, hi, hall, kw⟩
  refine Split.dec (fun hil0 => ?_) (fun hge => ?_)
  · simp only at hil0
    have hil : i < n := by omega
    obtain ⟨x, hx⟩ : ∃ x, l[i]? = some x := ⟨_, List.getElem?_eq_getElem (by omega)⟩
    refine (hl.same kw).load (i := (i : Int)) (by omega) hx ?_
    refine dag_Graph_Add_fn1.of ?_
    unfold dag_Graph_Add_fn1.W
    intro w3
    have k3 : Kept Nil w' w3 := (Kept.refl _ _).alloc _
    have hb3 : w3.heap[w'.heap.size]? = some (.cells x.1 T_api_Hash (0, 0)) := new_blk w' _
    clear_value w3
    have kw3 := kw.trans k3 (fun _ _ h => h)
    refine ⟨some ⟨g, 0, none⟩, by rw [cell_blk (kw3.heap hg (fun h => h))]; rfl, x.1, ⟨x.2.1, Cells.blk hb3⟩, dag_Has (G.same kw3) x fun w7 k7 => ⟨_, rfl, _, rfl, ?_⟩⟩
    have kw7 := kw3.trans k7 (fun _ _ h => h)
    by_cases hm : x ∈ ids D
    · refine Split.no (by rw [decide_eq_true hm]; rfl) ?_
      simp only
      rw [wrapP (n := (i : Int)) (by omega) (by omega)]
      refine ⟨(0, (i : Int) + 1), rfl, ⟨i + 1, rfl, hil, fun p hp => ?_, kw7⟩, by simp only; omega⟩
      rcases (mem_take_succ hx).1 hp with hp | rfl
      · exact hall p hp
      · exact hm
    · refine Split.yes (by rw [decide_eq_false hm]; rfl) ?_
      refine ⟨(i : Int), rfl, ?_⟩
      exact hK w7 _ ⟨fun _ => ⟨x, List.mem_of_getElem? hx, hm⟩, fun _ => decide_eq_true (by omega)⟩ kw7
  · simp only at hge
    rw [roundQ_exit, slices_IndexFunc_of_api_Hash__dag_Graph_Add_fn1.x1_0]
    rw [List.take_of_length_le (by omega)] at hall
    exact ⟨-1, rfl, hK w' _ ⟨fun h => absurd (of_decide_eq_true h) (by omega), fun ⟨p, hp, hn⟩ => absurd (hall p hp) hn⟩ kw⟩

theorem ne_typ {w : World} {a b : Nat} {ca cb : Array Value} {ta tb : TypeId} {fa fb : Nat × Nat} (ha : w.heap[a]? = some (.cells ca ta fa)) (hb : w.heap[b]? = some (.cells cb tb fb)) (hne : ta ≠ tb) : a ≠ b := by
  rintro rfl
  rw [ha] at hb
  simp only [Option.some.injEq, Obj.cells.injEq] at hb
  exact hne hb.2.1
/-- a node's children are laid anew -/
theorem GV.upd (G : GV w S F g D C bl c mb M) (W : WfD D) {q : Nat} {nd : DN} {m : NM} (hq : D[q]? = some nd) (hm : M[q]? = some m) {A5 : Option Addr} {n5 c5 : Nat} {ch' : List HT}
    (kT : Kept (fun k => blkOf m.cA = some k ∨ k = m.b) w w') (hb : w'.heap[m.b]? = some (.cells (ncell nd.id { m with cA := A5, cn := n5, cc := c5 }) T_dag_node (0, 0))) (hrow : HRow w' w.heap.size A5 n5 c5 ch') :
    GV w' (fun k => S k ∨ blkOf A5 = some k) F g D (fun x => if x = nd.id then ch' else C x) bl c mb (M.set q { m with cA := A5, cn := n5, cc := c5 }) := by
  have N := G.node q nd m hq hm
  have hql : q < M.length := (List.getElem?_eq_some_iff.1 hm).1
  have hch : ∀ k, blkOf m.cA = some k → ∃ cur, w.heap[k]? = some (.cells cur T_api_Hash (0, 0)) := fun k hk => (Row.blk N.ch hk).2
  have hF : ∀ k, F k → ¬ (blkOf m.cA = some k ∨ k = m.b) := fun k hk e => by
    rcases e with e | rfl
    · exact G.dis k (N.chF k e) hk
    · exact G.dis _ N.footB hk
  have typ : ∀ {k : Nat} {cs : Array Value} {t : TypeId}, w.heap[k]? = some (.cells cs t (0, 0)) → t ≠ T_api_Hash → t ≠ T_dag_node → ¬ (blkOf m.cA = some k ∨ k = m.b) := fun h h1 h2 e => by
    rcases e with e | rfl
    · obtain ⟨cur, hc⟩ := hch _ e
      exact ne_typ h hc h1 rfl
    · exact ne_typ h N.blk h2 rfl
  have hA5 : ∀ k, blkOf A5 = some k → w.heap.size ≤ k := fun k hk => (Row.blk hrow hk).1
  have hget : ∀ (i : Nat) m', (M.set q { m with cA := A5, cn := n5, cc := c5 })[i]? = some m' → (i = q ∧ m' = { m with cA := A5, cn := n5, cc := c5 }) ∨ (i ≠ q ∧ M[i]? = some m') := fun i m' h => by
    by_cases e : i = q
    · subst e
      rw [List.getElem?_set_self hql] at h
      exact .inl ⟨rfl, (Option.some.inj h).symm⟩
    · rw [List.getElem?_set_ne (Ne.symm e)] at h
      exact .inr ⟨e, h⟩
  refine ⟨?_, ?_, ?_, by simpa using G.len, ?_, ?_, .inl G.footG, .inl G.footL, .inl G.footM, ?_, ?_⟩
  · exact kT.heap G.top (typ G.top (by decide) (by decide))
  · have hmap : (M.set q { m with cA := A5, cn := n5, cc := c5 }).map (fun m => Value.pointer (some ⟨m.b, 0, none⟩)) = M.map fun m => Value.pointer (some ⟨m.b, 0, none⟩) := by
      apply List.ext_getElem?
      intro i
      rw [List.getElem?_map, List.getElem?_map]
      by_cases e : i = q
      · subst e
        rw [List.getElem?_set_self hql, hm]
        rfl
      · rw [List.getElem?_set_ne (Ne.symm e)]
    rw [hmap]
    refine Row.keep G.row kT (fun k e => ?_)
    cases e
    obtain ⟨_, cur, hc⟩ := Row.blk G.row (k := bl) rfl
    exact typ hc (by decide) (by decide)
  · refine G.map.keep kT (fun e => ?_)
    obtain ⟨es, clock, hmp, _⟩ := G.map.ex
    rcases e with e | e
    · obtain ⟨cur, hc⟩ := hch _ e
      rw [hc] at hmp; cases hmp
    · rw [e, N.blk] at hmp; cases hmp
  · intro i nd' m' hi hm'
    rcases hget i m' hm' with ⟨rfl, rfl⟩ | ⟨hne, hm''⟩
    · rw [hq] at hi
      cases hi
      rw [if_pos rfl]
      exact ⟨hb, .inl N.footB, N.ps.keep kT (fun a ha => hF _ (N.psF a ha)), N.psF, Row.base hrow (fun _ _ => Nat.zero_le _), fun k hk => .inr hk, N.past.keep kT (fun a ha => hF _ (N.pastF a ha)), N.pastF, N.ok, N.bits, N.small⟩
    · have N' := G.node i nd' m' hi hm''
      have hid : nd'.id ≠ nd.id := fun e => hne (W.inj hi hq e)
      rw [if_neg hid]
      have hbne : m'.b ≠ m.b := fun e => by
        have h1 := N'.blk
        rw [e, N.blk] at h1
        simp only [Option.some.injEq, Obj.cells.injEq] at h1
        exact hid (ncell_inj h1.1).symm
      refine ⟨kT.heap N'.blk (fun e => ?_), .inl N'.footB, N'.ps.keep kT (fun a ha => hF _ (N'.psF a ha)), N'.psF, Row.keep N'.ch kT (fun k hk e => ?_), fun k hk => .inl (N'.chF k hk), N'.past.keep kT (fun a ha => hF _ (N'.pastF a ha)), N'.pastF, N'.ok, N'.bits, N'.small⟩
      · rcases e with e | e
        · obtain ⟨cur, hc⟩ := hch _ e
          exact ne_typ N'.blk hc (by decide) rfl
        · exact hbne e
      · rcases e with e | rfl
        · exact G.apart i q m' m hm'' hm hne k hk e
        · obtain ⟨cur, hc⟩ := (Row.blk N'.ch hk).2
          exact ne_typ hc N.blk (by decide) rfl
  · intro i j m1 m2 h1 h2 hij k hk1 hk2
    rcases hget i m1 h1 with ⟨rfl, rfl⟩ | ⟨hi, h1'⟩
    · rcases hget j m2 h2 with ⟨rfl, rfl⟩ | ⟨hj, h2'⟩
      · exact hij rfl
      · have := hA5 k hk1
        have hjl : j < D.length := by rw [← G.len]; exact (List.getElem?_eq_some_iff.1 h2').1
        obtain ⟨cur, hc⟩ := (Row.blk (G.node j _ m2 (List.getElem?_eq_getElem hjl) h2').ch hk2).2
        have := lt_blk hc
        omega
    · rcases hget j m2 h2 with ⟨rfl, rfl⟩ | ⟨hj, h2'⟩
      · have := hA5 k hk2
        have hil : i < D.length := by rw [← G.len]; exact (List.getElem?_eq_some_iff.1 h1').1
        obtain ⟨cur, hc⟩ := (Row.blk (G.node i _ m1 (List.getElem?_eq_getElem hil) h1').ch hk1).2
        have := lt_blk hc
        omega
      · exact G.apart i j m1 m2 h1' h2' hij k hk1 hk2
  · intro k hk hf
    rcases hk with hk | hk
    · exact G.dis k hk hf
    · have := hA5 k hk
      have := G.low k (.inr hf)
      omega
  · intro k hk
    rcases hk with (hk | hk) | hk
    · exact Nat.lt_of_lt_of_le (G.low k (.inl hk)) kT.size
    · obtain ⟨cur, hc⟩ := (Row.blk hrow hk).2
      exact lt_blk hc
    · exact Nat.lt_of_lt_of_le (G.low k (.inr hk)) kT.size
end
end Go.Proofs.Ytljckpecmlnbiaa
/-
  The program's Add: the loop over the parents.
-/
namespace Go.Proofs.Ytljckpecmlnbiaa
open Go Go.Lite Go.RowKit

theorem ncell_set33 (h : HT) (m : NM) (A : Option Addr) (n c : Nat) : (ncell h m).setIfInBounds 33 (.slice A n c) = ncell h { m with cA := A, cn := n, cc := c } := by
  have hs := h.2.1
  apply Array.ext_getElem?
  intro i
  unfold ncell
  rw [Array.getElem?_setIfInBounds, Array.getElem?_append, Array.getElem?_append]
  by_cases h1 : i < h.1.size
  · rw [if_neg (by omega), if_pos h1, if_pos h1]
  · rw [if_neg h1, if_neg h1]
    by_cases h2 : i = 33
    · subst h2
      rw [if_pos rfl, if_pos (by simp; omega), hs]
      rfl
    · rw [if_neg (Ne.symm h2), hs]
      match i - 32, show i - 32 ≠ 1 by omega with
      | 0, _ => rfl
      | 2, _ => rfl
      | (k + 3), _ => rfl
theorem ncell_set34 (h : HT) (m : NM) (A : Option Addr) (n c : Nat) : (ncell h m).setIfInBounds 34 (.slice A n c) = ncell h { m with rA := A, rn := n, rc := c } := by
  have hs := h.2.1
  apply Array.ext_getElem?
  intro i
  unfold ncell
  rw [Array.getElem?_setIfInBounds, Array.getElem?_append, Array.getElem?_append]
  by_cases h1 : i < h.1.size
  · rw [if_neg (by omega), if_pos h1, if_pos h1]
  · rw [if_neg h1, if_neg h1]
    by_cases h2 : i = 34
    · subst h2
      rw [if_pos rfl, if_pos (by simp; omega), hs]
      rfl
    · rw [if_neg (Ne.symm h2), hs]
      match i - 32, show i - 32 ≠ 2 by omega with
      | 0, _ => rfl
      | 1, _ => rfl
      | (k + 3), _ => rfl
theorem ncell_ws (h : HT) (m : NM) (ws : List Nat) : ncell h { m with ws := ws } = ncell h m := rfl

section
variable {w w0 w' : World} {S F F1 S' : Nat → Prop} {g bl c mb gb ib nb : Nat} {D : DG} {C : HT → List HT} {M : List NM} {K : Value → World → Prop}
/-- the children, as far as the loop has come -/
noncomputable def kidsTo (D : DG) (h : HT) (l : List HT) : HT → List HT := fun x => if x ∈ l then srt (childL D x ++ [h]) else childL D x
/-- the loop of Add, i parents done -/
structure AL (w0 w' : World) (S F1 S' : Nat → Prop) (g : Nat) (D : DG) (h : HT) (l : List HT) (gb ib nb : Nat) (pA : Option Addr) (pc i bl c mb : Nat) (M : List NM) (rA : Option Addr) (rn rc : Nat) (ws : List Nat) : Prop where
  G : GV w' S' F1 g D (kidsTo D h (l.take i)) bl c mb M
  sub : ∀ k, S k → S' k
  new : ∀ k, S' k → S k ∨ w0.heap.size ≤ k
  node : w'.heap[nb]? = some (.cells (ncell h ⟨nb, pA, l.length, pc, none, 0, 0, rA, rn, rc, ws⟩) T_dag_node (0, 0))
  noN : ¬ S' nb
  row : URow w' nb rA rn rc ws
  ok : okW ws
  small : rn ≤ 200
  noR : ∀ k, blkOf rA = some k → ¬ S' k
  bits : ∀ j, bit ws j = true ↔ ∃ p ∈ l.take i, ∃ nj, D[j]? = some nj ∧ (nj.id = p ∨ Anc D nj.id p)
  gbx : w'.heap[gb]? = some (.cells #[.pointer (some ⟨g, 0, none⟩)] T_p_dag_Graph (0, 0))
  ibx : w'.heap[ib]? = some (.cells h.1 T_api_Hash (0, 0))
  noG : ¬ S' gb
  noI : ¬ S' ib
  hl : HS w' pA l.length l
  kp : Kept S w0 w'

theorem add_round {h : HT} {l : List HT} {pA : Option Addr} {pc i : Nat} {rA : Option Addr} {rn rc : Nat} {ws : List Nat} {Q : Post}
    (L : AL w0 w' S F1 S' g D h l gb ib nb pA pc i bl c mb M rA rn rc ws) (W : WfD D) (hD : D.length ≤ 10000) (hss : SS l) (hin : ∀ p ∈ l, p ∈ ids D) (hF1 : ∀ k, F1 k → k < nb) (hpF : ∀ a, pA = some a → F1 a.block) (h0 : w0.heap.size ≤ nb) (hil : i < l.length) (hll : l.length ≤ 10000)
    (hQ : ∀ S2 M rA rn rc ws v, AL w0 v S F1 S2 g D h l gb ib nb pA pc (i + 1) bl c mb M rA rn rc ws → Q .normal (dag_Graph_Add.e1 ⟨gb, 0, none⟩ ⟨ib, 0, none⟩ 0 ⟨nb, 0, none⟩ pA l.length pc (l.length : Int) ((i : Int) + 1)) v) :
    dag_Graph_Add.B1 ⟨gb, 0, none⟩ ⟨ib, 0, none⟩ 0 ⟨nb, 0, none⟩ pA l.length pc (l.length : Int) (i : Int) Q w' := by
  obtain ⟨p, hp⟩ : ∃ p, l[i]? = some p := ⟨_, List.getElem?_eq_getElem hil⟩
  have hpl := List.mem_of_getElem? hp
  have hpid := hin p hpl
  refine Split.yes (decide_eq_true (by omega)) ?_
  refine L.hl.load (i := (i : Int)) (by omega) hp ?_
  intro w33
  obtain ⟨hwr, hbx, hkx⟩ := box_set (w := w') (z := (#[.int .u8 0, .int .u8 0, .int .u8 0, .int .u8 0, .int .u8 0, .int .u8 0, .int .u8 0, .int .u8 0, .int .u8 0, .int .u8 0, .int .u8 0, .int .u8 0, .int .u8 0, .int .u8 0, .int .u8 0, .int .u8 0, .int .u8 0, .int .u8 0, .int .u8 0, .int .u8 0, .int .u8 0, .int .u8 0, .int .u8 0, .int .u8 0, .int .u8 0, .int .u8 0, .int .u8 0, .int .u8 0, .int .u8 0, .int .u8 0, .int .u8 0, .int .u8 0] : Array Value)) (cs := p.1) (t := T_api_Hash) (by rw [p.2.1]; rfl)
  refine ⟨⟨p.2.1, p.2.one, fun j hj => hwr j (by rw [p.2.1]; exact hj)⟩, ?_⟩
  intro w36
  replace hbx : w36.heap[w'.heap.size]? = some (.cells p.1 T_api_Hash (0, 0)) := hbx
  replace k36 : Kept Nil w' w36 := hkx
  clear_value w36
  refine ⟨some ⟨g, 0, none⟩, by rw [cell_blk (k36.heap L.gbx (fun h => h))]; rfl, p.1, ⟨p.2.1, Cells.blk hbx⟩, ?_⟩
  refine dag_find (L.G.same k36) p fun w40 x k40 hx => ⟨x, rfl, ?_⟩
  rcases hx with ⟨rfl, hno⟩ | ⟨q, nd, m', hq, hnd, hm', rfl⟩
  · exact absurd hpid hno
  intro w42
  have k42 : Kept Nil w' w42 := (k36.trans k40 (fun _ _ h => h)).drew
  have hbx42 : w42.heap[w'.heap.size]? = some (.cells p.1 T_api_Hash (0, 0)) := k40.heap hbx (fun h => h)
  clear_value w42
  have hs42 := k42.size
  have G42 := L.G.same k42
  obtain ⟨m, hm, N42⟩ := G42.get hq
  rw [hm'] at hm
  cases hm
  have hn42 := k42.heap L.node (fun h => h)
  have row42 : URow w42 nb rA rn rc ws := Row.keep L.row k42 (fun _ _ h => h)
  refine ⟨rA, rn, rc, by rw [add_at, Nat.zero_add, cell_blk hn42]; exact ncell_34 _ _, ?_⟩
  refine ⟨_, _, _, node_past N42, some ⟨g, 0, none⟩, by rw [cell_blk (k42.heap L.gbx (fun h => h))]; rfl, ?_⟩
  refine ⟨some mb, G42.at_, p.1, ⟨p.2.1, Cells.blk hbx42⟩, _, G42.map.look1 p, ?_⟩
  rw [show pos p (ids D) 0 = some q by rw [← hnd]; exact W.pos_eq hq, Option.getD_some]
  have hql := (List.getElem?_eq_some_iff.1 hq).1
  have hsm := N42.small
  have hsmr := L.small
  -- the rows' blocks
  have hrA : ∀ k, blkOf rA = some k → nb ≤ k ∧ k < w'.heap.size := fun k hk => by
    obtain ⟨h1, cur, hc⟩ := Row.blk L.row hk
    exact ⟨h1, lt_blk hc⟩
  have hnbl : nb < w'.heap.size := lt_blk L.node
  have tyR : ∀ {v : World} {A : Option Addr} {n c : Nat} {l : List Nat} {B : Nat}, URow v B A n c l → ∀ {k : Nat} {cs : Array Value} {t : TypeId}, v.heap[k]? = some (.cells cs t (0, 0)) → t ≠ T_uint64 → ¬ blkOf A = some k := fun hr _ _ _ hk hne e => by
    obtain ⟨_, cur, hc⟩ := Row.blk hr e
    exact ne_typ hk hc hne rfl
  refine row_or_ok row42 L.ok (by omega) (by omega) N42.past N42.ok (by omega) (fun a ha k hk e => ?_) fun A2 n2 c2 l2 w52 row52 ho52 hn52 hbit52 k52 hb52 => ⟨A2, n2, c2, rfl, ?_⟩
  · have h1 := hF1 a.block (N42.pastF a ha)
    have h2 := (hrA k hk).1
    omega
  have hnF : ∀ k, F1 k → ¬ blkOf rA = some k := fun k hk e => by have := hF1 k hk; have := (hrA k e).1; omega
  have G52 := G42.keep k52 (fun k hk e => L.noR k e hk) hnF
  have hbx52 := k52.heap hbx42 (tyR row42 hbx42 (by decide))
  have hg42 := k42.heap L.gbx (fun h => h)
  have hg52 := k52.heap hg42 (tyR row42 hg42 (by decide))
  have hi42 := k42.heap L.ibx (fun h => h)
  have hi52 := k52.heap hi42 (tyR row42 hi42 (by decide))
  have hn52' := k52.heap hn42 (tyR row42 hn42 (by decide))
  have hs52 := k52.size
  have hl52 := G52.map.look1 p
  rw [show pos p (ids D) 0 = some q by rw [← hnd]; exact W.pos_eq hq, Option.getD_some] at hl52
  refine ⟨hl52, ⟨p.1, rfl, p.2.1, Cells.blk hbx52⟩, G52.at_, by rw [cell_blk hg52]; rfl, ?_⟩
  have hA2 : ∀ k, blkOf A2 = some k → blkOf rA = some k ∨ w42.heap.size ≤ k := hb52
  refine row_with_ok row52 ho52 (by omega) (by omega) (by omega) fun A3 n3 c3 l3 w55 row55 ho55 hn55 hbit55 k55 hb55 => ⟨A3, n3, c3, rfl, ?_⟩
  have hnoA2S : ∀ k, blkOf A2 = some k → ¬ S' k := fun k hk hs => by
    rcases hA2 k hk with h | h
    · exact L.noR k h hs
    · have := L.G.low k (.inl hs); omega
  have hnoA2F : ∀ k, F1 k → ¬ blkOf A2 = some k := fun k hf hk => by
    have := hF1 k hf
    have := (Row.blk row52 hk).1
    omega
  have G55 := G52.keep k55 (fun k hk e => hnoA2S k e hk) hnoA2F
  have hg55 := k55.heap hg52 (tyR row52 hg52 (by decide))
  have hi55 := k55.heap hi52 (tyR row52 hi52 (by decide))
  have hn55' := k55.heap hn52' (tyR row52 hn52' (by decide))
  have hs55 := k55.size
  have hsz35 := ncell_size h ⟨nb, pA, l.length, pc, none, 0, 0, rA, rn, rc, ws⟩
  refine ⟨by rw [add_at, Nat.zero_add]; exact wr_blk hn55' (by omega), ?_⟩
  intro w57 w58
  have k57 : Kept (· = nb) w55 w57 := by
    show Kept (· = nb) w55 (w55.setCell ((⟨nb, 0, none⟩ : Addr).add 34) (.slice A3 n3 c3))
    exact Kept.setCell (S := fun k => k = nb) (Kept.refl _ w55) (by rw [addr_block]; exact fun _ => rfl) _
  have hn57 : w57.heap[nb]? = some (.cells (ncell h ⟨nb, pA, l.length, pc, none, 0, 0, A3, n3, c3, l3⟩) T_dag_node (0, 0)) := by
    show (w55.setCell ((⟨nb, 0, none⟩ : Addr).add 34) (.slice A3 n3 c3)).heap[nb]? = _
    rw [add_at, Nat.zero_add, set_blk hn55' 34, ncell_set34]
    rfl
  have k58 : Kept (· = nb) w55 w58 := k57.drew
  have hn58 : w58.heap[nb]? = some (.cells (ncell h ⟨nb, pA, l.length, pc, none, 0, 0, A3, n3, c3, l3⟩) T_dag_node (0, 0)) := hn57
  clear_value w58
  clear hn57 k57
  have hs58 := k58.size
  have G58 := G55.keep k58 (fun k hk e => L.noN (e ▸ hk)) (fun k hk e => by have := hF1 k hk; omega)
  have hg58 := k58.heap hg55 (ne_typ hg55 hn55' (by decide))
  have hi58 := k58.heap hi55 (ne_typ hi55 hn55' (by decide))
  have row58 : URow w58 nb A3 n3 c3 l3 := Row.keep row55 k58 (fun k hk e => by
    subst e
    exact tyR row55 hn55' (by decide) hk)
  obtain ⟨m, hm, N58⟩ := G58.get hq
  rw [hm'] at hm
  cases hm
  refine ⟨m'.cA, m'.cn, m'.cc, node_ch N58, h.1, ⟨h.2.1, Cells.blk hi58⟩, h.2.1, ?_⟩
  intro w62
  have k62 : Kept Nil w58 w62 := (Kept.refl _ _).alloc _
  have hbox62 : HS w62 (some ⟨w58.heap.size, 0, none⟩) 1 [h] := hbox w58 h
  clear_value w62
  have G62 := G58.same k62
  obtain ⟨m, hm, N62⟩ := G62.get hq
  rw [hm'] at hm
  cases hm
  refine ⟨node_ch N62, ?_⟩
  have hchl := N62.ch.len
  have hkids : kidsTo D h (l.take i) nd.id = childL D p := by
    unfold kidsTo
    rw [hnd, if_neg]
    intro hmem
    obtain ⟨j, hj⟩ := List.mem_iff_getElem?.1 hmem
    rw [List.getElem?_take] at hj
    split at hj
    · have := hss.get (by omega) hj hp
      rw [hlt_irrefl] at this
      cases this
    · cases hj
  have hcl := pick_len D fun a => Par D p a
  have hcn : m'.cn ≤ 10000 := by
    rw [← hchl, hkids]
    unfold childL
    omega
  obtain ⟨A7, c7, w64, hr64, row64, hg64, hb64⟩ := append_hs (cx := 1) T_sl_api_Hash N62.ch hbox62 (by omega) (Nat.zero_le _)
  have k64 : Kept (fun k => blkOf m'.cA = some k) w62 w64 := Kept.grown (Kept.refl _ _) hg64 (fun k hk _ => hk)
  refine ⟨A7, _, c7, w64, hr64, ?_⟩
  have hs62 := k62.size
  have hs64 := k64.size
  refine dag_Sorted_ok row64.hs (by omega) fun A5 c5 w66 row66 k66 => ⟨A5, _, c5, rfl, ?_⟩
  have hs66 := k66.size
  have hmb64 := k64.heap N62.blk (fun e => by
    obtain ⟨_, cur, hc⟩ := Row.blk N62.ch e
    exact ne_typ N62.blk hc (by decide) rfl)
  have hmb66 := k66.heap hmb64 (fun h => h)
  refine ⟨by rw [add_at, Nat.zero_add]; exact wr_blk hmb66 (by rw [ncell_size]; omega), ?_⟩
  intro w69
  have k69 : Kept (· = m'.b) w66 w69 := by
    show Kept (· = m'.b) w66 (w66.setCell ((⟨m'.b, 0, none⟩ : Addr).add 33) (.slice A5 (srt (kidsTo D h (l.take i) nd.id ++ [h])).length c5))
    exact Kept.setCell (S := fun k => k = m'.b) (Kept.refl _ w66) (by rw [addr_block]; exact fun _ => rfl) _
  have hmb69 : w69.heap[m'.b]? = some (.cells (ncell nd.id { m' with cA := A5, cn := (srt (kidsTo D h (l.take i) nd.id ++ [h])).length, cc := c5 }) T_dag_node (0, 0)) := by
    show (w66.setCell ((⟨m'.b, 0, none⟩ : Addr).add 33) (.slice A5 (srt (kidsTo D h (l.take i) nd.id ++ [h])).length c5)).heap[m'.b]? = _
    rw [add_at, Nat.zero_add, set_blk hmb66 33, ncell_set33]
  clear_value w69
  -- from the node's past on: the children alone
  have kT : Kept (fun k => blkOf m'.cA = some k ∨ k = m'.b) w58 w69 :=
    (((k62.mono (S' := fun k => blkOf m'.cA = some k ∨ k = m'.b) (fun _ _ h => h.elim)).trans k64 (fun _ _ h => .inl h)).trans k66 (fun _ _ h => h.elim)).trans k69 (fun _ _ h => .inr h)
  have hrow69 : HRow w69 w58.heap.size A5 (srt (kidsTo D h (l.take i) nd.id ++ [h])).length c5 (srt (kidsTo D h (l.take i) nd.id ++ [h])) :=
    Row.base (Row.keep row66 k69 (fun k hk e => by
      subst e
      obtain ⟨_, cur, hc⟩ := Row.blk row66 hk
      exact ne_typ hmb66 hc (by decide) rfl)) (fun k hk => by have := (Row.blk row66 hk).1; omega)
  have G69 := G58.upd W hq hm' kT hmb69 hrow69
  have hA5 : ∀ k, blkOf A5 = some k → w58.heap.size ≤ k := fun k hk => (Row.blk hrow69 hk).1
  have hTS : ∀ k, (blkOf m'.cA = some k ∨ k = m'.b) → S' k := fun k e => by
    rcases e with e | rfl
    · exact N58.chF k e
    · exact N58.footB
  have hkf : (fun x => if x = nd.id then srt (kidsTo D h (l.take i) nd.id ++ [h]) else kidsTo D h (l.take i) x) = kidsTo D h (l.take (i + 1)) := by
    funext x
    by_cases hx : x = nd.id
    · rw [if_pos hx, hkids, hx, hnd]
      unfold kidsTo
      rw [if_pos ((mem_take_succ hp).2 (.inr rfl))]
    · rw [if_neg hx]
      unfold kidsTo
      have : x ∈ l.take (i + 1) ↔ x ∈ l.take i := by
        rw [mem_take_succ hp]
        exact ⟨fun e => e.resolve_right (fun e => hx (by rw [hnd]; exact e)), .inl⟩
      by_cases hm : x ∈ l.take i
      · rw [if_pos hm, if_pos (this.2 hm)]
      · rw [if_neg hm, if_neg (fun e => hm (this.1 e))]
  rw [hkf] at G69
  rw [wrapP (n := (i : Int)) (by omega) (by omega)]
  have hnb58 : nb < w58.heap.size := lt_blk hn58
  have kall : Kept S w0 w69 := by
    have k1 := L.kp.trans k42 (fun _ _ h => h.elim)
    have k2 := k1.trans k52 (fun k hk e => absurd (hrA k e).1 (by omega))
    have k3 := k2.trans k55 (fun k hk e => absurd (Row.blk row52 e).1 (by omega))
    have k4 := k3.trans k58 (fun k hk e => by omega)
    exact k4.trans kT (fun k hk e => by
      rcases L.new k (hTS k e) with h | h
      · exact h
      · omega)
  refine hQ _ _ A3 n3 c3 l3 w69 ⟨G69, fun k hk => .inl (L.sub k hk), fun k hk => ?_, kT.heap hn58 (fun e => L.noN (hTS _ e)), fun e => ?_, Row.keep row58 kT (fun k hk e => ?_), ho55, by omega, fun k hk e => ?_, fun j => ?_,
    kT.heap hg58 (fun e => L.noG (hTS _ e)), kT.heap hi58 (fun e => L.noI (hTS _ e)), fun e => ?_, fun e => ?_, ?_, kall⟩
  · rcases hk with hk | hk
    · exact L.new k hk
    · have := hA5 k hk
      have := L.kp.size
      exact .inr (by omega)
  · rcases e with e | e
    · exact L.noN e
    · have := hA5 _ e; omega
  · have hs := hTS k e
    rcases hb55 k hk with h | h
    · exact hnoA2S k h hs
    · have := L.G.low k (.inl hs); omega
  · have hk3 : k < w55.heap.size := by
      obtain ⟨_, cur, hc⟩ := Row.blk row55 hk
      exact lt_blk hc
    rcases e with e | e
    · rcases hb55 k hk with h | h
      · exact hnoA2S k h e
      · have := L.G.low k (.inl e); omega
    · have := hA5 _ e; omega
  · rw [hbit55, Bool.or_eq_true, hbit52, Bool.or_eq_true, L.bits, N42.bits, decide_eq_true_iff]
    constructor
    · rintro ((⟨p', h1, h2⟩ | ⟨nj, h1, h2⟩) | rfl)
      · exact ⟨p', (mem_take_succ hp).2 (.inl h1), h2⟩
      · exact ⟨p, (mem_take_succ hp).2 (.inr rfl), nj, h1, .inr (hnd ▸ h2)⟩
      · exact ⟨p, (mem_take_succ hp).2 (.inr rfl), nd, hq, .inl hnd⟩
    · rintro ⟨p', h1, nj, h2, h3⟩
      rcases (mem_take_succ hp).1 h1 with h1 | rfl
      · exact .inl (.inl ⟨p', h1, nj, h2, h3⟩)
      · rcases h3 with h3 | h3
        · exact .inr (W.inj h2 hq (h3.trans hnd.symm))
        · exact .inl (.inr ⟨nj, h2, hnd ▸ h3⟩)
  · rcases e with e | e
    · exact L.noG e
    · have := hA5 _ e; have := lt_blk hg58; omega
  · rcases e with e | e
    · exact L.noI e
    · have := hA5 _ e; have := lt_blk hi58; omega
  · have hb : ∀ a, pA = some a → F1 a.block ∧ a.block < nb := fun a ha => ⟨hpF a ha, hF1 _ (hpF a ha)⟩
    have k1 := L.hl.same k42
    have k2 := k1.keep k52 (fun a ha => hnF _ (hb a ha).1)
    have k3 := k2.keep k55 (fun a ha => hnoA2F _ (hb a ha).1)
    have k4 := k3.keep k58 (fun a ha e => by have := (hb a ha).2; omega)
    exact k4.keep kT (fun a ha e => L.G.dis _ (hTS _ e) (hb a ha).1)
end
end Go.Proofs.Ytljckpecmlnbiaa
/-
  The program's Add, whole.
-/
namespace Go.Proofs.Ytljckpecmlnbiaa
open Go Go.Lite Go.RowKit

theorem slPtr : SlT Try.prog T_sl_p_dag_node T_p_dag_node 1 8 := ⟨by kernel_rfl, by kernel_rfl⟩
theorem bldDag : bld Try.prog T_dag_node = some ([(0, 32), (32, 1), (33, 1), (34, 1)], List.replicate 32 (.int .u8 0) ++ [.slice none 0 0, .slice none 0 0, .slice none 0 0]) := by kernel_rfl
theorem builtDag (h : HT) (b : Nat) (A : Option Addr) (n c : Nat) : Try.prog.built T_dag_node [(0, .agg h.1), (1, .slice A n c)] = some (ncell h ⟨b, A, n, c, none, 0, 0, none, 0, 0, []⟩) := by
  have hs := h.2.1
  rw [built_of bldDag, fill_part (off := 0) (size := 32) rfl (by simpa [Value.cells] using hs) (by simp), fill_part (off := 32) (size := 1) rfl rfl (by
    rw [List.size_toArray, splice_len (by simp [Value.cells, hs])]
    simp)]
  simp only [Instr.fill, Option.some.injEq]
  apply Array.ext'
  unfold splice ncell
  simp [Value.cells, hs]
  rw [List.drop_append]
  simp [hs]
theorem builtRoot (h : HT) (b : Nat) : Try.prog.built T_dag_node [(0, .agg h.1)] = some (ncell h ⟨b, none, 0, 0, none, 0, 0, none, 0, 0, []⟩) := by
  have hs := h.2.1
  rw [built_of bldDag, fill_part (off := 0) (size := 32) rfl (by simpa [Value.cells] using hs) (by simp)]
  simp only [Instr.fill, Option.some.injEq]
  apply Array.ext'
  unfold splice ncell
  simp [Value.cells, hs]

/-! the children of a graph with one more -/
section
variable {D : DG} {h : HT} {l : List HT}
theorem child_snoc (W : WfD D) (hn : h ∉ ids D) {x : HT} : kidsTo D h l x = childL (D ++ [⟨h, l⟩]) x := by
  have hmem : ∀ a, a ∈ childL (D ++ [⟨h, l⟩]) x ↔ (a ∈ childL D x ∨ (a = h ∧ x ∈ l)) := fun a => by
    unfold childL
    rw [mem_pick, mem_pick, par_snoc, ids_snoc, List.mem_append, List.mem_singleton]
    constructor
    · rintro ⟨h1, h2 | ⟨h2, h3⟩⟩
      · exact .inl ⟨(Anc.mem W (.one h2)).2, h2⟩
      · exact .inr ⟨h2.symm, h3⟩
    · rintro (⟨h1, h2⟩ | ⟨rfl, h2⟩)
      · exact ⟨.inl h1, .inl h2⟩
      · exact ⟨.inr rfl, .inr ⟨rfl, h2⟩⟩
  unfold kidsTo
  by_cases hxl : x ∈ l
  · rw [if_pos hxl]
    refine (srt_of (l := childL (D ++ [⟨h, l⟩]) x) (SS_srt _) fun a => ?_).symm
    rw [hmem, List.mem_append, List.mem_singleton]
    exact ⟨fun e => e.imp (fun e => e) (fun e => e.1), fun e => e.imp (fun e => e) (fun e => ⟨e, hxl⟩)⟩
  · rw [if_neg hxl]
    refine SS_ext (SS_srt _) (SS_srt _) fun a => ?_
    have := hmem a
    unfold childL pick at this ⊢
    rw [this]
    exact ⟨.inl, fun e => e.resolve_right (fun e => hxl e.2)⟩
theorem child_new (W : WfD D) (hn : h ∉ ids D) (hin : ∀ p ∈ l, p ∈ ids D) : childL (D ++ [⟨h, l⟩]) h = [] := by
  cases hc : childL (D ++ [⟨h, l⟩]) h with
  | nil => rfl
  | cons b t =>
    exfalso
    have : b ∈ childL (D ++ [⟨h, l⟩]) h := by rw [hc]; simp
    rcases par_snoc.1 (mem_pick.1 this).2 with h1 | ⟨_, h2⟩
    · exact hn (Anc.mem W (.one h1)).1
    · exact hn (hin h h2)
theorem bits_old (W : WfD D) (hn : h ∉ ids D) {x : HT} (hx : x ∈ ids D) (j : Nat) : (∃ nj, (D ++ [⟨h, l⟩])[j]? = some nj ∧ Anc (D ++ [⟨h, l⟩]) nj.id x) ↔ ∃ nj, D[j]? = some nj ∧ Anc D nj.id x := by
  constructor
  · rintro ⟨nj, h1, h2⟩
    have h2' := (anc_snoc W (nd := ⟨h, l⟩) hn hx).1 h2
    rw [List.getElem?_append] at h1
    split at h1
    · exact ⟨nj, h1, h2'⟩
    · exfalso
      have : nj = ⟨h, l⟩ := by
        cases hk : j - D.length with
        | zero => rw [hk] at h1; simpa using h1.symm
        | succ k => rw [hk] at h1; simp at h1
      subst this
      exact hn (h2'.mem W).1
  · rintro ⟨nj, h1, h2⟩
    exact ⟨nj, by rw [List.getElem?_append_left (List.getElem?_eq_some_iff.1 h1).1]; exact h1, (anc_snoc W (nd := ⟨h, l⟩) hn hx).2 h2⟩
theorem bits_new (W : WfD D) (hn : h ∉ ids D) (hin : ∀ p ∈ l, p ∈ ids D) (hs : SS l) (j : Nat) :
    (∃ nj, (D ++ [⟨h, l⟩])[j]? = some nj ∧ Anc (D ++ [⟨h, l⟩]) nj.id h) ↔ ∃ p ∈ l, ∃ nj, D[j]? = some nj ∧ (nj.id = p ∨ Anc D nj.id p) := by
  have W' : WfD (D ++ [⟨h, l⟩]) := W.snoc (nd := ⟨h, l⟩) hn hin hs
  have hget : (D ++ [⟨h, l⟩])[D.length]? = some ⟨h, l⟩ := by rw [List.getElem?_append_right (Nat.le_refl _), Nat.sub_self]; rfl
  have key : ∀ a, Anc (D ++ [⟨h, l⟩]) a h ↔ ∃ p ∈ l, a = p ∨ Anc D a p := fun a => by
    rw [anc_iff W' hget a]
    constructor
    · rintro ⟨p, hp, e⟩
      exact ⟨p, hp, e.imp (fun e => e) (fun e => (anc_snoc W (nd := ⟨h, l⟩) hn (hin p hp)).1 e)⟩
    · rintro ⟨p, hp, e⟩
      exact ⟨p, hp, e.imp (fun e => e) (fun e => (anc_snoc W (nd := ⟨h, l⟩) hn (hin p hp)).2 e)⟩
  constructor
  · rintro ⟨nj, h1, h2⟩
    obtain ⟨p, hp, e⟩ := (key _).1 h2
    have hid : nj.id ∈ ids D := by
      rcases e with e | e
      · rw [e]; exact hin p hp
      · exact (e.mem W).1
    rw [List.getElem?_append] at h1
    split at h1
    · exact ⟨p, hp, nj, h1, e⟩
    · exfalso
      have : nj = ⟨h, l⟩ := by
        cases hk : j - D.length with
        | zero => rw [hk] at h1; simpa using h1.symm
        | succ k => rw [hk] at h1; simp at h1
      subst this
      exact hn hid
  · rintro ⟨p, hp, nj, h1, e⟩
    exact ⟨nj, by rw [List.getElem?_append_left (List.getElem?_eq_some_iff.1 h1).1]; exact h1, (key _).2 ⟨p, hp, e⟩⟩
end

section
variable {w w' : World} {S F F' : Nat → Prop} {g bl c mb : Nat} {D : DG} {C : HT → List HT} {M : List NM} {K : Value → World → Prop}
theorem GV.monoF (G : GV w S F g D C bl c mb M) (hf : ∀ k, F k → F' k) (hd : ∀ k, S k → ¬ F' k) (hl : ∀ k, F' k → k < w.heap.size) : GV w S F' g D C bl c mb M :=
  ⟨G.top, G.row, G.map, G.len, fun i nd m h1 h2 => by
    have N := G.node i nd m h1 h2
    exact ⟨N.blk, N.footB, N.ps, fun a ha => hf _ (N.psF a ha), N.ch, N.chF, N.past, fun a ha => hf _ (N.pastF a ha), N.ok, N.bits, N.small⟩, G.apart, G.footG, G.footL, G.footM, hd, fun k hk => hk.elim (fun h => G.low k (.inl h)) (hl k)⟩

/-- the end of Add: the new node comes in -/
theorem add_end {w0 : World} {F1 S' : Nat → Prop} {h : HT} {l : List HT} {gb ib nb : Nat} {pA : Option Addr} {pc i : Nat} {rA : Option Addr} {rn rc : Nat} {ws : List Nat}
    (L : AL w0 w S F1 S' g D h l gb ib nb pA pc i bl c mb M rA rn rc ws) (W : WfD D) (hD : D.length ≤ 5000) (hss : SS l) (hin : ∀ p ∈ l, p ∈ ids D) (hn : h ∉ ids D) (hF1 : ∀ k, F1 k → k < nb) (hpF : ∀ a, pA = some a → F1 a.block) (h0 : w0.heap.size ≤ nb) (hil : l.length ≤ i)
    (hK : ∀ v S2 F2, IsG v S2 F2 g (D ++ [⟨h, l⟩]) → Kept S w0 v → (∀ k, S2 k → S k ∨ w0.heap.size ≤ k) → (∀ k, F2 k → F1 k ∨ w0.heap.size ≤ k) → K (.int .i64 0) v) :
    dag_Graph_Add.X1_1 ⟨gb, 0, none⟩ ⟨ib, 0, none⟩ 0 ⟨nb, 0, none⟩ pA l.length pc (l.length : Int) (i : Int) K w := by
  have hti : l.take i = l := List.take_of_length_le hil
  have hG := L.G
  rw [hti] at hG
  have hbits := L.bits
  rw [hti] at hbits
  unfold dag_Graph_Add.X1_1
  intro w77
  have k77 : Kept Nil w w77 := (Kept.refl _ _).drew
  clear_value w77
  have G77 := hG.same k77
  have hg77 := k77.heap L.gbx (fun h => h)
  have hn77 := k77.heap L.node (fun h => h)
  have row77 : URow w77 nb rA rn rc ws := Row.keep L.row k77 (fun _ _ h => h)
  refine ⟨some ⟨g, 0, none⟩, by rw [cell_blk hg77]; rfl, some mb, G77.at_, h.1, ⟨h.2.1, Cells.blk (k77.heap L.ibx (fun h => h))⟩, some ⟨g, 0, none⟩, by rw [cell_blk hg77]; rfl, ?_⟩
  refine ⟨_, _, _, G77.nodes, ?_⟩
  obtain ⟨w85, hr85, map85, k85⟩ := G77.map.put hn
  rw [ids_len] at hr85
  refine ⟨w85, hr85, ?_⟩
  intro w86
  have k86 : Kept (· = mb) w77 w86 := k85.drew
  have map86 : IsMap w86 mb (ids D ++ [h]) := map85.keep ((Kept.refl Nil w85).drew) (fun h => h)
  clear_value w86
  -- a block of cells is not the map's
  have tyM : ∀ {v : World} {k : Nat} {cs : Array Value} {t : TypeId}, IsMap v mb (ids D) → v.heap[k]? = some (.cells cs t (0, 0)) → k ≠ mb := fun hm hk e => by
    obtain ⟨es, clock, hmp, _⟩ := hm.ex
    rw [e, hmp] at hk
    cases hk
  have hg86 := k86.heap hg77 (tyM G77.map hg77)
  have hn86 := k86.heap hn77 (tyM G77.map hn77)
  have htop86 := k86.heap G77.top (tyM G77.map G77.top)
  have row86 : Row w86 0 T_p_dag_node 1 (some ⟨bl, 0, none⟩) D.length c (M.map fun m => .pointer (some ⟨m.b, 0, none⟩)) := Row.keep G77.row k86 (fun k hk e => by
    obtain ⟨_, cur, hc⟩ := Row.blk G77.row hk
    exact tyM G77.map hc e)
  have rowr86 : URow w86 nb rA rn rc ws := Row.keep row77 k86 (fun k hk e => by
    obtain ⟨_, cur, hc⟩ := Row.blk row77 hk
    exact tyM G77.map hc e)
  refine ⟨some ⟨g, 0, none⟩, by rw [cell_blk hg86]; rfl, some ⟨g, 0, none⟩, by rw [cell_blk hg86]; rfl, ?_⟩
  refine ⟨some ⟨bl, 0, none⟩, D.length, c, by rw [add_zero, cell_blk htop86]; rfl, ?_⟩
  intro w91
  have k91 : Kept Nil w86 w91 := (Kept.refl _ _).alloc _
  have hb91 : w91.heap[w86.heap.size]? = some (.cells #[.pointer (some ⟨nb, 0, none⟩)] T_p_dag_node (0, 0)) := new_blk w86 _
  clear_value w91
  have hg91 := k91.heap hg86 (fun h => h)
  have htop91 := k91.heap htop86 (fun h => h)
  refine ⟨by rw [add_zero, cell_blk htop91]; rfl, by rw [cell_blk hg91]; rfl, by rw [cell_blk hg91]; rfl, ?_⟩
  have row91 : Row w91 0 T_p_dag_node 1 (some ⟨bl, 0, none⟩) D.length c (M.map fun m => .pointer (some ⟨m.b, 0, none⟩)) := Row.keep row86 k91 (fun _ _ h => h)
  obtain ⟨A98, c98, w93, hr93, row93, hgr93, hb93⟩ := append_row (P := Try.prog) (t := T_sl_p_dag_node) (ty := T_sl_p_dag_node) (bytes := 8) slPtr row91 (a := ⟨w86.heap.size, 0, none⟩) (m := 1) (cx := 1) (news := [.pointer (some ⟨nb, 0, none⟩)]) rfl
    (fun j u hj => by rw [add_at, Nat.zero_add, cell_blk hb91]; simpa using hj) (fun u hu => by simp at hu; subst hu; rfl) (by omega) (by unfold maxLen; omega) (Nat.zero_le _)
  have k93 : Kept (· = bl) w91 w93 := Kept.grown (S := fun k => k = bl) (Kept.refl _ _) hgr93 (fun k hk _ => by cases hk; rfl)
  refine ⟨A98, _, c98, w93, hr93, ?_⟩
  have tyL : ∀ {k : Nat} {cs : Array Value} {t : TypeId}, w91.heap[k]? = some (.cells cs t (0, 0)) → t ≠ T_p_dag_node → k ≠ bl := fun hk hne => by
    obtain ⟨_, cur, hc⟩ := Row.blk row91 (k := bl) rfl
    exact ne_typ hk hc hne
  have hg93 := k93.heap hg91 (tyL hg91 (by decide))
  have htop93 := k93.heap htop91 (tyL htop91 (by decide))
  refine ⟨by rw [cell_blk hg93]; rfl, by rw [add_zero]; exact wr_blk htop93 (by simp), ?_⟩
  intro w95
  have k95 : Kept (· = g) w93 w95 := by
    show Kept (· = g) w93 (w93.setCell ((⟨g, 0, none⟩ : Addr).add 0) (.slice A98 (D.length + 1) c98))
    exact Kept.setCell (S := fun k => k = g) (Kept.refl _ w93) (by rw [addr_block]; exact fun _ => rfl) _
  have htop95 : w95.heap[g]? = some (.cells #[.slice A98 (D.length + 1) c98, .map (some mb)] T_dag_Graph (0, 0)) := by
    show (w93.setCell ((⟨g, 0, none⟩ : Addr).add 0) (.slice A98 (D.length + 1) c98)).heap[g]? = _
    rw [add_zero, set_blk htop93 0]
    rfl
  clear_value w95
  obtain ⟨b98, rfl⟩ := Row.some row93 (by omega)
  -- all in one: but for the graph's own three blocks
  have hs86 := k86.size
  have hs91 := k91.size
  have kall : Kept (fun k => k = g ∨ k = bl ∨ k = mb) w77 w95 :=
    (((k86.mono (S' := fun k => k = g ∨ k = bl ∨ k = mb) (fun _ _ h => .inr (.inr h))).trans k91 (fun _ _ h => h.elim)).trans k93 (fun _ _ h => .inr (.inl h))).trans k95 (fun _ _ h => .inl h)
  have hTF : ∀ k, F1 k → ¬ (k = g ∨ k = bl ∨ k = mb) := fun k hk e => by
    rcases e with rfl | rfl | rfl
    · exact G77.dis _ G77.footG hk
    · exact G77.dis _ G77.footL hk
    · exact G77.dis _ G77.footM hk
  have ty : ∀ {k : Nat} {cs : Array Value} {t : TypeId}, w77.heap[k]? = some (.cells cs t (0, 0)) → t ≠ T_dag_Graph → t ≠ T_p_dag_node → ¬ (k = g ∨ k = bl ∨ k = mb) := fun hk h1 h2 e => by
    rcases e with e | e | e
    · rw [e] at hk
      exact ne_typ hk G77.top h1 rfl
    · rw [e] at hk
      obtain ⟨_, cur, hc⟩ := Row.blk G77.row (k := bl) rfl
      exact ne_typ hk hc h2 rfl
    · exact tyM G77.map hk e
  have hrow95 : Row w95 0 T_p_dag_node 1 (some ⟨b98, 0, none⟩) (D.length + 1) c98 ((M.map fun m => .pointer (some ⟨m.b, 0, none⟩)) ++ [.pointer (some ⟨nb, 0, none⟩)]) := Row.keep row93 k95 (fun k hk e => by
    obtain ⟨_, cur, hc⟩ := Row.blk row93 hk
    exact ne_typ hc htop93 (by decide) e)
  have map95 : IsMap w95 mb (ids D ++ [h]) := by
    obtain ⟨es, clock, hmp, _⟩ := map86.ex
    have h1 := map86.keep k91 (fun h => h)
    have h2 := h1.keep k93 (fun e => by
      obtain ⟨_, cur, hc⟩ := Row.blk row91 (k := bl) rfl
      obtain ⟨_, _, hm', _⟩ := h1.ex
      rw [e, hc] at hm'
      cases hm')
    exact h2.keep k95 (fun e => by
      obtain ⟨_, _, hm', _⟩ := h2.ex
      rw [e, htop93] at hm'
      cases hm')
  have hn95 := kall.heap hn77 (ty hn77 (by decide) (by decide))
  have rowr95 : URow w95 nb rA rn rc ws := Row.keep row77 kall (fun k hk e => by
    obtain ⟨_, cur, hc⟩ := Row.blk row77 hk
    exact ty hc (by decide) (by decide) e)
  have hlen98 : (D ++ [(⟨h, l⟩ : DN)]).length = D.length + 1 := by simp
  have hb98 : b98 = bl ∨ w91.heap.size ≤ b98 := by
    rcases hb93 b98 rfl with e | e
    · exact .inl (by cases e; rfl)
    · exact .inr e
  have hsz := L.kp.size
  have hs77 := k77.size
  have hnbl := lt_blk hn77
  have hrAn : ∀ k, blkOf rA = some k → nb ≤ k ∧ k < w95.heap.size := fun k hk => by
    obtain ⟨h1, cur, hc⟩ := Row.blk rowr95 hk
    exact ⟨h1, lt_blk hc⟩
  have hget : ∀ {X : Type} (xs : List X) (y : X) (j : Nat) (z : X), (xs ++ [y])[j]? = some z → (j < xs.length ∧ xs[j]? = some z) ∨ (j = xs.length ∧ z = y) := fun xs y j z e => by
    rw [List.getElem?_append] at e
    split at e
    · rename_i hlt; exact .inl ⟨hlt, e⟩
    · rename_i hge
      cases hk : j - xs.length with
      | zero => rw [hk] at e; exact .inr ⟨by omega, by simpa using e.symm⟩
      | succ k => rw [hk] at e; simp at e
  refine hK w95 (fun k => S' k ∨ k = nb ∨ k = b98) (fun k => F1 k ∨ blkOf rA = some k) ⟨b98, c98, mb, M ++ [⟨nb, pA, l.length, pc, none, 0, 0, rA, rn, rc, ws⟩], ?_⟩ ?_ ?_ ?_
  · refine ⟨by rw [hlen98]; exact htop95, ?_, by rw [ids_snoc]; exact map95, by simp [hG.len], fun j nd m h1 h2 => ?_, fun j j' m m' h1 h2 hne k hk hk' => ?_, .inl hG.footG, .inr (.inr rfl), .inl hG.footM, fun k hk hf => ?_, fun k hk => ?_⟩
    · rw [hlen98, List.map_append]
      exact hrow95
    · rcases hget _ _ _ _ h1 with ⟨hj, h1'⟩ | ⟨hj, rfl⟩
      · rcases hget _ _ _ _ h2 with ⟨_, h2'⟩ | ⟨hj', _⟩
        · have N := G77.node j nd m h1' h2'
          have hid : nd.id ∈ ids D := ids_mem.2 ⟨nd, List.mem_of_getElem? h1', rfl⟩
          have hF : ∀ k, F1 k → ¬ (k = g ∨ k = bl ∨ k = mb) := hTF
          rw [← child_snoc W hn]
          refine ⟨kall.heap N.blk (ty N.blk (by decide) (by decide)), .inl N.footB, N.ps.keep kall (fun a ha => hF _ (N.psF a ha)), fun a ha => .inl (N.psF a ha), Row.keep N.ch kall (fun k hk e => ?_), fun k hk => .inl (N.chF k hk), N.past.keep kall (fun a ha => hF _ (N.pastF a ha)), fun a ha => .inl (N.pastF a ha), N.ok, fun j => ?_, N.small⟩
          · obtain ⟨cur, hc⟩ := (Row.blk N.ch hk).2
            exact ty hc (by decide) (by decide) e
          · rw [N.bits, bits_old W hn hid]
        · rw [hG.len] at hj'; omega
      · rcases hget _ _ _ _ h2 with ⟨hj', _⟩ | ⟨_, rfl⟩
        · rw [hG.len] at hj'; omega
        · rw [child_new W hn hin]
          refine ⟨hn95, .inr (.inl rfl), (L.hl.same k77).keep kall (fun a ha => hTF _ (hpF a ha)), fun a ha => .inl (hpF a ha), HRow.nil _ _, (fun k hk => by cases hk), rowr95.us, fun a ha => .inr (congrArg blkOf ha), L.ok, fun j => ?_, L.small⟩
          rw [hbits, bits_new W hn hin hss]
    · rcases hget _ _ _ _ h1 with ⟨_, h1'⟩ | ⟨_, rfl⟩
      · rcases hget _ _ _ _ h2 with ⟨_, h2'⟩ | ⟨_, rfl⟩
        · exact hG.apart j j' m m' h1' h2' hne k hk hk'
        · cases hk'
      · cases hk
    · rcases hk with hk | rfl | rfl
      · rcases hf with hf | hf
        · exact hG.dis k hk hf
        · exact L.noR k hf hk
      · rcases hf with hf | hf
        · have := hF1 k hf; omega
        · obtain ⟨_, cur, hc⟩ := Row.blk rowr95 hf
          exact ne_typ hn95 hc (by decide) rfl
      · rcases hf with hf | hf
        · rcases hb98 with e | e
          · rw [e] at hf; exact hG.dis _ hG.footL hf
          · have := hF1 _ hf; omega
        · obtain ⟨_, cur, hc⟩ := Row.blk rowr95 hf
          obtain ⟨_, cur', hc'⟩ := Row.blk hrow95 (k := k) rfl
          exact ne_typ hc' hc (by decide) rfl
    · have hs95 := kall.size
      rcases hk with (hk | rfl | rfl) | hk | hk
      · have := G77.low k (.inl hk); omega
      · exact lt_blk hn95
      · obtain ⟨_, cur', hc'⟩ := Row.blk hrow95 (k := k) rfl
        exact lt_blk hc'
      · have := G77.low k (.inr hk); omega
      · exact (hrAn k hk).2
  · exact (L.kp.trans k77 (fun _ _ h => h.elim)).trans kall (fun k hk e => by
      have hs : S' k := by
        rcases e with rfl | rfl | rfl
        · exact hG.footG
        · exact hG.footL
        · exact hG.footM
      rcases L.new k hs with h | h
      · exact h
      · omega)
  · intro k hk
    rcases hk with hk | rfl | rfl
    · exact L.new k hk
    · exact .inr h0
    · rcases hb98 with e | e
      · rw [e]; exact L.new _ hG.footL
      · exact .inr (by omega)
  · intro k hk
    rcases hk with hk | hk
    · exact .inl hk
    · exact .inr (by have := (hrAn k hk).1; omega)

theorem dag_Add (G : GV w S F g D (childL D) bl c mb M) (W : WfD D) (hD : D.length ≤ 5000) {A : Option Addr} {n cx : Nat} {lp : List HT} (hl : HS w A n lp) (hn : n ≤ 10000) (h : HT)
    (hK : ∀ v S2 F2, IsG v S2 F2 g (addD D h lp) → Kept S w v → (∀ k, S2 k → S k ∨ w.heap.size ≤ k) → (∀ k, F2 k → F k ∨ w.heap.size ≤ k) → K (.int .i64 (addC D h lp)) v) :
    Ret Try.prog dag_Graph_Add.id #[.pointer (some ⟨g, 0, none⟩), .agg h.1, .slice A n cx] w K := by
  have hlen := hl.len
  have hno : ∀ v, Kept Nil w v → ∀ e, addC D h lp = e → e ≠ 0 → K (.int .i64 e) v := fun v k e he hne => by
    have := hK v S F ?_ (k.mono fun _ _ h => h.elim) (fun _ h => .inl h) (fun _ h => .inl h)
    · rw [he] at this; exact this
    · unfold addD
      rw [if_neg (by rw [he]; exact hne)]
      exact ⟨bl, c, mb, M, G.same k⟩
  refine dag_Graph_Add.of ?_
  unfold dag_Graph_Add.W
  intro w4 w5
  have k4 : Kept Nil w w4 := (Kept.refl _ _).alloc _
  have hg4 : w4.heap[w.heap.size]? = some (.cells #[.pointer (some ⟨g, 0, none⟩)] T_p_dag_Graph (0, 0)) := new_blk w _
  have k5 : Kept Nil w4 w5 := (Kept.refl _ _).alloc _
  have hi5 : w5.heap[w4.heap.size]? = some (.cells h.1 T_api_Hash (0, 0)) := new_blk w4 _
  have hg5 := k5.heap hg4 (fun h => h)
  clear_value w5
  have kw5 : Kept Nil w w5 := k4.trans k5 (fun _ _ h => h)
  have hgl : w.heap.size < w4.heap.size := lt_blk hg4
  have hil5 : w4.heap.size < w5.heap.size := lt_blk hi5
  clear_value w4
  refine dag_Sorted_ok (hl.same kw5) (by omega) fun A13 c13 w7 row7 k7 => ⟨A13, _, c13, rfl, ?_⟩
  have kw7 : Kept Nil w w7 := kw5.trans k7 (fun _ _ h => h)
  have hg7 := k7.heap hg5 (fun h => h)
  have hi7 := k7.heap hi5 (fun h => h)
  have G7 := G.same kw7
  have hsl : (srt lp).length ≤ n := by have := srt_len lp; omega
  refine ⟨some ⟨g, 0, none⟩, by rw [cell_blk hg7]; rfl, dag_there G7 ⟨true, rfl, Split.no rfl ?_⟩⟩
  refine ⟨some ⟨g, 0, none⟩, by rw [cell_blk hg7]; rfl, h.1, ⟨h.2.1, Cells.blk hi7⟩, dag_Has G7 h fun w16 k16 => ⟨_, rfl, ?_⟩⟩
  have kw16 := kw7.trans k16 (fun _ _ h => h)
  by_cases hm : h ∈ ids D
  · refine Split.yes (decide_eq_true hm) (hno w16 kw16 7 ?_ (by omega))
    unfold addC
    rw [if_pos hm]
  refine Split.no (decide_eq_false hm) ?_
  by_cases h0 : (srt lp).length = 0
  · refine Split.yes (by simp [h0]) (hno w16 kw16 9 ?_ (by omega))
    unfold addC
    rw [if_neg hm, if_pos (.inl h0)]
  refine Split.no (beq_eq_false_iff_ne.2 (by omega)) ?_
  by_cases h1 : (srt lp).length ≠ n
  · refine Split.yes (bne_iff_ne.2 (by omega)) (hno w16 kw16 9 ?_ (by omega))
    unfold addC
    rw [if_neg hm, if_pos (.inr (by omega))]
  replace h1 : (srt lp).length = n := by omega
  refine Split.no (by rw [h1]; simp) ?_
  have hg16 := k16.heap hg7 (fun h => h)
  have row16 := Row.keep row7 k16 (fun _ _ h => h)
  refine contains_ok (G.same kw16) hg16 (HRow.hs row16) (by omega) fun w19 x hx k19 => ⟨x, rfl, ?_⟩
  have kw19 := kw16.trans k19 (fun _ _ h => h)
  cases x with
  | true =>
    refine Split.yes rfl (hno w19 kw19 6 ?_ (by omega))
    unfold addC
    rw [if_neg hm, if_neg (by omega), if_pos (hx.1 rfl)]
  | false =>
    have hin : ∀ p ∈ srt lp, p ∈ ids D := fun p hp => Classical.byContradiction fun hno' => by have := hx.2 ⟨p, hp, hno'⟩; cases this
    have hc0 : addC D h lp = 0 := by
      unfold addC
      rw [if_neg hm, if_neg (by omega), if_neg (fun ⟨p, hp, hpn⟩ => hpn (hin p hp))]
    have hD' : addD D h lp = D ++ [⟨h, srt lp⟩] := by unfold addD; rw [if_pos hc0]
    rw [hc0, hD'] at hK
    refine Split.no rfl ?_
    have hi19 := k19.heap (k16.heap hi7 (fun h => h)) (fun h => h)
    have hg19 := k19.heap hg16 (fun h => h)
    have row19 : HRow w19 w5.heap.size A13 (srt lp).length c13 (srt lp) := Row.keep row16 k19 (fun _ _ h => h)
    refine ⟨h.1, ⟨h.2.1, Cells.blk hi19⟩, ?_⟩
    rw [builtDag h w19.heap.size]
    refine Is.mk rfl ?_
    intro w23
    have k23 : Kept Nil w19 w23 := (Kept.refl _ _).alloc _
    have hn23 : w23.heap[w19.heap.size]? = some (.cells (ncell h ⟨w19.heap.size, A13, (srt lp).length, c13, none, 0, 0, none, 0, 0, []⟩) T_dag_node (0, 0)) := new_blk w19 _
    clear_value w23
    have kw23 := kw19.trans k23 (fun _ _ h => h)
    have hA13 : ∀ k, blkOf A13 = some k → w5.heap.size ≤ k ∧ k < w19.heap.size := fun k hk => by
      obtain ⟨e1, cur, hc⟩ := Row.blk row19 hk
      exact ⟨e1, lt_blk hc⟩
    have hs5 := kw5.size
    have hs19 := kw19.size
    have hF1 : ∀ k, (F k ∨ blkOf A13 = some k) → k < w19.heap.size := fun k hk => by
      rcases hk with hk | hk
      · have := G.low k (.inr hk); omega
      · exact (hA13 k hk).2
    have hSlt : ∀ k, S k → k < w.heap.size := fun k hk => G.low k (.inl hk)
    have G23 : GV w23 S (fun k => F k ∨ blkOf A13 = some k) g D (childL D) bl c mb M := (G.same kw23).monoF (fun _ h => .inl h) (fun k hs e => by
      rcases e with e | e
      · exact G.dis k hs e
      · have := hSlt k hs; have := (hA13 k e).1; omega) (fun k hk => by have := hF1 k hk; have := k23.size; omega)
    have hkids : kidsTo D h ((srt lp).take 0) = childL D := by
      funext y
      unfold kidsTo
      rw [if_neg (by simp)]
    have L0 : AL w w23 S (fun k => F k ∨ blkOf A13 = some k) S g D h (srt lp) w.heap.size w4.heap.size w19.heap.size A13 c13 0 bl c mb M none 0 0 [] :=
      ⟨by rw [hkids]; exact G23, fun _ h => h, fun _ h => .inl h, hn23, fun e => by have := hSlt _ e; omega, Row.nil _ _ _ _, by simp [okW], by omega, (fun k hk => by cases hk), fun j => by simp [bit_nil], k23.heap hg19 (fun h => h), k23.heap hi19 (fun h => h),
        fun e => by have := hSlt _ e; omega, fun e => by have := hSlt _ e; omega, (row19.hs).same k23, kw23.mono fun _ _ h => h.elim⟩
    refine dag_Graph_Add.loop1 (I := fun s v => ∃ (i : Nat) (S2 : Nat → Prop) (M2 : List NM) (rA : Option Addr) (rn rc : Nat) (ws : List Nat), s = (i : Int) ∧ i ≤ (srt lp).length ∧ AL w v S (fun k => F k ∨ blkOf A13 = some k) S2 g D h (srt lp) w.heap.size w4.heap.size w19.heap.size A13 c13 i bl c mb M2 rA rn rc ws)
      (μ := fun s _ => (((srt lp).length : Int) - s).toNat) (s := 0) ⟨0, S, M, none, 0, 0, [], rfl, Nat.zero_le _, L0⟩ ?_
    rintro s v ⟨i, S2, M2, rA, rn, rc, ws, rfl, hi, L⟩
    have hpF : ∀ a, A13 = some a → F a.block ∨ blkOf A13 = some a.block := fun a ha => .inr (by rw [ha]; rfl)
    by_cases hil : i < (srt lp).length
    · refine add_round L W (by omega) (SS_srt _) hin hF1 hpF (by omega) hil (by omega) fun S3 M3 rA3 rn3 rc3 ws3 v3 L3 => ?_
      exact ⟨(i : Int) + 1, rfl, ⟨i + 1, S3, M3, rA3, rn3, rc3, ws3, rfl, hil, L3⟩, by simp only; omega⟩
    · refine Split.no (decide_eq_false (by omega)) ?_
      rw [roundQ_exit, dag_Graph_Add.x1_1]
      refine add_end L W hD (SS_srt _) hin hm hF1 hpF (by omega) (by omega) fun v2 S4 F4 hI hkp hS4 hF4 => hK v2 S4 F4 hI hkp hS4 (fun k hk => ?_)
      rcases hF4 k hk with (e | e) | e
      · exact .inl e
      · exact .inr (by have := (hA13 k e).1; omega)
      · exact .inr e
end
end Go.Proofs.Ytljckpecmlnbiaa
/-
  The program's New, Root, All.
-/
namespace Go.Proofs.Ytljckpecmlnbiaa
open Go Go.Lite Go.RowKit

def rootM (nb : Nat) : NM := ⟨nb, none, 0, 0, none, 0, 0, none, 0, 0, []⟩
/-- a graph in the making -/
structure NP (w v : World) (r : HT) (A B E : Option Nat) (l : List HT) : Prop where
  kp : Kept Nil w v
  node : ∀ b, A = some b → w.heap.size ≤ b ∧ v.heap[b]? = some (.cells (ncell r (rootM b)) T_dag_node (0, 0))
  list : ∀ b, B = some b → w.heap.size ≤ b ∧ ∃ nb, A = some nb ∧ v.heap[b]? = some (.cells #[.pointer (some ⟨nb, 0, none⟩)] T_p_dag_node (0, 0))
  map : ∀ b, E = some b → w.heap.size ≤ b ∧ IsMap v b l
section
variable {w v : World} {r : HT} {A B E : Option Nat} {l : List HT} {K : Value → World → Prop}
theorem NP.grow (h : NP w v r A B E l) (o : Obj) : NP w (v.alloc o) r A B E l :=
  ⟨h.kp.alloc o, fun b e => ⟨(h.node b e).1, old_blk (h.node b e).2 o⟩, fun b e => ⟨(h.list b e).1, let ⟨nb, h1, h2⟩ := (h.list b e).2; ⟨nb, h1, old_blk h2 o⟩⟩, fun b e => ⟨(h.map b e).1, (h.map b e).2.keep ((Kept.refl Nil v).alloc o) (fun h => h)⟩⟩
theorem NP.addNode (h : NP w v r none none E l) : NP w (v.alloc (.cells (ncell r (rootM v.heap.size)) T_dag_node)) r (some v.heap.size) none E l :=
  have g := h.grow (.cells (ncell r (rootM v.heap.size)) T_dag_node)
  ⟨g.kp, fun b e => by cases e; exact ⟨h.kp.size, new_blk v _⟩, fun b e => (by cases e), g.map⟩
theorem NP.addList {nb : Nat} (h : NP w v r (some nb) none E l) : NP w (v.alloc (.cells #[.pointer (some ⟨nb, 0, none⟩)] T_p_dag_node)) r (some nb) (some v.heap.size) E l :=
  have g := h.grow (.cells #[.pointer (some ⟨nb, 0, none⟩)] T_p_dag_node)
  ⟨g.kp, g.node, fun b e => by cases e; exact ⟨h.kp.size, nb, rfl, new_blk v _⟩, g.map⟩
theorem NP.addMap (h : NP w v r A B none []) : NP w (v.alloc (.map #[] 0)) r A B (some v.heap.size) [] :=
  have g := h.grow (.map #[] 0)
  ⟨g.kp, g.node, g.list, fun b e => by cases e; exact ⟨h.kp.size, ⟨#[], 0, new_blk v _, trivial⟩⟩⟩
theorem NP.put {mb : Nat} (h : NP w v r A B (some mb) []) : ∃ v', (Instr.mapUpdate T_map_api_Hash_int (.map (some mb)) (.agg r.1) (.int .i64 0)).run Try.prog v = .ok () v' ∧ NP w v' r A B (some mb) [r] := by
  obtain ⟨h1, h2⟩ := h.map mb rfl
  obtain ⟨v', hr, hm, hk⟩ := h2.put (h := r) (by simp)
  have tyM : ∀ {k : Nat} {cs : Array Value} {t : TypeId}, v.heap[k]? = some (.cells cs t (0, 0)) → ¬ (k = mb) := fun hk e => by
    obtain ⟨es, clock, hmp, _⟩ := h2.ex
    rw [e, hmp] at hk
    cases hk
  refine ⟨v', hr, h.kp.trans hk (fun k hk e => by omega), fun b e => ⟨(h.node b e).1, hk.heap (h.node b e).2 (tyM (h.node b e).2)⟩, fun b e => ⟨(h.list b e).1, ?_⟩, fun b e => by cases e; exact ⟨h1, hm⟩⟩
  obtain ⟨nb, e1, e2⟩ := (h.list b e).2
  exact ⟨nb, e1, hk.heap e2 (tyM e2)⟩
theorem root_none (r : HT) {a b : HT} : ¬ Par [(⟨r, []⟩ : DN)] a b := fun ⟨nd, h1, _, h2⟩ => by
  simp at h1
  subst h1
  simp at h2
theorem root_anc (r : HT) {a b : HT} : ¬ Anc [(⟨r, []⟩ : DN)] a b := fun h => by
  cases h with
  | one h => exact root_none r h
  | more _ h => exact root_none r h
theorem NP.fin {w0 : World} {nb lb mb : Nat} (h : NP w v r (some nb) (some lb) (some mb) [r]) (hw : w0.heap.size ≤ w.heap.size) :
    IsG (v.alloc (.cells #[.slice (some ⟨lb, 0, none⟩) 1 1, .map (some mb)] T_dag_Graph)) (fun k => w0.heap.size ≤ k ∧ k < (v.alloc (.cells #[.slice (some ⟨lb, 0, none⟩) 1 1, .map (some mb)] T_dag_Graph)).heap.size) (fun _ => False) v.heap.size [⟨r, []⟩] := by
  have g := h.grow (.cells #[.slice (some ⟨lb, 0, none⟩) 1 1, .map (some mb)] T_dag_Graph)
  have htop := new_blk v (.cells #[.slice (some ⟨lb, 0, none⟩) 1 1, .map (some mb)] T_dag_Graph)
  generalize v.alloc (.cells #[.slice (some ⟨lb, 0, none⟩) 1 1, .map (some mb)] T_dag_Graph) = u at g htop
  have hs := h.kp.size
  obtain ⟨n1, n2⟩ := g.node nb rfl
  obtain ⟨l1, nb', e, l2⟩ := g.list lb rfl
  cases e
  obtain ⟨m1, m2⟩ := g.map mb rfl
  have hch : childL [⟨r, []⟩] r = [] := by
    cases hc : childL [⟨r, []⟩] r with
    | nil => rfl
    | cons b t => exact absurd (mem_pick.1 (show b ∈ childL [⟨r, []⟩] r by rw [hc]; simp)).2 (root_none r)
  refine ⟨lb, 1, mb, [rootM nb], htop, Row.made (n := 1) (cur := #[.pointer (some ⟨nb, 0, none⟩)]) l2 (Nat.zero_le _) rfl (by decide), m2, rfl, fun i nd m hi hm => ?_, fun i j m m' h1 h2 hne k hk => ?_, ⟨by omega, lt_blk htop⟩, ⟨by omega, lt_blk l2⟩, ⟨by omega, m2.lt⟩, fun _ _ h => h, fun k hk => hk.elim (fun h => h.2) (fun h => h.elim)⟩
  · cases i with
    | zero =>
      simp at hi hm
      subst hi
      subst hm
      refine ⟨n2, ⟨Nat.le_trans hw n1, lt_blk n2⟩, HS.nil _ _, (fun a ha => by cases ha), ?_, (fun k hk => by cases hk), ⟨rfl, fun i x hx => by simp [rootM] at hx⟩, (fun a ha => by cases ha), by simp [okW, rootM], fun j => ?_, by simp [rootM]⟩
      · show HRow u 0 none 0 0 (childL [⟨r, []⟩] r)
        rw [hch]
        exact HRow.nil _ _
      · show bit [] j = true ↔ _
        rw [bit_nil]
        exact ⟨(fun h => by cases h), fun ⟨nj, _, h⟩ => absurd h (root_anc r)⟩
    | succ i => simp at hi
  · have hm : m = rootM nb := by
      have := List.mem_of_getElem? h1
      simpa using this
    subst hm
    cases hk

theorem dag_New_ok (r : HT) (hK : ∀ v gb, IsG v (fun k => w.heap.size ≤ k ∧ k < v.heap.size) (fun _ => False) gb [⟨r, []⟩] → Kept Nil w v → K (.pointer (some ⟨gb, 0, none⟩)) v) :
    Ret Try.prog dag_New.id #[.agg r.1] w K := by
  refine dag_New.of ?_
  unfold dag_New.W
  intro w2 w3
  have k2 : Kept Nil w w2 := (Kept.refl _ _).alloc _
  have hb2 : w2.heap[w.heap.size]? = some (.cells r.1 T_api_Hash (0, 0)) := new_blk w _
  have k3 : Kept Nil w w3 := k2.drew
  have hb3 : w3.heap[w.heap.size]? = some (.cells r.1 T_api_Hash (0, 0)) := hb2
  clear_value w3
  have N3 : NP w3 w3 r none none none [] := ⟨Kept.refl _ _, (fun b e => by cases e), (fun b e => by cases e), (fun b e => by cases e)⟩
  have hcs : ∀ {v : World}, Kept Nil w3 v → ∃ cs : Array Value, (.agg r.1 : Value) = .agg cs ∧ cs.size = 32 ∧ Cells v (⟨w.heap.size, 0, none⟩ : Addr) cs := fun k => ⟨r.1, rfl, r.2.1, Cells.blk (k.heap hb3 (fun h => h))⟩
  have hfin : ∀ {v : World} {nb lb mb : Nat}, NP w3 v r (some nb) (some lb) (some mb) [r] → K (.pointer (some ⟨v.heap.size, 0, none⟩)) (v.alloc (.cells #[.slice (some ⟨lb, 0, none⟩) 1 1, .map (some mb)] T_dag_Graph)) := fun h => hK _ _ (h.fin k3.size) ((k3.trans h.kp (fun _ _ h => h)).alloc _)
  refine ⟨r.1, ⟨r.2.1, Cells.blk hb3⟩, ?_⟩
  have hnode : ∀ b, Try.prog.built T_dag_node [(0, .agg r.1)] = some (ncell r (rootM b)) := fun b => builtRoot r b
  rw [hnode 0]
  refine Is.mk rfl ?_
  refine ⟨r.1, ⟨r.2.1, Cells.blk hb3⟩, ?_⟩
  refine ⟨?_, ?_⟩
  · have N7 : NP w3 (w3.alloc (.cells (ncell r (rootM w3.heap.size)) T_dag_node)) r (some w3.heap.size) none none [] := N3.addNode
    refine ⟨hcs N7.kp, ?_, ?_⟩
    · have N8 := N7.addList
      have N9 := N8.addMap
      obtain ⟨v, hr, N10⟩ := N9.put
      exact ⟨hcs N8.kp, hcs N9.kp, v, hr, hfin N10⟩
    · have N12 := N7.addMap
      refine ⟨hcs N12.kp, ?_, ?_⟩
      · have N13 := N12.addList
        obtain ⟨v, hr, N14⟩ := N13.put
        exact ⟨hcs N13.kp, v, hr, hfin N14⟩
      · obtain ⟨v, hr, N16⟩ := N12.put
        exact ⟨v, hr, hfin N16.addList⟩
  · have N19 := N3.addMap
    refine ⟨hcs N19.kp, hcs N19.kp, ?_, ?_⟩
    · have N20 : NP w3 ((w3.alloc (.map #[] 0)).alloc (.cells (ncell r (rootM (w3.alloc (.map #[] 0)).heap.size)) T_dag_node)) r (some (w3.alloc (.map #[] 0)).heap.size) none (some w3.heap.size) [] := N19.addNode
      refine ⟨hcs N20.kp, ?_, ?_⟩
      · have N21 := N20.addList
        obtain ⟨v, hr, N22⟩ := N21.put
        exact ⟨hcs N21.kp, v, hr, hfin N22⟩
      · obtain ⟨v, hr, N24⟩ := N20.put
        exact ⟨v, hr, hfin N24.addList⟩
    · obtain ⟨v, hr, N27⟩ := N19.put
      exact ⟨v, hr, hcs N27.kp, hfin N27.addNode.addList⟩
end
end Go.Proofs.Ytljckpecmlnbiaa
/-
  The program's Root, All, Copy.
-/
namespace Go.Proofs.Ytljckpecmlnbiaa
open Go Go.Lite Go.RowKit

section
variable {w w' : World} {S S' F : Nat → Prop} {g bl c mb : Nat} {D : DG} {C : HT → List HT} {M : List NM} {K : Value → World → Prop}
end
end Go.Proofs.Ytljckpecmlnbiaa
/-
  The program's Copy.
-/
namespace Go.Proofs.Ytljckpecmlnbiaa
open Go Go.Lite Go.RowKit

theorem ncell_one (h : HT) (m : NM) : ∀ u ∈ (ncell h m).toList, u.oneCell' = true := fun u hu => by
  unfold ncell at hu
  rw [Array.toList_append, List.mem_append] at hu
  rcases hu with hu | hu
  · exact h.2.one u hu
  · simp at hu
    rcases hu with rfl | rfl | rfl <;> rfl
section
variable {w w' : World} {S S' F : Nat → Prop} {g bl c mb : Nat} {D : DG} {C : HT → List HT} {M : List NM} {K : Value → World → Prop}
theorem NodeAt.keepT {ch : List HT} {nd : DN} {m : NM} {S0 : Nat → Prop} (h : NodeAt w S F D ch nd m) (hk : Kept S0 w w') (hb : ¬ S0 m.b) (hc : ∀ k, blkOf m.cA = some k → ¬ S0 k) (hF : ∀ k, F k → ¬ S0 k) (hS : ∀ k, S k → S' k) : NodeAt w' S' F D ch nd m :=
  ⟨hk.heap h.blk hb, hS _ h.footB, h.ps.keep hk (fun a ha => hF _ (h.psF a ha)), h.psF, Row.keep h.ch hk hc, fun k e => hS _ (h.chF k e), h.past.keep hk (fun a ha => hF _ (h.pastF a ha)), h.pastF, h.ok, h.bits, h.small⟩
/-- a copy in the making: i nodes -/
structure CP (w w' : World) (F : Nat → Prop) (D : DG) (C : HT → List HT) (o mb i : Nat) (A : Option Addr) (c : Nat) (M : List NM) : Prop where
  top : w'.heap[o]? = some (.cells #[.slice A i c, .map (some mb)] T_dag_Graph (0, 0))
  row : Row w' w.heap.size T_p_dag_node 1 A i c (M.map fun m => .pointer (some ⟨m.b, 0, none⟩))
  len : M.length = i
  map : IsMap w' mb (ids D)
  node : ∀ (j : Nat) nd m, D[j]? = some nd → M[j]? = some m → NodeAt w' (fun k => w.heap.size ≤ k ∧ k < w'.heap.size) F D (C nd.id) nd m
  apart : ∀ (i j : Nat) m m', M[i]? = some m → M[j]? = some m' → i ≠ j → ∀ k, blkOf m.cA = some k → blkOf m'.cA ≠ some k
  ho : w.heap.size ≤ o
  hm : w.heap.size ≤ mb
  kp : Kept Nil w w'

end
end Go.Proofs.Ytljckpecmlnbiaa
