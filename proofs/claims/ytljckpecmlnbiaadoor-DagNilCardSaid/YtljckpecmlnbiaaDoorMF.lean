/-
  Maps from hashes to numbers.
-/
import Derived.Test.YtljckpecmlnbiaaDoorME
import Derived.Test.YtljckpecmlnbiaaDoorMC
import Derived.LaidEql
namespace Go.Proofs.YtljckpecmlnbiaaDoor
open Go Go.Lite Go.RowKit

/-- the first place of a hash -/
def pos (h : HT) : List HT → Nat → Option Nat
  | [], _ => none
  | x :: l, i => if h = x then some i else pos h l (i + 1)
theorem pos_none {h : HT} : ∀ {l : List HT} {i : Nat}, pos h l i = none ↔ h ∉ l
  | [], i => by simp [pos]
  | x :: l, i => by
    unfold pos
    split
    · rename_i e; simp [e]
    · rename_i e
      rw [pos_none (l := l)]
      simp [e]
theorem pos_some {h : HT} : ∀ {l : List HT} {i j : Nat}, pos h l i = some j → i ≤ j ∧ l[j - i]? = some h
  | [], i, j, e => by simp [pos] at e
  | x :: l, i, j, e => by
    unfold pos at e
    split at e
    · rename_i hx
      cases e
      subst hx
      exact ⟨Nat.le_refl _, by rw [Nat.sub_self]; rfl⟩
    · obtain ⟨h1, h2⟩ := pos_some e
      refine ⟨by omega, ?_⟩
      rw [show j - i = (j - (i + 1)) + 1 by omega]
      exact h2
theorem pos_of_get {h : HT} : ∀ {l : List HT} (i j : Nat), l.Nodup → l[j]? = some h → pos h l i = some (i + j)
  | [], i, j, _, e => by simp at e
  | x :: l, i, 0, _, e => by
    simp only [List.getElem?_cons_zero, Option.some.injEq] at e
    unfold pos
    rw [if_pos e.symm]
    simp
  | x :: l, i, j + 1, hn, e => by
    simp only [List.getElem?_cons_succ] at e
    rw [List.nodup_cons] at hn
    unfold pos
    rw [if_neg (fun hx => hn.1 (by rw [← hx]; exact List.mem_of_getElem? e)), pos_of_get (i + 1) j hn.2 e]
    congr 1
    omega

section
variable {w : World}
theorem undH : Tryd.prog.underlying T_api_Hash = some (.array 32 T_uint8) := by kernel_rfl
theorem undU : Tryd.prog.underlying T_uint8 = some (.int .u8) := by kernel_rfl
theorem infoU : ∃ i, Tryd.prog.info? T_uint8 = some i ∧ i.size = 1 := by
  have h : (match Tryd.prog.info? T_uint8 with | some i => Nat.beq i.size 1 | none => false) = true := by kernel_rfl
  split at h
  · rename_i i hi; exact ⟨i, hi, Nat.eq_of_beq_eq_true h⟩
  · cases h
theorem undM : Tryd.prog.underlying T_map_api_Hash_int = some (.map T_api_Hash T_int) := by kernel_rfl
theorem undI : Tryd.prog.underlying T_int = some (.int .i64) := by kernel_rfl
theorem zeroI (w : World) : (zeroValue T_int).run Tryd.prog w = .ok (.int .i64 0) w := by
  have h : (match Tryd.prog.info? T_int with | some i => (match i.zero with | some (.int .i64 n) => n == 0 | _ => false) | none => false) = true := by kernel_rfl
  split at h
  · rename_i i hi
    split at h
    · rename_i n hz
      have : n = 0 := by simpa using h
      subst this
      simp [zeroValue, typeInfo, hi, hz]
    · cases h
  · cases h
theorem run_equalH (a b : HT) (w : World) : (Op.equal T_api_Hash (.agg a.1) (.agg b.1)).run Tryd.prog w = .ok (decide (a = b)) w := by
  obtain ⟨i, hi, h1⟩ := infoU
  have := run_eq_ints (P := Tryd.prog) 9998 w undH undU hi h1 a.2.ints b.2.ints
  rw [sameInts_eq] at this
  simp only [Op.equal, Op.maxDepth]
  exact this
theorem run_checkH (h : HT) (em : Bool) (w : World) : (Instr.checkKey em 10000 T_api_Hash (.agg h.1)).run Tryd.prog w = .ok () w := by
  obtain ⟨i, hi, h1⟩ := infoU
  have hc : Tryd.prog.cellsOf T_uint8 = 1 := by simp [Program.cellsOf, hi, h1]
  rw [show (10000 : Nat) = 9999 + 1 from rfl, Instr.checkKey]
  simp only [Sem.run_bind, run_underlying undH, Result.andThen_ok]
  simp only [Std.Legacy.Range.forIn_eq_forIn_range', Std.Legacy.Range.size, Nat.sub_zero, Nat.add_one_sub_one, Nat.div_one]
  have each : ∀ j ∈ List.range' 0 32, ∃ v, h.1[j]? = some v ∧ ∃ x : Int, v = .int .u8 x := fun j hj => by
    have hj' : j < h.1.size := by rw [h.2.1]; simpa using hj
    obtain ⟨x, hx, _⟩ := h.2.2 h.1[j] (by simp)
    exact ⟨_, Array.getElem?_eq_getElem hj', x, hx⟩
  generalize List.range' 0 32 = is at each
  induction is with
  | nil => simp
  | cons j is ih =>
    obtain ⟨v, hv, x, rfl⟩ := each j (by simp)
    have hagg : (isAgg T_uint8).run Tryd.prog w = .ok false w := by simp [isAgg, run_underlying undU]
    have p1 : (part T_uint8 h.1 (j * 1)).run Tryd.prog w = .ok (.int .u8 x) w := by simp [part, hagg, hv]
    have p2 : (Instr.checkKey em 9999 T_uint8 (.int .u8 x)).run Tryd.prog w = .ok () w := by
      rw [show (9999 : Nat) = 9998 + 1 from rfl, Instr.checkKey]
      simp [run_underlying undU]
    simp only [List.forIn_cons, Sem.run_bind, Go.Lite.run_sizeOf hi w, hc, Result.andThen_ok, p1, p2, Sem.run_pure]
    exact ih (fun y hy => each y (by simp [hy]))

/-- a map's entries: the hashes in a row, each with its place -/
def Ents (es : List MapEntry) (l : List HT) (i : Nat) : Prop := match es, l with
  | [], [] => True
  | e :: es, h :: l => (e.key = .agg h.1 ∧ e.val = .int .i64 (i : Int)) ∧ Ents es l (i + 1)
  | _, _ => False
theorem Ents.snoc : ∀ {es : List MapEntry} {l : List HT} {i : Nat} {e : MapEntry} {h : HT}, Ents es l i → e.key = .agg h.1 → e.val = .int .i64 ((i + l.length : Nat) : Int) → Ents (es ++ [e]) (l ++ [h]) i
  | [], [], i, e, h, _, h1, h2 => ⟨⟨h1, by simpa using h2⟩, trivial⟩
  | x :: es, y :: l, i, e, h, he, h1, h2 => ⟨he.1, Ents.snoc he.2 h1 (by rw [h2]; congr 2; simp; omega)⟩
  | [], _ :: _, _, _, _, he, _, _ => he.elim
  | _ :: _, [], _, _, _, he, _, _ => he.elim
theorem run_findAskH (h : HT) (w : World) : ∀ (es : List MapEntry) (l : List HT) (i : Nat), Ents es l i →
    (Instr.findAsking T_api_Hash (.agg h.1) es i).run Tryd.prog w = .ok ((pos h l i).map fun j => (j, .int .i64 (j : Int))) w
  | [], [], i, _ => by simp [Instr.findAsking, pos]
  | e :: es, x :: l, i, he => by
    have hq := run_equalH h x w
    have ih := run_findAskH h w es l (i + 1) he.2
    simp only [Instr.findAsking, he.1.1, Sem.run_bind, hq, Result.andThen_ok]
    by_cases hx : h = x
    · simp [hx, pos, he.1.2]
    · simp [hx, pos, ih]
  | [], _ :: _, _, he => he.elim
  | _ :: _, [], _, he => he.elim
theorem run_findKeyH (h : HT) (w : World) {es : List MapEntry} {l : List HT} (he : Ents es l 0) :
    (Instr.findKey T_api_Hash (.agg h.1) es).run Tryd.prog w = .ok ((pos h l 0).map fun j => (j, .int .i64 (j : Int))) w := by
  have h1 := run_findAskH h w es l 0 he
  simp only [Instr.findKey, Sem.run_bind, run_underlying undH, Result.andThen_ok]
  cases es with
  | nil =>
    cases l with
    | nil => simp [Instr.findNow, pos]
    | cons x l => exact he.elim
  | cons e es =>
    have : Instr.findNow (.array 32 T_uint8) (.agg h.1) (e :: es) 0 = none := by
      simp only [Instr.findNow, Instr.sameNow]
    rw [this]
    exact h1
theorem getMap {r : Nat} {es : Array MapEntry} {clock : Nat} (hb : w.heap[r]? = some (.map es clock)) : (getObj r).run Tryd.prog w = .ok (.map es clock) w := by
  simp [getObj, Sem.run, hb]
theorem setMap {r : Nat} {es : Array MapEntry} {clock : Nat} (o : Obj) (hb : w.heap[r]? = some (.map es clock)) : (setObj r o).run Tryd.prog w = .ok () { w with heap := w.heap.setIfInBounds r o } := by
  simp [setObj, Sem.run, hb]

/-- block m holds the map of hashes to their places -/
structure IsMap (w : World) (m : Nat) (l : List HT) : Prop where
  ex : ∃ es clock, w.heap[m]? = some (.map es clock) ∧ Ents es.toList l 0
theorem IsMap.keep {S : Nat → Prop} {w w' : World} {m : Nat} {l : List HT} (h : IsMap w m l) (hk : Kept S w w') (hn : ¬ S m) : IsMap w' m l := by
  obtain ⟨es, clock, h1, h2⟩ := h.ex
  exact ⟨es, clock, hk.heap h1 hn, h2⟩
theorem IsMap.lt {w : World} {m : Nat} {l : List HT} (h : IsMap w m l) : m < w.heap.size := by
  obtain ⟨es, clock, h1, _⟩ := h.ex
  exact lt_blk h1
theorem IsMap.look {m : Nat} {l : List HT} (hm : IsMap w m l) (h : HT) :
    (Instr.lookup T_map_api_Hash_int (.map (some m)) (.agg h.1) true).run Tryd.prog w = .ok (.tuple #[.int .i64 (((pos h l 0).getD 0 : Nat) : Int), .bool (pos h l 0).isSome]) w := by
  obtain ⟨es, clock, h1, h2⟩ := hm.ex
  have h3 := run_findKeyH h w h2
  simp only [Instr.lookup, Sem.run_bind, run_underlying undM, getMap h1, Result.andThen_ok, Sem.run_pure, run_checkH, h3]
  cases hp : pos h l 0 <;> simp [zeroI]
theorem IsMap.look1 {m : Nat} {l : List HT} (hm : IsMap w m l) (h : HT) :
    (Instr.lookup T_map_api_Hash_int (.map (some m)) (.agg h.1) false).run Tryd.prog w = .ok (.int .i64 (((pos h l 0).getD 0 : Nat) : Int)) w := by
  obtain ⟨es, clock, h1, h2⟩ := hm.ex
  have h3 := run_findKeyH h w h2
  simp only [Instr.lookup, Sem.run_bind, run_underlying undM, getMap h1, Result.andThen_ok, Sem.run_pure, run_checkH, h3]
  cases hp : pos h l 0 <;> simp [zeroI]
theorem IsMap.look1_none (h : HT) : (Instr.lookup T_map_api_Hash_int (.map none) (.agg h.1) false).run Tryd.prog w = .ok (.int .i64 0) w := by
  have h3 := run_findKeyH (es := []) (l := []) h w trivial
  simp only [Instr.lookup, Sem.run_bind, run_underlying undM, Result.andThen_ok, Sem.run_pure, run_checkH]
  simp [h3, pos, zeroI]
theorem IsMap.put {m : Nat} {l : List HT} (hm : IsMap w m l) {h : HT} (hn : h ∉ l) :
    ∃ w', (Instr.mapUpdate T_map_api_Hash_int (.map (some m)) (.agg h.1) (.int .i64 ((l.length : Nat) : Int))).run Tryd.prog w = .ok () w' ∧ IsMap w' m (l ++ [h]) ∧ Kept (· = m) w w' := by
  obtain ⟨es, clock, h1, h2⟩ := hm.ex
  have h3 := run_findKeyH h w h2
  rw [pos_none.2 hn] at h3
  refine ⟨{ w with heap := w.heap.setIfInBounds m (.map (es.push { key := .agg h.1, val := .int .i64 ((l.length : Nat) : Int), born := clock }) (clock + 1)) }, ?_, ⟨es.push { key := .agg h.1, val := .int .i64 ((l.length : Nat) : Int), born := clock }, clock + 1, ?_, ?_⟩, ?_⟩
  · simp only [Instr.mapUpdate, Sem.run_bind, run_underlying undM, getMap h1, Result.andThen_ok, Sem.run_pure, run_checkH, h3, Option.map_none, setMap _ h1]
  · simp [lt_blk h1]
  · have := h2.snoc (e := { key := .agg h.1, val := .int .i64 ((l.length : Nat) : Int), born := clock }) (h := h) rfl (by simp)
    simpa using this
  · exact ⟨rfl, rfl, rfl, by simp, fun k _ hk => by simp [Array.getElem?_setIfInBounds, Ne.symm hk]⟩
end
end Go.Proofs.YtljckpecmlnbiaaDoor
/-
  A graph, plainly: hashes with their parents, in the order in which they came (no program in sight).
-/
namespace Go.Proofs.YtljckpecmlnbiaaDoor
open Go Go.Lite

structure DN where
  id : HT
  ps : List HT
abbrev DG := List DN
def ids (D : DG) : List HT := D.map (·.id)
/-- p is a parent of h -/
def Par (D : DG) (p h : HT) : Prop := ∃ nd ∈ D, nd.id = h ∧ p ∈ nd.ps
/-- a stands ahead of h -/
inductive Anc (D : DG) : HT → HT → Prop
  | one {p h : HT} : Par D p h → Anc D p h
  | more {a p h : HT} : Anc D a p → Par D p h → Anc D a h
theorem Anc.trans {D : DG} {a b c : HT} (h : Anc D a b) (h' : Anc D b c) : Anc D a c := by
  induction h' with
  | one hp => exact .more h hp
  | more _ hp ih => exact .more ih hp

structure WfD (D : DG) : Prop where
  pos : 0 < D.length
  nodup : (ids D).Nodup
  ss : ∀ nd ∈ D, SS nd.ps
  up : ∀ (i : Nat) nd p, D[i]? = some nd → p ∈ nd.ps → ∃ (j : Nat) (m : DN), j < i ∧ D[j]? = some m ∧ m.id = p
theorem ids_len (D : DG) : (ids D).length = D.length := by simp [ids]
theorem ids_get {D : DG} {i : Nat} {nd : DN} (h : D[i]? = some nd) : (ids D)[i]? = some nd.id := by simp [ids, h]
theorem ids_at {D : DG} {i : Nat} {h : HT} (e : (ids D)[i]? = some h) : ∃ nd, D[i]? = some nd ∧ nd.id = h := by
  unfold ids at e
  rw [List.getElem?_map] at e
  cases hd : D[i]? with
  | none => rw [hd] at e; cases e
  | some nd => rw [hd] at e; exact ⟨nd, rfl, by simpa using e⟩
theorem ids_mem {D : DG} {h : HT} : h ∈ ids D ↔ ∃ nd ∈ D, nd.id = h := by simp [ids]

section
variable {D : DG}
theorem WfD.inj (W : WfD D) {i j : Nat} {a b : DN} (ha : D[i]? = some a) (hb : D[j]? = some b) (e : a.id = b.id) : i = j := by
  have h1 := pos_of_get 0 i W.nodup (ids_get ha)
  have h2 := pos_of_get 0 j W.nodup (ids_get hb)
  rw [e, h2] at h1
  simpa using h1.symm
theorem WfD.pos_eq (W : WfD D) {i : Nat} {nd : DN} (h : D[i]? = some nd) : Proofs.YtljckpecmlnbiaaDoor.pos nd.id (ids D) 0 = some i := by
  have := pos_of_get 0 i W.nodup (ids_get h)
  rwa [Nat.zero_add] at this
/-- by places -/
theorem Par.at_ (W : WfD D) {p h : HT} (hp : Par D p h) : ∃ (i j : Nat) (m nd : DN), i < j ∧ D[i]? = some m ∧ D[j]? = some nd ∧ m.id = p ∧ nd.id = h ∧ p ∈ nd.ps := by
  obtain ⟨nd, hnd, rfl, hps⟩ := hp
  obtain ⟨j, hj⟩ := List.mem_iff_getElem?.1 hnd
  obtain ⟨i, m, hij, hm, e⟩ := W.up j nd p hj hps
  exact ⟨i, j, m, nd, hij, hm, hj, e, rfl, hps⟩
theorem Anc.at_ (W : WfD D) {a h : HT} (hp : Anc D a h) : ∃ (i j : Nat) (m nd : DN), i < j ∧ D[i]? = some m ∧ D[j]? = some nd ∧ m.id = a ∧ nd.id = h := by
  induction hp with
  | one hp =>
    obtain ⟨i, j, m, nd, h1, h2, h3, h4, h5, _⟩ := hp.at_ W
    exact ⟨i, j, m, nd, h1, h2, h3, h4, h5⟩
  | more _ hp ih =>
    obtain ⟨i, j, m, nd, h1, h2, h3, h4, h5⟩ := ih
    obtain ⟨i', j', m', nd', h1', h2', h3', h4', h5', _⟩ := hp.at_ W
    have e := W.inj h3 h2' (by rw [h5, h4'])
    exact ⟨i, j', m, nd', by omega, h2, h3', h4, h5'⟩
theorem Anc.irrefl (W : WfD D) (a : HT) : ¬ Anc D a a := fun h => by
  obtain ⟨i, j, m, nd, h1, h2, h3, h4, h5⟩ := h.at_ W
  have := W.inj h2 h3 (by rw [h4, h5])
  omega
theorem Anc.asymm (W : WfD D) {a b : HT} (h : Anc D a b) : ¬ Anc D b a := fun h' => Anc.irrefl W a (h.trans h')
theorem Anc.mem (W : WfD D) {a h : HT} (hp : Anc D a h) : a ∈ ids D ∧ h ∈ ids D := by
  obtain ⟨i, j, m, nd, _, h2, h3, h4, h5⟩ := hp.at_ W
  exact ⟨ids_mem.2 ⟨m, List.mem_of_getElem? h2, h4⟩, ids_mem.2 ⟨nd, List.mem_of_getElem? h3, h5⟩⟩
/-- one's ancestors, by one's parents -/
theorem anc_iff (W : WfD D) {i : Nat} {nd : DN} (h : D[i]? = some nd) (a : HT) : Anc D a nd.id ↔ ∃ p ∈ nd.ps, a = p ∨ Anc D a p := by
  have key : ∀ {p}, Par D p nd.id → p ∈ nd.ps := fun ⟨nd', hm, e, hp⟩ => by
    obtain ⟨j, hj⟩ := List.mem_iff_getElem?.1 hm
    have := W.inj h hj e.symm
    subst this
    rw [h] at hj
    cases hj
    exact hp
  constructor
  · intro ha
    generalize he : nd.id = x at ha
    cases ha with
    | one hp => subst he; exact ⟨a, key hp, .inl rfl⟩
    | more ha' hp => subst he; exact ⟨_, key hp, .inr ha'⟩
  · rintro ⟨p, hp, e⟩
    have hpar : Par D p nd.id := ⟨nd, List.mem_of_getElem? h, rfl, hp⟩
    rcases e with rfl | e
    · exact .one hpar
    · exact .more e hpar

/-- one more -/
theorem par_snoc {nd : DN} {p h : HT} : Par (D ++ [nd]) p h ↔ Par D p h ∨ (nd.id = h ∧ p ∈ nd.ps) := by
  unfold Par
  constructor
  · rintro ⟨m, hm, e, hp⟩
    rw [List.mem_append, List.mem_singleton] at hm
    rcases hm with hm | rfl
    · exact .inl ⟨m, hm, e, hp⟩
    · exact .inr ⟨e, hp⟩
  · rintro (⟨m, hm, e, hp⟩ | ⟨e, hp⟩)
    · exact ⟨m, by simp [hm], e, hp⟩
    · exact ⟨nd, by simp, e, hp⟩
theorem anc_snoc (W : WfD D) {nd : DN} (hn : nd.id ∉ ids D) {a h : HT} (hh : h ∈ ids D) : Anc (D ++ [nd]) a h ↔ Anc D a h := by
  constructor
  · intro ha
    induction ha with
    | one hp =>
      rcases par_snoc.1 hp with hp | ⟨e, _⟩
      · exact .one hp
      · subst e; exact absurd hh hn
    | more _ hp ih =>
      rcases par_snoc.1 hp with hp | ⟨e, _⟩
      · exact .more (ih (Anc.mem W (.one hp)).1) hp
      · subst e; exact absurd hh hn
  · intro ha
    induction ha with
    | one hp => exact .one (par_snoc.2 (.inl hp))
    | more ha' hp ih => exact .more (ih (Anc.mem W ha').2) (par_snoc.2 (.inl hp))
theorem ids_snoc (D : DG) (nd : DN) : ids (D ++ [nd]) = ids D ++ [nd.id] := by simp [ids]
theorem WfD.snoc (W : WfD D) {nd : DN} (hn : nd.id ∉ ids D) (hps : ∀ p ∈ nd.ps, p ∈ ids D) (hs : SS nd.ps) : WfD (D ++ [nd]) where
  pos := by simp
  nodup := by
    rw [ids_snoc, List.nodup_append]
    refine ⟨W.nodup, by simp, fun a ha b hb => ?_⟩
    rw [List.mem_singleton] at hb
    subst hb
    exact fun e => hn (e ▸ ha)
  ss := fun m hm => by
    rw [List.mem_append, List.mem_singleton] at hm
    rcases hm with hm | rfl
    · exact W.ss m hm
    · exact hs
  up := fun i m p hi hp => by
    rw [List.getElem?_append] at hi
    split at hi
    · rename_i hlt
      obtain ⟨j, q, h1, h2, h3⟩ := W.up i m p hi hp
      exact ⟨j, q, h1, by rw [List.getElem?_append_left (by omega)]; exact h2, h3⟩
    · rename_i hge
      have : m = nd := by
        cases hk : i - D.length with
        | zero => rw [hk] at hi; simpa using hi.symm
        | succ k => rw [hk] at hi; simp at hi
      subst this
      obtain ⟨q, hq, e⟩ := ids_mem.1 (hps p hp)
      obtain ⟨j, hj⟩ := List.mem_iff_getElem?.1 hq
      have hjl := (List.getElem?_eq_some_iff.1 hj).1
      exact ⟨j, q, by omega, by rw [List.getElem?_append_left hjl]; exact hj, e⟩
end
theorem WfD.root (r : HT) : WfD [⟨r, []⟩] where
  pos := by simp
  nodup := by simp [ids]
  ss := fun nd h => by simp at h; subst h; exact List.Pairwise.nil
  up := fun i nd p h hp => by
    cases i with
    | zero => simp at h; subst h; simp at hp
    | succ i => simp at h

/-- what comes of one that comes -/
def addC (D : DG) (h : HT) (l : List HT) : Int :=
  if h ∈ ids D then 7 else if (srt l).length = 0 ∨ (srt l).length ≠ l.length then 9 else if ∃ p ∈ srt l, p ∉ ids D then 6 else 0
def addD (D : DG) (h : HT) (l : List HT) : DG := if addC D h l = 0 then D ++ [⟨h, srt l⟩] else D
theorem addC_ok {D : DG} {h : HT} {l : List HT} (e : addC D h l = 0) : h ∉ ids D ∧ l ≠ [] ∧ l.Nodup ∧ ∀ p ∈ srt l, p ∈ ids D := by
  unfold addC at e
  split at e
  · cases e
  · rename_i h1
    split at e
    · cases e
    · rename_i h2
      split at e
      · cases e
      · rename_i h3
        simp only [not_or, Decidable.not_not] at h2
        refine ⟨h1, fun hl => h2.1 (by rw [hl]; rfl), nodup_of_srt h2.2, fun p hp => Classical.byContradiction fun hn => h3 ⟨p, hp, hn⟩⟩
theorem WfD.add {D : DG} (W : WfD D) (h : HT) (l : List HT) : WfD (addD D h l) := by
  unfold addD
  split
  · rename_i e
    obtain ⟨h1, _, _, h4⟩ := addC_ok e
    exact W.snoc h1 h4 (SS_srt l)
  · exact W
theorem addD_len (D : DG) (h : HT) (l : List HT) : (addD D h l).length ≤ D.length + 1 := by
  unfold addD; split <;> simp

/-! what a graph answers -/
open Classical in
noncomputable def pick (D : DG) (is : HT → Prop) : List HT := srt ((ids D).filter fun a => decide (is a))
theorem mem_pick {D : DG} {is : HT → Prop} {a : HT} : a ∈ pick D is ↔ a ∈ ids D ∧ is a := by
  unfold pick; rw [mem_srt, List.mem_filter]; simp
theorem pick_ext {D : DG} {is is' : HT → Prop} (h : ∀ a ∈ ids D, is a ↔ is' a) : pick D is = pick D is' := srt_ext fun x => by
  simp only [List.mem_filter, decide_eq_true_eq]
  exact ⟨fun ⟨h1, h2⟩ => ⟨h1, (h x h1).1 h2⟩, fun ⟨h1, h2⟩ => ⟨h1, (h x h1).2 h2⟩⟩
theorem pick_of {D : DG} {is : HT → Prop} {l : List HT} (h : ∀ a, a ∈ l ↔ a ∈ ids D ∧ is a) : srt l = pick D is := srt_ext fun x => by
  rw [h, List.mem_filter]; simp
theorem pick_len (D : DG) (is : HT → Prop) : (pick D is).length ≤ D.length := by
  unfold pick
  refine Nat.le_trans (srt_len _) (Nat.le_trans (List.length_filter_le _ _) ?_)
  rw [ids_len]; exact Nat.le_refl _
noncomputable def pastL (D : DG) (h : HT) : List HT := pick D fun a => Anc D a h
noncomputable def pastsL (D : DG) (l : List HT) : List HT := pick D fun a => ∃ h ∈ l, Anc D a h
noncomputable def futureL (D : DG) (h : HT) : List HT := pick D fun a => Anc D h a
noncomputable def antiL (D : DG) (h : HT) : List HT := pick D fun a => h ∈ ids D ∧ a ≠ h ∧ ¬ Anc D a h ∧ ¬ Anc D h a
noncomputable def childL (D : DG) (h : HT) : List HT := pick D fun a => Par D h a
noncomputable def tipsL (D : DG) : List HT := pick D fun a => ¬ ∃ b, Par D a b
end Go.Proofs.YtljckpecmlnbiaaDoor
/-
  Rows of hashes with their parents; the document's graph in memory.
-/
namespace Go.Proofs.YtljckpecmlnbiaaDoor
open Go Go.Lite Go.RowKit

/-- a slice of hashes with lists, to be read; F: where all that lies -/
structure NS (w : World) (F : Nat → Prop) (A : Option Addr) (n : Nat) (l : List DN) : Prop where
  len : l.length = n
  at_ : ∀ (i : Nat) nd, l[i]? = some nd → ∃ a pA pn pc, A = some a ∧ a.block < w.heap.size ∧ F a.block ∧ Cells w (a.add (i * 33)) (nd.id.1.push (.slice pA pn pc)) ∧ HS w pA pn nd.ps ∧ ∀ b, pA = some b → F b.block
section
variable {w w' : World} {F F' S : Nat → Prop} {A : Option Addr} {n : Nat} {l : List DN}
theorem NS.keep (h : NS w F A n l) (hk : Kept S w w') (hn : ∀ k, F k → ¬ S k) : NS w' F A n l := ⟨h.len, fun i nd hi => by
  obtain ⟨a, pA, pn, pc, h1, h2, h3, h4, h5, h6⟩ := h.at_ i nd hi
  exact ⟨a, pA, pn, pc, h1, Nat.lt_of_lt_of_le h2 hk.size, h3, Cells.keep h4 hk (by rw [addr_block]; exact hn _ h3), h5.keep hk (fun b hb => hn _ (h6 b hb)), h6⟩⟩
theorem NS.mono (h : NS w F A n l) (hf : ∀ k, F k → F' k) : NS w F' A n l := ⟨h.len, fun i nd hi => by
  obtain ⟨a, pA, pn, pc, h1, h2, h3, h4, h5, h6⟩ := h.at_ i nd hi
  exact ⟨a, pA, pn, pc, h1, h2, hf _ h3, h4, h5, fun b hb => hf _ (h6 b hb)⟩⟩
theorem push_get {h : HT} {v : Value} {j : Nat} {u : Value} (hj : h.1[j]? = some u) : (h.1.push v)[j]? = some u := by
  have hlt := (Array.getElem?_eq_some_iff.1 hj).1
  rw [Array.getElem?_push, if_neg (by omega), hj]
theorem push_last (h : HT) (v : Value) : (h.1.push v)[32]? = some v := by
  have := h.2.1
  rw [Array.getElem?_push, if_pos (by omega)]
theorem NS.id (h : NS w F A n l) {i : Int} {nd : DN} (h0 : 0 ≤ i) (hx : l[i.toNat]? = some nd) {k : Array Value → Prop} (hk : k nd.id.1) :
    (0 ≤ i ∧ i < (n : Int)) ∧ Is A fun a => ∃ t : Array Value, (t.size = 32 ∧ Cells w ((a.add (i.toNat * 33)).add 0) t) ∧ k t := by
  obtain ⟨a, pA, pn, pc, rfl, _, _, h4, _, _⟩ := h.at_ _ nd hx
  have := (List.getElem?_eq_some_iff.1 hx).1
  have := h.len
  refine ⟨⟨h0, by omega⟩, nd.id.1, ⟨nd.id.2.1, fun j v hj => ?_⟩, hk⟩
  rw [add_zero]
  exact h4 j v (push_get hj)
theorem NS.ps (h : NS w F A n l) {i : Int} {nd : DN} (h0 : 0 ≤ i) (hx : l[i.toNat]? = some nd) {k : Option Addr → Nat → Nat → Prop} (hk : ∀ pA pn pc, HS w pA pn nd.ps → (∀ b, pA = some b → F b.block) → k pA pn pc) :
    (0 ≤ i ∧ i < (n : Int)) ∧ Is A fun a => ∃ pA pn pc, w.cell? ((a.add (i.toNat * 33)).add 32) = some (.slice pA pn pc) ∧ k pA pn pc := by
  obtain ⟨a, pA, pn, pc, rfl, _, _, h4, h5, h6⟩ := h.at_ _ nd hx
  have := (List.getElem?_eq_some_iff.1 hx).1
  have := h.len
  exact ⟨⟨h0, by omega⟩, pA, pn, pc, h4 32 _ (push_last _ _), hk _ _ _ h5 h6⟩
/-- its cells in a row -/
theorem NS.cells (h : NS w F A n l) : ∀ k, k ≤ n → ∃ news : List Value, news.length = k * 33 ∧ (∀ a, A = some a → ∀ j u, news[j]? = some u → w.cell? (a.add j) = some u) ∧ (∀ u ∈ news, u.oneCell' = true) ∧
    ∀ (i : Nat) nd, i < k → l[i]? = some nd → ∃ pA pn pc, HS w pA pn nd.ps ∧ (∀ b, pA = some b → F b.block) ∧ ∀ (j : Nat) v, (nd.id.1.push (.slice pA pn pc))[j]? = some v → news[i * 33 + j]? = some v
  | 0, _ => ⟨[], rfl, by simp, by simp, by intro i nd hi; omega⟩
  | k + 1, hk => by
    obtain ⟨news, e1, e2, e3, e4⟩ := h.cells k (by omega)
    have hlen := h.len
    obtain ⟨nd, hnd⟩ : ∃ nd, l[k]? = some nd := ⟨_, List.getElem?_eq_getElem (by omega)⟩
    obtain ⟨a, pA, pn, pc, hA, h2, h3, h4, h5, h6⟩ := h.at_ _ nd hnd
    have hsz : (nd.id.1.push (.slice pA pn pc)).size = 33 := by rw [Array.size_push, nd.id.2.1]
    refine ⟨news ++ (nd.id.1.push (.slice pA pn pc)).toList, by rw [List.length_append, e1, Array.length_toList, hsz]; omega, fun a' ha' j u hj => ?_, fun u hu => ?_, fun i md hi hmd => ?_⟩
    · rw [List.getElem?_append] at hj
      split at hj
      · exact e2 a' ha' j u hj
      · rename_i hge
        rw [hA] at ha'
        cases ha'
        have := h4 (j - news.length) u (by rw [← Array.getElem?_toList]; exact hj)
        rwa [addr_add, show k * 33 + (j - news.length) = j by omega] at this
    · rw [List.mem_append] at hu
      rcases hu with hu | hu
      · exact e3 u hu
      · simp only [Array.toList_push, List.mem_append, List.mem_singleton] at hu
        rcases hu with hu | rfl
        · exact nd.id.2.one u hu
        · rfl
    · by_cases hik : i < k
      · obtain ⟨qA, qn, qc, f1, f2, f3⟩ := e4 i md hik hmd
        exact ⟨qA, qn, qc, f1, f2, fun j v hj => by
          have := f3 j v hj
          rw [List.getElem?_append_left (List.getElem?_eq_some_iff.1 this).1]
          exact this⟩
      · have : i = k := by omega
        subst this
        rw [hnd] at hmd
        cases hmd
        exact ⟨pA, pn, pc, h5, h6, fun j v hj => by
          rw [List.getElem?_append_right (by omega), e1, show i * 33 + j - i * 33 = j by omega, Array.getElem?_toList]
          exact hj⟩

theorem slNode : SlT Tryd.prog T_sl_plexusref10_Node T_plexusref10_Node 33 56 := ⟨by kernel_rfl, by kernel_rfl⟩
theorem bldNode : bld Tryd.prog T_plexusref10_Node = some ([(0, 32), (32, 1)], List.replicate 32 (.int .u8 0) ++ [.slice none 0 0]) := by kernel_rfl
theorem builtNode (h : HT) (A : Option Addr) (n c : Nat) : Tryd.prog.built T_plexusref10_Node [(0, .agg h.1), (1, .slice A n c)] = some (h.1.push (.slice A n c)) := by
  have hs := h.2.1
  rw [built_of bldNode, fill_part (off := 0) (size := 32) rfl (by simpa [Value.cells] using hs) (by simp), fill_part (off := 32) (size := 1) rfl rfl (by
    rw [List.size_toArray, splice_len (by simp [Value.cells, hs])]
    simp)]
  simp only [Instr.fill, Option.some.injEq]
  apply Array.ext'
  unfold splice
  simp [Value.cells, hs]

/-- block r holds the document's graph D; F: what it reads of and never changes -/
structure IsR (w : World) (F : Nat → Prop) (r : Nat) (D : DG) : Prop where
  ex : ∃ A c, w.heap[r]? = some (.cells #[.slice A D.length c] T_plexusref10_Graph (0, 0)) ∧ NS w F A D.length D
  far : ¬ F r
theorem IsR.keep {r : Nat} {D : DG} (h : IsR w F r D) (hk : Kept S w w') (hr : ¬ S r) (hn : ∀ k, F k → ¬ S k) : IsR w' F r D := by
  obtain ⟨A, c, h1, h2⟩ := h.ex
  exact ⟨⟨A, c, hk.heap h1 hr, h2.keep hk hn⟩, h.far⟩
theorem IsR.same {r : Nat} {D : DG} (h : IsR w F r D) (hk : Kept Nil w w') : IsR w' F r D := h.keep hk (fun h => h) (fun _ _ h => h)
theorem IsR.lt {r : Nat} {D : DG} (h : IsR w F r D) : r < w.heap.size := by obtain ⟨A, c, h1, _⟩ := h.ex; exact lt_blk h1
theorem IsR.go {r : Nat} {D : DG} (h : IsR w F r D) {k : Option Addr → Nat → Nat → Prop} (hk : ∀ A c, NS w F A D.length D → k A D.length c) :
    ∃ A n m, w.cell? ((⟨r, 0, none⟩ : Addr).add 0) = some (.slice A n m) ∧ k A n m := by
  obtain ⟨A, c, h1, h2⟩ := h.ex
  exact ⟨A, _, c, by rw [add_zero, cell_blk h1]; rfl, hk A c h2⟩

theorem IsR.go' {r : Nat} {D : DG} (h : IsR w F r D) (kw : Kept Nil w w') {k : Option Addr → Nat → Nat → Prop} (hk : ∀ A c, NS w F A D.length D → k A D.length c) :
    ∃ A n m, w'.cell? ((⟨r, 0, none⟩ : Addr).add 0) = some (.slice A n m) ∧ k A n m := by
  obtain ⟨A, c, h1, h2⟩ := h.ex
  exact ⟨A, _, c, by rw [add_zero, cell_blk (kw.heap h1 (fun h => h))]; rfl, hk A c h2⟩
theorem NS.ps' (h : NS w F A n l) (kw : Kept Nil w w') {i : Int} {nd : DN} (h0 : 0 ≤ i) (hx : l[i.toNat]? = some nd) {k : Option Addr → Nat → Nat → Prop} (hk : ∀ pA pn pc, HS w pA pn nd.ps → k pA pn pc) :
    (0 ≤ i ∧ i < (n : Int)) ∧ Is A fun a => ∃ pA pn pc, w'.cell? ((a.add (i.toNat * 33)).add 32) = some (.slice pA pn pc) ∧ k pA pn pc := by
  obtain ⟨a, pA, pn, pc, rfl, _, _, h4, h5, h6⟩ := h.at_ _ nd hx
  have := (List.getElem?_eq_some_iff.1 hx).1
  have := h.len
  exact ⟨⟨h0, by omega⟩, pA, pn, pc, (kw.cell (h4 32 _ (push_last _ _)) (fun h => h)), hk _ _ _ h5⟩

/-- a node's place -/
def atI (D : DG) (h : HT) : Int := match pos h (ids D) 0 with | some j => (j : Int) | none => -1
theorem atI_neg {D : DG} {h : HT} : atI D h < 0 ↔ h ∉ ids D := by
  unfold atI
  rw [← pos_none (l := ids D) (i := 0)]
  cases hp : pos h (ids D) 0 <;> simp
theorem atI_ge {D : DG} {h : HT} : atI D h ≥ 0 ↔ h ∈ ids D := by
  have := @atI_neg D h
  constructor
  · intro hg; exact Classical.byContradiction fun hn => by have := this.2 hn; omega
  · intro hm; exact Classical.byContradiction fun hn => this.1 (by omega) hm
theorem atI_get {D : DG} {h : HT} (hm : h ∈ ids D) : ∃ nd, atI D h ≥ 0 ∧ D[(atI D h).toNat]? = some nd ∧ nd.id = h := by
  have h1 := atI_ge.2 hm
  unfold atI at *
  cases hp : pos h (ids D) 0 with
  | none => rw [hp] at h1; simp at h1
  | some j =>
    obtain ⟨_, h2⟩ := pos_some hp
    obtain ⟨nd, h3, h4⟩ := ids_at h2
    exact ⟨nd, by simp, by simpa using h3, h4⟩
theorem ids_take_get {D : DG} {i : Nat} {nd : DN} (h : D[i]? = some nd) : (ids D).take (i + 1) = (ids D).take i ++ [nd.id] := by
  rw [List.take_add_one, ids_get h]; rfl
theorem pos_first {h : HT} : ∀ {l : List HT} {i k : Nat}, h ∉ l.take k → l[k]? = some h → pos h l i = some (i + k)
  | [], _, _, _, e => by simp at e
  | x :: l, i, 0, _, e => by
    simp only [List.getElem?_cons_zero, Option.some.injEq] at e
    unfold pos
    rw [if_pos e.symm, Nat.add_zero]
  | x :: l, i, k + 1, hn, e => by
    simp only [List.getElem?_cons_succ] at e
    rw [List.take_succ_cons, List.mem_cons, not_or] at hn
    unfold pos
    rw [if_neg hn.1, pos_first (i := i + 1) hn.2 e]
    congr 1
    omega

variable {r : Nat} {D : DG} {K : Value → World → Prop}
theorem ref_At (H : IsR w F r D) (hD : D.length ≤ 1000000) (h : HT) (hK : ∀ w', Kept Nil w w' → K (.int .i64 (atI D h)) w') :
    Ret Tryd.prog ref10_Graph_At.id #[.pointer (some ⟨r, 0, none⟩), .agg h.1] w K := by
  refine ref10_Graph_At.of ?_
  unfold ref10_Graph_At.W
  intro w3
  have k3 : Kept Nil w w3 := (Kept.refl Nil w).alloc _
  have hb3 : w3.heap[w.heap.size]? = some (.cells h.1 T_api_Hash (0, 0)) := new_blk w _
  clear_value w3
  refine ref10_Graph_At.loop1 (I := fun s w' => ∃ i : Nat, s = (0, (i : Int)) ∧ i ≤ D.length ∧ Kept Nil w3 w' ∧ h ∉ (ids D).take i) (μ := fun s _ => ((D.length : Int) - s.2).toNat) (s := (0, 0)) ⟨0, rfl, Nat.zero_le _, Kept.refl _ _, by simp⟩ ?_
  rintro s w' ⟨i, rfl, hi, kw, hno⟩
  have kk : Kept Nil w w' := k3.trans kw (fun _ _ h => h)
  refine (H.same kk).go fun A c hns => ?_
  refine Split.dec (fun hil0 => ?_) (fun hge => ?_)
  · simp only at hil0
    have hil : i < D.length := by omega
    obtain ⟨nd, hnd⟩ : ∃ nd, D[i]? = some nd := ⟨_, List.getElem?_eq_getElem hil⟩
    intro w10
    have k10 : Kept Nil w3 w10 := kw.drew
    have kw10 : Kept Nil w w10 := k3.trans k10 (fun _ _ h => h)
    clear_value w10
    refine (H.same kw10).go fun A c hns => ?_
    refine hns.id (i := (i : Int)) (by omega) (by rw [Int.toNat_natCast]; exact hnd) ⟨h.1, ⟨h.2.1, Cells.blk (k10.heap hb3 (fun h => h))⟩, ⟨nd.id.2.ints, h.2.ints⟩, ?_⟩
    rw [sameInts_eq]
    refine Split.dec (fun he => ?_) (fun he => ?_)
    · have := hK w10 kw10
      unfold atI at this
      rw [pos_first (i := 0) hno (by rw [← he]; exact ids_get hnd), Nat.zero_add] at this
      exact this
    · simp only
      rw [wrapP (n := (i : Int)) (by omega) (by omega)]
      refine ⟨(0, (i : Int) + 1), rfl, ⟨i + 1, rfl, hil, k10, ?_⟩, by simp only; omega⟩
      rw [ids_take_get hnd, List.mem_append, List.mem_singleton, not_or]
      exact ⟨hno, fun e => he e.symm⟩
  · simp only at hge
    rw [roundQ_exit, ref10_Graph_At.x1_0]
    rw [List.take_of_length_le (by rw [ids_len]; omega)] at hno
    have := hK w' kk
    unfold atI at this
    rw [pos_none.2 hno] at this
    exact this
end
end Go.Proofs.YtljckpecmlnbiaaDoor
/-
  The document's Add.
-/
namespace Go.Proofs.YtljckpecmlnbiaaDoor
open Go Go.Lite Go.RowKit

section
variable {w w' : World} {F F' S : Nat → Prop} {A : Option Addr} {n c B : Nat} {l : List DN} {news : List Value} {r : Nat} {D : DG} {K : Value → World → Prop}
theorem ns_of_row (h : Row w B T_plexusref10_Node 33 A n c news) (hl : l.length = n) (hF : ∀ k, blkOf A = some k → F k)
    (hc : ∀ (i : Nat) nd, l[i]? = some nd → ∃ pA pn pc, HS w pA pn nd.ps ∧ (∀ b, pA = some b → F b.block) ∧ ∀ (j : Nat) v, (nd.id.1.push (.slice pA pn pc))[j]? = some v → news[i * 33 + j]? = some v) : NS w F A n l :=
  ⟨hl, fun i nd hi => by
    obtain ⟨pA, pn, pc, h1, h2, h3⟩ := hc i nd hi
    have := (List.getElem?_eq_some_iff.1 hi).1
    obtain ⟨b, rfl⟩ := Row.some h (by omega)
    obtain ⟨_, cur, hcur⟩ := Row.blk h (k := b) rfl
    exact ⟨_, pA, pn, pc, rfl, lt_blk hcur, hF b rfl, fun j v hj => by rw [addr_add]; exact Row.cells h _ _ (h3 j v hj), h1, h2⟩⟩
/-- a copy of a row of nodes -/
theorem append_ns (h : NS w F A n l) {cx : Nat} (h0 : 0 < n) (hn : n ≤ 100000) :
    ∃ A' c' w' news, (Builtin.append_ #[T_sl_plexusref10_Node, T_sl_plexusref10_Node] T_sl_plexusref10_Node #[.slice none 0 0, .slice A n cx]).run Tryd.prog w = .ok (.slice A' n c') w' ∧
      Row w' w.heap.size T_plexusref10_Node 33 A' n c' news ∧ Kept Nil w w' ∧
      ∀ (i : Nat) nd, l[i]? = some nd → ∃ pA pn pc, HS w pA pn nd.ps ∧ (∀ b, pA = some b → F b.block) ∧ ∀ (j : Nat) v, (nd.id.1.push (.slice pA pn pc))[j]? = some v → news[i * 33 + j]? = some v := by
  obtain ⟨news, e1, e2, e3, e4⟩ := h.cells n (Nat.le_refl _)
  have hlen := h.len
  obtain ⟨nd, hnd⟩ : ∃ nd, l[0]? = some nd := ⟨_, List.getElem?_eq_getElem (by omega)⟩
  obtain ⟨a, _, _, _, rfl, _⟩ := h.at_ _ nd hnd
  obtain ⟨A', c', w', hr, hrow, hg, hb⟩ := append_row (P := Tryd.prog) (t := T_sl_plexusref10_Node) (ty := T_sl_plexusref10_Node) (bytes := 56) slNode (Row.nil w w.heap.size _ _) (a := a) (m := n) (cx := cx) (news := news) e1 (e2 a rfl) e3 (by omega) (by unfold maxLen; omega) (Nat.le_refl _)
  rw [Nat.zero_add] at hr hrow
  rw [List.nil_append] at hrow
  exact ⟨A', c', w', news, hr, hrow, Kept.growNew (Kept.refl _ _) hg (fun k hk => by cases hk), fun i nd hi => e4 i nd (by have := (List.getElem?_eq_some_iff.1 hi).1; omega) hi⟩
/-- one node more -/
theorem append_nd (h : Row w B T_plexusref10_Node 33 A n c news) (hn : n ≤ 100000) (hB : B ≤ w.heap.size) {b : Nat} {arr : Array Value} (hb : w.heap[b]? = some (.cells arr T_plexusref10_Node (0, 0))) (hs : arr.size = 33) (h1 : ∀ u ∈ arr.toList, u.oneCell' = true) :
    ∃ A' c' w', (Builtin.append_ #[T_sl_plexusref10_Node, T_sl_plexusref10_Node] T_sl_plexusref10_Node #[.slice A n c, .slice (some ⟨b, 0, none⟩) 1 1]).run Tryd.prog w = .ok (.slice A' (n + 1) c') w' ∧
      Row w' B T_plexusref10_Node 33 A' (n + 1) c' (news ++ arr.toList) ∧ w.grownBy w' (blkOf A) := by
  obtain ⟨A', c', w', hr, hrow, hg, hb⟩ := append_row (P := Tryd.prog) (t := T_sl_plexusref10_Node) (ty := T_sl_plexusref10_Node) (bytes := 56) slNode h (a := ⟨b, 0, none⟩) (m := 1) (cx := 1) (news := arr.toList) (by simpa using hs)
    (fun j u hj => by rw [add_at, Nat.zero_add, cell_blk hb]; simpa using hj) h1 (by omega) (by unfold maxLen; omega) hB
  exact ⟨A', c', w', hr, hrow, hg⟩
theorem ns_snoc {nd : DN} {pA : Option Addr} {pn pc : Nat} (h : Row w B T_plexusref10_Node 33 A (n + 1) c (news ++ (nd.id.1.push (.slice pA pn pc)).toList)) (hnl : news.length = n * 33) (hl : l.length = n) (hF : ∀ k, blkOf A = some k → F k)
    (hc : ∀ (i : Nat) nd, l[i]? = some nd → ∃ pA pn pc, HS w pA pn nd.ps ∧ (∀ b, pA = some b → F b.block) ∧ ∀ (j : Nat) v, (nd.id.1.push (.slice pA pn pc))[j]? = some v → news[i * 33 + j]? = some v)
    (hp : HS w pA pn nd.ps) (hpF : ∀ b, pA = some b → F b.block) : NS w F A (n + 1) (l ++ [nd]) := by
  refine ns_of_row h (by simp [hl]) hF fun i md hi => ?_
  rw [List.getElem?_append] at hi
  split at hi
  · obtain ⟨qA, qn, qc, h1, h2, h3⟩ := hc i md hi
    exact ⟨qA, qn, qc, h1, h2, fun j v hj => by
      have := h3 j v hj
      rw [List.getElem?_append_left (List.getElem?_eq_some_iff.1 this).1]
      exact this⟩
  · rename_i hge
    have hi' : i = n ∧ md = nd := by
      cases hk : i - l.length with
      | zero => rw [hk] at hi; exact ⟨by omega, by simpa using hi.symm⟩
      | succ k => rw [hk] at hi; simp at hi
    obtain ⟨rfl, rfl⟩ := hi'
    exact ⟨pA, pn, pc, hp, hpF, fun j v hj => by
      rw [List.getElem?_append_right (by omega), hnl, show i * 33 + j - i * 33 = j by omega, Array.getElem?_toList]
      exact hj⟩
theorem NS.same (h : NS w F A n l) (hk : Kept Nil w w') : NS w' F A n l := h.keep hk fun _ _ h => h
theorem IsR.mono (h : IsR w F r D) (hf : ∀ k, F k → F' k) (hr : ¬ F' r) : IsR w F' r D := by
  obtain ⟨A, c, h1, h2⟩ := h.ex
  exact ⟨⟨A, c, h1, h2.mono hf⟩, hr⟩
theorem push_one (h : HT) (A : Option Addr) (n c : Nat) : ∀ u ∈ (h.1.push (.slice A n c)).toList, u.oneCell' = true := fun u hu => by
  simp only [Array.toList_push, List.mem_append, List.mem_singleton] at hu
  rcases hu with hu | rfl
  · exact h.2.one u hu
  · rfl

theorem ref_Add (H : IsR w F r D) (W : WfD D) (hD : D.length ≤ 10000) {h : HT} {lp : List HT} {A : Option Addr} {n c : Nat} (hl : HS w A n lp) (hn : n ≤ 400000)
    (hK : ∀ w', IsR w' (fun k => F k ∨ (w.heap.size ≤ k ∧ k < w'.heap.size)) r (addD D h lp) → Kept (· = r) w w' → K (.int .i64 (addC D h lp)) w') :
    Ret Tryd.prog ref10_Graph_Add.id #[.pointer (some ⟨r, 0, none⟩), .agg h.1, .slice A n c] w K := by
  have hrlt := H.lt
  have hlen := hl.len
  have hno : ∀ w', Kept Nil w w' → ∀ e, addC D h lp = e → e ≠ 0 → K (.int .i64 e) w' := fun w' k e he hne => by
    have := hK w' ?_ (k.mono fun _ _ h => h.elim)
    · rw [he] at this; exact this
    · unfold addD
      rw [if_neg (by rw [he]; exact hne)]
      exact (H.same k).mono (fun _ h => .inl h) (fun e => e.elim H.far (fun h => absurd h.1 (by omega)))
  refine ref10_Graph_Add.of ?_
  unfold ref10_Graph_Add.W
  intro w4
  have k4 : Kept Nil w w4 := (Kept.refl _ _).alloc _
  have hb4 : w4.heap[w.heap.size]? = some (.cells h.1 T_api_Hash (0, 0)) := new_blk w _
  clear_value w4
  refine ⟨h.1, ⟨h.2.1, Cells.blk hb4⟩, ref_At (H.same k4) (by omega) h fun w7 k7 => ⟨_, rfl, Split.dec (fun hge => ?_) (fun hlt0 => ?_)⟩⟩
  · refine hno w7 (k4.trans k7 (fun _ _ h => h)) 7 ?_ (by omega)
    unfold addC
    rw [if_pos (atI_ge.1 hge)]
  have hnotin : h ∉ ids D := fun hm => hlt0 (atI_ge.2 hm)
  have kw7 : Kept Nil w w7 := k4.trans k7 (fun _ _ h => h)
  refine ref_Sorted (hl.same kw7) hn fun A10 c10 w10 row10 k10 => ⟨A10, _, c10, rfl, ?_⟩
  have kw10 : Kept Nil w w10 := kw7.trans k10 (fun _ _ h => h)
  have hsl : (srt lp).length ≤ n := by have := srt_len lp; omega
  by_cases h0 : (srt lp).length = 0
  · refine Split.yes (by simp [h0]) ?_
    refine hno w10 kw10 9 ?_ (by omega)
    unfold addC
    rw [if_neg hnotin, if_pos (.inl h0)]
  refine Split.no (beq_eq_false_iff_ne.2 (by omega)) ?_
  by_cases h1 : (srt lp).length ≠ n
  · refine Split.yes (bne_iff_ne.2 (by omega)) ?_
    refine hno w10 kw10 9 ?_ (by omega)
    unfold addC
    rw [if_neg hnotin, if_pos (.inr (by omega))]
  replace h1 : (srt lp).length = n := by omega
  refine Split.no (by rw [h1]; simp) ?_
  refine ref10_Graph_Add.loop1 (I := fun s w' => ∃ i : Nat, s = (0, (i : Int)) ∧ i ≤ (srt lp).length ∧ (∀ p ∈ (srt lp).take i, p ∈ ids D) ∧ Kept Nil w10 w') (μ := fun s _ => (((srt lp).length : Int) - s.2).toNat) (s := (0, 0)) ⟨0, rfl, Nat.zero_le _, by simp, Kept.refl _ _⟩ ?_
  rintro s w' ⟨i, rfl, hi, hall, kw⟩
  have kk : Kept Nil w w' := kw10.trans kw (fun _ _ h => h)
  have row' : HRow w' w7.heap.size A10 (srt lp).length c10 (srt lp) := Row.keep row10 kw (fun _ _ h => h)
  refine Split.dec (fun hil0 => ?_) (fun hge => ?_)
  · simp only at hil0
    have hil : i < (srt lp).length := by omega
    obtain ⟨x, hx⟩ : ∃ x, (srt lp)[i]? = some x := ⟨_, List.getElem?_eq_getElem hil⟩
    refine row'.hs.load (i := (i : Int)) (by omega) hx (ref_At (H.same kk) (by omega) x fun w2 k2 => ⟨_, rfl, Split.dec (fun hneg => ?_) (fun hpos => ?_)⟩)
    · have hxn := atI_neg.1 hneg
      refine hno w2 (kk.trans k2 (fun _ _ h => h)) 6 ?_ (by omega)
      unfold addC
      rw [if_neg hnotin, if_neg (by omega), if_pos ⟨x, List.mem_of_getElem? hx, hxn⟩]
    · simp only
      rw [wrapP (n := (i : Int)) (by omega) (by omega)]
      refine ⟨(0, (i : Int) + 1), rfl, ⟨i + 1, rfl, hil, fun p hp => ?_, kw.trans k2 (fun _ _ h => h)⟩, by simp only; omega⟩
      rcases (mem_take_succ hx).1 hp with hp | rfl
      · exact hall p hp
      · exact atI_ge.1 (by omega)
  · simp only at hge
    rw [List.take_of_length_le (by omega)] at hall
    have hc0 : addC D h lp = 0 := by
      unfold addC
      rw [if_neg hnotin, if_neg (by omega), if_neg (fun ⟨p, hp, hpn⟩ => hpn (hall p hp))]
    have hD' : addD D h lp = D ++ [⟨h, srt lp⟩] := by unfold addD; rw [if_pos hc0]
    rw [hc0, hD'] at hK
    have hDpos := W.pos
    rw [roundQ_exit, ref10_Graph_Add.x1_0]
    unfold ref10_Graph_Add.X1_0
    intro w27
    have k27 : Kept Nil w w27 := kk.drew
    have k1027 : Kept Nil w10 w27 := kw.drew
    have hw27 : w27.heap = w'.heap := rfl
    clear_value w27
    have hb27 : w27.heap[w.heap.size]? = some (.cells h.1 T_api_Hash (0, 0)) := (k1027.heap (k10.heap (k7.heap hb4 (fun h => h)) (fun h => h)) (fun h => h))
    obtain ⟨A, c, htop27, hns⟩ := (H.same k27).ex
    refine ⟨A, _, c, by rw [add_zero, cell_blk htop27]; rfl, h.1, ⟨h.2.1, Cells.blk hb27⟩, ?_⟩
    rw [builtNode]
    have hsz : (h.1.push (.slice A10 (srt lp).length c10)).size = 33 := by rw [Array.size_push, h.2.1]
    have hlsz : ∀ {v}, Kept Nil w v → w.heap.size ≤ v.heap.size := fun k => k.size
    have hA10 : ∀ b, A10 = some b → w.heap.size ≤ b.block := fun b hb => Nat.le_trans kw7.size (Row.blk row10 (k := b.block) (by rw [hb]; rfl)).1
    -- what both orders come to
    have hend : ∀ (A' : Option Addr) (c' : Nat) (v : World) (news : List Value), Row v w27.heap.size T_plexusref10_Node 33 A' (D.length + 1) c' (news ++ (h.1.push (.slice A10 (srt lp).length c10)).toList) → news.length = D.length * 33 → Kept Nil w27 v →
        (∀ (i : Nat) nd, D[i]? = some nd → ∃ pA pn pc, HS v pA pn nd.ps ∧ (∀ b, pA = some b → F b.block) ∧ ∀ (j : Nat) u, (nd.id.1.push (.slice pA pn pc))[j]? = some u → news[i * 33 + j]? = some u) →
        Wr v ((⟨r, 0, none⟩ : Addr).add 0) ∧ K (.int .i64 0) (v.setCell ((⟨r, 0, none⟩ : Addr).add 0) (.slice A' (D.length + 1) c')) := by
      intro A' c' v news hrow hnl kv hcor
      have kwv : Kept Nil w v := k27.trans kv (fun _ _ h => h)
      obtain ⟨A0, c0, htop, _⟩ := (H.same kwv).ex
      rw [add_zero]
      have k3 : Kept (· = r) v (v.setCell ⟨r, 0, none⟩ (.slice A' (D.length + 1) c')) := Kept.setCell (S := fun k => k = r) (Kept.refl _ v) (p := ⟨r, 0, none⟩) (fun _ => rfl) _
      refine ⟨wr_blk htop (by simp), hK _ ⟨⟨A', c', ?_, ?_⟩, fun e => e.elim H.far (fun h => absurd h.1 (by omega))⟩ ((kwv.mono (S' := fun k => k = r) (fun _ _ h => h.elim)).trans k3 (fun _ _ h => h))⟩
      · rw [set_blk htop 0, List.length_append]; rfl
      · have hs3 := k3.size
        have hA10' : ∀ b, A10 = some b → b.block < v.heap.size := fun b hb => by
          obtain ⟨_, cur, hc⟩ := Row.blk row10 (k := b.block) (by rw [hb]; rfl)
          have := lt_blk hc
          have := k1027.size
          have := kv.size
          omega
        have hns' := ns_snoc (F := fun k => F k ∨ (w.heap.size ≤ k ∧ k < (v.setCell ⟨r, 0, none⟩ (.slice A' (D.length + 1) c')).heap.size)) (nd := ⟨h, srt lp⟩) hrow hnl rfl (fun k hk => by
          obtain ⟨h1, cur, hc⟩ := Row.blk hrow hk
          have := lt_blk hc
          have := k27.size
          exact .inr ⟨by omega, by omega⟩) (fun i nd hi => by
          obtain ⟨pA, pn, pc, h1, h2, h3⟩ := hcor i nd hi
          exact ⟨pA, pn, pc, h1, fun b hb => .inl (h2 b hb), h3⟩) ((row10.hs.same k1027).same kv) (fun b hb => .inr ⟨hA10 b hb, by have := hA10' b hb; omega⟩)
        have := hns'.keep k3 (fun k hk e => by
          subst e
          rcases hk with hk | hk
          · exact H.far hk
          · omega)
        rw [List.length_append]
        exact this
    refine ⟨?_, ?_⟩
    · obtain ⟨A1, c1, w33, news, hr1, row1, k33, hcor⟩ := append_ns hns (cx := c) hDpos (by omega)
      refine ⟨A1, _, c1, w33, hr1, ⟨h.1, rfl, h.2.1, Cells.blk (k33.heap hb27 (fun h => h))⟩, hsz, ?_⟩
      intro w34
      have hw34 : w34 = w33.alloc (.cells (h.1.push (.slice A10 (srt lp).length c10)) T_plexusref10_Node) := by
        show w33.alloc (.cells ((h.1.push (.slice A10 (srt lp).length c10)).toList ++ []).toArray T_plexusref10_Node) = _
        rw [List.append_nil, Array.toArray_toList]
      have k34 : Kept Nil w33 w34 := (Kept.refl _ _).alloc _
      have hb34 : w34.heap[w33.heap.size]? = some (.cells (h.1.push (.slice A10 (srt lp).length c10)) T_plexusref10_Node (0, 0)) := by rw [hw34]; exact new_blk w33 _
      clear_value w34
      have row34 := Row.keep row1 k34 (fun _ _ h => h)
      obtain ⟨A2, c2, w36, hr2, row2, hg2⟩ := append_nd row34 (by omega) (Nat.le_trans k33.size k34.size) hb34 hsz (push_one _ _ _ _)
      have k36 : Kept Nil w27 w36 := Kept.growNew (k33.trans k34 (fun _ _ h => h)) hg2 (fun k hk => (Row.blk row1 hk).1)
      refine ⟨A2, _, c2, w36, hr2, ?_⟩
      exact hend A2 c2 w36 news row2 (Row.len row1) k36 (fun i nd hi => by
        obtain ⟨pA, pn, pc, h1, h2, h3⟩ := hcor i nd hi
        exact ⟨pA, pn, pc, h1.same k36, h2, h3⟩)
    · refine ⟨hsz, ?_⟩
      intro w39
      have hw39 : w39 = w27.alloc (.cells (h.1.push (.slice A10 (srt lp).length c10)) T_plexusref10_Node) := by
        show w27.alloc (.cells ((h.1.push (.slice A10 (srt lp).length c10)).toList ++ []).toArray T_plexusref10_Node) = _
        rw [List.append_nil, Array.toArray_toList]
      have k39 : Kept Nil w27 w39 := (Kept.refl _ _).alloc _
      have hb39 : w39.heap[w27.heap.size]? = some (.cells (h.1.push (.slice A10 (srt lp).length c10)) T_plexusref10_Node (0, 0)) := by rw [hw39]; exact new_blk w27 _
      clear_value w39
      refine ⟨by rw [add_zero, cell_blk (k39.heap htop27 (fun h => h))]; rfl, ?_⟩
      obtain ⟨A1, c1, w41, news, hr1, row1, k41, hcor⟩ := append_ns (hns.same k39) (cx := c) hDpos (by omega)
      have hb41 := k41.heap hb39 (fun h => h)
      obtain ⟨A2, c2, w43, hr2, row2, hg2⟩ := append_nd row1 (by omega) k41.size hb41 hsz (push_one _ _ _ _)
      have k43' : Kept Nil w39 w43 := Kept.growNew k41 hg2 (fun k hk => (Row.blk row1 hk).1)
      have k43 : Kept Nil w27 w43 := k39.trans k43' (fun _ _ h => h)
      refine ⟨A1, _, c1, w41, hr1, A2, _, c2, w43, hr2, ?_⟩
      exact hend A2 c2 w43 news (Row.base row2 fun k hk => Nat.le_trans k39.size (Row.blk row2 hk).1) (Row.len row1) k43 (fun i nd hi => by
        obtain ⟨pA, pn, pc, h1, h2, h3⟩ := hcor i nd hi
        exact ⟨pA, pn, pc, h1.same k43', h2, h3⟩)
end
end Go.Proofs.YtljckpecmlnbiaaDoor
/-
  The document's Past.
-/
namespace Go.Proofs.YtljckpecmlnbiaaDoor
open Go Go.Lite Go.RowKit

theorem nodup_len : ∀ {l m : List HT}, l.Nodup → (∀ x ∈ l, x ∈ m) → l.length ≤ m.length
  | [], _, _, _ => Nat.zero_le _
  | x :: l, m, hn, h => by
    rw [List.nodup_cons] at hn
    have hx := h x (by simp)
    have := nodup_len (l := l) (m := m.erase x) hn.2 (fun y hy => by
      have hne : y ≠ x := fun e => hn.1 (e ▸ hy)
      exact (List.mem_erase_of_ne hne).2 (h y (by simp [hy])))
    rw [List.length_erase_of_mem hx] at this
    have hpos : 0 < m.length := List.length_pos_of_mem hx
    simp only [List.length_cons]
    omega

/-- what has been found, and what is to be looked at -/
structure PB (w0 w' : World) (D : DG) (l out : List HT) (A1 : Option Addr) (c1 : Nat) (A2 : Option Addr) (c2 : Nat) : Prop where
  r1 : HRow w' w0.heap.size A1 out.length c1 out
  r2 : HRow w' w0.heap.size A2 (l.length + out.length) c2 (l ++ out)
  ap : ∀ k, blkOf A1 = some k → blkOf A2 ≠ some k
  nd : out.Nodup
  anc : ∀ x ∈ out, ∃ h ∈ l, Anc D x h
  kp : Kept Nil w0 w'
section
variable {w w' w'' : World} {F S : Nat → Prop} {D : DG} {l out : List HT} {A1 A2 : Option Addr} {c1 c2 r : Nat} {K : Value → World → Prop}
theorem PB.same (h : PB w w' D l out A1 c1 A2 c2) (k : Kept Nil w' w'') : PB w w'' D l out A1 c1 A2 c2 :=
  ⟨Row.keep h.r1 k (fun _ _ h => h), Row.keep h.r2 k (fun _ _ h => h), h.ap, h.nd, h.anc, h.kp.trans k (fun _ _ h => h)⟩
theorem PB.len (h : PB w w' D l out A1 c1 A2 c2) (W : WfD D) : out.length ≤ D.length := by
  rw [← ids_len D]
  exact nodup_len h.nd fun x hx => by obtain ⟨_, _, ha⟩ := h.anc x hx; exact (ha.mem W).1
theorem hbox (w : World) (x : HT) : HS (w.alloc (.cells (x.1.toList ++ []).toArray T_api_Hash)) (some ⟨w.heap.size, 0, none⟩) 1 [x] := by
  refine HS.one (t := T_api_Hash) (fr := (0, 0)) ?_
  rw [List.append_nil, Array.toArray_toList]
  exact new_blk w _

/-- one more of both -/
theorem PB.add (h : PB w w' D l out A1 c1 A2 c2) {x : HT} (hx : x ∉ out) (ha : ∃ h ∈ l, Anc D x h) (hb : l.length + out.length ≤ 500000) :
    ∃ A1' c1' v, (Builtin.append_ #[T_sl_api_Hash, T_sl_api_Hash] T_sl_api_Hash #[.slice A1 out.length c1, .slice (some ⟨w'.heap.size, 0, none⟩) 1 1]).run Tryd.prog (w'.alloc (.cells (x.1.toList ++ []).toArray T_api_Hash)) = .ok (.slice A1' (out.length + 1) c1') v ∧ Kept (fun k => w.heap.size ≤ k) w' v ∧
    ∃ A2' c2' u, (Builtin.append_ #[T_sl_api_Hash, T_sl_api_Hash] T_sl_api_Hash #[.slice A2 (l.length + out.length) c2, .slice (some ⟨v.heap.size, 0, none⟩) 1 1]).run Tryd.prog (v.alloc (.cells (x.1.toList ++ []).toArray T_api_Hash)) = .ok (.slice A2' (l.length + out.length + 1) c2') u ∧
      PB w u D l (out ++ [x]) A1' c1' A2' c2' := by
  have hkw := h.kp.size
  have k1 : Kept Nil w' (w'.alloc (.cells (x.1.toList ++ []).toArray T_api_Hash)) := (Kept.refl _ _).alloc _
  have hs1 := hbox w' x
  generalize w'.alloc (.cells (x.1.toList ++ []).toArray T_api_Hash) = w1 at k1 hs1 ⊢
  have r1 : HRow w1 w.heap.size A1 out.length c1 out := Row.keep h.r1 k1 (fun _ _ h => h)
  have hs1' := k1.size
  obtain ⟨A1', c1', v, hr1, row1, hg1, hb1⟩ := append_hs (cx := 1) T_sl_api_Hash r1 hs1 (by omega) (by omega)
  have kv1 : Kept (fun k => blkOf A1 = some k) w1 v := Kept.grown (Kept.refl _ _) hg1 (fun k hk _ => hk)
  have hA1 : ∀ k, blkOf A1 = some k → w.heap.size ≤ k ∧ k < w'.heap.size := fun k hk => by
    obtain ⟨h1, cur, hc⟩ := Row.blk h.r1 hk
    exact ⟨h1, lt_blk hc⟩
  have hA2 : ∀ k, blkOf A2 = some k → w.heap.size ≤ k ∧ k < w'.heap.size := fun k hk => by
    obtain ⟨h1, cur, hc⟩ := Row.blk h.r2 hk
    exact ⟨h1, lt_blk hc⟩
  have kv : Kept (fun k => w.heap.size ≤ k) w' v := (k1.mono (fun _ _ h => h.elim)).trans kv1 (fun k _ e => (hA1 k e).1)
  refine ⟨A1', c1', v, hr1, kv, ?_⟩
  have k2 : Kept Nil v (v.alloc (.cells (x.1.toList ++ []).toArray T_api_Hash)) := (Kept.refl _ _).alloc _
  have hs2 := hbox v x
  generalize v.alloc (.cells (x.1.toList ++ []).toArray T_api_Hash) = w2 at k2 hs2 ⊢
  have r2v : HRow v w.heap.size A2 (l.length + out.length) c2 (l ++ out) := Row.keep (Row.keep h.r2 k1 (fun _ _ h => h)) kv1 (fun k hk e => h.ap k e hk)
  have r2 : HRow w2 w.heap.size A2 (l.length + out.length) c2 (l ++ out) := Row.keep r2v k2 (fun _ _ h => h)
  have hsv := kv1.size
  have hs2' := k2.size
  obtain ⟨A2', c2', u, hr2, row2, hg2, hb2⟩ := append_hs (cx := 1) T_sl_api_Hash r2 hs2 (by omega) (by omega)
  have ku : Kept (fun k => blkOf A2 = some k) w2 u := Kept.grown (Kept.refl _ _) hg2 (fun k hk _ => hk)
  have hA1v : ∀ k, blkOf A1' = some k → k < v.heap.size := fun k hk => by
    obtain ⟨_, cur, hc⟩ := Row.blk row1 hk
    exact lt_blk hc
  have hap1 : ∀ k, blkOf A1' = some k → blkOf A2 ≠ some k := fun k hk e => by
    rcases hb1 k hk with h' | h'
    · exact h.ap k h' e
    · have := (hA2 k e).2; omega
  have row1u : HRow u w.heap.size A1' (out.length + 1) c1' (out ++ [x]) := Row.keep (Row.keep row1 k2 (fun _ _ h => h)) ku (fun k hk e => hap1 k hk e)
  refine ⟨A2', c2', u, hr2, ?_⟩
  refine ⟨?_, ?_, fun k hk e => ?_, ?_, fun y hy => ?_, ?_⟩
  · rw [List.length_append]; exact row1u
  · rw [List.length_append, ← List.append_assoc, List.length_singleton, ← Nat.add_assoc]; exact row2
  · rcases hb2 k e with h' | h'
    · exact hap1 k hk h'
    · have := hA1v k hk; omega
  · rw [List.nodup_append]
    exact ⟨h.nd, by simp, fun u hu v hv e => hx (by rw [List.mem_singleton] at hv; rw [← hv, ← e]; exact hu)⟩
  · rw [List.mem_append, List.mem_singleton] at hy
    rcases hy with hy | rfl
    · exact h.anc y hy
    · exact ha
  · exact ((h.kp.trans kv (fun k hk e => absurd hk (by omega))).trans k2 (fun _ _ h => h)).trans ku (fun k hk e => absurd (hA2 k e).1 (by omega))

theorem past_done (W : WfD D) {l out : List HT} (ha : ∀ x ∈ out, ∃ h ∈ l, Anc D x h) (hc : ∀ h ∈ l ++ out, ∀ p, Par D p h → p ∈ out) : srt out = pastsL D l := by
  refine pick_of fun a => ⟨fun h => ?_, fun ⟨_, h, hl, han⟩ => ?_⟩
  · obtain ⟨b, hb, hab⟩ := ha a h
    exact ⟨(hab.mem W).1, b, hb, hab⟩
  · have key : ∀ {a h}, Anc D a h → h ∈ l ++ out → a ∈ out := by
      intro a h han
      induction han with
      | one hp => exact fun hm => hc _ hm _ hp
      | more _ hp ih => exact fun hm => ih (by rw [List.mem_append]; exact .inr (hc _ hm _ hp))
    exact key han (by rw [List.mem_append]; exact .inl hl)

theorem ref_Past (H : IsR w F r D) (W : WfD D) (hD : D.length ≤ 10000) {A : Option Addr} {n c : Nat} (hl : HS w A n l) (hn : n ≤ 10000)
    (hK : ∀ A' c' w', HRow w' w.heap.size A' (pastsL D l).length c' (pastsL D l) → Kept Nil w w' → K (.slice A' (pastsL D l).length c') w') :
    Ret Tryd.prog ref10_Graph_Past.id #[.pointer (some ⟨r, 0, none⟩), .slice A n c] w K := by
  refine ref10_Graph_Past.of ?_
  unfold ref10_Graph_Past.W
  have hlen := hl.len
  obtain ⟨A4, c4, w4, hr4, row4, hg4, hb4⟩ := append_hs (cx := c) T_sl_api_Hash (HRow.nil w w.heap.size) hl (by omega) (Nat.le_refl _)
  rw [Nat.zero_add] at hr4 row4
  rw [List.nil_append] at row4
  have k4 : Kept Nil w w4 := Kept.growNew (Kept.refl _ _) hg4 (fun k hk => by cases hk)
  refine ⟨A4, n, c4, w4, hr4, ?_⟩
  refine ref10_Graph_Past.loop1 (I := fun s w' => ∃ (i : Nat) (out : List HT) (A1 : Option Addr) (c1 : Nat) (A2 : Option Addr) (c2 : Nat), s = (A1, out.length, c1, A2, n + out.length, c2, (i : Int)) ∧ PB w w' D l out A1 c1 A2 c2 ∧ i ≤ n + out.length ∧ ∀ h ∈ (l ++ out).take i, ∀ p, Par D p h → p ∈ out)
    (μ := fun s _ => ((n : Int) + D.length - s.2.2.2.2.2.2).toNat) (s := (none, 0, 0, A4, n, c4, 0))
    ⟨0, [], none, 0, A4, c4, by simp, ⟨HRow.nil _ _, by simpa [hlen] using row4, (fun k hk => by cases hk), List.Pairwise.nil, by simp, k4⟩, by omega, by simp⟩ ?_
  rintro s w' ⟨i, out, A1, c1, A2, c2, rfl, hpb, hi, hcl⟩
  have hol := hpb.len W
  have hr2 := hpb.r2
  rw [hlen] at hr2
  refine Split.dec (fun hil0 => ?_) (fun hge => ?_)
  · simp only at hil0
    have hil : i < n + out.length := by omega
    obtain ⟨h, hh⟩ : ∃ h, (l ++ out)[i]? = some h := ⟨_, List.getElem?_eq_getElem (by simp; omega)⟩
    refine hr2.hs.load (i := (i : Int)) (by omega) hh (ref_At (H.same hpb.kp) (by omega) h fun w13 k13 => ⟨_, rfl, Split.dec (fun hneg => ?_) (fun hpos => ?_)⟩)
    · simp only
      rw [wrapP (n := (i : Int)) (by omega) (by omega)]
      refine ⟨(A1, out.length, c1, A2, n + out.length, c2, (i : Int) + 1), rfl, ⟨i + 1, out, A1, c1, A2, c2, rfl, hpb.same k13, by omega, fun x hx p hp => ?_⟩, by simp only; omega⟩
      rcases (mem_take_succ hh).1 hx with hx | rfl
      · exact hcl x hx p hp
      · exact absurd (Anc.mem W (.one hp)).2 (atI_neg.1 hneg)
    · have hmem : h ∈ ids D := atI_ge.1 (by omega)
      obtain ⟨nd, h1, h2, h3⟩ := atI_get hmem
      have hpb13 := hpb.same k13
      have H13 := H.same hpb13.kp
      have hanc : ∃ b ∈ l, h = b ∨ Anc D h b := by
        have hm := List.mem_of_getElem? hh
        rw [List.mem_append] at hm
        rcases hm with hm | hm
        · exact ⟨h, hm, .inl rfl⟩
        · obtain ⟨b, hb, hab⟩ := hpb.anc h hm
          exact ⟨b, hb, .inr hab⟩
      have hpar : ∀ p, Par D p h ↔ p ∈ nd.ps := fun p => by
        constructor
        · rintro ⟨md, hmd, e, hp⟩
          obtain ⟨j, hj⟩ := List.mem_iff_getElem?.1 hmd
          have := W.inj hj h2 (by rw [e, h3])
          subst this
          rw [h2] at hj
          cases hj
          exact hp
        · exact fun hp => ⟨nd, List.mem_of_getElem? h2, h3, hp⟩
      have hpl : nd.ps.length ≤ D.length := by
        rw [← ids_len D]
        exact nodup_len (W.ss nd (List.mem_of_getElem? h2)).nodup fun x hx => (Anc.mem W (.one ((hpar x).2 hx))).1
      refine H.go' hpb13.kp fun A c hns => hns.ps' hpb13.kp h1 h2 fun pA pn pc hps => ?_
      have hpn := hps.len
      refine ref10_Graph_Past.loop2 (I := fun s w' => ∃ (k : Nat) (out' : List HT) (A1 : Option Addr) (c1 : Nat) (A2 : Option Addr) (c2 : Nat), s = (A1, out'.length, c1, A2, n + out'.length, c2, (k : Int)) ∧ PB w w' D l out' A1 c1 A2 c2 ∧ k ≤ pn ∧ (∃ m, out' = out ++ m) ∧ (∀ p ∈ nd.ps.take k, p ∈ out'))
        (μ := fun s _ => ((pn : Int) - s.2.2.2.2.2.2).toNat) (s := (A1, out.length, c1, A2, n + out.length, c2, 0)) ⟨0, out, A1, c1, A2, c2, rfl, hpb13, Nat.zero_le _, ⟨[], by simp⟩, by simp⟩ ?_
      rintro s w1 ⟨k, out', B1, d1, B2, d2, rfl, hq, hk, ⟨m, hm⟩, hin⟩
      have hol' := hq.len W
      refine Split.dec (fun hil1 => ?_) (fun hge1 => ?_)
      · simp only at hil1
        have hkl : k < pn := by omega
        obtain ⟨p, hp⟩ : ∃ p, nd.ps[k]? = some p := ⟨_, List.getElem?_eq_getElem (by omega)⟩
        have hpm := List.mem_of_getElem? hp
        refine (hps.same hq.kp).load (i := (k : Int)) (by omega) hp (ref_In p hq.r1.hs (by simp only; omega) fun w37 k37 => ⟨_, rfl, ?_⟩)
        have hq37 := hq.same k37
        have hpl1 : (nd.ps.length : Int) ≤ 10000 := by omega
        by_cases hin' : p ∈ out'
        · refine Split.no (by rw [decide_eq_true hin']; rfl) ?_
          simp only
          rw [wrapP (n := (k : Int)) (by omega) (by omega)]
          refine ⟨(B1, out'.length, d1, B2, n + out'.length, d2, (k : Int) + 1), rfl, ⟨k + 1, out', B1, d1, B2, d2, rfl, hq37, hkl, ⟨m, hm⟩, fun q hq' => ?_⟩, by simp only; omega⟩
          rcases (mem_take_succ hp).1 hq' with hq' | rfl
          · exact hin q hq'
          · exact hin'
        · refine Split.yes (by rw [decide_eq_false hin']; rfl) ?_
          have hap : ∃ b ∈ l, Anc D p b := by
            obtain ⟨b, hb, e | e⟩ := hanc
            · subst e; exact ⟨_, hb, .one ((hpar p).2 hpm)⟩
            · exact ⟨b, hb, Anc.trans (.one ((hpar p).2 hpm)) e⟩
          obtain ⟨A1', c1', v, hr1, kv, A2', c2', u, hr2', hqu⟩ := hq37.add hin' hap (by omega)
          rw [hlen] at hr2'
          refine (hps.same hq37.kp).load (i := (k : Int)) (by omega) hp ⟨p.2.1, ?_⟩
          refine ⟨A1', _, c1', v, hr1, ?_⟩
          have kwv : Kept Nil w v := hq37.kp.trans kv (fun k hk e => absurd hk (by omega))
          refine (hps.same kwv).load (i := (k : Int)) (by omega) hp ⟨p.2.1, ?_⟩
          refine ⟨A2', _, c2', u, hr2', ?_⟩
          simp only
          rw [wrapP (n := (k : Int)) (by omega) (by omega)]
          have e1 : out'.length + 1 = (out' ++ [p]).length := by simp
          rw [e1, show n + out'.length + 1 = n + (out' ++ [p]).length by simp; omega]
          refine ⟨(A1', (out' ++ [p]).length, c1', A2', n + (out' ++ [p]).length, c2', (k : Int) + 1), rfl, ⟨k + 1, out' ++ [p], A1', c1', A2', c2', rfl, hqu, hkl, ⟨m ++ [p], by rw [hm]; simp⟩, fun q hq' => ?_⟩, by simp only; omega⟩
          rw [List.mem_append, List.mem_singleton]
          rcases (mem_take_succ hp).1 hq' with hq' | rfl
          · exact .inl (hin q hq')
          · exact .inr rfl
      · simp only at hge1
        rw [roundQ_exit, ref10_Graph_Past.x2_2]
        unfold ref10_Graph_Past.X2_2
        rw [wrapP (n := (i : Int)) (by omega) (by omega)]
        rw [List.take_of_length_le (by omega)] at hin
        refine ⟨(B1, out'.length, d1, B2, n + out'.length, d2, (i : Int) + 1), rfl, ⟨i + 1, out', B1, d1, B2, d2, rfl, hq, by rw [hm]; simp; omega, fun x hx q hxq => ?_⟩, by simp only; omega⟩
        have hh' : (l ++ out')[i]? = some h := by
          rw [hm, ← List.append_assoc, List.getElem?_append_left (List.getElem?_eq_some_iff.1 hh).1]
          exact hh
        rcases (mem_take_succ hh').1 hx with hx | rfl
        · have hx' : x ∈ (l ++ out).take i := by
            rw [hm, ← List.append_assoc, List.take_append_of_le_length (by simp; omega)] at hx
            exact hx
          rw [hm, List.mem_append]
          exact .inl (hcl x hx' q hxq)
        · exact hin q ((hpar q).1 hxq)
  · simp only at hge
    have hie : i = n + out.length := by omega
    rw [roundQ_exit, ref10_Graph_Past.x1_0]
    rw [List.take_of_length_le (by simp; omega)] at hcl
    have e := past_done W hpb.anc hcl
    refine ref_Sorted hpb.r1.hs (by simp only; omega) fun A' c' w2 row k2 => ⟨A', _, c', rfl, ?_⟩
    rw [e] at row ⊢
    exact hK A' c' w2 (Row.base row fun b hb => Nat.le_trans hpb.kp.size (Row.blk row hb).1) (hpb.kp.trans k2 (fun _ _ h => h))
end
end Go.Proofs.YtljckpecmlnbiaaDoor
/-
  The document's Before, Apart, Future, Anticone, Children, Tips.
-/
namespace Go.Proofs.YtljckpecmlnbiaaDoor
open Go Go.Lite Go.RowKit

/-- what has been gathered of the first i -/
structure GB (w0 w' : World) (D : DG) (is : HT → Prop) (i : Nat) (out : List HT) (A : Option Addr) (c : Nat) : Prop where
  r : HRow w' w0.heap.size A out.length c out
  mem : ∀ a, a ∈ out ↔ a ∈ (ids D).take i ∧ is a
  len : out.length ≤ i
  kp : Kept Nil w0 w'
section
variable {w w' w'' : World} {F S : Nat → Prop} {D : DG} {is : HT → Prop} {i : Nat} {l out : List HT} {A : Option Addr} {c r : Nat} {K : Value → World → Prop}
theorem GB.same (h : GB w w' D is i out A c) (k : Kept Nil w' w'') : GB w w'' D is i out A c := ⟨Row.keep h.r k (fun _ _ h => h), h.mem, h.len, h.kp.trans k (fun _ _ h => h)⟩
theorem GB.nil (k : Kept Nil w w') : GB w w' D is 0 [] none 0 := ⟨HRow.nil _ _, by simp, Nat.le_refl _, k⟩
theorem GB.skip (h : GB w w' D is i out A c) {nd : DN} (hnd : D[i]? = some nd) (hn : ¬ is nd.id) : GB w w' D is (i + 1) out A c := ⟨h.r, fun a => by
  rw [h.mem, mem_take_succ (ids_get hnd)]
  constructor
  · rintro ⟨h1, h2⟩; exact ⟨.inl h1, h2⟩
  · rintro ⟨h1 | rfl, h2⟩
    · exact ⟨h1, h2⟩
    · exact absurd h2 hn, Nat.le_succ_of_le h.len, h.kp⟩
theorem GB.add (h : GB w w' D is i out A c) {nd : DN} (hnd : D[i]? = some nd) (hi : i ≤ 10000) (hs : is nd.id) :
    ∃ A' c' v, (Builtin.append_ #[T_sl_api_Hash, T_sl_api_Hash] T_sl_api_Hash #[.slice A out.length c, .slice (some ⟨w'.heap.size, 0, none⟩) 1 1]).run Tryd.prog (w'.alloc (.cells (nd.id.1.toList ++ []).toArray T_api_Hash)) = .ok (.slice A' (out.length + 1) c') v ∧
      GB w v D is (i + 1) (out ++ [nd.id]) A' c' := by
  have hkw := h.kp.size
  have hlen := h.len
  have k1 : Kept Nil w' (w'.alloc (.cells (nd.id.1.toList ++ []).toArray T_api_Hash)) := (Kept.refl _ _).alloc _
  have hs1 := hbox w' nd.id
  generalize w'.alloc (.cells (nd.id.1.toList ++ []).toArray T_api_Hash) = w1 at k1 hs1 ⊢
  have r1 : HRow w1 w.heap.size A out.length c out := Row.keep h.r k1 (fun _ _ h => h)
  have hs1' := k1.size
  obtain ⟨A', c', v, hr1, row1, hg1, hb1⟩ := append_hs (cx := 1) T_sl_api_Hash r1 hs1 (by omega) (by omega)
  refine ⟨A', c', v, hr1, ?_, fun a => ?_, by simp; omega, Kept.growNew (h.kp.trans k1 (fun _ _ h => h)) hg1 (fun k hk => (Row.blk h.r hk).1)⟩
  · rw [List.length_append]; exact row1
  · rw [List.mem_append, List.mem_singleton, h.mem, mem_take_succ (ids_get hnd)]
    constructor
    · rintro (⟨h1, h2⟩ | rfl)
      · exact ⟨.inl h1, h2⟩
      · exact ⟨.inr rfl, hs⟩
    · rintro ⟨h1 | rfl, h2⟩
      · exact .inl ⟨h1, h2⟩
      · exact .inr rfl
theorem GB.done (h : GB w w' D is D.length out A c) : srt out = pick D is := pick_of fun a => by
  rw [h.mem, List.take_of_length_le (by rw [ids_len]; exact Nat.le_refl _)]
theorem GB.sorted (h : GB w w' D is D.length out A c) (hD : D.length ≤ 10000)
    (hK : ∀ A' c' w', HRow w' w.heap.size A' (pick D is).length c' (pick D is) → Kept Nil w w' → K (.slice A' (pick D is).length c') w') :
    Ret Tryd.prog ref10_Sorted.id #[.slice A out.length c] w' K := by
  have hlen := h.len
  refine ref_Sorted h.r.hs (by omega) fun A' c' w2 row k2 => ?_
  rw [h.done] at row ⊢
  exact hK A' c' w2 (Row.base row fun b hb => Nat.le_trans h.kp.size (Row.blk row hb).1) (h.kp.trans k2 (fun _ _ h => h))
theorem GB.sortedP (h : GB w w' D is D.length out A c) (hD : D.length ≤ 10000)
    (hK : ∀ A' c' w', HRow w' w.heap.size A' (pick D is).length c' (pick D is) → Kept Nil w w' → K (.slice A' (pick D is).length c') w') :
    Ret Tryd.prog dag_Sorted.id #[.slice A out.length c] w' K := by
  have hlen := h.len
  refine dag_Sorted_ok h.r.hs (by omega) fun A' c' w2 row k2 => ?_
  rw [h.done] at row ⊢
  exact hK A' c' w2 (Row.base row fun b hb => Nat.le_trans h.kp.size (Row.blk row hb).1) (h.kp.trans k2 (fun _ _ h => h))

theorem ref_Before (H : IsR w F r D) (W : WfD D) (hD : D.length ≤ 10000) (a b : HT) (hK : ∀ w' (x : Bool), (x = true ↔ Anc D a b) → Kept Nil w w' → K (.bool x) w') :
    Ret Tryd.prog ref10_Graph_Before.id #[.pointer (some ⟨r, 0, none⟩), .agg a.1, .agg b.1] w K := by
  refine ref10_Graph_Before.of ?_
  unfold ref10_Graph_Before.W
  intro w4 w5 w6
  have k4 : Kept Nil w w4 := (Kept.refl _ _).alloc _
  have ha4 : w4.heap[w.heap.size]? = some (.cells a.1 T_api_Hash (0, 0)) := new_blk w _
  have k5 : Kept Nil w4 w5 := (Kept.refl _ _).alloc _
  have hb5 : w5.heap[w4.heap.size]? = some (.cells b.1 T_api_Hash (0, 0)) := new_blk w4 _
  have k6 : Kept Nil w5 w6 := (Kept.refl _ _).drew
  have ha6 := k6.heap (k5.heap ha4 (fun h => h)) (fun h => h)
  have hb6 := k6.heap hb5 (fun h => h)
  have kw6 : Kept Nil w w6 := (k4.trans k5 (fun _ _ h => h)).trans k6 (fun _ _ h => h)
  clear_value w6
  refine ⟨a.1, ⟨a.2.1, Cells.blk ha6⟩, ref_At (H.same kw6) (by omega) a fun w9 k9 => ⟨_, rfl, Split.dec (fun hge => ?_) (fun hlt0 => ?_)⟩⟩
  · have ha9 := k9.heap ha6 (fun h => h)
    have kw9 : Kept Nil w w9 := kw6.trans k9 (fun _ _ h => h)
    refine ⟨b.1, ⟨b.2.1, Cells.blk (k9.heap hb6 (fun h => h))⟩, a.1, ⟨a.2.1, Cells.blk ha9⟩, b.2.1, ?_⟩
    intro w13
    have k13 : Kept Nil w9 w13 := (Kept.refl _ _).alloc _
    have hbx : HS w13 (some ⟨w9.heap.size, 0, none⟩) 1 [b] := hbox w9 b
    clear_value w13
    have kw13 : Kept Nil w w13 := kw9.trans k13 (fun _ _ h => h)
    have ha13 := k13.heap ha9 (fun h => h)
    refine ⟨⟨a.1, rfl, a.2.1, Cells.blk ha13⟩, ref_Past (H.same kw13) W hD hbx (by omega) fun A15 c15 w15 row15 k15 => ⟨A15, _, c15, rfl, ?_⟩⟩
    have hpl := pick_len D fun x => ∃ h ∈ [b], Anc D x h
    refine ⟨⟨a.1, rfl, a.2.1, Cells.blk (k15.heap ha13 (fun h => h))⟩, ref_In a row15.hs (by unfold pastsL; omega) fun w18 k18 => ⟨_, rfl, ?_⟩⟩
    refine hK w18 _ ?_ ((kw13.trans k15 (fun _ _ h => h)).trans k18 (fun _ _ h => h))
    rw [decide_eq_true_iff]
    unfold pastsL
    rw [mem_pick]
    constructor
    · rintro ⟨_, h, hh, ha⟩
      rw [List.mem_singleton] at hh
      subst hh
      exact ha
    · intro ha
      exact ⟨(ha.mem W).1, b, by simp, ha⟩
  · refine hK w9 false ?_ (kw6.trans k9 (fun _ _ h => h))
    constructor
    · intro h; cases h
    · intro ha; exact absurd (atI_ge.2 (ha.mem W).1) hlt0

theorem par_at (W : WfD D) {j : Nat} {nd : DN} (h2 : D[j]? = some nd) (p : HT) : Par D p nd.id ↔ p ∈ nd.ps := by
  constructor
  · rintro ⟨md, hmd, e, hp⟩
    obtain ⟨k, hk⟩ := List.mem_iff_getElem?.1 hmd
    have := W.inj hk h2 e
    subst this
    rw [h2] at hk
    cases hk
    exact hp
  · exact fun hp => ⟨nd, List.mem_of_getElem? h2, rfl, hp⟩
theorem ref_Apart (H : IsR w F r D) (W : WfD D) (hD : D.length ≤ 10000) (a b : HT) (hK : ∀ w' (x : Bool), (x = true ↔ a ≠ b ∧ ¬ Anc D a b ∧ ¬ Anc D b a) → Kept Nil w w' → K (.bool x) w') :
    Ret Tryd.prog ref10_Graph_Apart.id #[.pointer (some ⟨r, 0, none⟩), .agg a.1, .agg b.1] w K := by
  refine ref10_Graph_Apart.of ?_
  unfold ref10_Graph_Apart.W
  intro w4 w5
  have k4 : Kept Nil w w4 := (Kept.refl _ _).alloc _
  have ha4 : w4.heap[w.heap.size]? = some (.cells a.1 T_api_Hash (0, 0)) := new_blk w _
  have k5 : Kept Nil w4 w5 := (Kept.refl _ _).alloc _
  have hb5 : w5.heap[w4.heap.size]? = some (.cells b.1 T_api_Hash (0, 0)) := new_blk w4 _
  have ha5 := k5.heap ha4 (fun h => h)
  have kw5 : Kept Nil w w5 := k4.trans k5 (fun _ _ h => h)
  clear_value w5
  refine ⟨a.1, ⟨a.2.1, Cells.blk ha5⟩, b.1, ⟨b.2.1, Cells.blk hb5⟩, ⟨a.2.ints, b.2.ints⟩, ?_⟩
  rw [sameInts_eq]
  by_cases e : a = b
  · refine Split.no (by rw [decide_eq_true e]; rfl) ?_
    exact hK w5 false (by simp [e]) kw5
  · refine Split.yes (by rw [decide_eq_false e]; rfl) ?_
    refine ⟨a.1, ⟨a.2.1, Cells.blk ha5⟩, b.1, ⟨b.2.1, Cells.blk hb5⟩, ref_Before (H.same kw5) W hD a b fun w11 x hx k11 => ⟨x, rfl, ?_⟩⟩
    cases x with
    | true =>
      refine Split.no rfl ?_
      exact hK w11 false (by simp [hx.1 rfl]) (kw5.trans k11 (fun _ _ h => h))
    | false =>
      refine Split.yes rfl ?_
      have hn : ¬ Anc D a b := fun h => by have := hx.2 h; cases this
      have kw11 := kw5.trans k11 (fun _ _ h => h)
      refine ⟨b.1, ⟨b.2.1, Cells.blk (k11.heap hb5 (fun h => h))⟩, a.1, ⟨a.2.1, Cells.blk (k11.heap ha5 (fun h => h))⟩, ref_Before (H.same kw11) W hD b a fun w16 y hy k16 => ⟨y, rfl, ?_⟩⟩
      refine hK w16 _ ?_ (kw11.trans k16 (fun _ _ h => h))
      rw [Bool.not_eq_true', ← Bool.not_eq_true, hy]
      exact ⟨fun h => ⟨e, hn, h⟩, fun h => h.2.2⟩

theorem ref_Future (H : IsR w F r D) (W : WfD D) (hD : D.length ≤ 10000) (h : HT)
    (hK : ∀ A' c' w', HRow w' w.heap.size A' (futureL D h).length c' (futureL D h) → Kept Nil w w' → K (.slice A' (futureL D h).length c') w') :
    Ret Tryd.prog ref10_Graph_Future.id #[.pointer (some ⟨r, 0, none⟩), .agg h.1] w K := by
  refine ref10_Graph_Future.of ?_
  unfold ref10_Graph_Future.W
  intro w3
  have k3 : Kept Nil w w3 := (Kept.refl Nil w).alloc _
  have hb3 : w3.heap[w.heap.size]? = some (.cells h.1 T_api_Hash (0, 0)) := new_blk w _
  clear_value w3
  refine ref10_Graph_Future.loop1 (I := fun s w' => ∃ (i : Nat) (out : List HT) (A : Option Addr) (c : Nat), s = (A, out.length, c, (i : Int)) ∧ i ≤ D.length ∧ GB w3 w' D (fun a => Anc D h a) i out A c) (μ := fun s _ => ((D.length : Int) - s.2.2.2).toNat) (s := (none, 0, 0, 0))
    ⟨0, [], none, 0, rfl, Nat.zero_le _, GB.nil (Kept.refl _ _)⟩ ?_
  rintro s w' ⟨i, out, A, c, rfl, hi, hg⟩
  have H3 := H.same k3
  refine H3.go' hg.kp fun A1 c1 hns => Split.dec (fun hil0 => ?_) (fun hge => ?_)
  · simp only at hil0
    have hil : i < D.length := by omega
    obtain ⟨nd, hnd⟩ : ∃ nd, D[i]? = some nd := ⟨_, List.getElem?_eq_getElem hil⟩
    intro w11
    have k11 : Kept Nil w' w11 := (Kept.refl _ _).drew
    clear_value w11
    have hg11 := hg.same k11
    refine ⟨h.1, ⟨h.2.1, Cells.blk (hg11.kp.heap hb3 (fun h => h))⟩, (H3.same hg11.kp).go fun A2 c2 hns2 => ?_⟩
    refine hns2.id (i := (i : Int)) (by omega) (by rw [Int.toNat_natCast]; exact hnd) (ref_Before (H3.same hg11.kp) W hD h nd.id fun w18 x hx k18 => ⟨x, rfl, ?_⟩)
    have hg18 := hg11.same k18
    simp -zeta only
    rw [wrapP (n := (i : Int)) (by omega) (by omega)]
    cases x with
    | true =>
      refine Split.yes rfl ((H3.same hg18.kp).go fun A3 c3 hns3 => ?_)
      refine hns3.id (i := (i : Int)) (by omega) (by rw [Int.toNat_natCast]; exact hnd) ⟨nd.id.2.1, ?_⟩
      obtain ⟨A', c', v, hr, hgv⟩ := hg18.add hnd (by omega) (hx.1 rfl)
      refine ⟨A', _, c', v, hr, ?_⟩
      exact ⟨(A', out.length + 1, c', (i : Int) + 1), rfl, ⟨i + 1, out ++ [nd.id], A', c', by simp, hil, hgv⟩, by simp only; omega⟩
    | false =>
      refine Split.no rfl ?_
      exact ⟨(A, out.length, c, (i : Int) + 1), rfl, ⟨i + 1, out, A, c, rfl, hil, hg18.skip hnd (fun ha => by have := hx.2 ha; cases this)⟩, by simp only; omega⟩
  · simp only at hge
    have : i = D.length := by omega
    subst this
    rw [roundQ_exit, ref10_Graph_Future.x1_0]
    exact hg.sorted hD fun A' c' w2 row k2 => ⟨A', _, c', rfl, hK A' c' w2 (Row.base row fun b hb => Nat.le_trans k3.size (Row.blk row hb).1) (k3.trans k2 (fun _ _ h => h))⟩

theorem ref_Anticone (H : IsR w F r D) (W : WfD D) (hD : D.length ≤ 10000) (h : HT)
    (hK : ∀ A' c' w', HRow w' w.heap.size A' (antiL D h).length c' (antiL D h) → Kept Nil w w' → K (.slice A' (antiL D h).length c') w') :
    Ret Tryd.prog ref10_Graph_Anticone.id #[.pointer (some ⟨r, 0, none⟩), .agg h.1] w K := by
  refine ref10_Graph_Anticone.of ?_
  unfold ref10_Graph_Anticone.W
  intro w3
  have k3 : Kept Nil w w3 := (Kept.refl Nil w).alloc _
  have hb3 : w3.heap[w.heap.size]? = some (.cells h.1 T_api_Hash (0, 0)) := new_blk w _
  clear_value w3
  refine ref10_Graph_Anticone.loop1 (I := fun s w' => ∃ (i : Nat) (out : List HT) (A : Option Addr) (c : Nat), s = (A, out.length, c, (i : Int)) ∧ i ≤ D.length ∧ GB w3 w' D (fun a => h ∈ ids D ∧ a ≠ h ∧ ¬ Anc D a h ∧ ¬ Anc D h a) i out A c) (μ := fun s _ => ((D.length : Int) - s.2.2.2).toNat) (s := (none, 0, 0, 0))
    ⟨0, [], none, 0, rfl, Nat.zero_le _, GB.nil (Kept.refl _ _)⟩ ?_
  rintro s w' ⟨i, out, A, c, rfl, hi, hg⟩
  have H3 := H.same k3
  have hend : ∀ v, Kept Nil w' v → (i = D.length ∨ h ∉ ids D) → ref10_Graph_Anticone.X1_0 (some ⟨r, 0, none⟩) ⟨w.heap.size, 0, none⟩ none 0 0 A out.length c (i : Int) K v := fun v kv hor => by
    have hgv : GB w3 v D (fun a => h ∈ ids D ∧ a ≠ h ∧ ¬ Anc D a h ∧ ¬ Anc D h a) D.length out A c := by
      rcases hor with rfl | hno
      · exact hg.same kv
      · have h1 := hg.same kv
        refine ⟨h1.r, fun a => ?_, Nat.le_trans h1.len hi, h1.kp⟩
        rw [h1.mem]
        exact ⟨fun ⟨_, x⟩ => absurd x.1 hno, fun ⟨_, x⟩ => absurd x.1 hno⟩
    exact hgv.sorted hD fun A' c' w2 row k2 => ⟨A', _, c', rfl, hK A' c' w2 (Row.base row fun b hb => Nat.le_trans k3.size (Row.blk row hb).1) (k3.trans k2 (fun _ _ h => h))⟩
  refine H3.go' hg.kp fun A1 c1 hns => Split.dec (fun hil0 => ?_) (fun hge => ?_)
  · simp only at hil0
    have hil : i < D.length := by omega
    obtain ⟨nd, hnd⟩ : ∃ nd, D[i]? = some nd := ⟨_, List.getElem?_eq_getElem hil⟩
    refine ⟨h.1, ⟨h.2.1, Cells.blk (hg.kp.heap hb3 (fun h => h))⟩, ref_At (H3.same hg.kp) (by omega) h fun w13 k13 => ⟨_, rfl, Split.dec (fun hge => ?_) (fun hlt0 => ?_)⟩⟩
    · have hmem := atI_ge.1 hge
      intro w15
      have k15 : Kept Nil w' w15 := k13.drew
      clear_value w15
      have hg15 := hg.same k15
      refine ⟨h.1, ⟨h.2.1, Cells.blk (hg15.kp.heap hb3 (fun h => h))⟩, (H3.same hg15.kp).go fun A2 c2 hns2 => ?_⟩
      refine hns2.id (i := (i : Int)) (by omega) (by rw [Int.toNat_natCast]; exact hnd) (ref_Apart (H3.same hg15.kp) W hD h nd.id fun w22 x hx k22 => ⟨x, rfl, ?_⟩)
      have hg22 := hg15.same k22
      simp -zeta only
      rw [wrapP (n := (i : Int)) (by omega) (by omega)]
      cases x with
      | true =>
        refine Split.yes rfl ((H3.same hg22.kp).go fun A3 c3 hns3 => ?_)
        refine hns3.id (i := (i : Int)) (by omega) (by rw [Int.toNat_natCast]; exact hnd) ⟨nd.id.2.1, ?_⟩
        obtain ⟨h1, h2, h3⟩ := hx.1 rfl
        obtain ⟨A', c', v, hr, hgv⟩ := hg22.add hnd (by omega) ⟨hmem, fun e => h1 e.symm, h3, h2⟩
        refine ⟨A', _, c', v, hr, ?_⟩
        exact ⟨(A', out.length + 1, c', (i : Int) + 1), rfl, ⟨i + 1, out ++ [nd.id], A', c', by simp, hil, hgv⟩, by simp only; omega⟩
      | false =>
        refine Split.no rfl ?_
        exact ⟨(A, out.length, c, (i : Int) + 1), rfl, ⟨i + 1, out, A, c, rfl, hil, hg22.skip hnd (fun ha => by have := hx.2 ⟨fun e => ha.2.1 e.symm, ha.2.2.2, ha.2.2.1⟩; cases this)⟩, by simp only; omega⟩
    · rw [roundQ_exit, ref10_Graph_Anticone.x1_0]
      exact hend w13 k13 (.inr (fun hm => hlt0 (atI_ge.2 hm)))
  · simp only at hge
    rw [roundQ_exit, ref10_Graph_Anticone.x1_0]
    exact hend w' (Kept.refl _ _) (.inl (by omega))

theorem ref_Children (H : IsR w F r D) (W : WfD D) (hD : D.length ≤ 10000) (h : HT)
    (hK : ∀ A' c' w', HRow w' w.heap.size A' (childL D h).length c' (childL D h) → Kept Nil w w' → K (.slice A' (childL D h).length c') w') :
    Ret Tryd.prog ref10_Graph_Children.id #[.pointer (some ⟨r, 0, none⟩), .agg h.1] w K := by
  refine ref10_Graph_Children.of ?_
  unfold ref10_Graph_Children.W
  intro w3
  have k3 : Kept Nil w w3 := (Kept.refl Nil w).alloc _
  have hb3 : w3.heap[w.heap.size]? = some (.cells h.1 T_api_Hash (0, 0)) := new_blk w _
  clear_value w3
  refine ref10_Graph_Children.loop1 (I := fun s w' => ∃ (i : Nat) (out : List HT) (A : Option Addr) (c : Nat), s = (A, out.length, c, (i : Int)) ∧ i ≤ D.length ∧ GB w3 w' D (fun a => Par D h a) i out A c) (μ := fun s _ => ((D.length : Int) - s.2.2.2).toNat) (s := (none, 0, 0, 0))
    ⟨0, [], none, 0, rfl, Nat.zero_le _, GB.nil (Kept.refl _ _)⟩ ?_
  rintro s w' ⟨i, out, A, c, rfl, hi, hg⟩
  have H3 := H.same k3
  refine H3.go' hg.kp fun A1 c1 hns => Split.dec (fun hil0 => ?_) (fun hge => ?_)
  · simp only at hil0
    have hil : i < D.length := by omega
    obtain ⟨nd, hnd⟩ : ∃ nd, D[i]? = some nd := ⟨_, List.getElem?_eq_getElem hil⟩
    have hpl : nd.ps.length ≤ D.length := by
      rw [← ids_len D]
      exact nodup_len (W.ss nd (List.mem_of_getElem? hnd)).nodup fun x hx => (Anc.mem W (.one ((par_at W hnd x).2 hx))).1
    intro w11
    have k11 : Kept Nil w' w11 := (Kept.refl _ _).drew
    clear_value w11
    have hg11 := hg.same k11
    refine (H3.same hg11.kp).go fun A2 c2 hns2 => hns2.ps (i := (i : Int)) (by omega) (by rw [Int.toNat_natCast]; exact hnd) fun pA pn pc hps _ => ?_
    have hpn := hps.len
    refine ⟨h.1, ⟨h.2.1, Cells.blk (hg11.kp.heap hb3 (fun h => h))⟩, ref_In h hps (by omega) fun w18 k18 => ⟨_, rfl, ?_⟩⟩
    have hg18 := hg11.same k18
    simp -zeta only
    rw [wrapP (n := (i : Int)) (by omega) (by omega)]
    refine Split.dec (fun hin => ?_) (fun hno => ?_)
    · refine (H3.same hg18.kp).go fun A3 c3 hns3 => ?_
      refine hns3.id (i := (i : Int)) (by omega) (by rw [Int.toNat_natCast]; exact hnd) ⟨nd.id.2.1, ?_⟩
      obtain ⟨A', c', v, hr, hgv⟩ := hg18.add hnd (by omega) ((par_at W hnd h).2 hin)
      refine ⟨A', _, c', v, hr, ?_⟩
      exact ⟨(A', out.length + 1, c', (i : Int) + 1), rfl, ⟨i + 1, out ++ [nd.id], A', c', by simp, hil, hgv⟩, by simp only; omega⟩
    · exact ⟨(A, out.length, c, (i : Int) + 1), rfl, ⟨i + 1, out, A, c, rfl, hil, hg18.skip hnd (fun ha => hno ((par_at W hnd h).1 ha))⟩, by simp only; omega⟩
  · simp only at hge
    have : i = D.length := by omega
    subst this
    rw [roundQ_exit, ref10_Graph_Children.x1_0]
    exact hg.sorted hD fun A' c' w2 row k2 => ⟨A', _, c', rfl, hK A' c' w2 (Row.base row fun b hb => Nat.le_trans k3.size (Row.blk row hb).1) (k3.trans k2 (fun _ _ h => h))⟩

theorem child_none {D : DG} (W : WfD D) {h : HT} : (childL D h).length = 0 ↔ ¬ ∃ b, Par D h b := by
  constructor
  · rintro h0 ⟨b, hb⟩
    have : b ∈ childL D h := mem_pick.2 ⟨(Anc.mem W (.one hb)).2, hb⟩
    rw [List.eq_nil_of_length_eq_zero h0] at this
    cases this
  · intro hn
    rw [List.length_eq_zero_iff]
    cases hc : childL D h with
    | nil => rfl
    | cons b l => exact absurd ⟨b, (mem_pick.1 (show b ∈ childL D h by rw [hc]; simp)).2⟩ hn
theorem ref_Tips (H : IsR w F r D) (W : WfD D) (hD : D.length ≤ 10000)
    (hK : ∀ A' c' w', HRow w' w.heap.size A' (tipsL D).length c' (tipsL D) → Kept Nil w w' → K (.slice A' (tipsL D).length c') w') :
    Ret Tryd.prog ref10_Graph_Tips.id #[.pointer (some ⟨r, 0, none⟩)] w K := by
  refine ref10_Graph_Tips.of ?_
  refine ref10_Graph_Tips.loop1 (I := fun s w' => ∃ (i : Nat) (out : List HT) (A : Option Addr) (c : Nat), s = (A, out.length, c, (i : Int)) ∧ i ≤ D.length ∧ GB w w' D (fun a => ¬ ∃ b, Par D a b) i out A c) (μ := fun s _ => ((D.length : Int) - s.2.2.2).toNat) (s := (none, 0, 0, 0))
    ⟨0, [], none, 0, rfl, Nat.zero_le _, GB.nil (Kept.refl _ _)⟩ ?_
  rintro s w' ⟨i, out, A, c, rfl, hi, hg⟩
  refine H.go' hg.kp fun A1 c1 hns => Split.dec (fun hil0 => ?_) (fun hge => ?_)
  · simp only at hil0
    have hil : i < D.length := by omega
    obtain ⟨nd, hnd⟩ : ∃ nd, D[i]? = some nd := ⟨_, List.getElem?_eq_getElem hil⟩
    refine (H.same hg.kp).go fun A2 c2 hns2 => hns2.id (i := (i : Int)) (by omega) (by rw [Int.toNat_natCast]; exact hnd) ?_
    refine ref_Children (H.same hg.kp) W hD nd.id fun A' c' w13 row13 k13 => ⟨A', _, c', rfl, ?_⟩
    have hg13 := hg.same k13
    simp -zeta only
    rw [wrapP (n := (i : Int)) (by omega) (by omega)]
    by_cases h0 : (childL D nd.id).length = 0
    · refine Split.yes (by simp [h0]) ((H.same hg13.kp).go fun A3 c3 hns3 => ?_)
      refine hns3.id (i := (i : Int)) (by omega) (by rw [Int.toNat_natCast]; exact hnd) ⟨nd.id.2.1, ?_⟩
      obtain ⟨A', c', v, hr, hgv⟩ := hg13.add hnd (by omega) ((child_none W).1 h0)
      refine ⟨A', _, c', v, hr, ?_⟩
      exact ⟨(A', out.length + 1, c', (i : Int) + 1), rfl, ⟨i + 1, out ++ [nd.id], A', c', by simp, hil, hgv⟩, by simp only; omega⟩
    · refine Split.no (beq_eq_false_iff_ne.2 (by omega)) ?_
      exact ⟨(A, out.length, c, (i : Int) + 1), rfl, ⟨i + 1, out, A, c, rfl, hil, hg13.skip hnd (fun ha => h0 ((child_none W).2 ha))⟩, by simp only; omega⟩
  · simp only at hge
    have : i = D.length := by omega
    subst this
    rw [roundQ_exit, ref10_Graph_Tips.x1_0]
    exact hg.sorted hD fun A' c' w2 row k2 => ⟨A', _, c', rfl, hK A' c' w2 row k2⟩
end
end Go.Proofs.YtljckpecmlnbiaaDoor
/-
  The program's graph in memory; find, Has, Len, Root.
-/
namespace Go.Proofs.YtljckpecmlnbiaaDoor
open Go Go.Lite Go.RowKit

/-- where a node lies, and its rows -/
structure NM where
  b : Nat
  pA : Option Addr
  pn : Nat
  pc : Nat
  cA : Option Addr
  cn : Nat
  cc : Nat
  rA : Option Addr
  rn : Nat
  rc : Nat
  ws : List Nat
def ncell (h : HT) (m : NM) : Array Value := h.1 ++ #[.slice m.pA m.pn m.pc, .slice m.cA m.cn m.cc, .slice m.rA m.rn m.rc]
theorem ncell_size (h : HT) (m : NM) : (ncell h m).size = 35 := by unfold ncell; rw [Array.size_append, h.2.1]; rfl
theorem ncell_id (h : HT) (m : NM) {j : Nat} {v : Value} (hj : h.1[j]? = some v) : (ncell h m)[j]? = some v := by
  unfold ncell
  rw [Array.getElem?_append_left (Array.getElem?_eq_some_iff.1 hj).1]
  exact hj
theorem ncell_32 (h : HT) (m : NM) : (ncell h m)[32]? = some (.slice m.pA m.pn m.pc) := by
  unfold ncell; rw [Array.getElem?_append_right (by rw [h.2.1]; omega), h.2.1]; rfl
theorem ncell_33 (h : HT) (m : NM) : (ncell h m)[33]? = some (.slice m.cA m.cn m.cc) := by
  unfold ncell; rw [Array.getElem?_append_right (by rw [h.2.1]; omega), h.2.1]; rfl
theorem ncell_34 (h : HT) (m : NM) : (ncell h m)[34]? = some (.slice m.rA m.rn m.rc) := by
  unfold ncell; rw [Array.getElem?_append_right (by rw [h.2.1]; omega), h.2.1]; rfl
theorem ncell_inj {h h' : HT} {m m' : NM} (e : ncell h m = ncell h' m') : h = h' := by
  apply Subtype.ext
  have h1 := h.2.1
  have h2 := h'.2.1
  have := congrArg (fun a : Array Value => a.toList.take 32) e
  unfold ncell at this
  simp only [Array.toList_append] at this
  rw [List.take_left' (by simpa using h1), List.take_left' (by simpa using h2)] at this
  exact Array.ext' this

/-- a node: what it says (ch: its children) -/
structure NodeAt (w : World) (S F : Nat → Prop) (D : DG) (ch : List HT) (nd : DN) (m : NM) : Prop where
  blk : w.heap[m.b]? = some (.cells (ncell nd.id m) T_dag_node (0, 0))
  footB : S m.b
  ps : HS w m.pA m.pn nd.ps
  psF : ∀ a, m.pA = some a → F a.block
  ch : HRow w 0 m.cA m.cn m.cc ch
  chF : ∀ k, blkOf m.cA = some k → S k
  past : US w m.rA m.rn m.ws
  pastF : ∀ a, m.rA = some a → F a.block
  ok : okW m.ws
  bits : ∀ j, bit m.ws j = true ↔ ∃ nj, D[j]? = some nj ∧ Anc D nj.id nd.id
  small : m.rn ≤ 200
/-- a graph: S, what it may change; F, what it reads of and never changes; C, the children -/
structure GV (w : World) (S F : Nat → Prop) (g : Nat) (D : DG) (C : HT → List HT) (bl c mb : Nat) (M : List NM) : Prop where
  top : w.heap[g]? = some (.cells #[.slice (some ⟨bl, 0, none⟩) D.length c, .map (some mb)] T_dag_Graph (0, 0))
  row : Row w 0 T_p_dag_node 1 (some ⟨bl, 0, none⟩) D.length c (M.map fun m => .pointer (some ⟨m.b, 0, none⟩))
  map : IsMap w mb (ids D)
  len : M.length = D.length
  node : ∀ (i : Nat) nd m, D[i]? = some nd → M[i]? = some m → NodeAt w S F D (C nd.id) nd m
  apart : ∀ (i j : Nat) m m', M[i]? = some m → M[j]? = some m' → i ≠ j → ∀ k, blkOf m.cA = some k → blkOf m'.cA ≠ some k
  footG : S g
  footL : S bl
  footM : S mb
  dis : ∀ k, S k → ¬ F k
  low : ∀ k, S k ∨ F k → k < w.heap.size
def IsG (w : World) (S F : Nat → Prop) (g : Nat) (D : DG) : Prop := ∃ bl c mb M, GV w S F g D (childL D) bl c mb M

section
variable {w w' : World} {S F S' F' : Nat → Prop} {g bl c mb : Nat} {D : DG} {C : HT → List HT} {M : List NM} {K : Value → World → Prop}
theorem NodeAt.keep {ch : List HT} {nd : DN} {m : NM} {S0 : Nat → Prop} (h : NodeAt w S F D ch nd m) (hk : Kept S0 w w') (hS : ∀ k, S k → ¬ S0 k) (hF : ∀ k, F k → ¬ S0 k) : NodeAt w' S F D ch nd m :=
  ⟨hk.heap h.blk (hS _ h.footB), h.footB, h.ps.keep hk (fun a ha => hF _ (h.psF a ha)), h.psF, Row.keep h.ch hk (fun k hb => hS k (h.chF k hb)), h.chF, h.past.keep hk (fun a ha => hF _ (h.pastF a ha)), h.pastF, h.ok, h.bits, h.small⟩
theorem GV.keep {S0 : Nat → Prop} (h : GV w S F g D C bl c mb M) (hk : Kept S0 w w') (hS : ∀ k, S k → ¬ S0 k) (hF : ∀ k, F k → ¬ S0 k) : GV w' S F g D C bl c mb M :=
  ⟨hk.heap h.top (hS _ h.footG), Row.keep h.row hk (fun k e => by cases e; exact hS _ h.footL), h.map.keep hk (hS _ h.footM), h.len, fun i nd m h1 h2 => (h.node i nd m h1 h2).keep hk hS hF, h.apart, h.footG, h.footL, h.footM, h.dis, fun k hk' => Nat.lt_of_lt_of_le (h.low k hk') hk.size⟩
theorem GV.same (h : GV w S F g D C bl c mb M) (hk : Kept Nil w w') : GV w' S F g D C bl c mb M := h.keep hk (fun _ _ h => h) (fun _ _ h => h)
theorem IsG.keep {S0 : Nat → Prop} (h : IsG w S F g D) (hk : Kept S0 w w') (hS : ∀ k, S k → ¬ S0 k) (hF : ∀ k, F k → ¬ S0 k) : IsG w' S F g D := let ⟨bl, c, mb, M, h⟩ := h; ⟨bl, c, mb, M, h.keep hk hS hF⟩
theorem IsG.same (h : IsG w S F g D) (hk : Kept Nil w w') : IsG w' S F g D := h.keep hk (fun _ _ h => h) (fun _ _ h => h)
theorem GV.get (h : GV w S F g D C bl c mb M) {i : Nat} {nd : DN} (hi : D[i]? = some nd) : ∃ m, M[i]? = some m ∧ NodeAt w S F D (C nd.id) nd m := by
  have := (List.getElem?_eq_some_iff.1 hi).1
  have hl := h.len
  exact ⟨M[i], List.getElem?_eq_getElem (by omega), h.node i nd _ hi (List.getElem?_eq_getElem (by omega))⟩
theorem GV.nodes (h : GV w S F g D C bl c mb M) : w.cell? ((⟨g, 0, none⟩ : Addr).add 0) = some (.slice (some ⟨bl, 0, none⟩) D.length c) := by rw [add_zero, cell_blk h.top]; rfl
theorem GV.at_ (h : GV w S F g D C bl c mb M) : w.cell? ((⟨g, 0, none⟩ : Addr).add 1) = some (.map (some mb)) := by rw [add_at, cell_blk h.top]; rfl
theorem GV.ptr (h : GV w S F g D C bl c mb M) {i : Nat} {m : NM} (hm : M[i]? = some m) : w.cell? ((⟨bl, 0, none⟩ : Addr).add (i * 1)) = some (.pointer (some ⟨m.b, 0, none⟩)) := by
  rw [add_at, Nat.zero_add, Nat.mul_one]
  exact Row.cell h.row (by rw [List.getElem?_map, hm]; rfl)

theorem dag_there (h : GV w S F g D C bl c mb M) (hK : K (.bool true) w) : Ret Tryd.prog dag_Graph_there.id #[.pointer (some ⟨g, 0, none⟩)] w K :=
  dag_Graph_there.of (Split.yes rfl ⟨some mb, h.at_, hK⟩)
/-- what find answers -/
def Found (D : DG) (M : List NM) (h : HT) (x : Option Addr) : Prop := (x = none ∧ h ∉ ids D) ∨ ∃ (i : Nat) (nd : DN) (m : NM), D[i]? = some nd ∧ nd.id = h ∧ M[i]? = some m ∧ x = some ⟨m.b, 0, none⟩
theorem Found.isSome {h : HT} {x : Option Addr} (f : Found D M h x) : (!x.isNone) = decide (h ∈ ids D) := by
  rcases f with ⟨rfl, hn⟩ | ⟨i, nd, m, h1, h2, _, rfl⟩
  · rw [decide_eq_false hn]; rfl
  · rw [decide_eq_true (ids_mem.2 ⟨nd, List.mem_of_getElem? h1, h2⟩)]; rfl
theorem dag_find (G : GV w S F g D C bl c mb M) (h : HT) (hK : ∀ w' x, Kept Nil w w' → Found D M h x → K (.pointer x) w') :
    Ret Tryd.prog dag_Graph_find.id #[.pointer (some ⟨g, 0, none⟩), .agg h.1] w K := by
  refine dag_Graph_find.of ?_
  unfold dag_Graph_find.W
  intro w3
  have k3 : Kept Nil w w3 := (Kept.refl _ _).alloc _
  have hb3 : w3.heap[w.heap.size]? = some (.cells h.1 T_api_Hash (0, 0)) := new_blk w _
  clear_value w3
  refine dag_there (G.same k3) ⟨true, rfl, Split.yes rfl ?_⟩
  intro w7
  have k7 : Kept Nil w3 w7 := (Kept.refl _ _).drew
  clear_value w7
  have kw : Kept Nil w w7 := k3.trans k7 (fun _ _ h => h)
  have G7 := G.same kw
  refine ⟨some mb, G7.at_, h.1, ⟨h.2.1, Cells.blk (k7.heap hb3 (fun h => h))⟩, _, _, G7.map.look h, ?_⟩
  cases hp : pos h (ids D) 0 with
  | none => exact Split.no rfl (hK w7 none kw (.inl ⟨rfl, pos_none.1 hp⟩))
  | some i =>
    obtain ⟨_, hi⟩ := pos_some hp
    obtain ⟨nd, h1, h2⟩ := ids_at hi
    rw [Nat.sub_zero] at h1
    obtain ⟨m, hm, _⟩ := G7.get h1
    have hil := (List.getElem?_eq_some_iff.1 h1).1
    refine Split.yes rfl ⟨_, _, _, G7.nodes, ⟨by simp, by simp only [Option.getD_some]; omega⟩, some ⟨m.b, 0, none⟩, ?_, hK w7 _ kw (.inr ⟨i, nd, m, h1, h2, hm, rfl⟩)⟩
    rw [Option.getD_some, Int.toNat_natCast]
    exact G7.ptr hm
theorem dag_Has (G : GV w S F g D C bl c mb M) (h : HT) (hK : ∀ w', Kept Nil w w' → K (.bool (decide (h ∈ ids D))) w') :
    Ret Tryd.prog dag_Graph_Has.id #[.pointer (some ⟨g, 0, none⟩), .agg h.1] w K := by
  refine dag_Graph_Has.of ?_
  unfold dag_Graph_Has.W
  intro w3
  have k3 : Kept Nil w w3 := (Kept.refl _ _).alloc _
  have hb3 : w3.heap[w.heap.size]? = some (.cells h.1 T_api_Hash (0, 0)) := new_blk w _
  clear_value w3
  refine ⟨h.1, ⟨h.2.1, Cells.blk hb3⟩, dag_find (G.same k3) h fun w6 x k6 hx => ⟨x, rfl, ?_⟩⟩
  rw [hx.isSome]
  exact hK w6 (k3.trans k6 (fun _ _ h => h))
theorem dag_Len (G : GV w S F g D C bl c mb M) (hK : K (.int .i64 D.length) w) : Ret Tryd.prog dag_Graph_Len.id #[.pointer (some ⟨g, 0, none⟩)] w K :=
  dag_Graph_Len.of (dag_there G ⟨true, rfl, Split.no rfl ⟨_, _, _, G.nodes, hK⟩⟩)
end
end Go.Proofs.YtljckpecmlnbiaaDoor
/-
  pick, by each of its three askers. Written by our dg2.py.
-/
namespace Go.Proofs.YtljckpecmlnbiaaDoor
open Go Go.Lite Go.RowKit
section
variable {w w' : World} {S F : Nat → Prop} {g bl c mb : Nat} {D : DG} {C : HT → List HT} {M : List NM} {K : Value → World → Prop}
/-- pick, asked by the closure of Tips -/
theorem pick_Tips (G : GV w S F g D C bl c mb M) (hD : D.length ≤ 10000) {is : HT → Prop} 
    (his : ∀ (i : Nat) nd m w' (K' : Value → World → Prop), D[i]? = some nd → M[i]? = some m → Kept Nil w w' → (∀ w'' (x : Bool), (x = true ↔ is nd.id) → Kept Nil w' w'' → K' (.bool x) w'') →
      Ret Tryd.prog dag_Graph_Tips_fn1.id #[.int .i64 (i : Int), .pointer (some ⟨m.b, 0, none⟩)] w' K')
    (hK : ∀ A' c' w', HRow w' w.heap.size A' (pick D is).length c' (pick D is) → Kept Nil w w' → K (.slice A' (pick D is).length c') w') :
    Ret Tryd.prog dag_Graph_pick.id #[.pointer (some ⟨g, 0, none⟩), .func (.func dag_Graph_Tips_fn1.id) #[] #[]] w K := by
  refine dag_Graph_pick__dag_Graph_Tips_fn1.of (dag_there G ⟨true, rfl, Split.yes rfl ⟨_, _, _, G.nodes, ?_⟩⟩)
  refine dag_Graph_pick__dag_Graph_Tips_fn1.loop1 (I := fun s w' => ∃ (i : Nat) (out : List HT) (A : Option Addr) (c : Nat), s = (A, out.length, c, (i : Int)) ∧ i ≤ D.length ∧ GB w w' D is i out A c) (μ := fun s _ => ((D.length : Int) - s.2.2.2).toNat) (s := (none, 0, 0, 0))
    ⟨0, [], none, 0, rfl, Nat.zero_le _, GB.nil (Kept.refl _ _)⟩ ?_
  rintro s w' ⟨i, out, A, c0, rfl, hi, hg⟩
  refine Split.dec (fun hil0 => ?_) (fun hge => ?_)
  · simp only at hil0
    have hil : i < D.length := by omega
    obtain ⟨nd, hnd⟩ : ∃ nd, D[i]? = some nd := ⟨_, List.getElem?_eq_getElem hil⟩
    obtain ⟨m, hm, _⟩ := G.get hnd
    refine ⟨⟨by simp only; omega, by simp only; omega⟩, some ⟨m.b, 0, none⟩, ?_, ?_⟩
    · simp only [Int.toNat_natCast]
      exact (G.same hg.kp).ptr hm
    refine his i nd m w' _ hnd hm hg.kp fun w22 x hx k22 => ⟨x, rfl, ?_⟩
    have hg22 := hg.same k22
    simp -zeta only
    rw [wrapP (n := (i : Int)) (by omega) (by omega)]
    cases x with
    | true =>
      obtain ⟨m', hm', N⟩ := (G.same hg22.kp).get hnd
      rw [hm] at hm'
      cases hm'
      refine Split.yes rfl ⟨nd.id.1, ⟨nd.id.2.1, fun j v hj => ?_⟩, nd.id.2.1, ?_⟩
      · rw [add_zero, add_at, Nat.zero_add, cell_blk N.blk]
        exact ncell_id _ _ hj
      obtain ⟨A', c', v, hr, hgv⟩ := hg22.add hnd (by omega) (hx.1 rfl)
      refine ⟨A', _, c', v, hr, ?_⟩
      exact ⟨(A', out.length + 1, c', (i : Int) + 1), rfl, ⟨i + 1, out ++ [nd.id], A', c', by simp, hil, hgv⟩, by simp only; omega⟩
    | false =>
      refine Split.no rfl ?_
      exact ⟨(A, out.length, c0, (i : Int) + 1), rfl, ⟨i + 1, out, A, c0, rfl, hil, hg22.skip hnd (fun ha => by have := hx.2 ha; cases this)⟩, by simp only; omega⟩
  · simp only at hge
    have : i = D.length := by omega
    subst this
    rw [roundQ_exit, dag_Graph_pick__dag_Graph_Tips_fn1.x1_0]
    exact hg.sortedP hD fun A' c' w2 row k2 => ⟨A', _, c', rfl, hK A' c' w2 row k2⟩
/-- pick, asked by the closure of Future -/
theorem pick_Future (G : GV w S F g D C bl c mb M) (hD : D.length ≤ 10000) {is : HT → Prop} (p0 : Addr)
    (his : ∀ (i : Nat) nd m w' (K' : Value → World → Prop), D[i]? = some nd → M[i]? = some m → Kept Nil w w' → (∀ w'' (x : Bool), (x = true ↔ is nd.id) → Kept Nil w' w'' → K' (.bool x) w'') →
      Ret Tryd.prog dag_Graph_Future_fn1.id #[.int .i64 (i : Int), .pointer (some ⟨m.b, 0, none⟩), .pointer (some p0)] w' K')
    (hK : ∀ A' c' w', HRow w' w.heap.size A' (pick D is).length c' (pick D is) → Kept Nil w w' → K (.slice A' (pick D is).length c') w') :
    Ret Tryd.prog dag_Graph_pick.id #[.pointer (some ⟨g, 0, none⟩), .func (.func dag_Graph_Future_fn1.id) #[] #[.pointer (some p0)]] w K := by
  refine dag_Graph_pick__dag_Graph_Future_fn1.of (dag_there G ⟨true, rfl, Split.yes rfl ⟨_, _, _, G.nodes, ?_⟩⟩)
  refine dag_Graph_pick__dag_Graph_Future_fn1.loop1 (I := fun s w' => ∃ (i : Nat) (out : List HT) (A : Option Addr) (c : Nat), s = (A, out.length, c, (i : Int)) ∧ i ≤ D.length ∧ GB w w' D is i out A c) (μ := fun s _ => ((D.length : Int) - s.2.2.2).toNat) (s := (none, 0, 0, 0))
    ⟨0, [], none, 0, rfl, Nat.zero_le _, GB.nil (Kept.refl _ _)⟩ ?_
  rintro s w' ⟨i, out, A, c0, rfl, hi, hg⟩
  refine Split.dec (fun hil0 => ?_) (fun hge => ?_)
  · simp only at hil0
    have hil : i < D.length := by omega
    obtain ⟨nd, hnd⟩ : ∃ nd, D[i]? = some nd := ⟨_, List.getElem?_eq_getElem hil⟩
    obtain ⟨m, hm, _⟩ := G.get hnd
    refine ⟨⟨by simp only; omega, by simp only; omega⟩, some ⟨m.b, 0, none⟩, ?_, ?_⟩
    · simp only [Int.toNat_natCast]
      exact (G.same hg.kp).ptr hm
    refine his i nd m w' _ hnd hm hg.kp fun w22 x hx k22 => ⟨x, rfl, ?_⟩
    have hg22 := hg.same k22
    simp -zeta only
    rw [wrapP (n := (i : Int)) (by omega) (by omega)]
    cases x with
    | true =>
      obtain ⟨m', hm', N⟩ := (G.same hg22.kp).get hnd
      rw [hm] at hm'
      cases hm'
      refine Split.yes rfl ⟨nd.id.1, ⟨nd.id.2.1, fun j v hj => ?_⟩, nd.id.2.1, ?_⟩
      · rw [add_zero, add_at, Nat.zero_add, cell_blk N.blk]
        exact ncell_id _ _ hj
      obtain ⟨A', c', v, hr, hgv⟩ := hg22.add hnd (by omega) (hx.1 rfl)
      refine ⟨A', _, c', v, hr, ?_⟩
      exact ⟨(A', out.length + 1, c', (i : Int) + 1), rfl, ⟨i + 1, out ++ [nd.id], A', c', by simp, hil, hgv⟩, by simp only; omega⟩
    | false =>
      refine Split.no rfl ?_
      exact ⟨(A, out.length, c0, (i : Int) + 1), rfl, ⟨i + 1, out, A, c0, rfl, hil, hg22.skip hnd (fun ha => by have := hx.2 ha; cases this)⟩, by simp only; omega⟩
  · simp only at hge
    have : i = D.length := by omega
    subst this
    rw [roundQ_exit, dag_Graph_pick__dag_Graph_Future_fn1.x1_0]
    exact hg.sortedP hD fun A' c' w2 row k2 => ⟨A', _, c', rfl, hK A' c' w2 row k2⟩
/-- pick, asked by the closure of Anticone -/
theorem pick_Anticone (G : GV w S F g D C bl c mb M) (hD : D.length ≤ 10000) {is : HT → Prop} (p0 p1 : Addr)
    (his : ∀ (i : Nat) nd m w' (K' : Value → World → Prop), D[i]? = some nd → M[i]? = some m → Kept Nil w w' → (∀ w'' (x : Bool), (x = true ↔ is nd.id) → Kept Nil w' w'' → K' (.bool x) w'') →
      Ret Tryd.prog dag_Graph_Anticone_fn1.id #[.int .i64 (i : Int), .pointer (some ⟨m.b, 0, none⟩), .pointer (some p0), .pointer (some p1)] w' K')
    (hK : ∀ A' c' w', HRow w' w.heap.size A' (pick D is).length c' (pick D is) → Kept Nil w w' → K (.slice A' (pick D is).length c') w') :
    Ret Tryd.prog dag_Graph_pick.id #[.pointer (some ⟨g, 0, none⟩), .func (.func dag_Graph_Anticone_fn1.id) #[] #[.pointer (some p0), .pointer (some p1)]] w K := by
  refine dag_Graph_pick__dag_Graph_Anticone_fn1.of (dag_there G ⟨true, rfl, Split.yes rfl ⟨_, _, _, G.nodes, ?_⟩⟩)
  refine dag_Graph_pick__dag_Graph_Anticone_fn1.loop1 (I := fun s w' => ∃ (i : Nat) (out : List HT) (A : Option Addr) (c : Nat), s = (A, out.length, c, (i : Int)) ∧ i ≤ D.length ∧ GB w w' D is i out A c) (μ := fun s _ => ((D.length : Int) - s.2.2.2).toNat) (s := (none, 0, 0, 0))
    ⟨0, [], none, 0, rfl, Nat.zero_le _, GB.nil (Kept.refl _ _)⟩ ?_
  rintro s w' ⟨i, out, A, c0, rfl, hi, hg⟩
  refine Split.dec (fun hil0 => ?_) (fun hge => ?_)
  · simp only at hil0
    have hil : i < D.length := by omega
    obtain ⟨nd, hnd⟩ : ∃ nd, D[i]? = some nd := ⟨_, List.getElem?_eq_getElem hil⟩
    obtain ⟨m, hm, _⟩ := G.get hnd
    refine ⟨⟨by simp only; omega, by simp only; omega⟩, some ⟨m.b, 0, none⟩, ?_, ?_⟩
    · simp only [Int.toNat_natCast]
      exact (G.same hg.kp).ptr hm
    refine his i nd m w' _ hnd hm hg.kp fun w22 x hx k22 => ⟨x, rfl, ?_⟩
    have hg22 := hg.same k22
    simp -zeta only
    rw [wrapP (n := (i : Int)) (by omega) (by omega)]
    cases x with
    | true =>
      obtain ⟨m', hm', N⟩ := (G.same hg22.kp).get hnd
      rw [hm] at hm'
      cases hm'
      refine Split.yes rfl ⟨nd.id.1, ⟨nd.id.2.1, fun j v hj => ?_⟩, nd.id.2.1, ?_⟩
      · rw [add_zero, add_at, Nat.zero_add, cell_blk N.blk]
        exact ncell_id _ _ hj
      obtain ⟨A', c', v, hr, hgv⟩ := hg22.add hnd (by omega) (hx.1 rfl)
      refine ⟨A', _, c', v, hr, ?_⟩
      exact ⟨(A', out.length + 1, c', (i : Int) + 1), rfl, ⟨i + 1, out ++ [nd.id], A', c', by simp, hil, hgv⟩, by simp only; omega⟩
    | false =>
      refine Split.no rfl ?_
      exact ⟨(A, out.length, c0, (i : Int) + 1), rfl, ⟨i + 1, out, A, c0, rfl, hil, hg22.skip hnd (fun ha => by have := hx.2 ha; cases this)⟩, by simp only; omega⟩
  · simp only at hge
    have : i = D.length := by omega
    subst this
    rw [roundQ_exit, dag_Graph_pick__dag_Graph_Anticone_fn1.x1_0]
    exact hg.sortedP hD fun A' c' w2 row k2 => ⟨A', _, c', rfl, hK A' c' w2 row k2⟩
end
end Go.Proofs.YtljckpecmlnbiaaDoor
/-
  The program's Before, Parents, Children, Tips, Future, Anticone.
-/
namespace Go.Proofs.YtljckpecmlnbiaaDoor
open Go Go.Lite Go.RowKit

theorem ptrInfo : ∃ j, Tryd.prog.info? T_dag_node = some j ∧ j.size ≠ 0 := by
  have h : (match Tryd.prog.info? T_dag_node with | some j => !(Nat.beq j.size 0) | none => false) = true := by kernel_rfl
  split at h
  · rename_i j hj
    exact ⟨j, hj, fun e => by rw [e] at h; cases h⟩
  · cases h
theorem ptrUnd : Tryd.prog.underlying T_p_dag_node = some (.pointer T_dag_node) := by kernel_rfl
theorem neq_same (w : World) (a : Addr) : (Go.binOp .neq T_p_dag_node (.pointer (some a)) (.pointer (some a))).run Tryd.prog w = .ok (.bool false) w := by
  obtain ⟨j, hj, _⟩ := ptrInfo
  have h : ∀ d : Nat, (Op.equalIn (d + 1) T_p_dag_node (.pointer (some a)) (.pointer (some a))).run Tryd.prog w = .ok true w := fun d => by
    simp [Op.equalIn, run_underlying ptrUnd, sizeOf, typeInfo, hj, run_sameAddr_same]
  simp only [Go.binOp]
  simp [Op.equal, Op.maxDepth, h 9999]
theorem neq_other {w : World} {a b : Addr} {ca cb : Array Value} {ta tb : TypeId} (hne : a ≠ b) (ha : w.heap[a.block]? = some (.cells ca ta (0, 0))) (hb : w.heap[b.block]? = some (.cells cb tb (0, 0))) :
    (Go.binOp .neq T_p_dag_node (.pointer (some a)) (.pointer (some b))).run Tryd.prog w = .ok (.bool true) w := by
  obtain ⟨j, hj, hsz⟩ := ptrInfo
  have h : ∀ d : Nat, (Op.equalIn (d + 1) T_p_dag_node (.pointer (some a)) (.pointer (some b))).run Tryd.prog w = .ok false w := fun d => by
    simp [Op.equalIn, run_underlying ptrUnd, sizeOf, typeInfo, hj, hsz, run_sameAddr_other w hne ha hb]
  simp only [Go.binOp]
  simp [Op.equal, Op.maxDepth, h 9999]

section
variable {w w' : World} {S F : Nat → Prop} {g bl c mb : Nat} {D : DG} {C : HT → List HT} {M : List NM} {K : Value → World → Prop}
theorem clone_hash {A : Option Addr} {n c : Nat} {l : List HT} (hl : HS w A n l) (hn : n ≤ 400000) (hK : ∀ A' c' w', HRow w' w.heap.size A' n c' l → Kept Nil w w' → K (.slice A' n c') w') :
    Ret Tryd.prog slices_Clone_of_api_Hash.id #[.slice A n c] w K := by
  refine slices_Clone_of_api_Hash.of ?_
  cases A with
  | none =>
    obtain ⟨rfl, rfl⟩ := hl.none
    exact Split.yes rfl (hK none 0 w (HRow.nil _ _) (Kept.refl _ _))
  | some a =>
    refine Split.no rfl ?_
    intro w2
    have k2 : Kept Nil w w2 := (Kept.refl _ _).alloc _
    have r0 : HRow w2 w.heap.size (some ⟨w.heap.size, 0, none⟩) 0 0 [] := Row.made (n := 0) (cur := #[]) (new_blk w _) (Nat.le_refl _) rfl (Nat.zero_le _)
    clear_value w2
    obtain ⟨A', c', w4, hr, row, hg, _⟩ := append_hs (cx := c) T_sl_api_Hash r0 (hl.same k2) (by omega) k2.size
    rw [Nat.zero_add] at hr row
    rw [List.nil_append] at row
    exact ⟨A', n, c', w4, hr, hK A' c' w4 row (Kept.growNew k2 hg (fun k hk => by cases hk; exact Nat.le_refl _))⟩

theorem node_past {D : DG} {nd : DN} {m : NM} {ch : List HT} (N : NodeAt w S F D ch nd m) : w.cell? ((⟨m.b, 0, none⟩ : Addr).add 34) = some (.slice m.rA m.rn m.rc) := by
  rw [add_at, Nat.zero_add, cell_blk N.blk]; exact ncell_34 _ _
theorem node_ch {D : DG} {nd : DN} {m : NM} {ch : List HT} (N : NodeAt w S F D ch nd m) : w.cell? ((⟨m.b, 0, none⟩ : Addr).add 33) = some (.slice m.cA m.cn m.cc) := by
  rw [add_at, Nat.zero_add, cell_blk N.blk]; exact ncell_33 _ _
theorem node_ps {D : DG} {nd : DN} {m : NM} {ch : List HT} (N : NodeAt w S F D ch nd m) : w.cell? ((⟨m.b, 0, none⟩ : Addr).add 32) = some (.slice m.pA m.pn m.pc) := by
  rw [add_at, Nat.zero_add, cell_blk N.blk]; exact ncell_32 _ _
/-- one of the bits, by the hash -/
theorem node_bit {nd na : DN} {m : NM} {ch : List HT} (N : NodeAt w S F D ch nd m) {i : Nat} (ha : D[i]? = some na) : bit m.ws i = true ↔ Anc D na.id nd.id := by
  rw [N.bits i]
  constructor
  · rintro ⟨nj, h1, h2⟩
    rw [ha] at h1
    cases h1
    exact h2
  · exact fun h => ⟨na, ha, h⟩

theorem dag_Before (G : GV w S F g D C bl c mb M) (W : WfD D) (hD : D.length ≤ 10000) (a b : HT) (hK : ∀ w' (x : Bool), (x = true ↔ Anc D a b) → Kept Nil w w' → K (.bool x) w') :
    Ret Tryd.prog dag_Graph_Before.id #[.pointer (some ⟨g, 0, none⟩), .agg a.1, .agg b.1] w K := by
  refine dag_Graph_Before.of ?_
  unfold dag_Graph_Before.W
  intro w4 w5 w6
  have k4 : Kept Nil w w4 := (Kept.refl _ _).alloc _
  have ha4 : w4.heap[w.heap.size]? = some (.cells a.1 T_api_Hash (0, 0)) := new_blk w _
  have k5 : Kept Nil w4 w5 := (Kept.refl _ _).alloc _
  have hb5 : w5.heap[w4.heap.size]? = some (.cells b.1 T_api_Hash (0, 0)) := new_blk w4 _
  have k6 : Kept Nil w5 w6 := (Kept.refl _ _).drew
  have ha6 := k6.heap (k5.heap ha4 (fun h => h)) (fun h => h)
  have hb6 := k6.heap hb5 (fun h => h)
  have kw6 : Kept Nil w w6 := (k4.trans k5 (fun _ _ h => h)).trans k6 (fun _ _ h => h)
  clear_value w6
  refine ⟨a.1, ⟨a.2.1, Cells.blk ha6⟩, b.1, ⟨b.2.1, Cells.blk hb6⟩, dag_find (G.same kw6) a fun w10 x k10 hx => ⟨x, rfl, ?_⟩⟩
  have kw10 := kw6.trans k10 (fun _ _ h => h)
  refine ⟨⟨b.1, rfl, b.2.1, Cells.blk (k10.heap hb6 (fun h => h))⟩, dag_find (G.same kw10) b fun w13 y k13 hy => ⟨y, rfl, ?_⟩⟩
  intro w15
  have k15 : Kept Nil w13 w15 := (Kept.refl _ _).drew
  clear_value w15
  have k1315 : Kept Nil w10 w15 := k13.trans k15 (fun _ _ h => h)
  have kw15 := kw10.trans k1315 (fun _ _ h => h)
  have G15 := G.same kw15
  rcases hx with ⟨rfl, hn⟩ | ⟨i, na, ma, h1, rfl, h3, rfl⟩
  · exact Split.no rfl (hK w15 false ⟨(fun h => by cases h), fun h => absurd (h.mem W).1 hn⟩ kw15)
  · refine Split.yes rfl ?_
    rcases hy with ⟨rfl, hn⟩ | ⟨j, nb, m', h1', rfl, h3', rfl⟩
    · exact Split.no rfl (hK w15 false ⟨(fun h => by cases h), fun h => absurd (h.mem W).2 hn⟩ kw15)
    · obtain ⟨m, hm, N⟩ := G15.get h1'
      rw [h3'] at hm
      cases hm
      have hil := (List.getElem?_eq_some_iff.1 h1).1
      refine Split.yes rfl ⟨_, _, _, node_past N, ⟨some mb, G15.at_, na.id.1, ⟨na.id.2.1, Cells.blk (k1315.heap (k10.heap ha6 (fun h => h)) (fun h => h))⟩, _, G15.map.look1 na.id, ?_⟩⟩
      rw [W.pos_eq h1, Option.getD_some]
      refine row_has_ok N.past N.ok (by omega) ⟨_, rfl, hK w15 _ (node_bit N h1) kw15⟩

theorem dag_Parents (G : GV w S F g D C bl c mb M) (hps : ∀ nd ∈ D, nd.ps.length ≤ 10000) (h : HT)
    (hno : ∀ w', Kept Nil w w' → h ∉ ids D → K (.tuple #[.slice none 0 0, .int .i64 6]) w')
    (hyes : ∀ (i : Nat) nd A' c' w', D[i]? = some nd → nd.id = h → HRow w' w.heap.size A' nd.ps.length c' nd.ps → Kept Nil w w' → K (.tuple #[.slice A' nd.ps.length c', .int .i64 0]) w') :
    Ret Tryd.prog dag_Graph_Parents.id #[.pointer (some ⟨g, 0, none⟩), .agg h.1] w K := by
  refine dag_Graph_Parents.of ?_
  unfold dag_Graph_Parents.W
  intro w3
  have k3 : Kept Nil w w3 := (Kept.refl _ _).alloc _
  have hb3 : w3.heap[w.heap.size]? = some (.cells h.1 T_api_Hash (0, 0)) := new_blk w _
  clear_value w3
  refine ⟨h.1, ⟨h.2.1, Cells.blk hb3⟩, dag_find (G.same k3) h fun w6 x k6 hx => ⟨x, rfl, ?_⟩⟩
  have kw6 := k3.trans k6 (fun _ _ h => h)
  refine dag_there (G.same kw6) ⟨true, rfl, Split.no rfl ?_⟩
  rcases hx with ⟨rfl, hn⟩ | ⟨i, nd, m', h1, h2, h3, rfl⟩
  · exact Split.yes rfl (hno w6 kw6 hn)
  · obtain ⟨m, hm, N⟩ := (G.same kw6).get h1
    rw [h3] at hm
    cases hm
    refine Split.no rfl ⟨_, _, _, node_ps N, ?_⟩
    have hl := N.ps.len
    have := hps nd (List.mem_of_getElem? h1)
    refine clone_hash N.ps (by omega) fun A' c' w' row k => ⟨A', _, c', rfl, ?_⟩
    rw [← hl] at row ⊢
    exact hyes i nd A' c' w' h1 h2 (Row.base row fun b hb => Nat.le_trans kw6.size (Row.blk row hb).1) (kw6.trans k (fun _ _ h => h))
theorem dag_Children (G : GV w S F g D (childL D) bl c mb M) (hD : D.length ≤ 10000) (h : HT)
    (hno : ∀ w', Kept Nil w w' → h ∉ ids D → K (.tuple #[.slice none 0 0, .int .i64 6]) w')
    (hyes : ∀ A' c' w', h ∈ ids D → HRow w' w.heap.size A' (childL D h).length c' (childL D h) → Kept Nil w w' → K (.tuple #[.slice A' (childL D h).length c', .int .i64 0]) w') :
    Ret Tryd.prog dag_Graph_Children.id #[.pointer (some ⟨g, 0, none⟩), .agg h.1] w K := by
  refine dag_Graph_Children.of ?_
  unfold dag_Graph_Children.W
  intro w3
  have k3 : Kept Nil w w3 := (Kept.refl _ _).alloc _
  have hb3 : w3.heap[w.heap.size]? = some (.cells h.1 T_api_Hash (0, 0)) := new_blk w _
  clear_value w3
  refine ⟨h.1, ⟨h.2.1, Cells.blk hb3⟩, dag_find (G.same k3) h fun w6 x k6 hx => ⟨x, rfl, ?_⟩⟩
  have kw6 := k3.trans k6 (fun _ _ h => h)
  refine dag_there (G.same kw6) ⟨true, rfl, Split.no rfl ?_⟩
  rcases hx with ⟨rfl, hn⟩ | ⟨i, nd, m', h1, rfl, h3, rfl⟩
  · exact Split.yes rfl (hno w6 kw6 hn)
  · obtain ⟨m, hm, N⟩ := (G.same kw6).get h1
    rw [h3] at hm
    cases hm
    refine Split.no rfl ⟨_, _, _, node_ch N, ?_⟩
    have hl := N.ch.len
    have := pick_len D fun a => Par D nd.id a
    unfold childL at hl
    refine clone_hash N.ch.hs (by omega) fun A' c' w' row k => ⟨A', _, c', rfl, ?_⟩
    have e : m'.cn = (childL D nd.id).length := hl.symm
    rw [e] at row ⊢
    exact hyes A' c' w' (ids_mem.2 ⟨nd, List.mem_of_getElem? h1, rfl⟩) (Row.base row fun b hb => Nat.le_trans kw6.size (Row.blk row hb).1) (kw6.trans k (fun _ _ h => h))

theorem dag_Tips (G : GV w S F g D (childL D) bl c mb M) (W : WfD D) (hD : D.length ≤ 10000)
    (hK : ∀ A' c' w', HRow w' w.heap.size A' (tipsL D).length c' (tipsL D) → Kept Nil w w' → K (.slice A' (tipsL D).length c') w') :
    Ret Tryd.prog dag_Graph_Tips.id #[.pointer (some ⟨g, 0, none⟩)] w K := by
  refine dag_Graph_Tips.of (pick_Tips G hD (is := fun a => ¬ ∃ b, Par D a b) (fun i nd m w' K' h1 h2 k hk => ?_) fun A' c' w' row k => ⟨A', _, c', rfl, hK A' c' w' row k⟩)
  obtain ⟨m', hm', N⟩ := (G.same k).get h1
  rw [h2] at hm'
  cases hm'
  refine dag_Graph_Tips_fn1.of ⟨_, _, _, node_ch N, hk w' _ ?_ (Kept.refl _ _)⟩
  rw [← child_none W, ← N.ch.len]
  simp

theorem dag_Future (G : GV w S F g D C bl c mb M) (W : WfD D) (hD : D.length ≤ 10000) (h : HT)
    (hK : ∀ A' c' w', HRow w' w.heap.size A' (futureL D h).length c' (futureL D h) → Kept Nil w w' → K (.slice A' (futureL D h).length c') w') :
    Ret Tryd.prog dag_Graph_Future.id #[.pointer (some ⟨g, 0, none⟩), .agg h.1] w K := by
  refine dag_Graph_Future.of ?_
  unfold dag_Graph_Future.W
  intro w3
  have k3 : Kept Nil w w3 := (Kept.refl _ _).alloc _
  have hb3 : w3.heap[w.heap.size]? = some (.cells h.1 T_api_Hash (0, 0)) := new_blk w _
  clear_value w3
  refine ⟨h.1, ⟨h.2.1, Cells.blk hb3⟩, dag_Has (G.same k3) h fun w6 k6 => ⟨_, rfl, ?_⟩⟩
  have kw6 := k3.trans k6 (fun _ _ h => h)
  by_cases hm : h ∉ ids D
  · refine Split.yes (by rw [decide_eq_false hm]; rfl) ?_
    have e : futureL D h = [] := by
      cases hc : futureL D h with
      | nil => rfl
      | cons b l => exact absurd ((mem_pick.1 (show b ∈ futureL D h by rw [hc]; simp)).2.mem W).1 hm
    have := hK none 0 w6 (by rw [e]; exact HRow.nil _ _) kw6
    rw [e] at this
    exact this
  replace hm : h ∈ ids D := Classical.byContradiction hm
  refine Split.no (by rw [decide_eq_true hm]; rfl) ?_
  intro w8
  have k8 : Kept Nil w6 w8 := (Kept.refl _ _).drew
  clear_value w8
  have kw8 := kw6.trans k8 (fun _ _ h => h)
  have G8 := G.same kw8
  have hb8 := k8.heap (k6.heap hb3 (fun h => h)) (fun h => h)
  obtain ⟨nh, hnh, rfl⟩ := ids_mem.1 hm
  obtain ⟨i, hi⟩ := List.mem_iff_getElem?.1 hnh
  have hil := (List.getElem?_eq_some_iff.1 hi).1
  refine ⟨some mb, G8.at_, nh.id.1, ⟨nh.id.2.1, Cells.blk hb8⟩, _, G8.map.look1 nh.id, ?_⟩
  rw [W.pos_eq hi, Option.getD_some]
  intro w13
  have k13 : Kept Nil w8 w13 := (Kept.refl _ _).alloc _
  have hb13 : w13.heap[w8.heap.size]? = some (.cells #[.int .i64 0] T_int (0, 0)) := new_blk w8 _
  clear_value w13
  have G13 := G8.same k13
  have hl13 := G13.map.look1 nh.id
  rw [W.pos_eq hi, Option.getD_some] at hl13
  refine ⟨hl13, ⟨nh.id.1, rfl, nh.id.2.1, Cells.blk (k13.heap hb8 (fun h => h))⟩, G13.at_, wr_blk hb13 (by simp), ?_⟩
  intro w14
  have k14 : Kept (· = w8.heap.size) w13 w14 := Kept.setCell (S := fun k => k = w8.heap.size) (Kept.refl _ w13) (p := ⟨w8.heap.size, 0, none⟩) (fun _ => rfl) _
  have hb14 : w14.heap[w8.heap.size]? = some (.cells #[.int .i64 (i : Int)] T_int (0, 0)) := set_blk hb13 0 _
  clear_value w14
  have k814 : Kept Nil w8 w14 := k13.trans k14 (fun k hk e => by omega)
  have kw14 := kw8.trans k814 (fun _ _ h => h)
  refine pick_Future (G.same kw14) hD (is := fun a => Anc D nh.id a) ⟨w8.heap.size, 0, none⟩ (fun j nd m w' K' h1 h2 k hk => ?_) fun A' c' w' row k => ⟨A', _, c', rfl, hK A' c' w' (Row.base row fun b hb => Nat.le_trans kw14.size (Row.blk row hb).1) (kw14.trans k (fun _ _ h => h))⟩
  refine dag_Graph_Future_fn1.of ?_
  unfold dag_Graph_Future_fn1.W
  intro w4
  have k4 : Kept Nil w' w4 := (Kept.refl _ _).drew
  clear_value w4
  have kk := k.trans k4 (fun _ _ h => h)
  obtain ⟨m', hm', N⟩ := ((G.same kw14).same kk).get h1
  rw [h2] at hm'
  cases hm'
  refine ⟨_, _, _, node_past N, (i : Int), by rw [cell_blk (kk.heap hb14 (fun h => h))]; rfl, ?_⟩
  exact row_has_ok N.past N.ok (by omega) ⟨_, rfl, hk w4 _ (node_bit N hi) k4⟩

theorem dag_Anticone (G : GV w S F g D C bl c mb M) (W : WfD D) (hD : D.length ≤ 10000) (h : HT)
    (hK : ∀ A' c' w', HRow w' w.heap.size A' (antiL D h).length c' (antiL D h) → Kept Nil w w' → K (.slice A' (antiL D h).length c') w') :
    Ret Tryd.prog dag_Graph_Anticone.id #[.pointer (some ⟨g, 0, none⟩), .agg h.1] w K := by
  refine dag_Graph_Anticone.of ?_
  unfold dag_Graph_Anticone.W
  intro w3
  have k3 : Kept Nil w w3 := (Kept.refl _ _).alloc _
  have hb3 : w3.heap[w.heap.size]? = some (.cells h.1 T_api_Hash (0, 0)) := new_blk w _
  clear_value w3
  refine ⟨h.1, ⟨h.2.1, Cells.blk hb3⟩, dag_find (G.same k3) h fun w6 x k6 hx => ⟨x, rfl, ?_⟩⟩
  have kw6 := k3.trans k6 (fun _ _ h => h)
  intro w8
  have hb8 : w8.heap[w6.heap.size]? = some (.cells #[.pointer none] T_p_dag_node (0, 0)) := new_blk w6 _
  have k8 : Kept Nil w6 w8 := (Kept.refl _ _).alloc _
  clear_value w8
  refine ⟨wr_blk hb8 (by simp), ?_⟩
  intro w9
  have k9 : Kept (· = w6.heap.size) w8 w9 := Kept.setCell (S := fun k => k = w6.heap.size) (Kept.refl _ w8) (p := ⟨w6.heap.size, 0, none⟩) (fun _ => rfl) _
  have hb9 : w9.heap[w6.heap.size]? = some (.cells #[.pointer x] T_p_dag_node (0, 0)) := set_blk hb8 0 _
  clear_value w9
  have k69 : Kept Nil w6 w9 := k8.trans k9 (fun k hk e => by omega)
  have kw9 := kw6.trans k69 (fun _ _ h => h)
  refine ⟨x, by rw [cell_blk hb9]; rfl, ?_⟩
  rcases hx with ⟨rfl, hn⟩ | ⟨i, nh, mh, hi, rfl, hmh, rfl⟩
  · refine Split.yes rfl ?_
    have e : antiL D h = [] := by
      cases hc : antiL D h with
      | nil => rfl
      | cons b l => exact absurd (mem_pick.1 (show b ∈ antiL D h by rw [hc]; simp)).2.1 hn
    have := hK none 0 w9 (by rw [e]; exact HRow.nil _ _) kw9
    rw [e] at this
    exact this
  refine Split.no rfl ?_
  intro w11
  have k11 : Kept Nil w9 w11 := (Kept.refl _ _).drew
  clear_value w11
  have kw11 := kw9.trans k11 (fun _ _ h => h)
  have G11 := G.same kw11
  have hb11 := k11.heap (k69.heap (k6.heap hb3 (fun h => h)) (fun h => h)) (fun h => h)
  have hx11 := k11.heap hb9 (fun h => h)
  have hil := (List.getElem?_eq_some_iff.1 hi).1
  have hmem : nh.id ∈ ids D := ids_mem.2 ⟨nh, List.mem_of_getElem? hi, rfl⟩
  refine ⟨some mb, G11.at_, nh.id.1, ⟨nh.id.2.1, Cells.blk hb11⟩, _, G11.map.look1 nh.id, ?_⟩
  rw [W.pos_eq hi, Option.getD_some]
  intro w16
  have k16 : Kept Nil w11 w16 := (Kept.refl _ _).alloc _
  have hb16 : w16.heap[w11.heap.size]? = some (.cells #[.int .i64 0] T_int (0, 0)) := new_blk w11 _
  clear_value w16
  have G16 := G11.same k16
  have hl16 := G16.map.look1 nh.id
  rw [W.pos_eq hi, Option.getD_some] at hl16
  refine ⟨hl16, ⟨nh.id.1, rfl, nh.id.2.1, Cells.blk (k16.heap hb11 (fun h => h))⟩, G16.at_, wr_blk hb16 (by simp), ?_⟩
  intro w17
  have k17 : Kept (· = w11.heap.size) w16 w17 := Kept.setCell (S := fun k => k = w11.heap.size) (Kept.refl _ w16) (p := ⟨w11.heap.size, 0, none⟩) (fun _ => rfl) _
  have hb17 : w17.heap[w11.heap.size]? = some (.cells #[.int .i64 (i : Int)] T_int (0, 0)) := set_blk hb16 0 _
  clear_value w17
  have k1117 : Kept Nil w11 w17 := k16.trans k17 (fun k hk e => by omega)
  have kw17 := kw11.trans k1117 (fun _ _ h => h)
  have hx17 := k1117.heap hx11 (fun h => h)
  refine pick_Anticone (G.same kw17) hD (is := fun a => nh.id ∈ ids D ∧ a ≠ nh.id ∧ ¬ Anc D a nh.id ∧ ¬ Anc D nh.id a) ⟨w6.heap.size, 0, none⟩ ⟨w11.heap.size, 0, none⟩ (fun j nd m w' K' h1 h2 k hk => ?_) fun A' c' w' row k => ⟨A', _, c', rfl, hK A' c' w' (Row.base row fun b hb => Nat.le_trans kw17.size (Row.blk row hb).1) (kw17.trans k (fun _ _ h => h))⟩
  have hjl := (List.getElem?_eq_some_iff.1 h1).1
  refine dag_Graph_Anticone_fn1.of ?_
  unfold dag_Graph_Anticone_fn1.W
  intro w5
  have k5 : Kept Nil w' w5 := (Kept.refl _ _).drew
  clear_value w5
  have kk := k.trans k5 (fun _ _ h => h)
  have G5 := (G.same kw17).same kk
  obtain ⟨m', hm', N⟩ := G5.get h1
  rw [h2] at hm'
  cases hm'
  obtain ⟨m'', hm'', Nh⟩ := G5.get hi
  rw [hmh] at hm''
  cases hm''
  refine ⟨_, by rw [cell_blk (kk.heap hx17 (fun h => h))]; rfl, ?_⟩
  by_cases hij : j = i
  · subst hij
    rw [hi] at h1
    cases h1
    rw [hmh] at h2
    cases h2
    refine ⟨false, neq_same _ _, Split.no rfl (hk w5 false ?_ k5)⟩
    exact ⟨(fun h => by cases h), fun h => absurd rfl h.2.1⟩
  · have hne : nd.id ≠ nh.id := fun e => hij (W.inj h1 hi e)
    have hbne : (⟨m.b, 0, none⟩ : Addr) ≠ ⟨mh.b, 0, none⟩ := fun e => by
      have e' : m.b = mh.b := congrArg Addr.block e
      have hb := N.blk
      rw [e', Nh.blk] at hb
      simp only [Option.some.injEq, Obj.cells.injEq] at hb
      exact hne (ncell_inj hb.1).symm
    refine ⟨true, neq_other hbne N.blk Nh.blk, Split.yes rfl ⟨_, _, _, node_past N, (i : Int), by rw [cell_blk (kk.heap hb17 (fun h => h))]; rfl, ?_⟩⟩
    refine row_has_ok N.past N.ok (by omega) ⟨_, rfl, ?_⟩
    cases hb1 : bit m.ws i with
    | true =>
      have ha := (node_bit N hi).1 hb1
      exact Split.no rfl (hk w5 false ⟨(fun h => by cases h), fun h => absurd ha h.2.2.2⟩ k5)
    | false =>
      have hna : ¬ Anc D nh.id nd.id := fun h => by rw [(node_bit N hi).2 h] at hb1; cases hb1
      refine Split.yes rfl ⟨some ⟨mh.b, 0, none⟩, by rw [cell_blk (kk.heap hx17 (fun h => h))]; rfl, _, _, _, node_past Nh, ?_⟩
      refine row_has_ok Nh.past Nh.ok (by omega) ⟨_, rfl, hk w5 _ ?_ k5⟩
      rw [Bool.not_eq_true', ← Bool.not_eq_true, node_bit Nh h1]
      exact ⟨fun h => ⟨hmem, hne, h, hna⟩, fun h => h.2.2.1⟩
end
end Go.Proofs.YtljckpecmlnbiaaDoor
/-
  The program's Past.
-/
namespace Go.Proofs.YtljckpecmlnbiaaDoor
open Go Go.Lite Go.RowKit

def idAt (D : DG) (j : Nat) : HT := match D[j]? with | some nd => nd.id | none => default
theorem nums_nodup : ∀ (ws : List Nat) (k : Nat), okW ws → (nums k ws).Nodup
  | [], _, _ => List.Pairwise.nil
  | x :: ws, k, ho => by
    have hx := ho x (by simp)
    have ho' : okW ws := fun y hy => ho y (by simp [hy])
    obtain ⟨_, h2, h3⟩ := lows_spec x hx
    rw [nums, List.nodup_append]
    refine ⟨List.Pairwise.map _ (fun a b hab e => hab (by omega)) h2, nums_nodup ws (k + 1) ho', fun a ha b hb e => ?_⟩
    rw [List.mem_map] at ha
    obtain ⟨t, ht, rfl⟩ := ha
    have := ((mem_nums ws (k + 1) b ho').1 hb).1
    have := h3 t ht
    omega

section
variable {w w' : World} {S F : Nat → Prop} {g bl c mb : Nat} {D : DG} {C : HT → List HT} {M : List NM} {K : Value → World → Prop}
theorem dag_Past (G : GV w S F g D C bl c mb M) (W : WfD D) (hD : D.length ≤ 10000) (hT : Tab w) {A : Option Addr} {n cx : Nat} {l : List HT} (hl : HS w A n l) (hn : n ≤ 10000)
    (hK : ∀ A' c' w', HRow w' w.heap.size A' (pastsL D l).length c' (pastsL D l) → Kept Nil w w' → K (.slice A' (pastsL D l).length c') w') :
    Ret Tryd.prog dag_Graph_Past.id #[.pointer (some ⟨g, 0, none⟩), .slice A n cx] w K := by
  have hlen := hl.len
  refine dag_Graph_Past.of ?_
  unfold dag_Graph_Past.W
  intro w3
  have k3 : Kept Nil w w3 := (Kept.refl _ _).alloc _
  have hg3 : w3.heap[w.heap.size]? = some (.cells #[.pointer (some ⟨g, 0, none⟩)] T_p_dag_Graph (0, 0)) := new_blk w _
  have hs3 : w.heap.size < w3.heap.size := lt_blk hg3
  clear_value w3
  refine dag_Graph_Past.loop1 (I := fun s w' => ∃ (i : Nat) (A' : Option Addr) (n' c' : Nat) (ws : List Nat), s = (A', n', c', (i : Int)) ∧ i ≤ n ∧ URow w' w3.heap.size A' n' c' ws ∧ okW ws ∧ n' ≤ 200 ∧ (∀ j, bit ws j = true ↔ ∃ h ∈ l.take i, ∃ nj, D[j]? = some nj ∧ Anc D nj.id h) ∧ Kept Nil w3 w')
    (μ := fun s _ => ((n : Int) - s.2.2.2).toNat) (s := (none, 0, 0, 0)) ⟨0, none, 0, 0, [], rfl, Nat.zero_le _, Row.nil _ _ _ _, by simp [okW], by omega, by simp [bit_nil], Kept.refl _ _⟩ ?_
  rintro s w' ⟨i, A', n', c', ws, rfl, hi, row, ho, hn', hbit, kw⟩
  have kk : Kept Nil w w' := k3.trans kw (fun _ _ h => h)
  refine Split.dec (fun hil0 => ?_) (fun hge => ?_)
  · simp only at hil0
    have hil : i < n := by omega
    obtain ⟨h, hh⟩ : ∃ h, l[i]? = some h := ⟨_, List.getElem?_eq_getElem (by omega)⟩
    refine (hl.same kk).load (i := (i : Int)) (by omega) hh ?_
    intro w12
    obtain ⟨hwr, hbx, hkx⟩ := box_set (w := w') (z := (#[.int .u8 0, .int .u8 0, .int .u8 0, .int .u8 0, .int .u8 0, .int .u8 0, .int .u8 0, .int .u8 0, .int .u8 0, .int .u8 0, .int .u8 0, .int .u8 0, .int .u8 0, .int .u8 0, .int .u8 0, .int .u8 0, .int .u8 0, .int .u8 0, .int .u8 0, .int .u8 0, .int .u8 0, .int .u8 0, .int .u8 0, .int .u8 0, .int .u8 0, .int .u8 0, .int .u8 0, .int .u8 0, .int .u8 0, .int .u8 0, .int .u8 0, .int .u8 0] : Array Value)) (cs := h.1) (t := T_api_Hash) (by rw [h.2.1]; rfl)
    refine ⟨⟨h.2.1, h.2.one, fun j hj => hwr j (by rw [h.2.1]; exact hj)⟩, ?_⟩
    intro w15
    replace hbx : w15.heap[w'.heap.size]? = some (.cells h.1 T_api_Hash (0, 0)) := hbx
    replace hkx : Kept Nil w' w15 := hkx
    clear_value w15
    have k15 : Kept Nil w3 w15 := kw.trans hkx (fun _ _ h => h)
    refine ⟨some ⟨g, 0, none⟩, by rw [cell_blk (k15.heap hg3 (fun h => h))]; rfl, h.1, ⟨h.2.1, Cells.blk hbx⟩, ?_⟩
    refine dag_find (G.same (k3.trans k15 (fun _ _ h => h))) h fun w19 x k19 hx => ⟨x, rfl, ?_⟩
    have k319 : Kept Nil w3 w19 := k15.trans k19 (fun _ _ h => h)
    have kw19 : Kept Nil w w19 := k3.trans k319 (fun _ _ h => h)
    have row19 : URow w19 w3.heap.size A' n' c' ws := Row.keep row (hkx.trans k19 (fun _ _ h => h)) (fun _ _ h => h)
    rcases hx with ⟨rfl, hno⟩ | ⟨q, nd, m', hq, rfl, hm', rfl⟩
    · refine Split.no rfl ?_
      simp only
      rw [wrapP (n := (i : Int)) (by omega) (by omega)]
      refine ⟨(A', n', c', (i : Int) + 1), rfl, ⟨i + 1, A', n', c', ws, rfl, hil, row19, ho, hn', fun j => ?_, k319⟩, by simp only; omega⟩
      rw [hbit]
      constructor
      · rintro ⟨h', h1, h2⟩; exact ⟨h', (mem_take_succ hh).2 (.inl h1), h2⟩
      · rintro ⟨h', h1, nj, h2, h3⟩
        rcases (mem_take_succ hh).1 h1 with h1 | rfl
        · exact ⟨h', h1, nj, h2, h3⟩
        · exact absurd (h3.mem W).2 hno
    · obtain ⟨m, hm, N⟩ := (G.same kw19).get hq
      rw [hm'] at hm
      cases hm
      refine Split.yes rfl ⟨_, _, _, node_past N, ?_⟩
      have hsm := N.small
      have hA' : ∀ k, blkOf A' = some k → w3.heap.size ≤ k := fun k hk => (Row.blk row19 hk).1
      refine row_or_ok row19 ho (by omega) k319.size N.past N.ok (by omega) (fun a ha k hk e => ?_) fun A2 n2 c2 l2 w24 row24 ho24 hn24 hbit24 k24 hb24 => ⟨A2, n2, c2, rfl, ?_⟩
      · have h1 := G.low a.block (.inr (N.pastF a ha))
        have h2 := hA' k hk
        omega
      · simp only
        rw [wrapP (n := (i : Int)) (by omega) (by omega)]
        refine ⟨(A2, n2, c2, (i : Int) + 1), rfl, ⟨i + 1, A2, n2, c2, l2, rfl, hil, row24, ho24, by omega, fun j => ?_, k319.trans k24 (fun k hk e => absurd (hA' k e) (by omega))⟩, by simp only; omega⟩
        rw [hbit24, Bool.or_eq_true, hbit, N.bits]
        constructor
        · rintro (⟨h', h1, h2⟩ | h2)
          · exact ⟨h', (mem_take_succ hh).2 (.inl h1), h2⟩
          · exact ⟨nd.id, (mem_take_succ hh).2 (.inr rfl), h2⟩
        · rintro ⟨h', h1, h2⟩
          rcases (mem_take_succ hh).1 h1 with h1 | rfl
          · exact .inl ⟨h', h1, h2⟩
          · exact .inr h2
  · simp only at hge
    have hie : i = n := by omega
    subst hie
    rw [List.take_of_length_le (by omega)] at hbit
    rw [roundQ_exit, dag_Graph_Past.x1_0]
    unfold dag_Graph_Past.X1_0
    intro w32
    have k32 : Kept Nil w' w32 := (Kept.refl _ _).alloc _
    have ho32 : w32.heap[w'.heap.size]? = some (.cells #[.slice none 0 0] T_sl_api_Hash (0, 0)) := new_blk w' _
    clear_value w32
    refine dag_row_all.of ?_
    unfold dag_row_all.W
    intro w34
    have k34 : Kept Nil w32 w34 := (Kept.refl _ _).alloc _
    have hr34 : w34.heap[w32.heap.size]? = some (.cells #[.slice A' n' c'] T_dag_row (0, 0)) := new_blk w32 _
    clear_value w34
    refine ⟨_, rfl, ?_⟩
    have ho34 := k34.heap ho32 (fun h => h)
    have k334 : Kept Nil w3 w34 := (kw.trans k32 (fun _ _ h => h)).trans k34 (fun _ _ h => h)
    have kw34 : Kept Nil w w34 := k3.trans k334 (fun _ _ h => h)
    have row34 : URow w34 w3.heap.size A' n' c' ws := Row.keep (Row.keep row k32 (fun _ _ h => h)) k34 (fun _ _ h => h)
    have hg34 := k334.heap hg3 (fun h => h)
    have hob : w.heap.size < w'.heap.size := Nat.lt_of_lt_of_le hs3 kw.size
    have hs34 : w'.heap.size < w34.heap.size := lt_blk ho34
    have hs32 : w32.heap.size < w34.heap.size := lt_blk hr34
    -- the numbers are places
    have hplace : ∀ j ∈ nums 0 ws, ∃ nj, D[j]? = some nj := fun j hj => by
      have := ((mem_nums ws 0 j ho).1 hj).2
      rw [Nat.mul_zero, Nat.sub_zero] at this
      obtain ⟨_, _, nj, h1, _⟩ := (hbit j).1 this
      exact ⟨nj, h1⟩
    have hnl : (nums 0 ws).length ≤ D.length := by
      have := nodupN_len (m := List.range D.length) (nums_nodup ws 0 ho) (fun j hj => by
        obtain ⟨nj, h1⟩ := hplace j hj
        exact List.mem_range.2 (List.getElem?_eq_some_iff.1 h1).1)
      rwa [List.length_range] at this
    let xs := nums 0 ws
    let ρ0 : Env := [(2, .pointer (some (⟨w.heap.size, 0, none⟩ : Addr))), (4, .slice none 0 0), (9, .pointer (some (⟨w'.heap.size, 0, none⟩ : Addr))), (30, .func (.func dag_row_all_fn1.id) #[] #[.pointer (some (⟨w32.heap.size, 0, none⟩ : Addr))])]
    let J : Nat → World → Prop := fun i v => ∃ A c, v.heap[w'.heap.size]? = some (.cells #[.slice A i c] T_sl_api_Hash (0, 0)) ∧ HRow v w34.heap.size A i c ((xs.take i).map (idAt D)) ∧ Kept (· = w'.heap.size) w34 v ∧ i ≤ xs.length
    have hpre : ∀ i v, J i v → US v A' n' ws ∧ v.cell? ⟨w32.heap.size, 0, none⟩ = some (.slice A' n' c') ∧ Tab v := by
      rintro i v ⟨A, c, h1, h2, h3, h4⟩
      refine ⟨row34.us.keep h3 (fun a ha e => ?_), by rw [cell_blk (h3.heap hr34 (by have := lt_blk ho32; omega))]; rfl, (hT.same kw34).keep h3 (fun e => by have := hT.lt; omega)⟩
      have hk : blkOf A' = some a.block := by rw [ha]; rfl
      obtain ⟨_, cur, hc⟩ := Row.blk row hk
      have := lt_blk hc
      omega
    refine range_iter (ρ := ρ0) (ρ0 := ρ0) ng mix dag_Graph_Past.k (t := 30) (ps := #[31]) (by kernel_rfl) (by decide) rfl dag_row_all_fn1.at_ rfl (.inl rfl) (fun i v _ h => h) rfl encI xs (fun _ => rfl) (by simp [dkey]) (all_iter ⟨w32.heap.size, 0, none⟩ (c := c') (by omega) ho) J (fun _ _ => False) ?_ (fun _ _ _ _ _ h => h.elim) hpre ?_ ?_ ?_ (fun _ _ h => h.elim) (fun _ _ _ h => h.elim)
    · rintro i v v' R hlv ⟨A, c, h1, h2, h3, h4⟩ hk
      exact ⟨A, c, hk.heap h1 (ne_loop h1 hlv.loop), Row.apart h2 hk (fun cs t fr h => by rw [hlv.loop] at h; cases h), h3.trans hk (fun k hk e => by omega), h4⟩
    · intro R
      exact ⟨none, 0, old_blk (old_blk ho34 _) _, HRow.nil _ _, (((Kept.refl _ _).alloc _).alloc _), Nat.zero_le _⟩
    · rintro i x v R hx hj hlv
      have hJ := hj
      obtain ⟨A, c, h1, h2, h3, h4⟩ := hj
      have hil : i < xs.length := (List.getElem?_eq_some_iff.1 hx).1
      have e7 : putAll ρ0 ((#[31] : Array Nat).toList.zip (encI x)) = [(2, .pointer (some (⟨w.heap.size, 0, none⟩ : Addr))), (4, .slice none 0 0), (9, .pointer (some (⟨w'.heap.size, 0, none⟩ : Addr))), (30, .func (.func dag_row_all_fn1.id) #[] #[.pointer (some (⟨w32.heap.size, 0, none⟩ : Addr))]), (31, .int .i64 (x : Int))] := rfl
      rw [e7, dag_Graph_Past.a1]
      unfold dag_Graph_Past.A1
      refine ⟨hlv, fun w2 R2 hk2 hl2 => ?_⟩
      have h12 := hk2.heap h1 (ne_loop h1 hlv.loop)
      have h22 : HRow w2 w34.heap.size A i c ((xs.take i).map (idAt D)) := Row.apart h2 hk2 (fun cs t fr h => by rw [hlv.loop] at h; cases h)
      have h32 : Kept (· = w'.heap.size) w34 w2 := h3.trans hk2 (fun k hk e => by omega)
      clear hJ h1 h2 h3
      rw [dag_Graph_Past.y1]
      unfold dag_Graph_Past.Y1
      intro w44
      have k44 : Kept Nil w2 w44 := (Kept.refl _ _).drew
      clear_value w44
      have h144 := k44.heap h12 (fun h => h)
      have k3444 : Kept (· = w'.heap.size) w34 w44 := h32.trans k44 (fun _ _ h => h.elim)
      obtain ⟨nj, hnj⟩ := hplace x (List.mem_of_getElem? hx)
      have hxl := (List.getElem?_eq_some_iff.1 hnj).1
      have kww : Kept Nil w w44 := kw34.trans k3444 (fun k hk e => by omega)
      obtain ⟨m, hm, N⟩ := (G.same kww).get hnj
      refine ⟨A, i, c, by rw [cell_blk h144]; rfl, some ⟨g, 0, none⟩, by rw [cell_blk (k3444.heap hg34 (by omega))]; rfl, ?_⟩
      refine ⟨_, _, _, (G.same kww).nodes, ⟨by omega, by omega⟩, some ⟨m.b, 0, none⟩, by rw [Int.toNat_natCast]; exact (G.same kww).ptr hm, ?_⟩
      refine ⟨nj.id.1, ⟨nj.id.2.1, fun j v hj => ?_⟩, nj.id.2.1, ?_⟩
      · rw [add_zero, add_at, Nat.zero_add, cell_blk N.blk]
        exact ncell_id _ _ hj
      intro w53
      have k53 : Kept Nil w44 w53 := (Kept.refl _ _).alloc _
      have hbox : HS w53 (some ⟨w44.heap.size, 0, none⟩) 1 [nj.id] := hbox w44 nj.id
      clear_value w53
      have h153 := k53.heap h144 (fun h => h)
      refine ⟨by rw [cell_blk h153]; rfl, ?_⟩
      have h253 : HRow w53 w34.heap.size A i c ((xs.take i).map (idAt D)) := Row.keep (Row.keep h22 k44 (fun _ _ h => h)) k53 (fun _ _ h => h)
      have hsz53 : w34.heap.size ≤ w53.heap.size := Nat.le_trans k3444.size k53.size
      have hxs : xs.length ≤ D.length := hnl
      obtain ⟨A2, c2, w55, hr, row55, hg55, hb55⟩ := append_hs (cx := 1) T_sl_api_Hash h253 hbox (by omega) hsz53
      have hgk : Kept (fun k => blkOf A = some k) w53 w55 := Kept.grown (Kept.refl _ _) hg55 (fun k hk _ => hk)
      have hAob : ∀ k, blkOf A = some k → w34.heap.size ≤ k := fun k hk => (Row.blk h253 hk).1
      have h155 := hgk.heap h153 (fun e => by have := hAob _ e; omega)
      have hl55 : Live (w34.heap.size + 1) w34.heap.size R2 w55 := by
        have hl53 := (hl2.keep k44 (fun h => h) (fun h => h)).keep k53 (fun h => h) (fun h => h)
        refine hl53.keep hgk ?_ ?_
        · intro h
          obtain ⟨_, cur, hc⟩ := Row.blk h253 h
          exact ne_loop hc hl53.loop rfl
        · intro h
          obtain ⟨_, cur, hc⟩ := Row.blk h253 h
          exact ne_mark hc hl53.mark rfl
      refine ⟨A2, _, c2, w55, hr, wr_blk h155 (by simp), ?_⟩
      intro w56
      have k56 : Kept (· = w'.heap.size) w55 w56 := Kept.setCell (S := fun k => k = w'.heap.size) (Kept.refl _ w55) (p := ⟨w'.heap.size, 0, none⟩) (fun _ => rfl) _
      have hb56 : w56.heap[w'.heap.size]? = some (.cells #[.slice A2 (i + 1) c2] T_sl_api_Hash (0, 0)) := set_blk h155 0 _
      clear_value w56
      refine ⟨hl55.keep k56 (by omega) (by omega), A2, c2, hb56, ?_, ((k3444.trans k53 (fun _ _ h => h.elim)).trans hgk (fun k hk e => absurd (hAob k e) (by omega))).trans k56 (fun _ _ h => h), hil⟩
      have e : (xs.take (i + 1)).map (idAt D) = (xs.take i).map (idAt D) ++ [nj.id] := by
        rw [List.take_add_one, hx]
        simp [idAt, hnj]
      rw [e]
      exact Row.keep row55 k56 (fun k hk e => by have := (Row.blk row55 hk).1; omega)
    · rintro v R ⟨A, c, h1, h2, h3, h4⟩ hlv
      have e7 : addMark ρ0 w34.heap.size = [(2, .pointer (some (⟨w.heap.size, 0, none⟩ : Addr))), (4, .slice none 0 0), (9, .pointer (some (⟨w'.heap.size, 0, none⟩ : Addr))), (30, .func (.func dag_row_all_fn1.id) #[] #[.pointer (some (⟨w32.heap.size, 0, none⟩ : Addr))]), (4294967296, .agg #[.pointer (some ⟨w34.heap.size, 0, none⟩)])] := rfl
      rw [e7, dag_Graph_Past.z1_normal]
      rw [List.take_of_length_le (Nat.le_refl _)] at h2
      have hxs : xs.length ≤ D.length := hnl
      refine ⟨A, xs.length, c, by rw [cell_blk h1]; rfl, dag_Sorted_ok h2.hs (by omega) fun A2 c2 w59 row59 k59 => ⟨A2, _, c2, rfl, ⟨k59.heap hlv.mark (fun h => h), trivial⟩, ?_⟩⟩
      have hmk := k59.heap hlv.mark (fun h => h)
      have kp : Kept (· = w34.heap.size) w59 (w59.putObj w34.heap.size (.deferred none)) := Kept.putAt _ _ _
      have e : srt (xs.map (idAt D)) = pastsL D l := pick_of fun a => by
        rw [List.mem_map]
        constructor
        · rintro ⟨j, hj, rfl⟩
          have hb := ((mem_nums ws 0 j ho).1 hj).2
          rw [Nat.mul_zero, Nat.sub_zero] at hb
          obtain ⟨h', h1', nj, h2', h3'⟩ := (hbit j).1 hb
          have : idAt D j = nj.id := by unfold idAt; rw [h2']
          rw [this]
          exact ⟨(h3'.mem W).1, h', h1', h3'⟩
        · rintro ⟨ha, h', hh', hanc⟩
          obtain ⟨nj, hnm, rfl⟩ := ids_mem.1 ha
          obtain ⟨j, hj⟩ := List.mem_iff_getElem?.1 hnm
          refine ⟨j, (mem_nums ws 0 j ho).2 ⟨by omega, ?_⟩, by unfold idAt; rw [hj]⟩
          rw [Nat.mul_zero, Nat.sub_zero]
          exact (hbit j).2 ⟨h', hh', nj, hj, hanc⟩
      rw [e] at row59 ⊢
      have kall : Kept Nil w w59 := (kw34.trans h3 (fun k hk e => by omega)).trans k59 (fun _ _ h => h)
      have hws : w.heap.size ≤ v.heap.size := Nat.le_trans kw34.size h3.size
      refine hK A2 c2 _ (Row.base (Row.apart row59 kp (fun cs t fr h => by rw [hmk] at h; cases h)) fun b hb => Nat.le_trans hws (Row.blk row59 hb).1) (kall.trans kp (fun k hk e => by omega))
end
end Go.Proofs.YtljckpecmlnbiaaDoor
/-
  Are all there? And a node whose children are laid anew.
-/
namespace Go.Proofs.YtljckpecmlnbiaaDoor
open Go Go.Lite Go.RowKit

section
variable {w w' : World} {S F : Nat → Prop} {g bl c mb gb : Nat} {D : DG} {C : HT → List HT} {M : List NM} {K : Value → World → Prop}
theorem contains_ok (G : GV w S F g D C bl c mb M) (hg : w.heap[gb]? = some (.cells #[.pointer (some ⟨g, 0, none⟩)] T_p_dag_Graph (0, 0))) {A : Option Addr} {n cx : Nat} {l : List HT} (hl : HS w A n l) (hn : n ≤ 400000)
    (hK : ∀ w' (x : Bool), (x = true ↔ ∃ p ∈ l, p ∉ ids D) → Kept Nil w w' → K (.bool x) w') :
    Ret Tryd.prog slices_ContainsFunc_of_api_Hash.id #[.slice A n cx, .func (.func dag_Graph_Add_fn1.id) #[] #[.pointer (some ⟨gb, 0, none⟩)]] w K := by
  have hlen := hl.len
  refine slices_ContainsFunc_of_api_Hash__dag_Graph_Add_fn1.of (slices_IndexFunc_of_api_Hash__dag_Graph_Add_fn1.of ?_)
  refine slices_IndexFunc_of_api_Hash__dag_Graph_Add_fn1.loop1 (I := fun s w' => ∃ i : Nat, s = (0, (i : Int)) ∧ i ≤ n ∧ (∀ p ∈ l.take i, p ∈ ids D) ∧ Kept Nil w w') (μ := fun s _ => ((n : Int) - s.2).toNat) (s := (0, 0)) ⟨0, rfl, Nat.zero_le _, by simp, Kept.refl _ _⟩ ?_
  rintro s w' ⟨i, rfl, hi, hall, kw⟩
  refine Split.dec (fun hil0 => ?_) (fun hge => ?_)
  · simp only at hil0
    have hil : i < n := by omega
    obtain ⟨x, hx⟩ : ∃ x, l[i]? = some x := ⟨_, List.getElem?_eq_getElem (by omega)⟩
    refine (hl.same kw).load (i := (i : Int)) (by omega) hx ?_
    refine dag_Graph_Add_fn1.of ?_
    unfold dag_Graph_Add_fn1.W
    intro w3
    have k3 : Kept Nil w' w3 := (Kept.refl _ _).alloc _
    have hb3 : w3.heap[w'.heap.size]? = some (.cells x.1 T_api_Hash (0, 0)) := new_blk w' _
    clear_value w3
    have kw3 := kw.trans k3 (fun _ _ h => h)
    refine ⟨some ⟨g, 0, none⟩, by rw [cell_blk (kw3.heap hg (fun h => h))]; rfl, x.1, ⟨x.2.1, Cells.blk hb3⟩, dag_Has (G.same kw3) x fun w7 k7 => ⟨_, rfl, _, rfl, ?_⟩⟩
    have kw7 := kw3.trans k7 (fun _ _ h => h)
    by_cases hm : x ∈ ids D
    · refine Split.no (by rw [decide_eq_true hm]; rfl) ?_
      simp only
      rw [wrapP (n := (i : Int)) (by omega) (by omega)]
      refine ⟨(0, (i : Int) + 1), rfl, ⟨i + 1, rfl, hil, fun p hp => ?_, kw7⟩, by simp only; omega⟩
      rcases (mem_take_succ hx).1 hp with hp | rfl
      · exact hall p hp
      · exact hm
    · refine Split.yes (by rw [decide_eq_false hm]; rfl) ?_
      refine ⟨(i : Int), rfl, ?_⟩
      exact hK w7 _ ⟨fun _ => ⟨x, List.mem_of_getElem? hx, hm⟩, fun _ => decide_eq_true (by omega)⟩ kw7
  · simp only at hge
    rw [roundQ_exit, slices_IndexFunc_of_api_Hash__dag_Graph_Add_fn1.x1_0]
    rw [List.take_of_length_le (by omega)] at hall
    exact ⟨-1, rfl, hK w' _ ⟨fun h => absurd (of_decide_eq_true h) (by omega), fun ⟨p, hp, hn⟩ => absurd (hall p hp) hn⟩ kw⟩

theorem ne_typ {w : World} {a b : Nat} {ca cb : Array Value} {ta tb : TypeId} {fa fb : Nat × Nat} (ha : w.heap[a]? = some (.cells ca ta fa)) (hb : w.heap[b]? = some (.cells cb tb fb)) (hne : ta ≠ tb) : a ≠ b := by
  rintro rfl
  rw [ha] at hb
  simp only [Option.some.injEq, Obj.cells.injEq] at hb
  exact hne hb.2.1
/-- a node's children are laid anew -/
theorem GV.upd (G : GV w S F g D C bl c mb M) (W : WfD D) {q : Nat} {nd : DN} {m : NM} (hq : D[q]? = some nd) (hm : M[q]? = some m) {A5 : Option Addr} {n5 c5 : Nat} {ch' : List HT}
    (kT : Kept (fun k => blkOf m.cA = some k ∨ k = m.b) w w') (hb : w'.heap[m.b]? = some (.cells (ncell nd.id { m with cA := A5, cn := n5, cc := c5 }) T_dag_node (0, 0))) (hrow : HRow w' w.heap.size A5 n5 c5 ch') :
    GV w' (fun k => S k ∨ blkOf A5 = some k) F g D (fun x => if x = nd.id then ch' else C x) bl c mb (M.set q { m with cA := A5, cn := n5, cc := c5 }) := by
  have N := G.node q nd m hq hm
  have hql : q < M.length := (List.getElem?_eq_some_iff.1 hm).1
  have hch : ∀ k, blkOf m.cA = some k → ∃ cur, w.heap[k]? = some (.cells cur T_api_Hash (0, 0)) := fun k hk => (Row.blk N.ch hk).2
  have hF : ∀ k, F k → ¬ (blkOf m.cA = some k ∨ k = m.b) := fun k hk e => by
    rcases e with e | rfl
    · exact G.dis k (N.chF k e) hk
    · exact G.dis _ N.footB hk
  have typ : ∀ {k : Nat} {cs : Array Value} {t : TypeId}, w.heap[k]? = some (.cells cs t (0, 0)) → t ≠ T_api_Hash → t ≠ T_dag_node → ¬ (blkOf m.cA = some k ∨ k = m.b) := fun h h1 h2 e => by
    rcases e with e | rfl
    · obtain ⟨cur, hc⟩ := hch _ e
      exact ne_typ h hc h1 rfl
    · exact ne_typ h N.blk h2 rfl
  have hA5 : ∀ k, blkOf A5 = some k → w.heap.size ≤ k := fun k hk => (Row.blk hrow hk).1
  have hget : ∀ (i : Nat) m', (M.set q { m with cA := A5, cn := n5, cc := c5 })[i]? = some m' → (i = q ∧ m' = { m with cA := A5, cn := n5, cc := c5 }) ∨ (i ≠ q ∧ M[i]? = some m') := fun i m' h => by
    by_cases e : i = q
    · subst e
      rw [List.getElem?_set_self hql] at h
      exact .inl ⟨rfl, (Option.some.inj h).symm⟩
    · rw [List.getElem?_set_ne (Ne.symm e)] at h
      exact .inr ⟨e, h⟩
  refine ⟨?_, ?_, ?_, by simpa using G.len, ?_, ?_, .inl G.footG, .inl G.footL, .inl G.footM, ?_, ?_⟩
  · exact kT.heap G.top (typ G.top (by decide) (by decide))
  · have hmap : (M.set q { m with cA := A5, cn := n5, cc := c5 }).map (fun m => Value.pointer (some ⟨m.b, 0, none⟩)) = M.map fun m => Value.pointer (some ⟨m.b, 0, none⟩) := by
      apply List.ext_getElem?
      intro i
      rw [List.getElem?_map, List.getElem?_map]
      by_cases e : i = q
      · subst e
        rw [List.getElem?_set_self hql, hm]
        rfl
      · rw [List.getElem?_set_ne (Ne.symm e)]
    rw [hmap]
    refine Row.keep G.row kT (fun k e => ?_)
    cases e
    obtain ⟨_, cur, hc⟩ := Row.blk G.row (k := bl) rfl
    exact typ hc (by decide) (by decide)
  · refine G.map.keep kT (fun e => ?_)
    obtain ⟨es, clock, hmp, _⟩ := G.map.ex
    rcases e with e | e
    · obtain ⟨cur, hc⟩ := hch _ e
      rw [hc] at hmp; cases hmp
    · rw [e, N.blk] at hmp; cases hmp
  · intro i nd' m' hi hm'
    rcases hget i m' hm' with ⟨rfl, rfl⟩ | ⟨hne, hm''⟩
    · rw [hq] at hi
      cases hi
      rw [if_pos rfl]
      exact ⟨hb, .inl N.footB, N.ps.keep kT (fun a ha => hF _ (N.psF a ha)), N.psF, Row.base hrow (fun _ _ => Nat.zero_le _), fun k hk => .inr hk, N.past.keep kT (fun a ha => hF _ (N.pastF a ha)), N.pastF, N.ok, N.bits, N.small⟩
    · have N' := G.node i nd' m' hi hm''
      have hid : nd'.id ≠ nd.id := fun e => hne (W.inj hi hq e)
      rw [if_neg hid]
      have hbne : m'.b ≠ m.b := fun e => by
        have h1 := N'.blk
        rw [e, N.blk] at h1
        simp only [Option.some.injEq, Obj.cells.injEq] at h1
        exact hid (ncell_inj h1.1).symm
      refine ⟨kT.heap N'.blk (fun e => ?_), .inl N'.footB, N'.ps.keep kT (fun a ha => hF _ (N'.psF a ha)), N'.psF, Row.keep N'.ch kT (fun k hk e => ?_), fun k hk => .inl (N'.chF k hk), N'.past.keep kT (fun a ha => hF _ (N'.pastF a ha)), N'.pastF, N'.ok, N'.bits, N'.small⟩
      · rcases e with e | e
        · obtain ⟨cur, hc⟩ := hch _ e
          exact ne_typ N'.blk hc (by decide) rfl
        · exact hbne e
      · rcases e with e | rfl
        · exact G.apart i q m' m hm'' hm hne k hk e
        · obtain ⟨cur, hc⟩ := (Row.blk N'.ch hk).2
          exact ne_typ hc N.blk (by decide) rfl
  · intro i j m1 m2 h1 h2 hij k hk1 hk2
    rcases hget i m1 h1 with ⟨rfl, rfl⟩ | ⟨hi, h1'⟩
    · rcases hget j m2 h2 with ⟨rfl, rfl⟩ | ⟨hj, h2'⟩
      · exact hij rfl
      · have := hA5 k hk1
        have hjl : j < D.length := by rw [← G.len]; exact (List.getElem?_eq_some_iff.1 h2').1
        obtain ⟨cur, hc⟩ := (Row.blk (G.node j _ m2 (List.getElem?_eq_getElem hjl) h2').ch hk2).2
        have := lt_blk hc
        omega
    · rcases hget j m2 h2 with ⟨rfl, rfl⟩ | ⟨hj, h2'⟩
      · have := hA5 k hk2
        have hil : i < D.length := by rw [← G.len]; exact (List.getElem?_eq_some_iff.1 h1').1
        obtain ⟨cur, hc⟩ := (Row.blk (G.node i _ m1 (List.getElem?_eq_getElem hil) h1').ch hk1).2
        have := lt_blk hc
        omega
      · exact G.apart i j m1 m2 h1' h2' hij k hk1 hk2
  · intro k hk hf
    rcases hk with hk | hk
    · exact G.dis k hk hf
    · have := hA5 k hk
      have := G.low k (.inr hf)
      omega
  · intro k hk
    rcases hk with (hk | hk) | hk
    · exact Nat.lt_of_lt_of_le (G.low k (.inl hk)) kT.size
    · obtain ⟨cur, hc⟩ := (Row.blk hrow hk).2
      exact lt_blk hc
    · exact Nat.lt_of_lt_of_le (G.low k (.inr hk)) kT.size
end
end Go.Proofs.YtljckpecmlnbiaaDoor
/-
  The program's Add: the loop over the parents.
-/
namespace Go.Proofs.YtljckpecmlnbiaaDoor
open Go Go.Lite Go.RowKit

theorem ncell_set33 (h : HT) (m : NM) (A : Option Addr) (n c : Nat) : (ncell h m).setIfInBounds 33 (.slice A n c) = ncell h { m with cA := A, cn := n, cc := c } := by
  have hs := h.2.1
  apply Array.ext_getElem?
  intro i
  unfold ncell
  rw [Array.getElem?_setIfInBounds, Array.getElem?_append, Array.getElem?_append]
  by_cases h1 : i < h.1.size
  · rw [if_neg (by omega), if_pos h1, if_pos h1]
  · rw [if_neg h1, if_neg h1]
    by_cases h2 : i = 33
    · subst h2
      rw [if_pos rfl, if_pos (by simp; omega), hs]
      rfl
    · rw [if_neg (Ne.symm h2), hs]
      match i - 32, show i - 32 ≠ 1 by omega with
      | 0, _ => rfl
      | 2, _ => rfl
      | (k + 3), _ => rfl
theorem ncell_set34 (h : HT) (m : NM) (A : Option Addr) (n c : Nat) : (ncell h m).setIfInBounds 34 (.slice A n c) = ncell h { m with rA := A, rn := n, rc := c } := by
  have hs := h.2.1
  apply Array.ext_getElem?
  intro i
  unfold ncell
  rw [Array.getElem?_setIfInBounds, Array.getElem?_append, Array.getElem?_append]
  by_cases h1 : i < h.1.size
  · rw [if_neg (by omega), if_pos h1, if_pos h1]
  · rw [if_neg h1, if_neg h1]
    by_cases h2 : i = 34
    · subst h2
      rw [if_pos rfl, if_pos (by simp; omega), hs]
      rfl
    · rw [if_neg (Ne.symm h2), hs]
      match i - 32, show i - 32 ≠ 2 by omega with
      | 0, _ => rfl
      | 1, _ => rfl
      | (k + 3), _ => rfl
theorem ncell_ws (h : HT) (m : NM) (ws : List Nat) : ncell h { m with ws := ws } = ncell h m := rfl

section
variable {w w0 w' : World} {S F F1 S' : Nat → Prop} {g bl c mb gb ib nb : Nat} {D : DG} {C : HT → List HT} {M : List NM} {K : Value → World → Prop}
/-- the children, as far as the loop has come -/
noncomputable def kidsTo (D : DG) (h : HT) (l : List HT) : HT → List HT := fun x => if x ∈ l then srt (childL D x ++ [h]) else childL D x
/-- the loop of Add, i parents done -/
structure AL (w0 w' : World) (S F1 S' : Nat → Prop) (g : Nat) (D : DG) (h : HT) (l : List HT) (gb ib nb : Nat) (pA : Option Addr) (pc i bl c mb : Nat) (M : List NM) (rA : Option Addr) (rn rc : Nat) (ws : List Nat) : Prop where
  G : GV w' S' F1 g D (kidsTo D h (l.take i)) bl c mb M
  sub : ∀ k, S k → S' k
  new : ∀ k, S' k → S k ∨ w0.heap.size ≤ k
  node : w'.heap[nb]? = some (.cells (ncell h ⟨nb, pA, l.length, pc, none, 0, 0, rA, rn, rc, ws⟩) T_dag_node (0, 0))
  noN : ¬ S' nb
  row : URow w' nb rA rn rc ws
  ok : okW ws
  small : rn ≤ 200
  noR : ∀ k, blkOf rA = some k → ¬ S' k
  bits : ∀ j, bit ws j = true ↔ ∃ p ∈ l.take i, ∃ nj, D[j]? = some nj ∧ (nj.id = p ∨ Anc D nj.id p)
  gbx : w'.heap[gb]? = some (.cells #[.pointer (some ⟨g, 0, none⟩)] T_p_dag_Graph (0, 0))
  ibx : w'.heap[ib]? = some (.cells h.1 T_api_Hash (0, 0))
  noG : ¬ S' gb
  noI : ¬ S' ib
  hl : HS w' pA l.length l
  kp : Kept S w0 w'

theorem add_round {h : HT} {l : List HT} {pA : Option Addr} {pc i : Nat} {rA : Option Addr} {rn rc : Nat} {ws : List Nat} {Q : Post}
    (L : AL w0 w' S F1 S' g D h l gb ib nb pA pc i bl c mb M rA rn rc ws) (W : WfD D) (hD : D.length ≤ 10000) (hss : SS l) (hin : ∀ p ∈ l, p ∈ ids D) (hF1 : ∀ k, F1 k → k < nb) (hpF : ∀ a, pA = some a → F1 a.block) (h0 : w0.heap.size ≤ nb) (hil : i < l.length) (hll : l.length ≤ 10000)
    (hQ : ∀ S2 M rA rn rc ws v, AL w0 v S F1 S2 g D h l gb ib nb pA pc (i + 1) bl c mb M rA rn rc ws → Q .normal (dag_Graph_Add.e1 ⟨gb, 0, none⟩ ⟨ib, 0, none⟩ 0 ⟨nb, 0, none⟩ pA l.length pc (l.length : Int) ((i : Int) + 1)) v) :
    dag_Graph_Add.B1 ⟨gb, 0, none⟩ ⟨ib, 0, none⟩ 0 ⟨nb, 0, none⟩ pA l.length pc (l.length : Int) (i : Int) Q w' := by
  obtain ⟨p, hp⟩ : ∃ p, l[i]? = some p := ⟨_, List.getElem?_eq_getElem hil⟩
  have hpl := List.mem_of_getElem? hp
  have hpid := hin p hpl
  refine Split.yes (decide_eq_true (by omega)) ?_
  refine L.hl.load (i := (i : Int)) (by omega) hp ?_
  intro w33
  obtain ⟨hwr, hbx, hkx⟩ := box_set (w := w') (z := (#[.int .u8 0, .int .u8 0, .int .u8 0, .int .u8 0, .int .u8 0, .int .u8 0, .int .u8 0, .int .u8 0, .int .u8 0, .int .u8 0, .int .u8 0, .int .u8 0, .int .u8 0, .int .u8 0, .int .u8 0, .int .u8 0, .int .u8 0, .int .u8 0, .int .u8 0, .int .u8 0, .int .u8 0, .int .u8 0, .int .u8 0, .int .u8 0, .int .u8 0, .int .u8 0, .int .u8 0, .int .u8 0, .int .u8 0, .int .u8 0, .int .u8 0, .int .u8 0] : Array Value)) (cs := p.1) (t := T_api_Hash) (by rw [p.2.1]; rfl)
  refine ⟨⟨p.2.1, p.2.one, fun j hj => hwr j (by rw [p.2.1]; exact hj)⟩, ?_⟩
  intro w36
  replace hbx : w36.heap[w'.heap.size]? = some (.cells p.1 T_api_Hash (0, 0)) := hbx
  replace k36 : Kept Nil w' w36 := hkx
  clear_value w36
  refine ⟨some ⟨g, 0, none⟩, by rw [cell_blk (k36.heap L.gbx (fun h => h))]; rfl, p.1, ⟨p.2.1, Cells.blk hbx⟩, ?_⟩
  refine dag_find (L.G.same k36) p fun w40 x k40 hx => ⟨x, rfl, ?_⟩
  rcases hx with ⟨rfl, hno⟩ | ⟨q, nd, m', hq, hnd, hm', rfl⟩
  · exact absurd hpid hno
  intro w42
  have k42 : Kept Nil w' w42 := (k36.trans k40 (fun _ _ h => h)).drew
  have hbx42 : w42.heap[w'.heap.size]? = some (.cells p.1 T_api_Hash (0, 0)) := k40.heap hbx (fun h => h)
  clear_value w42
  have hs42 := k42.size
  have G42 := L.G.same k42
  obtain ⟨m, hm, N42⟩ := G42.get hq
  rw [hm'] at hm
  cases hm
  have hn42 := k42.heap L.node (fun h => h)
  have row42 : URow w42 nb rA rn rc ws := Row.keep L.row k42 (fun _ _ h => h)
  refine ⟨rA, rn, rc, by rw [add_at, Nat.zero_add, cell_blk hn42]; exact ncell_34 _ _, ?_⟩
  refine ⟨_, _, _, node_past N42, some ⟨g, 0, none⟩, by rw [cell_blk (k42.heap L.gbx (fun h => h))]; rfl, ?_⟩
  refine ⟨some mb, G42.at_, p.1, ⟨p.2.1, Cells.blk hbx42⟩, _, G42.map.look1 p, ?_⟩
  rw [show pos p (ids D) 0 = some q by rw [← hnd]; exact W.pos_eq hq, Option.getD_some]
  have hql := (List.getElem?_eq_some_iff.1 hq).1
  have hsm := N42.small
  have hsmr := L.small
  -- the rows' blocks
  have hrA : ∀ k, blkOf rA = some k → nb ≤ k ∧ k < w'.heap.size := fun k hk => by
    obtain ⟨h1, cur, hc⟩ := Row.blk L.row hk
    exact ⟨h1, lt_blk hc⟩
  have hnbl : nb < w'.heap.size := lt_blk L.node
  have tyR : ∀ {v : World} {A : Option Addr} {n c : Nat} {l : List Nat} {B : Nat}, URow v B A n c l → ∀ {k : Nat} {cs : Array Value} {t : TypeId}, v.heap[k]? = some (.cells cs t (0, 0)) → t ≠ T_uint64 → ¬ blkOf A = some k := fun hr _ _ _ hk hne e => by
    obtain ⟨_, cur, hc⟩ := Row.blk hr e
    exact ne_typ hk hc hne rfl
  refine row_or_ok row42 L.ok (by omega) (by omega) N42.past N42.ok (by omega) (fun a ha k hk e => ?_) fun A2 n2 c2 l2 w52 row52 ho52 hn52 hbit52 k52 hb52 => ⟨A2, n2, c2, rfl, ?_⟩
  · have h1 := hF1 a.block (N42.pastF a ha)
    have h2 := (hrA k hk).1
    omega
  have hnF : ∀ k, F1 k → ¬ blkOf rA = some k := fun k hk e => by have := hF1 k hk; have := (hrA k e).1; omega
  have G52 := G42.keep k52 (fun k hk e => L.noR k e hk) hnF
  have hbx52 := k52.heap hbx42 (tyR row42 hbx42 (by decide))
  have hg42 := k42.heap L.gbx (fun h => h)
  have hg52 := k52.heap hg42 (tyR row42 hg42 (by decide))
  have hi42 := k42.heap L.ibx (fun h => h)
  have hi52 := k52.heap hi42 (tyR row42 hi42 (by decide))
  have hn52' := k52.heap hn42 (tyR row42 hn42 (by decide))
  have hs52 := k52.size
  have hl52 := G52.map.look1 p
  rw [show pos p (ids D) 0 = some q by rw [← hnd]; exact W.pos_eq hq, Option.getD_some] at hl52
  refine ⟨hl52, ⟨p.1, rfl, p.2.1, Cells.blk hbx52⟩, G52.at_, by rw [cell_blk hg52]; rfl, ?_⟩
  have hA2 : ∀ k, blkOf A2 = some k → blkOf rA = some k ∨ w42.heap.size ≤ k := hb52
  refine row_with_ok row52 ho52 (by omega) (by omega) (by omega) fun A3 n3 c3 l3 w55 row55 ho55 hn55 hbit55 k55 hb55 => ⟨A3, n3, c3, rfl, ?_⟩
  have hnoA2S : ∀ k, blkOf A2 = some k → ¬ S' k := fun k hk hs => by
    rcases hA2 k hk with h | h
    · exact L.noR k h hs
    · have := L.G.low k (.inl hs); omega
  have hnoA2F : ∀ k, F1 k → ¬ blkOf A2 = some k := fun k hf hk => by
    have := hF1 k hf
    have := (Row.blk row52 hk).1
    omega
  have G55 := G52.keep k55 (fun k hk e => hnoA2S k e hk) hnoA2F
  have hg55 := k55.heap hg52 (tyR row52 hg52 (by decide))
  have hi55 := k55.heap hi52 (tyR row52 hi52 (by decide))
  have hn55' := k55.heap hn52' (tyR row52 hn52' (by decide))
  have hs55 := k55.size
  have hsz35 := ncell_size h ⟨nb, pA, l.length, pc, none, 0, 0, rA, rn, rc, ws⟩
  refine ⟨by rw [add_at, Nat.zero_add]; exact wr_blk hn55' (by omega), ?_⟩
  intro w57 w58
  have k57 : Kept (· = nb) w55 w57 := by
    show Kept (· = nb) w55 (w55.setCell ((⟨nb, 0, none⟩ : Addr).add 34) (.slice A3 n3 c3))
    exact Kept.setCell (S := fun k => k = nb) (Kept.refl _ w55) (by rw [addr_block]; exact fun _ => rfl) _
  have hn57 : w57.heap[nb]? = some (.cells (ncell h ⟨nb, pA, l.length, pc, none, 0, 0, A3, n3, c3, l3⟩) T_dag_node (0, 0)) := by
    show (w55.setCell ((⟨nb, 0, none⟩ : Addr).add 34) (.slice A3 n3 c3)).heap[nb]? = _
    rw [add_at, Nat.zero_add, set_blk hn55' 34, ncell_set34]
    rfl
  have k58 : Kept (· = nb) w55 w58 := k57.drew
  have hn58 : w58.heap[nb]? = some (.cells (ncell h ⟨nb, pA, l.length, pc, none, 0, 0, A3, n3, c3, l3⟩) T_dag_node (0, 0)) := hn57
  clear_value w58
  clear hn57 k57
  have hs58 := k58.size
  have G58 := G55.keep k58 (fun k hk e => L.noN (e ▸ hk)) (fun k hk e => by have := hF1 k hk; omega)
  have hg58 := k58.heap hg55 (ne_typ hg55 hn55' (by decide))
  have hi58 := k58.heap hi55 (ne_typ hi55 hn55' (by decide))
  have row58 : URow w58 nb A3 n3 c3 l3 := Row.keep row55 k58 (fun k hk e => by
    subst e
    exact tyR row55 hn55' (by decide) hk)
  obtain ⟨m, hm, N58⟩ := G58.get hq
  rw [hm'] at hm
  cases hm
  refine ⟨m'.cA, m'.cn, m'.cc, node_ch N58, h.1, ⟨h.2.1, Cells.blk hi58⟩, h.2.1, ?_⟩
  intro w62
  have k62 : Kept Nil w58 w62 := (Kept.refl _ _).alloc _
  have hbox62 : HS w62 (some ⟨w58.heap.size, 0, none⟩) 1 [h] := hbox w58 h
  clear_value w62
  have G62 := G58.same k62
  obtain ⟨m, hm, N62⟩ := G62.get hq
  rw [hm'] at hm
  cases hm
  refine ⟨node_ch N62, ?_⟩
  have hchl := N62.ch.len
  have hkids : kidsTo D h (l.take i) nd.id = childL D p := by
    unfold kidsTo
    rw [hnd, if_neg]
    intro hmem
    obtain ⟨j, hj⟩ := List.mem_iff_getElem?.1 hmem
    rw [List.getElem?_take] at hj
    split at hj
    · have := hss.get (by omega) hj hp
      rw [hlt_irrefl] at this
      cases this
    · cases hj
  have hcl := pick_len D fun a => Par D p a
  have hcn : m'.cn ≤ 10000 := by
    rw [← hchl, hkids]
    unfold childL
    omega
  obtain ⟨A7, c7, w64, hr64, row64, hg64, hb64⟩ := append_hs (cx := 1) T_sl_api_Hash N62.ch hbox62 (by omega) (Nat.zero_le _)
  have k64 : Kept (fun k => blkOf m'.cA = some k) w62 w64 := Kept.grown (Kept.refl _ _) hg64 (fun k hk _ => hk)
  refine ⟨A7, _, c7, w64, hr64, ?_⟩
  have hs62 := k62.size
  have hs64 := k64.size
  refine dag_Sorted_ok row64.hs (by omega) fun A5 c5 w66 row66 k66 => ⟨A5, _, c5, rfl, ?_⟩
  have hs66 := k66.size
  have hmb64 := k64.heap N62.blk (fun e => by
    obtain ⟨_, cur, hc⟩ := Row.blk N62.ch e
    exact ne_typ N62.blk hc (by decide) rfl)
  have hmb66 := k66.heap hmb64 (fun h => h)
  refine ⟨by rw [add_at, Nat.zero_add]; exact wr_blk hmb66 (by rw [ncell_size]; omega), ?_⟩
  intro w69
  have k69 : Kept (· = m'.b) w66 w69 := by
    show Kept (· = m'.b) w66 (w66.setCell ((⟨m'.b, 0, none⟩ : Addr).add 33) (.slice A5 (srt (kidsTo D h (l.take i) nd.id ++ [h])).length c5))
    exact Kept.setCell (S := fun k => k = m'.b) (Kept.refl _ w66) (by rw [addr_block]; exact fun _ => rfl) _
  have hmb69 : w69.heap[m'.b]? = some (.cells (ncell nd.id { m' with cA := A5, cn := (srt (kidsTo D h (l.take i) nd.id ++ [h])).length, cc := c5 }) T_dag_node (0, 0)) := by
    show (w66.setCell ((⟨m'.b, 0, none⟩ : Addr).add 33) (.slice A5 (srt (kidsTo D h (l.take i) nd.id ++ [h])).length c5)).heap[m'.b]? = _
    rw [add_at, Nat.zero_add, set_blk hmb66 33, ncell_set33]
  clear_value w69
  -- from the node's past on: the children alone
  have kT : Kept (fun k => blkOf m'.cA = some k ∨ k = m'.b) w58 w69 :=
    (((k62.mono (S' := fun k => blkOf m'.cA = some k ∨ k = m'.b) (fun _ _ h => h.elim)).trans k64 (fun _ _ h => .inl h)).trans k66 (fun _ _ h => h.elim)).trans k69 (fun _ _ h => .inr h)
  have hrow69 : HRow w69 w58.heap.size A5 (srt (kidsTo D h (l.take i) nd.id ++ [h])).length c5 (srt (kidsTo D h (l.take i) nd.id ++ [h])) :=
    Row.base (Row.keep row66 k69 (fun k hk e => by
      subst e
      obtain ⟨_, cur, hc⟩ := Row.blk row66 hk
      exact ne_typ hmb66 hc (by decide) rfl)) (fun k hk => by have := (Row.blk row66 hk).1; omega)
  have G69 := G58.upd W hq hm' kT hmb69 hrow69
  have hA5 : ∀ k, blkOf A5 = some k → w58.heap.size ≤ k := fun k hk => (Row.blk hrow69 hk).1
  have hTS : ∀ k, (blkOf m'.cA = some k ∨ k = m'.b) → S' k := fun k e => by
    rcases e with e | rfl
    · exact N58.chF k e
    · exact N58.footB
  have hkf : (fun x => if x = nd.id then srt (kidsTo D h (l.take i) nd.id ++ [h]) else kidsTo D h (l.take i) x) = kidsTo D h (l.take (i + 1)) := by
    funext x
    by_cases hx : x = nd.id
    · rw [if_pos hx, hkids, hx, hnd]
      unfold kidsTo
      rw [if_pos ((mem_take_succ hp).2 (.inr rfl))]
    · rw [if_neg hx]
      unfold kidsTo
      have : x ∈ l.take (i + 1) ↔ x ∈ l.take i := by
        rw [mem_take_succ hp]
        exact ⟨fun e => e.resolve_right (fun e => hx (by rw [hnd]; exact e)), .inl⟩
      by_cases hm : x ∈ l.take i
      · rw [if_pos hm, if_pos (this.2 hm)]
      · rw [if_neg hm, if_neg (fun e => hm (this.1 e))]
  rw [hkf] at G69
  rw [wrapP (n := (i : Int)) (by omega) (by omega)]
  have hnb58 : nb < w58.heap.size := lt_blk hn58
  have kall : Kept S w0 w69 := by
    have k1 := L.kp.trans k42 (fun _ _ h => h.elim)
    have k2 := k1.trans k52 (fun k hk e => absurd (hrA k e).1 (by omega))
    have k3 := k2.trans k55 (fun k hk e => absurd (Row.blk row52 e).1 (by omega))
    have k4 := k3.trans k58 (fun k hk e => by omega)
    exact k4.trans kT (fun k hk e => by
      rcases L.new k (hTS k e) with h | h
      · exact h
      · omega)
  refine hQ _ _ A3 n3 c3 l3 w69 ⟨G69, fun k hk => .inl (L.sub k hk), fun k hk => ?_, kT.heap hn58 (fun e => L.noN (hTS _ e)), fun e => ?_, Row.keep row58 kT (fun k hk e => ?_), ho55, by omega, fun k hk e => ?_, fun j => ?_,
    kT.heap hg58 (fun e => L.noG (hTS _ e)), kT.heap hi58 (fun e => L.noI (hTS _ e)), fun e => ?_, fun e => ?_, ?_, kall⟩
  · rcases hk with hk | hk
    · exact L.new k hk
    · have := hA5 k hk
      have := L.kp.size
      exact .inr (by omega)
  · rcases e with e | e
    · exact L.noN e
    · have := hA5 _ e; omega
  · have hs := hTS k e
    rcases hb55 k hk with h | h
    · exact hnoA2S k h hs
    · have := L.G.low k (.inl hs); omega
  · have hk3 : k < w55.heap.size := by
      obtain ⟨_, cur, hc⟩ := Row.blk row55 hk
      exact lt_blk hc
    rcases e with e | e
    · rcases hb55 k hk with h | h
      · exact hnoA2S k h e
      · have := L.G.low k (.inl e); omega
    · have := hA5 _ e; omega
  · rw [hbit55, Bool.or_eq_true, hbit52, Bool.or_eq_true, L.bits, N42.bits, decide_eq_true_iff]
    constructor
    · rintro ((⟨p', h1, h2⟩ | ⟨nj, h1, h2⟩) | rfl)
      · exact ⟨p', (mem_take_succ hp).2 (.inl h1), h2⟩
      · exact ⟨p, (mem_take_succ hp).2 (.inr rfl), nj, h1, .inr (hnd ▸ h2)⟩
      · exact ⟨p, (mem_take_succ hp).2 (.inr rfl), nd, hq, .inl hnd⟩
    · rintro ⟨p', h1, nj, h2, h3⟩
      rcases (mem_take_succ hp).1 h1 with h1 | rfl
      · exact .inl (.inl ⟨p', h1, nj, h2, h3⟩)
      · rcases h3 with h3 | h3
        · exact .inr (W.inj h2 hq (h3.trans hnd.symm))
        · exact .inl (.inr ⟨nj, h2, hnd ▸ h3⟩)
  · rcases e with e | e
    · exact L.noG e
    · have := hA5 _ e; have := lt_blk hg58; omega
  · rcases e with e | e
    · exact L.noI e
    · have := hA5 _ e; have := lt_blk hi58; omega
  · have hb : ∀ a, pA = some a → F1 a.block ∧ a.block < nb := fun a ha => ⟨hpF a ha, hF1 _ (hpF a ha)⟩
    have k1 := L.hl.same k42
    have k2 := k1.keep k52 (fun a ha => hnF _ (hb a ha).1)
    have k3 := k2.keep k55 (fun a ha => hnoA2F _ (hb a ha).1)
    have k4 := k3.keep k58 (fun a ha e => by have := (hb a ha).2; omega)
    exact k4.keep kT (fun a ha e => L.G.dis _ (hTS _ e) (hb a ha).1)
end
end Go.Proofs.YtljckpecmlnbiaaDoor
/-
  The program's Add, whole.
-/
namespace Go.Proofs.YtljckpecmlnbiaaDoor
open Go Go.Lite Go.RowKit

theorem slPtr : SlT Tryd.prog T_sl_p_dag_node T_p_dag_node 1 8 := ⟨by kernel_rfl, by kernel_rfl⟩
theorem bldDag : bld Tryd.prog T_dag_node = some ([(0, 32), (32, 1), (33, 1), (34, 1)], List.replicate 32 (.int .u8 0) ++ [.slice none 0 0, .slice none 0 0, .slice none 0 0]) := by kernel_rfl
theorem builtDag (h : HT) (b : Nat) (A : Option Addr) (n c : Nat) : Tryd.prog.built T_dag_node [(0, .agg h.1), (1, .slice A n c)] = some (ncell h ⟨b, A, n, c, none, 0, 0, none, 0, 0, []⟩) := by
  have hs := h.2.1
  rw [built_of bldDag, fill_part (off := 0) (size := 32) rfl (by simpa [Value.cells] using hs) (by simp), fill_part (off := 32) (size := 1) rfl rfl (by
    rw [List.size_toArray, splice_len (by simp [Value.cells, hs])]
    simp)]
  simp only [Instr.fill, Option.some.injEq]
  apply Array.ext'
  unfold splice ncell
  simp [Value.cells, hs]
  rw [List.drop_append]
  simp [hs]
theorem builtRoot (h : HT) (b : Nat) : Tryd.prog.built T_dag_node [(0, .agg h.1)] = some (ncell h ⟨b, none, 0, 0, none, 0, 0, none, 0, 0, []⟩) := by
  have hs := h.2.1
  rw [built_of bldDag, fill_part (off := 0) (size := 32) rfl (by simpa [Value.cells] using hs) (by simp)]
  simp only [Instr.fill, Option.some.injEq]
  apply Array.ext'
  unfold splice ncell
  simp [Value.cells, hs]

/-! the children of a graph with one more -/
section
variable {D : DG} {h : HT} {l : List HT}
theorem child_snoc (W : WfD D) (hn : h ∉ ids D) {x : HT} : kidsTo D h l x = childL (D ++ [⟨h, l⟩]) x := by
  have hmem : ∀ a, a ∈ childL (D ++ [⟨h, l⟩]) x ↔ (a ∈ childL D x ∨ (a = h ∧ x ∈ l)) := fun a => by
    unfold childL
    rw [mem_pick, mem_pick, par_snoc, ids_snoc, List.mem_append, List.mem_singleton]
    constructor
    · rintro ⟨h1, h2 | ⟨h2, h3⟩⟩
      · exact .inl ⟨(Anc.mem W (.one h2)).2, h2⟩
      · exact .inr ⟨h2.symm, h3⟩
    · rintro (⟨h1, h2⟩ | ⟨rfl, h2⟩)
      · exact ⟨.inl h1, .inl h2⟩
      · exact ⟨.inr rfl, .inr ⟨rfl, h2⟩⟩
  unfold kidsTo
  by_cases hxl : x ∈ l
  · rw [if_pos hxl]
    refine (srt_of (l := childL (D ++ [⟨h, l⟩]) x) (SS_srt _) fun a => ?_).symm
    rw [hmem, List.mem_append, List.mem_singleton]
    exact ⟨fun e => e.imp (fun e => e) (fun e => e.1), fun e => e.imp (fun e => e) (fun e => ⟨e, hxl⟩)⟩
  · rw [if_neg hxl]
    refine SS_ext (SS_srt _) (SS_srt _) fun a => ?_
    have := hmem a
    unfold childL pick at this ⊢
    rw [this]
    exact ⟨.inl, fun e => e.resolve_right (fun e => hxl e.2)⟩
theorem child_new (W : WfD D) (hn : h ∉ ids D) (hin : ∀ p ∈ l, p ∈ ids D) : childL (D ++ [⟨h, l⟩]) h = [] := by
  cases hc : childL (D ++ [⟨h, l⟩]) h with
  | nil => rfl
  | cons b t =>
    exfalso
    have : b ∈ childL (D ++ [⟨h, l⟩]) h := by rw [hc]; simp
    rcases par_snoc.1 (mem_pick.1 this).2 with h1 | ⟨_, h2⟩
    · exact hn (Anc.mem W (.one h1)).1
    · exact hn (hin h h2)
theorem bits_old (W : WfD D) (hn : h ∉ ids D) {x : HT} (hx : x ∈ ids D) (j : Nat) : (∃ nj, (D ++ [⟨h, l⟩])[j]? = some nj ∧ Anc (D ++ [⟨h, l⟩]) nj.id x) ↔ ∃ nj, D[j]? = some nj ∧ Anc D nj.id x := by
  constructor
  · rintro ⟨nj, h1, h2⟩
    have h2' := (anc_snoc W (nd := ⟨h, l⟩) hn hx).1 h2
    rw [List.getElem?_append] at h1
    split at h1
    · exact ⟨nj, h1, h2'⟩
    · exfalso
      have : nj = ⟨h, l⟩ := by
        cases hk : j - D.length with
        | zero => rw [hk] at h1; simpa using h1.symm
        | succ k => rw [hk] at h1; simp at h1
      subst this
      exact hn (h2'.mem W).1
  · rintro ⟨nj, h1, h2⟩
    exact ⟨nj, by rw [List.getElem?_append_left (List.getElem?_eq_some_iff.1 h1).1]; exact h1, (anc_snoc W (nd := ⟨h, l⟩) hn hx).2 h2⟩
theorem bits_new (W : WfD D) (hn : h ∉ ids D) (hin : ∀ p ∈ l, p ∈ ids D) (hs : SS l) (j : Nat) :
    (∃ nj, (D ++ [⟨h, l⟩])[j]? = some nj ∧ Anc (D ++ [⟨h, l⟩]) nj.id h) ↔ ∃ p ∈ l, ∃ nj, D[j]? = some nj ∧ (nj.id = p ∨ Anc D nj.id p) := by
  have W' : WfD (D ++ [⟨h, l⟩]) := W.snoc (nd := ⟨h, l⟩) hn hin hs
  have hget : (D ++ [⟨h, l⟩])[D.length]? = some ⟨h, l⟩ := by rw [List.getElem?_append_right (Nat.le_refl _), Nat.sub_self]; rfl
  have key : ∀ a, Anc (D ++ [⟨h, l⟩]) a h ↔ ∃ p ∈ l, a = p ∨ Anc D a p := fun a => by
    rw [anc_iff W' hget a]
    constructor
    · rintro ⟨p, hp, e⟩
      exact ⟨p, hp, e.imp (fun e => e) (fun e => (anc_snoc W (nd := ⟨h, l⟩) hn (hin p hp)).1 e)⟩
    · rintro ⟨p, hp, e⟩
      exact ⟨p, hp, e.imp (fun e => e) (fun e => (anc_snoc W (nd := ⟨h, l⟩) hn (hin p hp)).2 e)⟩
  constructor
  · rintro ⟨nj, h1, h2⟩
    obtain ⟨p, hp, e⟩ := (key _).1 h2
    have hid : nj.id ∈ ids D := by
      rcases e with e | e
      · rw [e]; exact hin p hp
      · exact (e.mem W).1
    rw [List.getElem?_append] at h1
    split at h1
    · exact ⟨p, hp, nj, h1, e⟩
    · exfalso
      have : nj = ⟨h, l⟩ := by
        cases hk : j - D.length with
        | zero => rw [hk] at h1; simpa using h1.symm
        | succ k => rw [hk] at h1; simp at h1
      subst this
      exact hn hid
  · rintro ⟨p, hp, nj, h1, e⟩
    exact ⟨nj, by rw [List.getElem?_append_left (List.getElem?_eq_some_iff.1 h1).1]; exact h1, (key _).2 ⟨p, hp, e⟩⟩
end

section
variable {w w' : World} {S F F' : Nat → Prop} {g bl c mb : Nat} {D : DG} {C : HT → List HT} {M : List NM} {K : Value → World → Prop}
theorem GV.monoF (G : GV w S F g D C bl c mb M) (hf : ∀ k, F k → F' k) (hd : ∀ k, S k → ¬ F' k) (hl : ∀ k, F' k → k < w.heap.size) : GV w S F' g D C bl c mb M :=
  ⟨G.top, G.row, G.map, G.len, fun i nd m h1 h2 => by
    have N := G.node i nd m h1 h2
    exact ⟨N.blk, N.footB, N.ps, fun a ha => hf _ (N.psF a ha), N.ch, N.chF, N.past, fun a ha => hf _ (N.pastF a ha), N.ok, N.bits, N.small⟩, G.apart, G.footG, G.footL, G.footM, hd, fun k hk => hk.elim (fun h => G.low k (.inl h)) (hl k)⟩

/-- the end of Add: the new node comes in -/
theorem add_end {w0 : World} {F1 S' : Nat → Prop} {h : HT} {l : List HT} {gb ib nb : Nat} {pA : Option Addr} {pc i : Nat} {rA : Option Addr} {rn rc : Nat} {ws : List Nat}
    (L : AL w0 w S F1 S' g D h l gb ib nb pA pc i bl c mb M rA rn rc ws) (W : WfD D) (hD : D.length ≤ 5000) (hss : SS l) (hin : ∀ p ∈ l, p ∈ ids D) (hn : h ∉ ids D) (hF1 : ∀ k, F1 k → k < nb) (hpF : ∀ a, pA = some a → F1 a.block) (h0 : w0.heap.size ≤ nb) (hil : l.length ≤ i)
    (hK : ∀ v S2 F2, IsG v S2 F2 g (D ++ [⟨h, l⟩]) → Kept S w0 v → (∀ k, S2 k → S k ∨ w0.heap.size ≤ k) → (∀ k, F2 k → F1 k ∨ w0.heap.size ≤ k) → K (.int .i64 0) v) :
    dag_Graph_Add.X1_1 ⟨gb, 0, none⟩ ⟨ib, 0, none⟩ 0 ⟨nb, 0, none⟩ pA l.length pc (l.length : Int) (i : Int) K w := by
  have hti : l.take i = l := List.take_of_length_le hil
  have hG := L.G
  rw [hti] at hG
  have hbits := L.bits
  rw [hti] at hbits
  unfold dag_Graph_Add.X1_1
  intro w77
  have k77 : Kept Nil w w77 := (Kept.refl _ _).drew
  clear_value w77
  have G77 := hG.same k77
  have hg77 := k77.heap L.gbx (fun h => h)
  have hn77 := k77.heap L.node (fun h => h)
  have row77 : URow w77 nb rA rn rc ws := Row.keep L.row k77 (fun _ _ h => h)
  refine ⟨some ⟨g, 0, none⟩, by rw [cell_blk hg77]; rfl, some mb, G77.at_, h.1, ⟨h.2.1, Cells.blk (k77.heap L.ibx (fun h => h))⟩, some ⟨g, 0, none⟩, by rw [cell_blk hg77]; rfl, ?_⟩
  refine ⟨_, _, _, G77.nodes, ?_⟩
  obtain ⟨w85, hr85, map85, k85⟩ := G77.map.put hn
  rw [ids_len] at hr85
  refine ⟨w85, hr85, ?_⟩
  intro w86
  have k86 : Kept (· = mb) w77 w86 := k85.drew
  have map86 : IsMap w86 mb (ids D ++ [h]) := map85.keep ((Kept.refl Nil w85).drew) (fun h => h)
  clear_value w86
  -- a block of cells is not the map's
  have tyM : ∀ {v : World} {k : Nat} {cs : Array Value} {t : TypeId}, IsMap v mb (ids D) → v.heap[k]? = some (.cells cs t (0, 0)) → k ≠ mb := fun hm hk e => by
    obtain ⟨es, clock, hmp, _⟩ := hm.ex
    rw [e, hmp] at hk
    cases hk
  have hg86 := k86.heap hg77 (tyM G77.map hg77)
  have hn86 := k86.heap hn77 (tyM G77.map hn77)
  have htop86 := k86.heap G77.top (tyM G77.map G77.top)
  have row86 : Row w86 0 T_p_dag_node 1 (some ⟨bl, 0, none⟩) D.length c (M.map fun m => .pointer (some ⟨m.b, 0, none⟩)) := Row.keep G77.row k86 (fun k hk e => by
    obtain ⟨_, cur, hc⟩ := Row.blk G77.row hk
    exact tyM G77.map hc e)
  have rowr86 : URow w86 nb rA rn rc ws := Row.keep row77 k86 (fun k hk e => by
    obtain ⟨_, cur, hc⟩ := Row.blk row77 hk
    exact tyM G77.map hc e)
  refine ⟨some ⟨g, 0, none⟩, by rw [cell_blk hg86]; rfl, some ⟨g, 0, none⟩, by rw [cell_blk hg86]; rfl, ?_⟩
  refine ⟨some ⟨bl, 0, none⟩, D.length, c, by rw [add_zero, cell_blk htop86]; rfl, ?_⟩
  intro w91
  have k91 : Kept Nil w86 w91 := (Kept.refl _ _).alloc _
  have hb91 : w91.heap[w86.heap.size]? = some (.cells #[.pointer (some ⟨nb, 0, none⟩)] T_p_dag_node (0, 0)) := new_blk w86 _
  clear_value w91
  have hg91 := k91.heap hg86 (fun h => h)
  have htop91 := k91.heap htop86 (fun h => h)
  refine ⟨by rw [add_zero, cell_blk htop91]; rfl, by rw [cell_blk hg91]; rfl, by rw [cell_blk hg91]; rfl, ?_⟩
  have row91 : Row w91 0 T_p_dag_node 1 (some ⟨bl, 0, none⟩) D.length c (M.map fun m => .pointer (some ⟨m.b, 0, none⟩)) := Row.keep row86 k91 (fun _ _ h => h)
  obtain ⟨A98, c98, w93, hr93, row93, hgr93, hb93⟩ := append_row (P := Tryd.prog) (t := T_sl_p_dag_node) (ty := T_sl_p_dag_node) (bytes := 8) slPtr row91 (a := ⟨w86.heap.size, 0, none⟩) (m := 1) (cx := 1) (news := [.pointer (some ⟨nb, 0, none⟩)]) rfl
    (fun j u hj => by rw [add_at, Nat.zero_add, cell_blk hb91]; simpa using hj) (fun u hu => by simp at hu; subst hu; rfl) (by omega) (by unfold maxLen; omega) (Nat.zero_le _)
  have k93 : Kept (· = bl) w91 w93 := Kept.grown (S := fun k => k = bl) (Kept.refl _ _) hgr93 (fun k hk _ => by cases hk; rfl)
  refine ⟨A98, _, c98, w93, hr93, ?_⟩
  have tyL : ∀ {k : Nat} {cs : Array Value} {t : TypeId}, w91.heap[k]? = some (.cells cs t (0, 0)) → t ≠ T_p_dag_node → k ≠ bl := fun hk hne => by
    obtain ⟨_, cur, hc⟩ := Row.blk row91 (k := bl) rfl
    exact ne_typ hk hc hne
  have hg93 := k93.heap hg91 (tyL hg91 (by decide))
  have htop93 := k93.heap htop91 (tyL htop91 (by decide))
  refine ⟨by rw [cell_blk hg93]; rfl, by rw [add_zero]; exact wr_blk htop93 (by simp), ?_⟩
  intro w95
  have k95 : Kept (· = g) w93 w95 := by
    show Kept (· = g) w93 (w93.setCell ((⟨g, 0, none⟩ : Addr).add 0) (.slice A98 (D.length + 1) c98))
    exact Kept.setCell (S := fun k => k = g) (Kept.refl _ w93) (by rw [addr_block]; exact fun _ => rfl) _
  have htop95 : w95.heap[g]? = some (.cells #[.slice A98 (D.length + 1) c98, .map (some mb)] T_dag_Graph (0, 0)) := by
    show (w93.setCell ((⟨g, 0, none⟩ : Addr).add 0) (.slice A98 (D.length + 1) c98)).heap[g]? = _
    rw [add_zero, set_blk htop93 0]
    rfl
  clear_value w95
  obtain ⟨b98, rfl⟩ := Row.some row93 (by omega)
  -- all in one: but for the graph's own three blocks
  have hs86 := k86.size
  have hs91 := k91.size
  have kall : Kept (fun k => k = g ∨ k = bl ∨ k = mb) w77 w95 :=
    (((k86.mono (S' := fun k => k = g ∨ k = bl ∨ k = mb) (fun _ _ h => .inr (.inr h))).trans k91 (fun _ _ h => h.elim)).trans k93 (fun _ _ h => .inr (.inl h))).trans k95 (fun _ _ h => .inl h)
  have hTF : ∀ k, F1 k → ¬ (k = g ∨ k = bl ∨ k = mb) := fun k hk e => by
    rcases e with rfl | rfl | rfl
    · exact G77.dis _ G77.footG hk
    · exact G77.dis _ G77.footL hk
    · exact G77.dis _ G77.footM hk
  have ty : ∀ {k : Nat} {cs : Array Value} {t : TypeId}, w77.heap[k]? = some (.cells cs t (0, 0)) → t ≠ T_dag_Graph → t ≠ T_p_dag_node → ¬ (k = g ∨ k = bl ∨ k = mb) := fun hk h1 h2 e => by
    rcases e with e | e | e
    · rw [e] at hk
      exact ne_typ hk G77.top h1 rfl
    · rw [e] at hk
      obtain ⟨_, cur, hc⟩ := Row.blk G77.row (k := bl) rfl
      exact ne_typ hk hc h2 rfl
    · exact tyM G77.map hk e
  have hrow95 : Row w95 0 T_p_dag_node 1 (some ⟨b98, 0, none⟩) (D.length + 1) c98 ((M.map fun m => .pointer (some ⟨m.b, 0, none⟩)) ++ [.pointer (some ⟨nb, 0, none⟩)]) := Row.keep row93 k95 (fun k hk e => by
    obtain ⟨_, cur, hc⟩ := Row.blk row93 hk
    exact ne_typ hc htop93 (by decide) e)
  have map95 : IsMap w95 mb (ids D ++ [h]) := by
    obtain ⟨es, clock, hmp, _⟩ := map86.ex
    have h1 := map86.keep k91 (fun h => h)
    have h2 := h1.keep k93 (fun e => by
      obtain ⟨_, cur, hc⟩ := Row.blk row91 (k := bl) rfl
      obtain ⟨_, _, hm', _⟩ := h1.ex
      rw [e, hc] at hm'
      cases hm')
    exact h2.keep k95 (fun e => by
      obtain ⟨_, _, hm', _⟩ := h2.ex
      rw [e, htop93] at hm'
      cases hm')
  have hn95 := kall.heap hn77 (ty hn77 (by decide) (by decide))
  have rowr95 : URow w95 nb rA rn rc ws := Row.keep row77 kall (fun k hk e => by
    obtain ⟨_, cur, hc⟩ := Row.blk row77 hk
    exact ty hc (by decide) (by decide) e)
  have hlen98 : (D ++ [(⟨h, l⟩ : DN)]).length = D.length + 1 := by simp
  have hb98 : b98 = bl ∨ w91.heap.size ≤ b98 := by
    rcases hb93 b98 rfl with e | e
    · exact .inl (by cases e; rfl)
    · exact .inr e
  have hsz := L.kp.size
  have hs77 := k77.size
  have hnbl := lt_blk hn77
  have hrAn : ∀ k, blkOf rA = some k → nb ≤ k ∧ k < w95.heap.size := fun k hk => by
    obtain ⟨h1, cur, hc⟩ := Row.blk rowr95 hk
    exact ⟨h1, lt_blk hc⟩
  have hget : ∀ {X : Type} (xs : List X) (y : X) (j : Nat) (z : X), (xs ++ [y])[j]? = some z → (j < xs.length ∧ xs[j]? = some z) ∨ (j = xs.length ∧ z = y) := fun xs y j z e => by
    rw [List.getElem?_append] at e
    split at e
    · rename_i hlt; exact .inl ⟨hlt, e⟩
    · rename_i hge
      cases hk : j - xs.length with
      | zero => rw [hk] at e; exact .inr ⟨by omega, by simpa using e.symm⟩
      | succ k => rw [hk] at e; simp at e
  refine hK w95 (fun k => S' k ∨ k = nb ∨ k = b98) (fun k => F1 k ∨ blkOf rA = some k) ⟨b98, c98, mb, M ++ [⟨nb, pA, l.length, pc, none, 0, 0, rA, rn, rc, ws⟩], ?_⟩ ?_ ?_ ?_
  · refine ⟨by rw [hlen98]; exact htop95, ?_, by rw [ids_snoc]; exact map95, by simp [hG.len], fun j nd m h1 h2 => ?_, fun j j' m m' h1 h2 hne k hk hk' => ?_, .inl hG.footG, .inr (.inr rfl), .inl hG.footM, fun k hk hf => ?_, fun k hk => ?_⟩
    · rw [hlen98, List.map_append]
      exact hrow95
    · rcases hget _ _ _ _ h1 with ⟨hj, h1'⟩ | ⟨hj, rfl⟩
      · rcases hget _ _ _ _ h2 with ⟨_, h2'⟩ | ⟨hj', _⟩
        · have N := G77.node j nd m h1' h2'
          have hid : nd.id ∈ ids D := ids_mem.2 ⟨nd, List.mem_of_getElem? h1', rfl⟩
          have hF : ∀ k, F1 k → ¬ (k = g ∨ k = bl ∨ k = mb) := hTF
          rw [← child_snoc W hn]
          refine ⟨kall.heap N.blk (ty N.blk (by decide) (by decide)), .inl N.footB, N.ps.keep kall (fun a ha => hF _ (N.psF a ha)), fun a ha => .inl (N.psF a ha), Row.keep N.ch kall (fun k hk e => ?_), fun k hk => .inl (N.chF k hk), N.past.keep kall (fun a ha => hF _ (N.pastF a ha)), fun a ha => .inl (N.pastF a ha), N.ok, fun j => ?_, N.small⟩
          · obtain ⟨cur, hc⟩ := (Row.blk N.ch hk).2
            exact ty hc (by decide) (by decide) e
          · rw [N.bits, bits_old W hn hid]
        · rw [hG.len] at hj'; omega
      · rcases hget _ _ _ _ h2 with ⟨hj', _⟩ | ⟨_, rfl⟩
        · rw [hG.len] at hj'; omega
        · rw [child_new W hn hin]
          refine ⟨hn95, .inr (.inl rfl), (L.hl.same k77).keep kall (fun a ha => hTF _ (hpF a ha)), fun a ha => .inl (hpF a ha), HRow.nil _ _, (fun k hk => by cases hk), rowr95.us, fun a ha => .inr (congrArg blkOf ha), L.ok, fun j => ?_, L.small⟩
          rw [hbits, bits_new W hn hin hss]
    · rcases hget _ _ _ _ h1 with ⟨_, h1'⟩ | ⟨_, rfl⟩
      · rcases hget _ _ _ _ h2 with ⟨_, h2'⟩ | ⟨_, rfl⟩
        · exact hG.apart j j' m m' h1' h2' hne k hk hk'
        · cases hk'
      · cases hk
    · rcases hk with hk | rfl | rfl
      · rcases hf with hf | hf
        · exact hG.dis k hk hf
        · exact L.noR k hf hk
      · rcases hf with hf | hf
        · have := hF1 k hf; omega
        · obtain ⟨_, cur, hc⟩ := Row.blk rowr95 hf
          exact ne_typ hn95 hc (by decide) rfl
      · rcases hf with hf | hf
        · rcases hb98 with e | e
          · rw [e] at hf; exact hG.dis _ hG.footL hf
          · have := hF1 _ hf; omega
        · obtain ⟨_, cur, hc⟩ := Row.blk rowr95 hf
          obtain ⟨_, cur', hc'⟩ := Row.blk hrow95 (k := k) rfl
          exact ne_typ hc' hc (by decide) rfl
    · have hs95 := kall.size
      rcases hk with (hk | rfl | rfl) | hk | hk
      · have := G77.low k (.inl hk); omega
      · exact lt_blk hn95
      · obtain ⟨_, cur', hc'⟩ := Row.blk hrow95 (k := k) rfl
        exact lt_blk hc'
      · have := G77.low k (.inr hk); omega
      · exact (hrAn k hk).2
  · exact (L.kp.trans k77 (fun _ _ h => h.elim)).trans kall (fun k hk e => by
      have hs : S' k := by
        rcases e with rfl | rfl | rfl
        · exact hG.footG
        · exact hG.footL
        · exact hG.footM
      rcases L.new k hs with h | h
      · exact h
      · omega)
  · intro k hk
    rcases hk with hk | rfl | rfl
    · exact L.new k hk
    · exact .inr h0
    · rcases hb98 with e | e
      · rw [e]; exact L.new _ hG.footL
      · exact .inr (by omega)
  · intro k hk
    rcases hk with hk | hk
    · exact .inl hk
    · exact .inr (by have := (hrAn k hk).1; omega)

theorem dag_Add (G : GV w S F g D (childL D) bl c mb M) (W : WfD D) (hD : D.length ≤ 5000) {A : Option Addr} {n cx : Nat} {lp : List HT} (hl : HS w A n lp) (hn : n ≤ 10000) (h : HT)
    (hK : ∀ v S2 F2, IsG v S2 F2 g (addD D h lp) → Kept S w v → (∀ k, S2 k → S k ∨ w.heap.size ≤ k) → (∀ k, F2 k → F k ∨ w.heap.size ≤ k) → K (.int .i64 (addC D h lp)) v) :
    Ret Tryd.prog dag_Graph_Add.id #[.pointer (some ⟨g, 0, none⟩), .agg h.1, .slice A n cx] w K := by
  have hlen := hl.len
  have hno : ∀ v, Kept Nil w v → ∀ e, addC D h lp = e → e ≠ 0 → K (.int .i64 e) v := fun v k e he hne => by
    have := hK v S F ?_ (k.mono fun _ _ h => h.elim) (fun _ h => .inl h) (fun _ h => .inl h)
    · rw [he] at this; exact this
    · unfold addD
      rw [if_neg (by rw [he]; exact hne)]
      exact ⟨bl, c, mb, M, G.same k⟩
  refine dag_Graph_Add.of ?_
  unfold dag_Graph_Add.W
  intro w4 w5
  have k4 : Kept Nil w w4 := (Kept.refl _ _).alloc _
  have hg4 : w4.heap[w.heap.size]? = some (.cells #[.pointer (some ⟨g, 0, none⟩)] T_p_dag_Graph (0, 0)) := new_blk w _
  have k5 : Kept Nil w4 w5 := (Kept.refl _ _).alloc _
  have hi5 : w5.heap[w4.heap.size]? = some (.cells h.1 T_api_Hash (0, 0)) := new_blk w4 _
  have hg5 := k5.heap hg4 (fun h => h)
  clear_value w5
  have kw5 : Kept Nil w w5 := k4.trans k5 (fun _ _ h => h)
  have hgl : w.heap.size < w4.heap.size := lt_blk hg4
  have hil5 : w4.heap.size < w5.heap.size := lt_blk hi5
  clear_value w4
  refine dag_Sorted_ok (hl.same kw5) (by omega) fun A13 c13 w7 row7 k7 => ⟨A13, _, c13, rfl, ?_⟩
  have kw7 : Kept Nil w w7 := kw5.trans k7 (fun _ _ h => h)
  have hg7 := k7.heap hg5 (fun h => h)
  have hi7 := k7.heap hi5 (fun h => h)
  have G7 := G.same kw7
  have hsl : (srt lp).length ≤ n := by have := srt_len lp; omega
  refine ⟨some ⟨g, 0, none⟩, by rw [cell_blk hg7]; rfl, dag_there G7 ⟨true, rfl, Split.no rfl ?_⟩⟩
  refine ⟨some ⟨g, 0, none⟩, by rw [cell_blk hg7]; rfl, h.1, ⟨h.2.1, Cells.blk hi7⟩, dag_Has G7 h fun w16 k16 => ⟨_, rfl, ?_⟩⟩
  have kw16 := kw7.trans k16 (fun _ _ h => h)
  by_cases hm : h ∈ ids D
  · refine Split.yes (decide_eq_true hm) (hno w16 kw16 7 ?_ (by omega))
    unfold addC
    rw [if_pos hm]
  refine Split.no (decide_eq_false hm) ?_
  by_cases h0 : (srt lp).length = 0
  · refine Split.yes (by simp [h0]) (hno w16 kw16 9 ?_ (by omega))
    unfold addC
    rw [if_neg hm, if_pos (.inl h0)]
  refine Split.no (beq_eq_false_iff_ne.2 (by omega)) ?_
  by_cases h1 : (srt lp).length ≠ n
  · refine Split.yes (bne_iff_ne.2 (by omega)) (hno w16 kw16 9 ?_ (by omega))
    unfold addC
    rw [if_neg hm, if_pos (.inr (by omega))]
  replace h1 : (srt lp).length = n := by omega
  refine Split.no (by rw [h1]; simp) ?_
  have hg16 := k16.heap hg7 (fun h => h)
  have row16 := Row.keep row7 k16 (fun _ _ h => h)
  refine contains_ok (G.same kw16) hg16 (HRow.hs row16) (by omega) fun w19 x hx k19 => ⟨x, rfl, ?_⟩
  have kw19 := kw16.trans k19 (fun _ _ h => h)
  cases x with
  | true =>
    refine Split.yes rfl (hno w19 kw19 6 ?_ (by omega))
    unfold addC
    rw [if_neg hm, if_neg (by omega), if_pos (hx.1 rfl)]
  | false =>
    have hin : ∀ p ∈ srt lp, p ∈ ids D := fun p hp => Classical.byContradiction fun hno' => by have := hx.2 ⟨p, hp, hno'⟩; cases this
    have hc0 : addC D h lp = 0 := by
      unfold addC
      rw [if_neg hm, if_neg (by omega), if_neg (fun ⟨p, hp, hpn⟩ => hpn (hin p hp))]
    have hD' : addD D h lp = D ++ [⟨h, srt lp⟩] := by unfold addD; rw [if_pos hc0]
    rw [hc0, hD'] at hK
    refine Split.no rfl ?_
    have hi19 := k19.heap (k16.heap hi7 (fun h => h)) (fun h => h)
    have hg19 := k19.heap hg16 (fun h => h)
    have row19 : HRow w19 w5.heap.size A13 (srt lp).length c13 (srt lp) := Row.keep row16 k19 (fun _ _ h => h)
    refine ⟨h.1, ⟨h.2.1, Cells.blk hi19⟩, ?_⟩
    rw [builtDag h w19.heap.size]
    refine Is.mk rfl ?_
    intro w23
    have k23 : Kept Nil w19 w23 := (Kept.refl _ _).alloc _
    have hn23 : w23.heap[w19.heap.size]? = some (.cells (ncell h ⟨w19.heap.size, A13, (srt lp).length, c13, none, 0, 0, none, 0, 0, []⟩) T_dag_node (0, 0)) := new_blk w19 _
    clear_value w23
    have kw23 := kw19.trans k23 (fun _ _ h => h)
    have hA13 : ∀ k, blkOf A13 = some k → w5.heap.size ≤ k ∧ k < w19.heap.size := fun k hk => by
      obtain ⟨e1, cur, hc⟩ := Row.blk row19 hk
      exact ⟨e1, lt_blk hc⟩
    have hs5 := kw5.size
    have hs19 := kw19.size
    have hF1 : ∀ k, (F k ∨ blkOf A13 = some k) → k < w19.heap.size := fun k hk => by
      rcases hk with hk | hk
      · have := G.low k (.inr hk); omega
      · exact (hA13 k hk).2
    have hSlt : ∀ k, S k → k < w.heap.size := fun k hk => G.low k (.inl hk)
    have G23 : GV w23 S (fun k => F k ∨ blkOf A13 = some k) g D (childL D) bl c mb M := (G.same kw23).monoF (fun _ h => .inl h) (fun k hs e => by
      rcases e with e | e
      · exact G.dis k hs e
      · have := hSlt k hs; have := (hA13 k e).1; omega) (fun k hk => by have := hF1 k hk; have := k23.size; omega)
    have hkids : kidsTo D h ((srt lp).take 0) = childL D := by
      funext y
      unfold kidsTo
      rw [if_neg (by simp)]
    have L0 : AL w w23 S (fun k => F k ∨ blkOf A13 = some k) S g D h (srt lp) w.heap.size w4.heap.size w19.heap.size A13 c13 0 bl c mb M none 0 0 [] :=
      ⟨by rw [hkids]; exact G23, fun _ h => h, fun _ h => .inl h, hn23, fun e => by have := hSlt _ e; omega, Row.nil _ _ _ _, by simp [okW], by omega, (fun k hk => by cases hk), fun j => by simp [bit_nil], k23.heap hg19 (fun h => h), k23.heap hi19 (fun h => h),
        fun e => by have := hSlt _ e; omega, fun e => by have := hSlt _ e; omega, (row19.hs).same k23, kw23.mono fun _ _ h => h.elim⟩
    refine dag_Graph_Add.loop1 (I := fun s v => ∃ (i : Nat) (S2 : Nat → Prop) (M2 : List NM) (rA : Option Addr) (rn rc : Nat) (ws : List Nat), s = (i : Int) ∧ i ≤ (srt lp).length ∧ AL w v S (fun k => F k ∨ blkOf A13 = some k) S2 g D h (srt lp) w.heap.size w4.heap.size w19.heap.size A13 c13 i bl c mb M2 rA rn rc ws)
      (μ := fun s _ => (((srt lp).length : Int) - s).toNat) (s := 0) ⟨0, S, M, none, 0, 0, [], rfl, Nat.zero_le _, L0⟩ ?_
    rintro s v ⟨i, S2, M2, rA, rn, rc, ws, rfl, hi, L⟩
    have hpF : ∀ a, A13 = some a → F a.block ∨ blkOf A13 = some a.block := fun a ha => .inr (by rw [ha]; rfl)
    by_cases hil : i < (srt lp).length
    · refine add_round L W (by omega) (SS_srt _) hin hF1 hpF (by omega) hil (by omega) fun S3 M3 rA3 rn3 rc3 ws3 v3 L3 => ?_
      exact ⟨(i : Int) + 1, rfl, ⟨i + 1, S3, M3, rA3, rn3, rc3, ws3, rfl, hil, L3⟩, by simp only; omega⟩
    · refine Split.no (decide_eq_false (by omega)) ?_
      rw [roundQ_exit, dag_Graph_Add.x1_1]
      refine add_end L W hD (SS_srt _) hin hm hF1 hpF (by omega) (by omega) fun v2 S4 F4 hI hkp hS4 hF4 => hK v2 S4 F4 hI hkp hS4 (fun k hk => ?_)
      rcases hF4 k hk with (e | e) | e
      · exact .inl e
      · exact .inr (by have := (hA13 k e).1; omega)
      · exact .inr e
end
end Go.Proofs.YtljckpecmlnbiaaDoor
/-
  The program's New, Root, All.
-/
namespace Go.Proofs.YtljckpecmlnbiaaDoor
open Go Go.Lite Go.RowKit

def rootM (nb : Nat) : NM := ⟨nb, none, 0, 0, none, 0, 0, none, 0, 0, []⟩
/-- a graph in the making -/
structure NP (w v : World) (r : HT) (A B E : Option Nat) (l : List HT) : Prop where
  kp : Kept Nil w v
  node : ∀ b, A = some b → w.heap.size ≤ b ∧ v.heap[b]? = some (.cells (ncell r (rootM b)) T_dag_node (0, 0))
  list : ∀ b, B = some b → w.heap.size ≤ b ∧ ∃ nb, A = some nb ∧ v.heap[b]? = some (.cells #[.pointer (some ⟨nb, 0, none⟩)] T_p_dag_node (0, 0))
  map : ∀ b, E = some b → w.heap.size ≤ b ∧ IsMap v b l
section
variable {w v : World} {r : HT} {A B E : Option Nat} {l : List HT} {K : Value → World → Prop}
theorem NP.grow (h : NP w v r A B E l) (o : Obj) : NP w (v.alloc o) r A B E l :=
  ⟨h.kp.alloc o, fun b e => ⟨(h.node b e).1, old_blk (h.node b e).2 o⟩, fun b e => ⟨(h.list b e).1, let ⟨nb, h1, h2⟩ := (h.list b e).2; ⟨nb, h1, old_blk h2 o⟩⟩, fun b e => ⟨(h.map b e).1, (h.map b e).2.keep ((Kept.refl Nil v).alloc o) (fun h => h)⟩⟩
theorem NP.addNode (h : NP w v r none none E l) : NP w (v.alloc (.cells (ncell r (rootM v.heap.size)) T_dag_node)) r (some v.heap.size) none E l :=
  have g := h.grow (.cells (ncell r (rootM v.heap.size)) T_dag_node)
  ⟨g.kp, fun b e => by cases e; exact ⟨h.kp.size, new_blk v _⟩, fun b e => (by cases e), g.map⟩
theorem NP.addList {nb : Nat} (h : NP w v r (some nb) none E l) : NP w (v.alloc (.cells #[.pointer (some ⟨nb, 0, none⟩)] T_p_dag_node)) r (some nb) (some v.heap.size) E l :=
  have g := h.grow (.cells #[.pointer (some ⟨nb, 0, none⟩)] T_p_dag_node)
  ⟨g.kp, g.node, fun b e => by cases e; exact ⟨h.kp.size, nb, rfl, new_blk v _⟩, g.map⟩
theorem NP.addMap (h : NP w v r A B none []) : NP w (v.alloc (.map #[] 0)) r A B (some v.heap.size) [] :=
  have g := h.grow (.map #[] 0)
  ⟨g.kp, g.node, g.list, fun b e => by cases e; exact ⟨h.kp.size, ⟨#[], 0, new_blk v _, trivial⟩⟩⟩
theorem NP.put {mb : Nat} (h : NP w v r A B (some mb) []) : ∃ v', (Instr.mapUpdate T_map_api_Hash_int (.map (some mb)) (.agg r.1) (.int .i64 0)).run Tryd.prog v = .ok () v' ∧ NP w v' r A B (some mb) [r] := by
  obtain ⟨h1, h2⟩ := h.map mb rfl
  obtain ⟨v', hr, hm, hk⟩ := h2.put (h := r) (by simp)
  have tyM : ∀ {k : Nat} {cs : Array Value} {t : TypeId}, v.heap[k]? = some (.cells cs t (0, 0)) → ¬ (k = mb) := fun hk e => by
    obtain ⟨es, clock, hmp, _⟩ := h2.ex
    rw [e, hmp] at hk
    cases hk
  refine ⟨v', hr, h.kp.trans hk (fun k hk e => by omega), fun b e => ⟨(h.node b e).1, hk.heap (h.node b e).2 (tyM (h.node b e).2)⟩, fun b e => ⟨(h.list b e).1, ?_⟩, fun b e => by cases e; exact ⟨h1, hm⟩⟩
  obtain ⟨nb, e1, e2⟩ := (h.list b e).2
  exact ⟨nb, e1, hk.heap e2 (tyM e2)⟩
theorem root_none (r : HT) {a b : HT} : ¬ Par [(⟨r, []⟩ : DN)] a b := fun ⟨nd, h1, _, h2⟩ => by
  simp at h1
  subst h1
  simp at h2
theorem root_anc (r : HT) {a b : HT} : ¬ Anc [(⟨r, []⟩ : DN)] a b := fun h => by
  cases h with
  | one h => exact root_none r h
  | more _ h => exact root_none r h
theorem NP.fin {w0 : World} {nb lb mb : Nat} (h : NP w v r (some nb) (some lb) (some mb) [r]) (hw : w0.heap.size ≤ w.heap.size) :
    IsG (v.alloc (.cells #[.slice (some ⟨lb, 0, none⟩) 1 1, .map (some mb)] T_dag_Graph)) (fun k => w0.heap.size ≤ k ∧ k < (v.alloc (.cells #[.slice (some ⟨lb, 0, none⟩) 1 1, .map (some mb)] T_dag_Graph)).heap.size) (fun _ => False) v.heap.size [⟨r, []⟩] := by
  have g := h.grow (.cells #[.slice (some ⟨lb, 0, none⟩) 1 1, .map (some mb)] T_dag_Graph)
  have htop := new_blk v (.cells #[.slice (some ⟨lb, 0, none⟩) 1 1, .map (some mb)] T_dag_Graph)
  generalize v.alloc (.cells #[.slice (some ⟨lb, 0, none⟩) 1 1, .map (some mb)] T_dag_Graph) = u at g htop
  have hs := h.kp.size
  obtain ⟨n1, n2⟩ := g.node nb rfl
  obtain ⟨l1, nb', e, l2⟩ := g.list lb rfl
  cases e
  obtain ⟨m1, m2⟩ := g.map mb rfl
  have hch : childL [⟨r, []⟩] r = [] := by
    cases hc : childL [⟨r, []⟩] r with
    | nil => rfl
    | cons b t => exact absurd (mem_pick.1 (show b ∈ childL [⟨r, []⟩] r by rw [hc]; simp)).2 (root_none r)
  refine ⟨lb, 1, mb, [rootM nb], htop, Row.made (n := 1) (cur := #[.pointer (some ⟨nb, 0, none⟩)]) l2 (Nat.zero_le _) rfl (by decide), m2, rfl, fun i nd m hi hm => ?_, fun i j m m' h1 h2 hne k hk => ?_, ⟨by omega, lt_blk htop⟩, ⟨by omega, lt_blk l2⟩, ⟨by omega, m2.lt⟩, fun _ _ h => h, fun k hk => hk.elim (fun h => h.2) (fun h => h.elim)⟩
  · cases i with
    | zero =>
      simp at hi hm
      subst hi
      subst hm
      refine ⟨n2, ⟨Nat.le_trans hw n1, lt_blk n2⟩, HS.nil _ _, (fun a ha => by cases ha), ?_, (fun k hk => by cases hk), ⟨rfl, fun i x hx => by simp [rootM] at hx⟩, (fun a ha => by cases ha), by simp [okW, rootM], fun j => ?_, by simp [rootM]⟩
      · show HRow u 0 none 0 0 (childL [⟨r, []⟩] r)
        rw [hch]
        exact HRow.nil _ _
      · show bit [] j = true ↔ _
        rw [bit_nil]
        exact ⟨(fun h => by cases h), fun ⟨nj, _, h⟩ => absurd h (root_anc r)⟩
    | succ i => simp at hi
  · have hm : m = rootM nb := by
      have := List.mem_of_getElem? h1
      simpa using this
    subst hm
    cases hk

theorem dag_New_ok (r : HT) (hK : ∀ v gb, IsG v (fun k => w.heap.size ≤ k ∧ k < v.heap.size) (fun _ => False) gb [⟨r, []⟩] → Kept Nil w v → K (.pointer (some ⟨gb, 0, none⟩)) v) :
    Ret Tryd.prog dag_New.id #[.agg r.1] w K := by
  refine dag_New.of ?_
  unfold dag_New.W
  intro w2 w3
  have k2 : Kept Nil w w2 := (Kept.refl _ _).alloc _
  have hb2 : w2.heap[w.heap.size]? = some (.cells r.1 T_api_Hash (0, 0)) := new_blk w _
  have k3 : Kept Nil w w3 := k2.drew
  have hb3 : w3.heap[w.heap.size]? = some (.cells r.1 T_api_Hash (0, 0)) := hb2
  clear_value w3
  have N3 : NP w3 w3 r none none none [] := ⟨Kept.refl _ _, (fun b e => by cases e), (fun b e => by cases e), (fun b e => by cases e)⟩
  have hcs : ∀ {v : World}, Kept Nil w3 v → ∃ cs : Array Value, (.agg r.1 : Value) = .agg cs ∧ cs.size = 32 ∧ Cells v (⟨w.heap.size, 0, none⟩ : Addr) cs := fun k => ⟨r.1, rfl, r.2.1, Cells.blk (k.heap hb3 (fun h => h))⟩
  have hfin : ∀ {v : World} {nb lb mb : Nat}, NP w3 v r (some nb) (some lb) (some mb) [r] → K (.pointer (some ⟨v.heap.size, 0, none⟩)) (v.alloc (.cells #[.slice (some ⟨lb, 0, none⟩) 1 1, .map (some mb)] T_dag_Graph)) := fun h => hK _ _ (h.fin k3.size) ((k3.trans h.kp (fun _ _ h => h)).alloc _)
  refine ⟨r.1, ⟨r.2.1, Cells.blk hb3⟩, ?_⟩
  have hnode : ∀ b, Tryd.prog.built T_dag_node [(0, .agg r.1)] = some (ncell r (rootM b)) := fun b => builtRoot r b
  rw [hnode 0]
  refine Is.mk rfl ?_
  refine ⟨r.1, ⟨r.2.1, Cells.blk hb3⟩, ?_⟩
  refine ⟨?_, ?_⟩
  · have N7 : NP w3 (w3.alloc (.cells (ncell r (rootM w3.heap.size)) T_dag_node)) r (some w3.heap.size) none none [] := N3.addNode
    refine ⟨hcs N7.kp, ?_, ?_⟩
    · have N8 := N7.addList
      have N9 := N8.addMap
      obtain ⟨v, hr, N10⟩ := N9.put
      exact ⟨hcs N8.kp, hcs N9.kp, v, hr, hfin N10⟩
    · have N12 := N7.addMap
      refine ⟨hcs N12.kp, ?_, ?_⟩
      · have N13 := N12.addList
        obtain ⟨v, hr, N14⟩ := N13.put
        exact ⟨hcs N13.kp, v, hr, hfin N14⟩
      · obtain ⟨v, hr, N16⟩ := N12.put
        exact ⟨v, hr, hfin N16.addList⟩
  · have N19 := N3.addMap
    refine ⟨hcs N19.kp, hcs N19.kp, ?_, ?_⟩
    · have N20 : NP w3 ((w3.alloc (.map #[] 0)).alloc (.cells (ncell r (rootM (w3.alloc (.map #[] 0)).heap.size)) T_dag_node)) r (some (w3.alloc (.map #[] 0)).heap.size) none (some w3.heap.size) [] := N19.addNode
      refine ⟨hcs N20.kp, ?_, ?_⟩
      · have N21 := N20.addList
        obtain ⟨v, hr, N22⟩ := N21.put
        exact ⟨hcs N21.kp, v, hr, hfin N22⟩
      · obtain ⟨v, hr, N24⟩ := N20.put
        exact ⟨v, hr, hfin N24.addList⟩
    · obtain ⟨v, hr, N27⟩ := N19.put
      exact ⟨v, hr, hcs N27.kp, hfin N27.addNode.addList⟩
end
end Go.Proofs.YtljckpecmlnbiaaDoor
/-
  The program's Root, All, Copy.
-/
namespace Go.Proofs.YtljckpecmlnbiaaDoor
open Go Go.Lite Go.RowKit

section
variable {w w' : World} {S S' F : Nat → Prop} {g bl c mb : Nat} {D : DG} {C : HT → List HT} {M : List NM} {K : Value → World → Prop}
theorem dag_Root (G : GV w S F g D C bl c mb M) {nd : DN} (h0 : D[0]? = some nd) (hK : ∀ w', Kept Nil w w' → K (.agg nd.id.1) w') : Ret Tryd.prog dag_Graph_Root.id #[.pointer (some ⟨g, 0, none⟩)] w K := by
  refine dag_Graph_Root.of ?_
  unfold dag_Graph_Root.W
  intro w2
  have k2 : Kept Nil w w2 := (Kept.refl _ _).alloc _
  have hbox := box_set (w := w) (z := (#[.int .u8 0, .int .u8 0, .int .u8 0, .int .u8 0, .int .u8 0, .int .u8 0, .int .u8 0, .int .u8 0, .int .u8 0, .int .u8 0, .int .u8 0, .int .u8 0, .int .u8 0, .int .u8 0, .int .u8 0, .int .u8 0, .int .u8 0, .int .u8 0, .int .u8 0, .int .u8 0, .int .u8 0, .int .u8 0, .int .u8 0, .int .u8 0, .int .u8 0, .int .u8 0, .int .u8 0, .int .u8 0, .int .u8 0, .int .u8 0, .int .u8 0, .int .u8 0] : Array Value)) (cs := nd.id.1) (t := T_api_Hash) (by rw [nd.id.2.1]; rfl)
  refine dag_there (G.same k2) ⟨true, rfl, Split.no rfl ?_⟩
  obtain ⟨m, hm, N⟩ := (G.same k2).get h0
  have hl := (List.getElem?_eq_some_iff.1 h0).1
  refine ⟨_, _, _, (G.same k2).nodes, ⟨by omega, by omega⟩, some ⟨m.b, 0, none⟩, (G.same k2).ptr hm, nd.id.1, ⟨nd.id.2.1, fun j v hj => ?_⟩, ⟨nd.id.2.1, nd.id.2.one, fun j hj => hbox.1 j (by rw [nd.id.2.1]; exact hj)⟩, ?_⟩
  · rw [add_zero, add_at, Nat.zero_add, cell_blk N.blk]
    exact ncell_id _ _ hj
  intro w18
  have hb18 : w18.heap[w.heap.size]? = some (.cells nd.id.1 T_api_Hash (0, 0)) := hbox.2.1
  have k18 : Kept Nil w w18 := hbox.2.2
  clear_value w18
  exact ⟨nd.id.1, ⟨nd.id.2.1, Cells.blk hb18⟩, hK w18 k18⟩

theorem dag_All (G : GV w S F g D C bl c mb M) (hK : ∀ w' pb, Kept Nil w w' → w'.heap[pb]? = some (.cells #[.slice (some ⟨bl, 0, none⟩) D.length c] T_sl_p_dag_node (0, 0)) → w.heap.size ≤ pb → K (.func (.func dag_Graph_All_fn1.id) #[] #[.pointer (some ⟨pb, 0, none⟩)]) w') :
    Ret Tryd.prog dag_Graph_All.id #[.pointer (some ⟨g, 0, none⟩)] w K := by
  refine dag_Graph_All.of ?_
  unfold dag_Graph_All.W
  intro w2
  have k2 : Kept Nil w w2 := (Kept.refl _ _).alloc _
  have hb2 : w2.heap[w.heap.size]? = some (.cells #[.slice none 0 0] T_sl_p_dag_node (0, 0)) := new_blk w _
  clear_value w2
  refine dag_there (G.same k2) ⟨true, rfl, Split.yes rfl ⟨_, _, _, (G.same k2).nodes, wr_blk hb2 (by simp), ?_⟩⟩
  intro w8
  have k8 : Kept (· = w.heap.size) w2 w8 := Kept.setCell (S := fun k => k = w.heap.size) (Kept.refl _ w2) (p := ⟨w.heap.size, 0, none⟩) (fun _ => rfl) _
  have hb8 : w8.heap[w.heap.size]? = some (.cells #[.slice (some ⟨bl, 0, none⟩) D.length c] T_sl_p_dag_node (0, 0)) := set_blk hb2 0 _
  clear_value w8
  exact hK w8 w.heap.size (k2.trans k8 (fun k hk e => by omega)) hb8 (Nat.le_refl _)
/-- All goes over all -/
theorem graph_iter (hD : D.length ≤ 10000) (p : Addr) :
    Iterates Tryd.prog dag_Graph_All_fn1.id #[] #[.pointer (some p)] ((ids D).map encH) (fun w => GV w S F g D C bl c mb M ∧ w.cell? p = some (.slice (some ⟨bl, 0, none⟩) D.length c)) := by
  intro y I Q w0 hI hQ hpre h0 hround
  refine dag_Graph_All_fn1.of ?_
  obtain ⟨_, hp0⟩ := hpre 0 w0 h0
  refine ⟨_, _, _, hp0, ?_⟩
  refine dag_Graph_All_fn1.loop1 (I := fun s w' => ∃ i : Nat, s = (i : Int) ∧ i ≤ D.length ∧ I i w') (μ := fun s _ => ((D.length : Int) - s).toNat) (s := 0) ⟨0, rfl, Nat.zero_le _, h0⟩ ?_
  rintro s w' ⟨i, rfl, hi, hw⟩
  refine Split.dec (fun hil0 => ?_) (fun hge => ?_)
  · have hil : i < D.length := by omega
    obtain ⟨nd, hnd⟩ : ∃ nd, D[i]? = some nd := ⟨_, List.getElem?_eq_getElem hil⟩
    have G := (hpre i w' hw).1
    obtain ⟨m, hm, N⟩ := G.get hnd
    refine ⟨⟨by omega, by omega⟩, some ⟨m.b, 0, none⟩, by rw [Int.toNat_natCast]; exact G.ptr hm, nd.id.1, ⟨nd.id.2.1, fun j v hj => ?_⟩, ?_⟩
    · rw [add_zero, add_at, Nat.zero_add, cell_blk N.blk]
      exact ncell_id _ _ hj
    refine (hround i (encH nd.id) w' (by rw [List.getElem?_map, ids_get hnd]; rfl) hw).mono ?_
    rintro b w'' ⟨ht, hf⟩
    cases b with
    | true =>
      refine Split.no rfl ?_
      rw [wrapP (n := (i : Int)) (by omega) (by omega)]
      exact ⟨(i : Int) + 1, rfl, ⟨i + 1, rfl, hil, ht rfl⟩, by simp only; omega⟩
    | false =>
      refine Split.yes rfl ?_
      exact Or.inr (hf rfl)
  · rw [roundQ_exit, dag_Graph_All_fn1.x1_0]
    have e : i = D.length := by omega
    subst e
    refine Or.inl ?_
    rw [List.length_map, ids_len]
    exact hw
end
end Go.Proofs.YtljckpecmlnbiaaDoor
/-
  The program's Copy.
-/
namespace Go.Proofs.YtljckpecmlnbiaaDoor
open Go Go.Lite Go.RowKit

theorem ncell_one (h : HT) (m : NM) : ∀ u ∈ (ncell h m).toList, u.oneCell' = true := fun u hu => by
  unfold ncell at hu
  rw [Array.toList_append, List.mem_append] at hu
  rcases hu with hu | hu
  · exact h.2.one u hu
  · simp at hu
    rcases hu with rfl | rfl | rfl <;> rfl
theorem run_cloneMap {w : World} {b : Nat} {es : Array MapEntry} {clock : Nat} (hb : w.heap[b]? = some (.map es clock)) {K : Value → World → Prop} (hK : K (.map (some w.heap.size)) (w.alloc (.map es clock))) :
    Ret Tryd.prog maps_Clone_of_int.id #[.map (some b)] w K := by
  refine Calls.mono (AnyW.maps_Clone Tryd.cloneL b es clock w hb) ?_
  rintro e w' ⟨rfl, rfl⟩
  exact ⟨_, rfl, hK⟩

section
variable {w w' : World} {S S' F : Nat → Prop} {g bl c mb : Nat} {D : DG} {C : HT → List HT} {M : List NM} {K : Value → World → Prop}
theorem NodeAt.keepT {ch : List HT} {nd : DN} {m : NM} {S0 : Nat → Prop} (h : NodeAt w S F D ch nd m) (hk : Kept S0 w w') (hb : ¬ S0 m.b) (hc : ∀ k, blkOf m.cA = some k → ¬ S0 k) (hF : ∀ k, F k → ¬ S0 k) (hS : ∀ k, S k → S' k) : NodeAt w' S' F D ch nd m :=
  ⟨hk.heap h.blk hb, hS _ h.footB, h.ps.keep hk (fun a ha => hF _ (h.psF a ha)), h.psF, Row.keep h.ch hk hc, fun k e => hS _ (h.chF k e), h.past.keep hk (fun a ha => hF _ (h.pastF a ha)), h.pastF, h.ok, h.bits, h.small⟩
/-- a copy in the making: i nodes -/
structure CP (w w' : World) (F : Nat → Prop) (D : DG) (C : HT → List HT) (o mb i : Nat) (A : Option Addr) (c : Nat) (M : List NM) : Prop where
  top : w'.heap[o]? = some (.cells #[.slice A i c, .map (some mb)] T_dag_Graph (0, 0))
  row : Row w' w.heap.size T_p_dag_node 1 A i c (M.map fun m => .pointer (some ⟨m.b, 0, none⟩))
  len : M.length = i
  map : IsMap w' mb (ids D)
  node : ∀ (j : Nat) nd m, D[j]? = some nd → M[j]? = some m → NodeAt w' (fun k => w.heap.size ≤ k ∧ k < w'.heap.size) F D (C nd.id) nd m
  apart : ∀ (i j : Nat) m m', M[i]? = some m → M[j]? = some m' → i ≠ j → ∀ k, blkOf m.cA = some k → blkOf m'.cA ≠ some k
  ho : w.heap.size ≤ o
  hm : w.heap.size ≤ mb
  kp : Kept Nil w w'

theorem dag_Copy (G : GV w S F g D (childL D) bl c mb M) (hD : D.length ≤ 10000) (hpos : 0 < D.length)
    (hK : ∀ v o, IsG v (fun k => w.heap.size ≤ k ∧ k < v.heap.size) F o D → Kept Nil w v → K (.pointer (some ⟨o, 0, none⟩)) v) :
    Ret Tryd.prog dag_Graph_Copy.id #[.pointer (some ⟨g, 0, none⟩)] w K := by
  have hFlt : ∀ k, F k → k < w.heap.size := fun k hk => G.low k (.inr hk)
  refine dag_Graph_Copy.of (dag_there G ⟨true, rfl, Split.no rfl ⟨some mb, G.at_, ?_⟩⟩)
  obtain ⟨es, clock, hmp, hents⟩ := G.map.ex
  refine run_cloneMap hmp ⟨some w.heap.size, rfl, ?_⟩
  intro w10
  have k8 : Kept Nil w (w.alloc (.map es clock)) := (Kept.refl _ _).alloc _
  have hm8 : (w.alloc (.map es clock)).heap[w.heap.size]? = some (.map es clock) := new_blk w _
  have k10 : Kept Nil w w10 := k8.alloc _
  have ho10 : w10.heap[(w.alloc (.map es clock)).heap.size]? = some (.cells #[.slice none 0 0, .map (some w.heap.size)] T_dag_Graph (0, 0)) := new_blk (w.alloc (.map es clock)) _
  have hm10 : w10.heap[w.heap.size]? = some (.map es clock) := old_blk hm8 _
  clear_value w10
  have hs8 := k8.size
  generalize (w.alloc (.map es clock)) = w8 at k8 hm8 k10 ho10 hm10 hs8 ⊢
  refine ⟨_, _, _, (G.same k10).nodes, ?_⟩
  refine dag_Graph_Copy.loop1 (I := fun s v => ∃ (i : Nat) (A : Option Addr) (c' : Nat) (M' : List NM), s = (i : Int) ∧ i ≤ D.length ∧ CP w v F D (childL D) w8.heap.size w.heap.size i A c' M') (μ := fun s _ => ((D.length : Int) - s).toNat) (s := 0)
    ⟨0, none, 0, [], rfl, Nat.zero_le _, ⟨ho10, Row.nil _ _ _ _, rfl, ⟨es, clock, hm10, hents⟩, fun j nd m _ h => by simp at h, fun i j m m' h => by simp at h, hs8, Nat.le_refl _, k10⟩⟩ ?_
  rintro s v ⟨i, A, c', M', rfl, hi, P⟩
  refine Split.dec (fun hil0 => ?_) (fun hge => ?_)
  · have hil : i < D.length := by omega
    obtain ⟨nd, hnd⟩ : ∃ nd, D[i]? = some nd := ⟨_, List.getElem?_eq_getElem hil⟩
    have Gv := G.same P.kp
    obtain ⟨m, hm, N⟩ := Gv.get hnd
    refine ⟨⟨by omega, by omega⟩, some ⟨m.b, 0, none⟩, by rw [Int.toNat_natCast]; exact Gv.ptr hm, ncell nd.id m, ⟨ncell_size _ _, Cells.blk N.blk⟩, ?_⟩
    intro w22
    have hsz := ncell_size nd.id m
    obtain ⟨hwr, hbx, hkx⟩ := box_set (w := v) (z := (#[.int .u8 0, .int .u8 0, .int .u8 0, .int .u8 0, .int .u8 0, .int .u8 0, .int .u8 0, .int .u8 0, .int .u8 0, .int .u8 0, .int .u8 0, .int .u8 0, .int .u8 0, .int .u8 0, .int .u8 0, .int .u8 0, .int .u8 0, .int .u8 0, .int .u8 0, .int .u8 0, .int .u8 0, .int .u8 0, .int .u8 0, .int .u8 0, .int .u8 0, .int .u8 0, .int .u8 0, .int .u8 0, .int .u8 0, .int .u8 0, .int .u8 0, .int .u8 0, .slice none 0 0, .slice none 0 0, .slice none 0 0] : Array Value)) (cs := ncell nd.id m) (t := T_dag_node) (by rw [hsz]; rfl)
    refine ⟨⟨hsz, ncell_one _ _, fun j hj => hwr j (by rw [hsz]; exact hj)⟩, ?_⟩
    intro w25
    replace hbx : w25.heap[v.heap.size]? = some (.cells (ncell nd.id m) T_dag_node (0, 0)) := hbx
    replace hkx : Kept Nil v w25 := hkx
    clear_value w25
    have G25 := Gv.same hkx
    obtain ⟨m2, hm2, N25⟩ := G25.get hnd
    rw [hm] at hm2
    cases hm2
    have hchl := N25.ch.len
    have hcl := pick_len D fun a => Par D nd.id a
    refine ⟨m.cA, m.cn, m.cc, node_ch N25, ?_⟩
    refine clone_hash N25.ch.hs (by rw [← hchl]; unfold childL; omega) fun A33 c33 w29 row29 k29 => ⟨A33, _, c33, rfl, ?_⟩
    have hbx29 := k29.heap hbx (fun h => h)
    refine ⟨by rw [add_at, Nat.zero_add]; exact wr_blk hbx29 (by omega), ?_⟩
    intro w31
    have k31 : Kept (· = v.heap.size) w29 w31 := by
      show Kept (· = v.heap.size) w29 (w29.setCell ((⟨v.heap.size, 0, none⟩ : Addr).add 33) (.slice A33 m.cn c33))
      exact Kept.setCell (S := fun k => k = v.heap.size) (Kept.refl _ w29) (by rw [addr_block]; exact fun _ => rfl) _
    have hb31 : w31.heap[v.heap.size]? = some (.cells (ncell nd.id { m with b := v.heap.size, cA := A33, cn := m.cn, cc := c33 }) T_dag_node (0, 0)) := by
      show (w29.setCell ((⟨v.heap.size, 0, none⟩ : Addr).add 33) (.slice A33 m.cn c33)).heap[v.heap.size]? = _
      rw [add_at, Nat.zero_add, set_blk hbx29 33, ncell_set33]
      rfl
    clear_value w31
    have hs25 := hkx.size
    have hs29 := k29.size
    have k131 : Kept Nil v w31 := (hkx.trans k29 (fun _ _ h => h)).trans k31 (fun k hk e => by omega)
    have htop31 := k131.heap P.top (fun h => h)
    refine ⟨A, i, c', by rw [add_zero, cell_blk htop31]; rfl, ?_⟩
    intro w33
    have k33 : Kept Nil w31 w33 := (Kept.refl _ _).alloc _
    have hb33 : w33.heap[w31.heap.size]? = some (.cells #[.pointer (some ⟨v.heap.size, 0, none⟩)] T_p_dag_node (0, 0)) := new_blk w31 _
    clear_value w33
    have k133 : Kept Nil v w33 := k131.trans k33 (fun _ _ h => h)
    have row33 : Row w33 w.heap.size T_p_dag_node 1 A i c' (M'.map fun m => .pointer (some ⟨m.b, 0, none⟩)) := Row.keep P.row k133 (fun _ _ h => h)
    have hsv := P.kp.size
    have hs133 := k133.size
    obtain ⟨A4, c4, w35, hr35, row35, hg35, hb35⟩ := append_row (P := Tryd.prog) (t := T_sl_p_dag_node) (ty := T_sl_p_dag_node) (bytes := 8) slPtr row33 (a := ⟨w31.heap.size, 0, none⟩) (m := 1) (cx := 1) (news := [.pointer (some ⟨v.heap.size, 0, none⟩)]) rfl
      (fun j u hj => by rw [add_at, Nat.zero_add, cell_blk hb33]; simpa using hj) (fun u hu => by simp at hu; subst hu; rfl) (by omega) (by unfold maxLen; omega) (by omega)
    have k35 : Kept (fun k => blkOf A = some k) w33 w35 := Kept.grown (Kept.refl _ _) hg35 (fun k hk _ => hk)
    have tyA : ∀ {k : Nat} {cs : Array Value} {t : TypeId}, w33.heap[k]? = some (.cells cs t (0, 0)) → t ≠ T_p_dag_node → ¬ blkOf A = some k := fun hk hne e => by
      obtain ⟨_, cur, hc⟩ := Row.blk row33 e
      exact ne_typ hk hc hne rfl
    have htop33 := k33.heap htop31 (fun h => h)
    have htop35 := k35.heap htop33 (tyA htop33 (by decide))
    refine ⟨A4, i + 1, c4, w35, hr35, by rw [add_zero]; exact wr_blk htop35 (by simp), ?_⟩
    intro w36
    have k36 : Kept (· = w8.heap.size) w35 w36 := by
      show Kept (· = w8.heap.size) w35 (w35.setCell ((⟨w8.heap.size, 0, none⟩ : Addr).add 0) (.slice A4 (i + 1) c4))
      exact Kept.setCell (S := fun k => k = w8.heap.size) (Kept.refl _ w35) (by rw [addr_block]; exact fun _ => rfl) _
    have htop36 : w36.heap[w8.heap.size]? = some (.cells #[.slice A4 (i + 1) c4, .map (some w.heap.size)] T_dag_Graph (0, 0)) := by
      show (w35.setCell ((⟨w8.heap.size, 0, none⟩ : Addr).add 0) (.slice A4 (i + 1) c4)).heap[w8.heap.size]? = _
      rw [add_zero, set_blk htop35 0]
      rfl
    clear_value w36
    have k3336 : Kept (fun k => blkOf A = some k ∨ k = w8.heap.size) w33 w36 := (k35.mono (S' := fun k => blkOf A = some k ∨ k = w8.heap.size) (fun _ _ h => .inl h)).trans k36 (fun _ _ h => .inr h)
    have kall : Kept (fun k => blkOf A = some k ∨ k = w8.heap.size) v w36 := (k133.mono (S' := fun k => blkOf A = some k ∨ k = w8.heap.size) (fun _ _ h => h.elim)).trans k3336 (fun _ _ h => h)
    have hAge : ∀ k, blkOf A = some k → w.heap.size ≤ k := fun k hk => (Row.blk P.row hk).1
    have hTF : ∀ k, F k → ¬ (blkOf A = some k ∨ k = w8.heap.size) := fun k hk e => by
      have := hFlt k hk
      rcases e with e | e
      · have := hAge k e; omega
      · have := P.ho; omega
    have ty36 : ∀ {k : Nat} {cs : Array Value} {t : TypeId}, w33.heap[k]? = some (.cells cs t (0, 0)) → t ≠ T_p_dag_node → t ≠ T_dag_Graph → ¬ (blkOf A = some k ∨ k = w8.heap.size) := fun hk h1 h2 e => by
      rcases e with e | e
      · exact tyA hk h1 e
      · rw [e] at hk
        exact ne_typ hk htop33 h2 rfl
    have kw36 : Kept Nil w w36 := P.kp.trans kall (fun k hk e => by
      rcases e with e | e
      · have := hAge k e; omega
      · have := P.ho; omega)
    have hs36 := kall.size
    have hb33' := k33.heap hb31 (fun h => h)
    have hb36 := k3336.heap hb33' (ty36 hb33' (by decide) (by decide))
    have row3133 : HRow w33 w25.heap.size A33 m.cn c33 (childL D nd.id) := Row.keep (Row.keep row29 k31 (fun k hk e => by
      obtain ⟨_, cur, hc⟩ := Row.blk row29 hk
      subst e
      exact ne_typ hbx29 hc (by decide) rfl)) k33 (fun _ _ h => h)
    have row36 : HRow w36 w25.heap.size A33 m.cn c33 (childL D nd.id) := Row.keep row3133 k3336 (fun k hk e => by
      obtain ⟨_, cur, hc⟩ := Row.blk row3133 hk
      exact ty36 hc (by decide) (by decide) e)
    have hb36l := lt_blk hb36
    rw [wrapP (n := (i : Int)) (by omega) (by omega)]
    have hget : ∀ (j : Nat) (z : NM), (M' ++ [{ m with b := v.heap.size, cA := A33, cn := m.cn, cc := c33 }])[j]? = some z → (j < i ∧ M'[j]? = some z) ∨ (j = i ∧ z = { m with b := v.heap.size, cA := A33, cn := m.cn, cc := c33 }) := fun j z e => by
      have hl := P.len
      rw [List.getElem?_append] at e
      split at e
      · exact .inl ⟨by omega, e⟩
      · cases hk : j - M'.length with
        | zero => rw [hk] at e; exact .inr ⟨by omega, by simpa using e.symm⟩
        | succ k => rw [hk] at e; simp at e
    refine ⟨(i : Int) + 1, rfl, ⟨i + 1, A4, c4, M' ++ [{ m with b := v.heap.size, cA := A33, cn := m.cn, cc := c33 }], rfl, hil, ?_⟩, by simp only; omega⟩
    refine ⟨htop36, ?_, by simp [P.len], ?_, fun j nd' m' h1 h2 => ?_, fun j j' m1 m2 h1 h2 hne k hk hk' => ?_, P.ho, P.hm, kw36⟩
    · rw [List.map_append]
      exact Row.keep row35 k36 (fun k hk e => by
        obtain ⟨_, cur, hc⟩ := Row.blk row35 hk
        exact ne_typ hc htop35 (by decide) e)
    · have h1 := P.map.keep k133 (fun h => h)
      refine h1.keep k3336 (fun e => ?_)
      obtain ⟨_, _, hm', _⟩ := h1.ex
      rcases e with e | e
      · obtain ⟨_, cur, hc⟩ := Row.blk row33 e
        rw [hc] at hm'
        cases hm'
      · rw [e, htop33] at hm'
        cases hm'
    · rcases hget j m' h2 with ⟨hj, h2'⟩ | ⟨rfl, rfl⟩
      · have N1 := P.node j nd' m' h1 h2'
        have N2 : NodeAt w33 (fun k => w.heap.size ≤ k ∧ k < v.heap.size) F D (childL D nd'.id) nd' m' := N1.keepT k133 (fun h => h) (fun _ _ h => h) (fun _ _ h => h) (fun _ h => h)
        exact N2.keepT k3336 (ty36 N2.blk (by decide) (by decide)) (fun k hk => by
          obtain ⟨cur, hc⟩ := (Row.blk N2.ch hk).2
          exact ty36 hc (by decide) (by decide)) hTF (fun k hk => ⟨hk.1, by omega⟩)
      · rw [hnd] at h1
        cases h1
        refine ⟨hb36, ⟨hsv, hb36l⟩, N.ps.keep kall (fun a ha => hTF _ (N.psF a ha)), N.psF, Row.base row36 (fun _ _ => Nat.zero_le _), fun k hk => ?_, N.past.keep kall (fun a ha => hTF _ (N.pastF a ha)), N.pastF, N.ok, N.bits, N.small⟩
        obtain ⟨h3, cur, hc⟩ := Row.blk row36 hk
        exact ⟨by omega, lt_blk hc⟩
    · rcases hget j m1 h1 with ⟨hj, h1'⟩ | ⟨rfl, rfl⟩
      · rcases hget j' m2 h2 with ⟨hj', h2'⟩ | ⟨rfl, rfl⟩
        · exact P.apart j j' m1 m2 h1' h2' hne k hk hk'
        · have h3 := (Row.blk row36 hk').1
          have hjl : j < D.length := by omega
          obtain ⟨cur, hc⟩ := (Row.blk (P.node j _ m1 (List.getElem?_eq_getElem hjl) h1').ch hk).2
          have := lt_blk hc
          omega
      · rcases hget j' m2 h2 with ⟨hj', h2'⟩ | ⟨rfl, rfl⟩
        · have h3 := (Row.blk row36 hk).1
          have hjl : j' < D.length := by omega
          obtain ⟨cur, hc⟩ := (Row.blk (P.node j' _ m2 (List.getElem?_eq_getElem hjl) h2').ch hk').2
          have := lt_blk hc
          omega
        · exact hne rfl
  · have : i = D.length := by omega
    subst this
    rw [roundQ_exit, dag_Graph_Copy.x1_0]
    obtain ⟨b, rfl⟩ := Row.some P.row hpos
    refine hK v _ ⟨b, c', w.heap.size, M', P.top, Row.base P.row (fun _ _ => Nat.zero_le _), P.map, P.len, P.node, P.apart, ⟨P.ho, lt_blk P.top⟩, ?_, ⟨P.hm, P.map.lt⟩, fun k hk hf => by have := hFlt k hf; omega, fun k hk => ?_⟩ P.kp
    · obtain ⟨h1, cur, hc⟩ := Row.blk P.row (k := b) rfl
      exact ⟨h1, lt_blk hc⟩
    · rcases hk with hk | hk
      · exact hk.2
      · have := hFlt k hk; have := P.kp.size; omega
end
end Go.Proofs.YtljckpecmlnbiaaDoor
