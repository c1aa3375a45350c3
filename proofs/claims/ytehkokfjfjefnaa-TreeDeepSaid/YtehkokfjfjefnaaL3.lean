/-
  The operations that read or write memory, and calls: what 'readStep' and 'effStep' tell is what the machine does.
-/
import Derived.Test.YtehkokfjfjefnaaL2
import Derived.Great.BuildSlice
import Derived.Great.FillDense
namespace Go.Lite

/-- it comes to a value and a world, of which .. -/
def DoV (P : Program) (s : Sem Value) (w : World) (k : Value → World → Prop) : Prop := ∃ v w', s.run P w = .ok v w' ∧ k v w'
/-- the same, of a slice -/
def DoSl (P : Program) (s : Sem Value) (w : World) (k : Value → World → Prop) : Prop := ∃ A n c w', s.run P w = .ok (.slice A n c) w' ∧ k (.slice A n c) w'
/-- the same, of nothing -/
def DoU (P : Program) (s : Sem Unit) (w : World) (k : Value → World → Prop) : Prop := ∃ w', s.run P w = .ok () w' ∧ k undef w'

/-- no function bears the one name that the machine answers itself -/
def NG (P : Program) : Prop := ∀ (g : Nat) fn, P.funcs[g]? = some fn → (fn.name == "runtime.NumGoroutine") = false

/-- a function's results, by their kinds -/
def ResL (P : Program) : List TypeId → List Value → (List Value → Prop) → Prop
  | [], acc, k => k acc
  | t :: ts, acc, k => Any (kdOf P t) fun v => ResL P ts (acc ++ [v]) k
def Res (P : Program) (ts : List TypeId) (v : Value) (k : Value → Prop) : Prop :=
  match ts with
  | [t] => Any (kdOf P t) fun u => v = u ∧ k u
  | ts => ResL P ts [] fun us => v = .tuple us.toArray ∧ k (.tuple us.toArray)
theorem ResL.out {P : Program} : ∀ {ts : List TypeId} {acc : List Value} {k : List Value → Prop}, ResL P ts acc k → ∃ us, k us
  | [], _, _, h => ⟨_, h⟩
  | _ :: _, _, _, h => let ⟨_, h⟩ := Any.out h; ResL.out h
theorem Res.out {P : Program} {ts : List TypeId} {v : Value} {k : Value → Prop} (h : Res P ts v k) : k v := by
  unfold Res at h
  split at h
  · obtain ⟨u, e, h'⟩ := Any.out h; rw [e]; exact h'
  · obtain ⟨us, e, h'⟩ := ResL.out h; rw [e]; exact h'
/-- a call that returns -/
def Ret (P : Program) (g : FuncId) (args : Array Value) (w : World) (k : Value → World → Prop) : Prop :=
  Calls P g args w fun e w' => ∃ v, e = .returned v ∧ k v w'

def LoadOK (P : Program) (t : TypeId) (a : Addr) (v : Value) (w : World) : Prop :=
  match kdOf P t with
  | .agg n => ∃ cs, v = .agg cs ∧ cs.size = n ∧ Cells w a cs
  | _ => w.cell? a = some v
def LoadA (P : Program) (t : TypeId) (a : Addr) (w : World) (k : Value → Prop) : Prop :=
  match kdOf P t with
  | .agg n => ∃ cs : Array Value, (cs.size = n ∧ Cells w a cs) ∧ k (.agg cs)
  | d => Cell d (w.cell? a) k
theorem LoadA.ok {P : Program} {t : TypeId} {a : Addr} {w : World} {k : Value → Prop} (h : LoadA P t a w k) : ∃ v, LoadOK P t a v w ∧ k v := by
  unfold LoadA at h
  split at h
  · rename_i n hn
    obtain ⟨cs, ⟨h1, h2⟩, h3⟩ := h
    exact ⟨_, by unfold LoadOK; rw [hn]; exact ⟨cs, rfl, h1, h2⟩, h3⟩
  · rename_i d hd
    obtain ⟨v, h1, h2⟩ := h.out
    refine ⟨v, ?_, h2⟩
    unfold LoadOK
    split
    · rename_i n hn; exact absurd hn (hd n)
    · exact h1
theorem LoadOK.run {P : Program} {t : TypeId} {a : Addr} {w : World} {v : Value} (h : LoadOK P t a v w) (hu : (P.underlying t).isSome) : (loadVar t a).run P w = .ok v w := by
  unfold LoadOK at h
  split at h
  · rename_i n hn
    obtain ⟨cs, rfl, h1, h2⟩ := h
    obtain ⟨rfl, ha⟩ := kdOf_agg hn
    obtain ⟨i, hi⟩ := info_of_underlying hu
    have hl := run_loadCells_list (P := P) w a cs.toList (fun j v hv => h2 j v (by simpa using hv))
    have : cs.toList.length = P.cellsOf t := by simpa using h1
    rw [this] at hl
    simp [loadVar, ha w, run_sizeOf hi, hl]
  · rename_i hd
    simp [loadVar, kdOf_not (fun n e => hd n e) hu w, h]

/-- what a reading operation reads: one cell or a run of them -/
def readStep (P : Program) (f : Operand → Value) (o : Oper) (w : World) (k : Value → Prop) : Prop :=
  match o.op with
  | .load t x => match f x, P.underlying t with | .pointer (some a), some _ => LoadA P t a w k | _, _ => False
  | _ => False
/-- .. and that it reads the same in another world -/
def readSame (P : Program) (f : Operand → Value) (o : Oper) (v : Value) (w : World) : Prop :=
  match o.op with
  | .load t x => match f x with | .pointer (some a) => LoadOK P t a v w | _ => False
  | _ => False
section
variable {P : Program} {f : Operand → Value} {o : Oper}
theorem readStep_sound {w : World} {k : Value → Prop} (h : readStep P f o w k) :
    ∃ v, readSame P f o v w ∧ (∀ w', readSame P f o v w' → (execOp f o).run P w' = .ok (.value v) w') ∧ k v := by
  unfold readStep at h
  split at h
  · rename_i t x ho
    split at h
    · rename_i a d hx hu
      obtain ⟨v, h1, h2⟩ := h.ok
      refine ⟨v, by simp only [readSame, ho, hx]; exact h1, fun w' hs => ?_, h2⟩
      simp only [readSame, ho, hx] at hs
      simp [execOp, ho, hx, Instr.loadAt, Instr.sureAddr, hs.run (by simp [hu])]
    · exact h.elim
  · exact h.elim
end

/-- may a cell be written? -/
def Wr (w : World) (a : Addr) : Prop := (∃ v, w.cell? a = some v) ∧ w.frozen? a = false
/-- a run of cells is written -/
def setCells (w : World) (a : Addr) : List Value → Nat → World
  | [], _ => w
  | v :: r, i => setCells (w.setCell (a.add i) v) a r (i + 1)

def sizesOk (size : Nat) : List Value → Prop → Prop
  | [], k => k
  | .agg cs :: r, k => cs.size = size ∧ sizesOk size r k
  | _ :: r, k => match Nat.beq size 1 with | true => sizesOk size r k | false => False

def StoreA (P : Program) (t : TypeId) (a : Addr) (v : Value) (w : World) (k : World → Prop) : Prop :=
  match kdOf P t, v with
  | .agg n, .agg cs => (cs.size = n ∧ (∀ c ∈ cs.toList, c.oneCell' = true) ∧ ∀ j, j < n → Wr w (a.add j)) ∧ k (setCells w a cs.toList 0)
  | .agg _, _ => False
  | _, v => match v.oneCell', P.info? t with
    | true, some inf => match inf.size with
      | 1 => Wr w a ∧ k (w.setCell a v)
      | _ => False
    | _, _ => False

def callStep (P : Program) (fv : Value) (args : List Value) (w : World) (k : Value → World → Prop) : Prop :=
  match fv with
  | .func (.func g) first caps =>
    match P.funcs[g]? with
    | some fn => match fn.body with
      | some _ => Ret P g (first.toList ++ args ++ caps.toList).toArray w fun v w' => Res P fn.resultTypes.toList v fun v => k v w'
      | none => False
    | none => False
  | _ => False

def effStep (P : Program) (f : Operand → Value) (o : Oper) (w : World) (k : Value → World → Prop) : Prop :=
  match o.op with
  | .alloc t => Is (P.info? t) fun i => Is i.zero fun z => k (.pointer (some ⟨w.heap.size, 0, none⟩)) (w.alloc (.cells z.cells t))
  | .box t x => k (.pointer (some ⟨w.heap.size, 0, none⟩)) (w.alloc (.cells (f x).cells t))
  | .buildSlice t len parts =>
    match P.underlying t with
    | some (.slice e) => Is (P.info? e) fun i => Is i.zero fun z =>
      match Nat.beq len 0 with
      | true => match parts.toList with
        | [] => k (.slice (some ⟨w.heap.size, 0, none⟩) 0 0) (w.alloc (.cells #[] e))
        | _ => False
      | false => match Nat.ble (len * i.size) 16777216 && Nat.beq z.cells.size i.size && Nat.ble 1 i.size && Nat.ble 1 len && (parts.toList.map (·.1) == List.range len) with
      | true => sizesOk i.size (parts.toList.map fun p => f p.2)
          (k (.slice (some ⟨w.heap.size, 0, none⟩) len len) (w.alloc (.cells ((parts.toList.map fun p => f p.2).flatMap fun v => v.cells.toList).toArray e)))
      | false => False
    | _ => False
  | .store t x y => match f x with | .pointer (some a) => StoreA P t a (f y) w (k undef) | _ => False
  | .makeSlice t l c => DoSl P (Instr.makeSlice t (f l) (f c)) w k
  | .makeMap t r => match r with | none => k (.map (some w.heap.size)) (w.alloc (.map #[] 0)) | some _ => DoV P (Instr.makeMap t (r.map f)) w k
  | .mapUpdate t m x y => DoU P (Instr.mapUpdate t (f m) (f x) (f y)) w k
  | .insert t m x y => DoU P (Instr.mapUpdate t (f m) (f x) (f y)) w k
  | .range t x => DoV P (Instr.range t (f x)) w k
  | .next x b => DoV P (Instr.next (f x) b o.type) w k
  | .call c =>
    match c.callee with
    | .value g => callStep P (f g) (c.args.toList.map f) w k
    | .builtin .append => DoSl P (Builtin.append_ c.argTypes o.type (c.args.toList.map f).toArray) w k
    | .builtin .copy => DoV P (Builtin.copy_ c.argTypes o.type (c.args.toList.map f).toArray) w k
    | .builtin .clear => DoV P (Builtin.clear_ c.argTypes o.type (c.args.toList.map f).toArray) w k
    | _ => False
  | _ => False

/-- what becomes of an operation that acts -/
def Acts (P : Program) (f : Operand → Value) (o : Oper) (w : World) (k : Value → World → Prop) : Prop :=
  (∃ v w', (execOp f o).run P w = .ok (.value v) w' ∧ k v w') ∨ (∃ w', (execOp f o).run P w = .ok .skip w' ∧ k undef w') ∨
  (∃ g args, (execOp f o).run P w = .ok (.enter g args) w ∧ Ret P g args w k)

section
variable {P : Program} {f : Operand → Value} {o : Oper} {w : World} {k : Value → World → Prop}

theorem sizesOk_out {size : Nat} {K : Prop} : ∀ {vs : List Value}, sizesOk size vs K → (∀ v ∈ vs, v.cells.size = size) ∧ K
  | [], h => ⟨by simp, h⟩
  | v :: r, h => by
    have key : v.cells.size = size ∧ sizesOk size r K := by
      cases v <;> simp only [sizesOk] at h
      case agg cs => exact ⟨by simpa [Value.cells] using h.1, h.2⟩
      all_goals
        split at h
        · rename_i hb
          exact ⟨by have := Nat.eq_of_beq_eq_true hb; simp [Value.cells, this], h⟩
        · exact h.elim
    obtain ⟨h1, h2⟩ := sizesOk_out key.2
    exact ⟨by intro u hu; rcases List.mem_cons.1 hu with rfl | hu; exact key.1; exact h1 u hu, h2⟩

theorem run_storeCells_set (a : Addr) : ∀ (vs : List Value) (i : Nat) (w : World), (∀ c ∈ vs, c.oneCell' = true) → (∀ j, j < vs.length → Wr w (a.add (i + j))) →
    (storeCells a vs i).run P w = .ok () (setCells w a vs i)
  | [], _, _, _, _ => rfl
  | v :: r, i, w, h1, hw => by
    obtain ⟨⟨u, hu⟩, hf⟩ := hw 0 (by simp)
    rw [Nat.add_zero] at hu hf
    have hv : v.oneCell' = true := h1 v (by simp)
    have hst : (store (a.add i) v).run P w = .ok () (w.setCell (a.add i) v) := by
      rw [run_store P w _ v _ hv]
      simp [hu, hf]
    rw [storeCells, Sem.run_bind, hst]
    simp only [Result.andThen_ok, setCells]
    refine run_storeCells_set a r (i + 1) _ (fun c hc => h1 c (by simp [hc])) fun j hj => ?_
    obtain ⟨⟨u', hu'⟩, hf'⟩ := hw (j + 1) (by simp; omega)
    rw [show i + 1 + j = i + (j + 1) from by omega]
    refine ⟨?_, by rw [World.frozen?_setCell]; exact hf'⟩
    by_cases e : a.add i = a.add (i + (j + 1))
    · exact ⟨v, by rw [← e]; exact World.cell?_setCell_same w _ _ hu⟩
    · exact ⟨u', by rw [World.cell?_setCell_other w _ _ _ e]; exact hu'⟩

theorem run_resolve_func {g : FuncId} {first caps : Array Value} {c : Call} {x : Operand} {t : TypeId} (hc : c.callee = .value x) (hx : f x = .func (.func g) first caps) {fn : Func} (hf : P.funcs[g]? = some fn) (hb : fn.body.isSome)
    (hng : NG P) : (do let d ← resolve f c t; invoke d.target d.args : Sem Next).run P w = .ok (.enter g (first ++ c.args.map f ++ caps)) w := by
  have hn := hng g fn hf
  have hb' : fn.body.isNone = false := by cases hbb : fn.body <;> simp_all
  simp only [resolve, hc, hx, Deferred.ofValue, Sem.run_bind, Sem.run_pure, Result.andThen_ok, invoke, callFunc, run_program, hf, hn, hb', Bool.false_eq_true, if_false]

set_option maxHeartbeats 400000 in
theorem effStep_sound (hng : NG P) (h : effStep P f o w k) : Acts P f o w k := by
  unfold effStep at h
  split at h
  · rename_i t ho
    obtain ⟨i, hi, h⟩ := h.out
    obtain ⟨z, hz, h⟩ := h.out
    exact .inl ⟨_, _, by simp [execOp, ho, Instr.alloc, zeroValue, typeInfo, hi, hz, newVar, newRow], h⟩
  · rename_i t x ho
    exact .inl ⟨_, _, by simp [execOp, ho, Instr.box, newVar, newRow], h⟩
  · rename_i t len parts ho
    split at h
    · rename_i e he
      obtain ⟨i, hi, hA⟩ := h.out
      obtain ⟨z, hz, hB⟩ := hA.out
      clear h hA
      split at hB
      · rename_i h0
        have h0 := Nat.eq_of_beq_eq_true h0
        subst h0
        split at hB
        · rename_i hp
          refine .inl ⟨_, _, ?_, hB⟩
          have hp' : parts = #[] := by apply Array.ext'; simpa using hp
          simp [execOp, ho, hp', Instr.buildSlice, run_underlying he, sizeOf, typeInfo, hi, newRow, Instr.fill, show Array.range 0 = #[] from rfl]
        · exact hB.elim
      rename_i h0
      have h := hB
      clear hB
      split at h
      · rename_i hb
        simp only [Bool.and_eq_true, Nat.ble_eq, beq_iff_eq] at hb
        obtain ⟨⟨⟨⟨hsm, hzs⟩, hpos⟩, hlen⟩, hparts⟩ := hb
        have hzs := Nat.eq_of_beq_eq_true hzs
        obtain ⟨hsz, h⟩ := sizesOk_out h
        have hvl : (parts.toList.map fun p => f p.2).length = len := by
          have := congrArg List.length hparts
          simpa using this
        have hfill := Great.fill_whole (s := i.size) hpos (parts.toList.map fun p => f p.2) ((Array.range (len * i.size)).map (z.cells[· % z.cells.size]!)) hsz (by rw [hvl]; simp)
        have hp : (parts.map fun (i, x) => (i, f x)).toList = ((parts.toList.map fun p => f p.2).zipIdx 0).map fun x => (x.2, x.1) := by
          apply List.ext_getElem?
          intro j
          have hj := congrArg (fun l : List Nat => l[j]?) hparts
          simp only [List.getElem?_map, Array.getElem?_toList] at hj
          simp only [Array.toList_map, List.getElem?_map, List.getElem?_zipIdx, Array.getElem?_toList]
          cases hpj : parts[j]? with
          | none => simp
          | some p =>
            rw [hpj] at hj
            obtain ⟨p1, p2⟩ := p
            simp only [Option.map_some] at hj
            obtain ⟨hlt, e⟩ := List.getElem?_eq_some_iff.1 hj.symm
            simp at e
            subst e
            simp
        have hr := run_buildSlice (P := P) w t e len (parts.map fun (i, x) => (i, f x)) _ i z he hi hz (by omega) (by have := Nat.mul_pos (show 0 < len from hlen) (show 0 < i.size from hpos); omega) (by rw [hp]; exact hfill)
        exact .inl ⟨_, _, by simp only [execOp, ho, Sem.run_bind, hr, Result.andThen_ok, Sem.run_pure], h⟩
      · exact h.elim
    · exact h.elim
  · rename_i t x y ho
    split at h
    · rename_i a hx
      unfold StoreA at h
      split at h
      · rename_i n cs hn hy
        obtain ⟨⟨h1, h2, h3⟩, h⟩ := h
        obtain ⟨rfl, ha⟩ := kdOf_agg hn
        have hu : (P.underlying t).isSome := by
          unfold kdOf at hn
          split at hn <;> simp_all
        obtain ⟨i, hi⟩ := info_of_underlying hu
        refine .inr (.inl ⟨_, ?_, h⟩)
        have hst := run_storeCells_set (P := P) a cs.toList 0 w h2 (fun j hj => by rw [Nat.zero_add]; exact h3 j (by rw [← h1]; simpa using hj))
        simp [execOp, ho, hx, hy, Instr.storeAt, Instr.sureAddr, storeVar, Value.cells, run_sizeOf hi, h1, hst]
      · exact h.elim
      · rename_i v hk hv
        split at h
        · rename_i inf h1 hi
          split at h
          · rename_i hs
            obtain ⟨hw, h⟩ := h
            refine .inr (.inl ⟨_, ?_, h⟩)
            have hc : (f y).cells = #[f y] := by cases hfy : f y <;> first | rfl | (simp [hfy, Value.oneCell'] at h1)
            have hst := run_storeCells_set (P := P) a [f y] 0 w (by simpa using h1) (fun j hj => by
              have : j = 0 := by simpa using hj
              subst this
              simpa [Addr.add] using hw)
            have hadd : setCells w a [f y] 0 = w.setCell a (f y) := by simp [setCells, Addr.add]
            rw [hadd] at hst
            simp [execOp, ho, hx, Instr.storeAt, Instr.sureAddr, storeVar, hc, sizeOf, typeInfo, hi, hs, hst]
          · exact h.elim
        · exact h.elim
    · exact h.elim
  · rename_i t l c ho
    obtain ⟨A, n, m, w', hr, h⟩ := h
    exact .inl ⟨_, _, by simp only [execOp, ho, Sem.run_bind, hr, Result.andThen_ok, Sem.run_pure], h⟩
  · rename_i t r ho
    split at h
    · exact .inl ⟨_, _, by simp [execOp, ho, Instr.makeMap], h⟩
    · obtain ⟨v, w', hr, h⟩ := h
      exact .inl ⟨_, _, by simp only [execOp, ho, Sem.run_bind, hr, Result.andThen_ok, Sem.run_pure], h⟩
  · rename_i t m x y ho
    obtain ⟨w', hr, h⟩ := h
    exact .inr (.inl ⟨_, by simp only [execOp, ho, Sem.run_bind, hr, Result.andThen_ok, Sem.run_pure], h⟩)
  · rename_i t m x y ho
    obtain ⟨w', hr, h⟩ := h
    exact .inr (.inl ⟨_, by simp only [execOp, ho, Sem.run_bind, hr, Result.andThen_ok, Sem.run_pure], h⟩)
  · rename_i t x ho
    obtain ⟨v, w', hr, h⟩ := h
    exact .inl ⟨_, _, by simp only [execOp, ho, Sem.run_bind, hr, Result.andThen_ok, Sem.run_pure], h⟩
  · rename_i x b ho
    obtain ⟨v, w', hr, h⟩ := h
    exact .inl ⟨_, _, by simp only [execOp, ho, Sem.run_bind, hr, Result.andThen_ok, Sem.run_pure], h⟩
  · rename_i c ho
    split at h
    · rename_i g hc
      unfold callStep at h
      split at h
      · rename_i g' first caps hg
        split at h
        · rename_i fn hf
          split at h
          · rename_i b hb
            refine .inr (.inr ⟨g', first ++ c.args.map f ++ caps, ?_, ?_⟩)
            · have := run_resolve_func (P := P) (w := w) (t := o.type) hc hg hf (by simp [hb]) hng
              simpa only [execOp, ho] using this
            · have e : first ++ c.args.map f ++ caps = (first.toList ++ c.args.toList.map f ++ caps.toList).toArray := by
                apply Array.ext'
                simp
              rw [e]
              exact Calls.mono h fun e w' ⟨v, he, hr⟩ => ⟨v, he, hr.out⟩
          · exact h.elim
        · exact h.elim
      · exact h.elim
    · rename_i hc
      obtain ⟨A, n, m, w', hr, h⟩ := h
      rw [toArray_map] at hr
      exact .inl ⟨_, _, by simp only [execOp, ho, resolve, hc, invoke, builtin, Sem.run_bind, Sem.run_pure, hr, Result.andThen_ok], h⟩
    · rename_i hc
      obtain ⟨v, w', hr, h⟩ := h
      rw [toArray_map] at hr
      exact .inl ⟨_, _, by simp only [execOp, ho, resolve, hc, invoke, builtin, Sem.run_bind, Sem.run_pure, hr, Result.andThen_ok], h⟩
    · rename_i hc
      obtain ⟨v, w', hr, h⟩ := h
      rw [toArray_map] at hr
      exact .inl ⟨_, _, by simp only [execOp, ho, resolve, hc, invoke, builtin, Sem.run_bind, Sem.run_pure, hr, Result.andThen_ok], h⟩
    · exact h.elim
  · exact h.elim

end
end Go.Lite
