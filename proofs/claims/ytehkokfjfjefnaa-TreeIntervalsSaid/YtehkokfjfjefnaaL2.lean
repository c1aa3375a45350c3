/-
  The operations that look at no memory: what 'pureStep' tells is what the machine does, in whatever world.
-/
import Derived.Test.YtehkokfjfjefnaaL1
namespace Go.Lite
section
variable {P : Program} {f : Operand → Value} {o : Oper} {k : Value → Prop}

/-- it yields v, whatever the world -/
def Yld (P : Program) (s : Sem Value) (v : Value) : Prop := ∀ w, s.run P w = .ok v w

theorem partStep_sound {t : TypeId} {cs : Array Value} {off : Nat} (h : partStep P t cs off k) : ∃ v, Yld P (part t cs off) v ∧ k v := by
  unfold partStep at h
  split at h
  · rename_i n hn
    obtain ⟨rfl, ha⟩ := kdOf_agg hn
    have hs : (P.underlying t).isSome := by
      unfold kdOf at hn
      split at hn <;> simp_all
    obtain ⟨i, hi⟩ := info_of_underlying hs
    exact ⟨_, fun w => by simp [part, ha w, run_sizeOf hi], h⟩
  · rename_i d hd
    obtain ⟨v, hv, hk⟩ := h.out
    by_cases hs : (P.underlying t).isSome
    · exact ⟨v, fun w => by simp [part, kdOf_not (fun n e => hd n e) hs w, hv], hk⟩
    · exfalso
      have : P.underlying t = none := by simpa using hs
      have hb : kdOf P t = .bad := by unfold kdOf; rw [this]
      rw [hb] at h
      exact h

theorem intStep_sound {op : BinOp} {t : TypeId} {kk : IntKind} {a b : Int} (h : intStep op kk a b k) : ∃ v, Yld P (Go.binOp op t (.int kk a) (.int kk b)) v ∧ k v := by
  cases op <;> simp only [intStep] at h
  case quo => exact ⟨_, fun w => by simp [Go.binOp, Op.intDiv, h.1], h.2⟩
  case rem => exact ⟨_, fun w => by simp [Go.binOp, Op.intDiv, h.1], h.2⟩
  all_goals exact ⟨_, fun w => by simp [Go.binOp, Op.intArith, Op.intBits, Op.intCmp]; try rfl, h⟩

section eq
variable (d : Nat) {t : TypeId} (w : World)
theorem run_eq_bool (h : P.underlying t = some .bool) (a b : Bool) : (Op.equalIn (d + 1) t (.bool a) (.bool b)).run P w = .ok (a == b) w := by
  simp [Op.equalIn, run_underlying h]
theorem run_eq_ptr {e : TypeId} (h : P.underlying t = some (.pointer e)) (p : Option Addr) : (Op.equalIn (d + 1) t (.pointer p) (.pointer none)).run P w = .ok p.isNone w := by
  cases p <;> simp [Op.equalIn, run_underlying h]
theorem run_eq_slice {e : TypeId} (h : P.underlying t = some (.slice e)) (p : Option Addr) (n m n' m' : Nat) : (Op.equalIn (d + 1) t (.slice p n m) (.slice none n' m')).run P w = .ok p.isNone w := by
  cases p <;> simp [Op.equalIn, run_underlying h]
theorem run_eq_map {e e' : TypeId} (h : P.underlying t = some (.map e e')) (p : Option Nat) : (Op.equalIn (d + 1) t (.map p) (.map none)).run P w = .ok p.isNone w := by
  cases p <;> simp [Op.equalIn, run_underlying h]
theorem run_binEql {x y : Value} {b : Bool} (h : ∀ d w, (Op.equalIn (d + 1) t x y).run P w = .ok b w) (hb : Go.binOp .eql t x y = (do pure (.bool (← Op.equal t x y)))) : (Go.binOp .eql t x y).run P w = .ok (.bool b) w := by
  rw [hb]
  have := h 9999 w
  simp only [Sem.run_bind, Op.equal, Op.maxDepth]
  rw [this]
  rfl
theorem run_binNeq {x y : Value} {b : Bool} (h : ∀ d w, (Op.equalIn (d + 1) t x y).run P w = .ok b w) (hb : Go.binOp .neq t x y = (do pure (.bool (!(← Op.equal t x y))))) : (Go.binOp .neq t x y).run P w = .ok (.bool !b) w := by
  rw [hb]
  have := h 9999 w
  simp only [Sem.run_bind, Op.equal, Op.maxDepth]
  rw [this]
  rfl
end eq

theorem binStep_sound {op : BinOp} {t : TypeId} {x y : Value} (h : binStep P op t x y k) : ∃ v, Yld P (Go.binOp op t x y) v ∧ k v := by
  unfold binStep at h
  split at h
  · rename_i ka a kb b
    split at h
    · obtain ⟨hb, h⟩ := h
      exact ⟨_, fun w => by simp [Go.binOp, Op.shift, Int.not_lt.2 hb], h⟩
    · obtain ⟨hb, h⟩ := h
      exact ⟨_, fun w => by simp [Go.binOp, Op.shift, Int.not_lt.2 hb], h⟩
    · rename_i op h1 h2
      split at h
      · rename_i hd
        obtain rfl := of_decide_eq_true hd
        exact intStep_sound h
      · exact h.elim
  · split at h
    · rename_i hd
      exact ⟨_, fun w => run_binEql w (fun d w => run_eq_bool d w hd _ _) rfl, h⟩
    · rename_i hd
      exact ⟨_, fun w => run_binNeq w (fun d w => run_eq_bool d w hd _ _) rfl, h⟩
    · exact h.elim
  · rename_i p
    split at h
    · rename_i hd
      exact ⟨_, fun w => run_binEql w (fun d w => run_eq_ptr d w hd _) rfl, h⟩
    · rename_i hd
      exact ⟨_, fun w => run_binNeq w (fun d w => run_eq_ptr d w hd _) rfl, h⟩
    · exact h.elim
  · rename_i A _ _ _ _
    split at h
    · rename_i hd
      exact ⟨_, fun w => run_binEql w (fun d w => run_eq_slice d w hd _ _ _ _ _) rfl, h⟩
    · rename_i hd
      exact ⟨_, fun w => run_binNeq w (fun d w => run_eq_slice d w hd _ _ _ _ _) rfl, h⟩
    · exact h.elim
  · rename_i r
    split at h
    · rename_i hd
      exact ⟨_, fun w => run_binEql w (fun d w => run_eq_map d w hd _) rfl, h⟩
    · rename_i hd
      exact ⟨_, fun w => run_binNeq w (fun d w => run_eq_map d w hd _) rfl, h⟩
    · exact h.elim
  · exact h.elim

theorem hiB_sound {hi : Option Value} {len top : Nat} {k : Nat → Prop} (h : hiB hi len top k) :
    ∃ m, (∀ code w, (match hi with | some v => Instr.sliceBound v top code | none => pure len).run P w = .ok m w) ∧ k m := by
  unfold hiB at h
  split at h
  · exact ⟨_, fun _ w => by simp, h⟩
  · obtain ⟨hb, h⟩ := h
    exact ⟨_, fun _ w => by simp [Instr.sliceBound, asIntOf, hb], h⟩
  · exact h.elim
theorem loB_sound {lo : Option Value} {top : Nat} {k : Nat → Prop} (h : loB lo k top) :
    ∃ m, (∀ code w, (match lo with | some v => Instr.sliceBound v top code | none => pure 0).run P w = .ok m w) ∧ k m := by
  unfold loB at h
  split at h
  · exact ⟨_, fun _ w => by simp, h⟩
  · obtain ⟨hb, h⟩ := h
    exact ⟨_, fun _ w => by simp [Instr.sliceBound, asIntOf, hb], h⟩
  · exact h.elim

/-- the operation yields v, whatever the world -/
def OpYld (P : Program) (f : Operand → Value) (o : Oper) (v : Value) : Prop := ∀ w, (execOp f o).run P w = .ok (.value v) w

theorem fieldPlace_run {a : Addr} {fd : Field} {inf : TypeInfo} {m : Nat} (hi : P.info? fd.type = some inf) (hm : inf.size = m + 1) (w : World) :
    (fieldPlace a fd).run P w = .ok (a.add fd.offset) w := by
  simp [fieldPlace, sizeOf, typeInfo, hi, hm]

theorem toArray_map {α β : Type} (g : α → β) (xs : Array α) : (xs.toList.map g).toArray = xs.map g := by
  rw [← Array.toList_map]

theorem eqGuard_run {w : World} {op : BinOp} {t : TypeId} {x y : Operand} {u v : Value} (h : binStep P op t u v k) : (eqGuard op t x y u v).run P w = .ok () w := by
  unfold binStep at h
  split at h <;> first | exact h.elim | (unfold eqGuard; simp)

theorem pureStep_sound (h : pureStep P f o k) : ∃ v, OpYld P f o v ∧ k v := by
  unfold pureStep at h
  split at h
  · rename_i x ho
    exact ⟨_, fun w => by simp [execOp, ho], h⟩
  · rename_i x ho
    exact ⟨_, fun w => by simp [execOp, ho], h⟩
  · rename_i c a b ho
    split at h
    · rename_i t ht
      cases t
      · exact ⟨_, fun w => by simp [execOp, ho, ht, asBool], h⟩
      · exact ⟨_, fun w => by simp [execOp, ho, ht, asBool], h⟩
    · exact h.elim
  · rename_i x ho
    split at h
    · rename_i p hp
      obtain ⟨a, rfl, h⟩ := h.out
      exact ⟨_, fun w => by simp [execOp, ho, hp], h⟩
    · rename_i g fs cs hp
      exact ⟨_, fun w => by simp [execOp, ho, hp], h⟩
    · exact h.elim
  · rename_i op t x y yt ho
    obtain ⟨v, hv, hk⟩ := binStep_sound h
    refine ⟨v, fun w => ?_, hk⟩
    have hg : (eqGuard op t x y (f x) (f y)).run P w = .ok () w := eqGuard_run h
    simp [execOp, ho, hg, hv w]
  · rename_i op t x ho
    split at h
    · rename_i b hb
      exact ⟨_, fun w => by simp [execOp, ho, hb, Op.unary], h⟩
    · exact h.elim
  · rename_i src dst x ho
    split at h
    · rename_i k1 kd k2 n h1 h2 h3
      exact ⟨_, fun w => by simp [execOp, ho, h3, Go.convert, run_underlying h1, run_underlying h2, Conv.intToInt], h⟩
    · exact h.elim
  · rename_i s x i ho
    split at h
    · rename_i fs a h1 h2
      split at h
      · rename_i fd hf
        obtain ⟨inf, hi, h⟩ := h.out
        split at h
        · exact h.elim
        · rename_i m hm
          exact ⟨_, fun w => by simp [execOp, ho, h2, Instr.fieldAt, run_underlying h1, hf, Instr.sureAddr, fieldPlace_run hi hm], h⟩
      · exact h.elim
    · exact h.elim
  · rename_i s x i ho
    split at h
    · rename_i fs cs h1 h2
      split at h
      · rename_i fd hf
        obtain ⟨v, hv, hk⟩ := partStep_sound h
        exact ⟨v, fun w => by simp [execOp, ho, h2, Instr.field, run_underlying h1, hf, asAgg, hv w], hk⟩
      · exact h.elim
    · exact h.elim
  · rename_i t x ix ho
    split at h
    · rename_i e A n c kk i h1 h2 h3
      obtain ⟨inf, hi, hb, h⟩ := h.out
      obtain ⟨a, rfl, h⟩ := h.out
      exact ⟨_, fun w => by simp [execOp, ho, h2, h3, Instr.indexAt, asIntOf, run_underlying h1, hb, sizeOf, typeInfo, hi], h⟩
    · rename_i n e a kk i h1 h2 h3
      obtain ⟨inf, hi, hb, h⟩ := h.out
      exact ⟨_, fun w => by simp [execOp, ho, h2, h3, Instr.indexAt, Instr.sureAddr, asIntOf, run_underlying h1, hb, sizeOf, typeInfo, hi], h⟩
    · exact h.elim
  · rename_i t x ix ho
    split at h
    · rename_i n e cs kk i h1 h2 h3
      obtain ⟨inf, hi, hb, h⟩ := h.out
      obtain ⟨v, hv, hk⟩ := partStep_sound h
      exact ⟨v, fun w => by simp [execOp, ho, h2, h3, Instr.index, asIntOf, run_underlying h1, hb, sizeOf, typeInfo, hi, hv w], hk⟩
    · exact h.elim
  · rename_i t x lo hi ho
    split at h
    · rename_i e A n c h1 h2
      obtain ⟨inf, hin, h⟩ := h.out
      obtain ⟨hh, r1, h⟩ := hiB_sound (P := P) h
      obtain ⟨ll, r2, h⟩ := loB_sound (P := P) h
      refine ⟨_, fun w => ?_, h⟩
      have e1 := r1 .sliceAcap w
      have e2 := r2 .sliceB w
      cases lo <;> cases hi <;> simp_all [execOp, Instr.sliceAt, Instr.slice, Instr.sliceBounds, run_underlying h1, sizeOf, typeInfo]
    · rename_i n e a h1 h2
      obtain ⟨inf, hin, h⟩ := h.out
      obtain ⟨hh, r1, h⟩ := hiB_sound (P := P) h
      obtain ⟨ll, r2, h⟩ := loB_sound (P := P) h
      refine ⟨_, fun w => ?_, h⟩
      have e1 := r1 .sliceAlen w
      have e2 := r2 .sliceB w
      cases lo <;> cases hi <;> simp_all [execOp, Instr.sliceAt, Instr.sureAddr, Instr.sliceBounds, run_underlying h1, sizeOf, typeInfo]
    · exact h.elim
  · rename_i x i ho
    split at h
    · rename_i vs hv
      obtain ⟨v, hi, h⟩ := h.out
      exact ⟨v, fun w => by simp [execOp, ho, hv, Instr.extract, hi], h⟩
    · exact h.elim
  · rename_i t parts ho
    split at h
    · rename_i cells hc
      refine ⟨_, fun w => ?_, h⟩
      have hp : (parts.map fun (i, x) => (i, f x)).toList = parts.toList.map fun p => (p.1, f p.2) := by rw [Array.toList_map]
      have hr := run_build (P := P) w t (parts.map fun (i, x) => (i, f x)) cells (by rw [hp]; exact hc)
      simp only [execOp, ho, Sem.run_bind, hr, Result.andThen_ok, Sem.run_pure]
    · exact h.elim
  · rename_i fn first captured ho
    exact ⟨.func fn (first.map f) (captured.map f), fun w => by simp [execOp, ho, Instr.makeFunc], by rwa [toArray_map, toArray_map] at h⟩
  · rename_i c ho
    split at h
    · rename_i x t hc ha ht
      obtain ⟨callee, args, ats⟩ := c
      obtain ⟨args⟩ := args
      obtain ⟨ats⟩ := ats
      simp only at hc ha ht
      subst hc ha ht
      split at h
      · rename_i e A n m h1 h2
        exact ⟨_, fun w => by simp [execOp, ho, resolve, invoke, builtin, Builtin.len_, h2, run_underlying h1, goInt], h⟩
      · rename_i s h1 h2
        exact ⟨_, fun w => by simp [execOp, ho, resolve, invoke, builtin, Builtin.len_, h2, run_underlying h1, goInt], h⟩
      · exact h.elim
    · exact h.elim
  · exact h.elim

end
end Go.Lite
