/-
  A small calculus over the kit's 'wpIn': what one operation does, told with typed values (no program in sight: P is a variable).
-/
import Derived.CallsIn
import Derived.OrdersIn
import Derived.KernelRfl
import Derived.Laws.AppendOwn
import Derived.Laws.Cells
import Derived.Laws.Sem
import Derived.Laws.Tables
namespace Go.Lite

/-- the fence that lets everything in, in a round or not -/
abbrev FR (r : Option Nat) : Fence := { fn := fun _ => True, depth := none, alive := false, round := r }

/-- a part that is decided by a Bool -/
def Split (b : Bool) (A B : Prop) : Prop := match b with | true => A | false => B
theorem Split.mk {b : Bool} {A B : Prop} (h1 : b = true → A) (h2 : b = false → B) : Split b A B := by cases b; exact h2 rfl; exact h1 rfl
theorem Split.dec {p : Prop} [Decidable p] {A B : Prop} (h1 : p → A) (h2 : ¬ p → B) : Split (decide p) A B := by
  by_cases h : p
  · rw [decide_eq_true h]; exact h1 h
  · rw [decide_eq_false h]; exact h2 h
theorem Split.yes {b : Bool} {A B : Prop} (h : b = true) (h1 : A) : Split b A B := by subst h; exact h1
theorem Split.no {b : Bool} {A B : Prop} (h : b = false) (h1 : B) : Split b A B := by subst h; exact h1

/-- there is one, and of it .. -/
def Is {α : Type} (p : Option α) (k : α → Prop) : Prop := match p with | some a => k a | none => False
theorem Is.out {α : Type} {p : Option α} {k : α → Prop} (h : Is p k) : ∃ a, p = some a ∧ k a := by
  cases p with
  | none => exact h.elim
  | some a => exact ⟨a, rfl, h⟩
theorem Is.mk {α : Type} {p : Option α} {k : α → Prop} {a : α} (h : p = some a) (hk : k a) : Is p k := by subst h; exact hk

inductive Kd where
  | int (k : IntKind) | bool | str | ptr | slice | map | agg (n : Nat) | other | bad

def kdOf (P : Program) (t : TypeId) : Kd :=
  match P.underlying t with
  | some (.int k) => .int k
  | some .bool => .bool
  | some .string => .str
  | some (.pointer _) => .ptr
  | some (.slice _) => .slice
  | some (.map _ _) => .map
  | some (.struct _) => .agg (P.cellsOf t)
  | some (.array _ _) => .agg (P.cellsOf t)
  | some _ => .other
  | none => .bad

/-- some value of a kind, of which .. -/
def Any (d : Kd) (k : Value → Prop) : Prop :=
  match d with
  | .int kk => ∃ n, k (.int kk n)
  | .bool => ∃ b, k (.bool b)
  | .str => ∃ s, k (.string s)
  | .ptr => ∃ p, k (.pointer p)
  | .slice => ∃ A n m, k (.slice A n m)
  | .map => ∃ r, k (.map r)
  | .agg _ => ∃ cs, k (.agg cs)
  | .other => ∃ v, k v
  | .bad => False
theorem Any.out {d : Kd} {k : Value → Prop} (h : Any d k) : ∃ v, k v := by
  cases d <;> simp only [Any] at h
  case int => obtain ⟨n, h⟩ := h; exact ⟨_, h⟩
  case bool => obtain ⟨n, h⟩ := h; exact ⟨_, h⟩
  case str => obtain ⟨n, h⟩ := h; exact ⟨_, h⟩
  case ptr => obtain ⟨n, h⟩ := h; exact ⟨_, h⟩
  case slice => obtain ⟨A, n, m, h⟩ := h; exact ⟨_, h⟩
  case map => obtain ⟨n, h⟩ := h; exact ⟨_, h⟩
  case agg => obtain ⟨n, h⟩ := h; exact ⟨_, h⟩
  case other => exact h

/-- a cell that holds a value of a kind, and of it .. -/
def Cell (d : Kd) (c : Option Value) (k : Value → Prop) : Prop := Any d fun v => c = some v ∧ k v
theorem Cell.out {d : Kd} {c : Option Value} {k : Value → Prop} (h : Cell d c k) : ∃ v, c = some v ∧ k v := Any.out h

/-- a run of cells -/
def Cells (w : World) (a : Addr) (cs : Array Value) : Prop := ∀ j v, cs[j]? = some v → w.cell? (a.add j) = some v

/-! ### Operations that look at no memory -/

def intStep (op : BinOp) (kk : IntKind) (a b : Int) (k : Value → Prop) : Prop :=
  match op with
  | .add => k (.int kk (kk.wrap (a + b)))
  | .sub => k (.int kk (kk.wrap (a - b)))
  | .mul => k (.int kk (kk.wrap (a * b)))
  | .quo => b ≠ 0 ∧ k (.int kk (kk.wrap (a.tdiv b)))
  | .rem => b ≠ 0 ∧ k (.int kk (a.tmod b))
  | .and => k (.int kk (kk.wrap (BitVec.ofInt kk.bits a &&& BitVec.ofInt kk.bits b).toNat))
  | .or => k (.int kk (kk.wrap (BitVec.ofInt kk.bits a ||| BitVec.ofInt kk.bits b).toNat))
  | .xor => k (.int kk (kk.wrap (BitVec.ofInt kk.bits a ^^^ BitVec.ofInt kk.bits b).toNat))
  | .andNot => k (.int kk (kk.wrap (BitVec.ofInt kk.bits a &&& ~~~ BitVec.ofInt kk.bits b).toNat))
  | .eql => k (.bool (a == b))
  | .neq => k (.bool (a != b))
  | .lss => k (.bool (decide (a < b)))
  | .leq => k (.bool (decide (a ≤ b)))
  | .gtr => k (.bool (decide (a > b)))
  | .geq => k (.bool (decide (a ≥ b)))
  | _ => False

def binStep (P : Program) (op : BinOp) (t : TypeId) (x y : Value) (k : Value → Prop) : Prop :=
  match x, y with
  | .int ka a, .int kb b =>
    match op with
    | .shl => 0 ≤ b ∧ k (.int ka (ka.wrap (a * 2 ^ (min b.toNat ka.bits))))
    | .shr => 0 ≤ b ∧ k (.int ka (a.fdiv (2 ^ (min b.toNat ka.bits))))
    | op => match decide (ka = kb) with | true => intStep op ka a b k | false => False
  | .bool a, .bool b =>
    match op, P.underlying t with
    | .eql, some .bool => k (.bool (a == b))
    | .neq, some .bool => k (.bool (!(a == b)))
    | _, _ => False
  | .pointer p, .pointer none =>
    match op, P.underlying t with
    | .eql, some (.pointer _) => k (.bool p.isNone)
    | .neq, some (.pointer _) => k (.bool (!p.isNone))
    | _, _ => False
  | .slice A _ _, .slice none _ _ =>
    match op, P.underlying t with
    | .eql, some (.slice _) => k (.bool A.isNone)
    | .neq, some (.slice _) => k (.bool (!A.isNone))
    | _, _ => False
  | .map r, .map none =>
    match op, P.underlying t with
    | .eql, some (.map _ _) => k (.bool r.isNone)
    | .neq, some (.map _ _) => k (.bool (!r.isNone))
    | _, _ => False
  | _, _ => False

/-- the low bound of a slice expression, the high one -/
def loB (lo : Option Value) (k : Nat → Prop) (h : Nat) : Prop :=
  match lo with
  | none => k 0
  | some (.int _ i) => (0 ≤ i ∧ i ≤ (h : Int)) ∧ k i.toNat
  | _ => False
def hiB (hi : Option Value) (len top : Nat) (k : Nat → Prop) : Prop :=
  match hi with
  | none => k len
  | some (.int _ i) => (0 ≤ i ∧ i ≤ (top : Int)) ∧ k i.toNat
  | _ => False

def partStep (P : Program) (t : TypeId) (cs : Array Value) (off : Nat) (k : Value → Prop) : Prop :=
  match kdOf P t with
  | .agg n => k (.agg (cs.extract off (off + n)))
  | d => Cell d cs[off]? k

def pureStep (P : Program) (f : Operand → Value) (o : Oper) (k : Value → Prop) : Prop :=
  match o.op with
  | .move x => k (f x)
  | .assign x => k (f x)
  | .pick c a b => match f c with | .bool t => Split t (k (f a)) (k (f b)) | _ => False
  | .nilCheck x =>
    match f x with
    | .pointer p => Is p fun a => k (.pointer (some a))
    | .func (.func g) fs cs => k (.func (.func g) fs cs)
    | _ => False
  | .binOp op t x y _ => binStep P op t (f x) (f y) k
  | .unOp op _ x =>
    match op, f x with
    | .not, .bool b => k (.bool !b)
    | _, _ => False
  | .convert src dst x =>
    match P.underlying src, P.underlying dst, f x with
    | some (.int _), some (.int kd), .int _ n => k (.int kd (kd.wrap n))
    | _, _, _ => False
  | .fieldAddr s x i =>
    match P.underlying s, f x with
    | some (.struct fs), .pointer (some a) =>
      match fs[i]? with
      | some fd => Is (P.info? fd.type) fun inf => match inf.size with
        | 0 => False
        | _ + 1 => k (.pointer (some (a.add fd.offset)))
      | none => False
    | _, _ => False
  | .field s x i =>
    match P.underlying s, f x with
    | some (.struct fs), .agg cs =>
      match fs[i]? with
      | some fd => partStep P fd.type cs fd.offset k
      | none => False
    | _, _ => False
  | .indexAddr t x ix =>
    match P.underlying t, f x, f ix with
    | some (.slice e), .slice A n _, .int _ i => Is (P.info? e) fun inf => (0 ≤ i ∧ i < (n : Int)) ∧ Is A fun a => k (.pointer (some (a.add (i.toNat * inf.size))))
    | some (.array n e), .pointer (some a), .int _ i => Is (P.info? e) fun inf => (0 ≤ i ∧ i < (n : Int)) ∧ k (.pointer (some (a.add (i.toNat * inf.size))))
    | _, _, _ => False
  | .index t x ix =>
    match P.underlying t, f x, f ix with
    | some (.array n e), .agg cs, .int _ i => Is (P.info? e) fun inf => (0 ≤ i ∧ i < (n : Int)) ∧ partStep P e cs (i.toNat * inf.size) k
    | _, _, _ => False
  | .slice t x lo hi none =>
    match P.underlying t, f x with
    | some (.slice e), .slice A n c => Is (P.info? e) fun inf => hiB (hi.map f) n c fun h => loB (lo.map f) (fun l => k (.slice (if c = l then A else A.map (·.add (l * inf.size))) (h - l) (c - l))) h
    | some (.array n e), .pointer (some a) => Is (P.info? e) fun inf => hiB (hi.map f) n n fun h => loB (lo.map f) (fun l => k (.slice (some (if n = l then a else a.add (l * inf.size))) (h - l) (n - l))) h
    | _, _ => False
  | .extract x i => match f x with | .tuple vs => Is vs[i]? k | _ => False
  | .build t parts => match P.built t (parts.toList.map fun p => (p.1, f p.2)) with | some cells => k (.agg cells) | none => False
  | .makeFunc fn first captured => k (.func fn (first.toList.map f).toArray (captured.toList.map f).toArray)
  | .call c =>
    match c.callee, c.args.toList, c.argTypes.toList with
    | .builtin .len, [x], [t] =>
      match P.underlying t, f x with
      | some (.slice _), .slice _ n _ => k (.int .i64 n)
      | some .string, .string s => k (.int .i64 s.size)
      | _, _ => False
    | _, _, _ => False
  | _ => False

section
variable {P : Program} {f : Operand → Value} {o : Oper} {k : Value → Prop}

theorem kdOf_agg {t : TypeId} {n : Nat} (h : kdOf P t = .agg n) : n = P.cellsOf t ∧ ∀ w, (isAgg t).run P w = .ok true w := by
  unfold kdOf at h
  split at h <;> simp at h <;> (rename_i hd; refine ⟨h.symm, fun w => ?_⟩; simp [isAgg, run_underlying hd])
theorem kdOf_not {t : TypeId} (hn : ∀ n, kdOf P t ≠ .agg n) (hs : (P.underlying t).isSome) : ∀ w, (isAgg t).run P w = .ok false w := by
  intro w
  obtain ⟨d, hd⟩ := Option.isSome_iff_exists.1 hs
  unfold kdOf at hn
  rw [hd] at hn
  cases d <;> first | (simp [isAgg, run_underlying hd]; done) | exact absurd rfl (hn _)
theorem run_sizeOf {t : TypeId} {i : TypeInfo} (hi : P.info? t = some i) (w : World) : (sizeOf t).run P w = .ok (P.cellsOf t) w := by
  simp [sizeOf, typeInfo, hi, Program.cellsOf]
theorem info_of_underlying {t : TypeId} (h : (P.underlying t).isSome) : ∃ i, P.info? t = some i := by
  unfold Program.underlying at h
  cases hi : P.info? t with
  | none => simp [hi] at h
  | some i => exact ⟨i, rfl⟩
end
end Go.Lite
