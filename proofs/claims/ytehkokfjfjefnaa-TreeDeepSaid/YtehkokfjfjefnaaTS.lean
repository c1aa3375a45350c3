/-
  sizes: how many stand under each.
-/
import Derived.Test.YtehkokfjfjefnaaTQ
import Derived.Test.YtehkokfjfjefnaaTC2
import Derived.Test.YtehkokfjfjefnaaGT1
import Derived.Laws.OwnMore
namespace Go.Lite
open Go.RowKit
theorem roundQ_exit {σ : Type} (e : σ → Env) (I : σ → World → Prop) (μ : σ → World → Nat) (s : σ) (w : World) (Q : Post) (l : Nat) (ρ : Env) (w' : World) : roundQ e I μ s w Q (.exit l) ρ w' = Q (.exit l) ρ w' := rfl
/-- the cells of a type's zero value -/
def zeroOf (P : Program) (e : TypeId) : Option (Array Value) :=
  match P.info? e with
  | some i => match i.zero with
    | some z => some z.cells
    | none => none
  | none => none
theorem make_row {P : Program} {t e : TypeId} {bytes : Nat} (T : SlT P t e 1 bytes) {z : Value} (hz : zeroOf P e = some #[z]) {n : Nat} (hn : n ≤ maxLen) (hb : bytes * n ≤ 281474976710656) (w : World) :
    ∃ w', (Instr.makeSlice t (.int .i64 (n : Int)) (.int .i64 (n : Int))).run P w = .ok (.slice (some ⟨w.heap.size, 0, none⟩) n n) w' ∧
      Row w' w.heap.size e 1 (some ⟨w.heap.size, 0, none⟩) n n (List.replicate n z) ∧ Kept Nil w w' := by
  obtain ⟨i, z', hi, hz', hs, hby, hzs⟩ := T.inf
  have hc : z'.cells = #[z] := by
    unfold zeroOf at hz
    simp only [hi, hz'] at hz
    exact Option.some.inj hz
  obtain ⟨w', hr, hrow, hg⟩ := run_make_full (P := P) (w := w) w.heap.size t e i z' 1 T.und hi hz' hs .i64 .i64 n (by rw [hby]; exact hb) hn (Nat.le_refl _)
  rw [hc, Nat.mul_one, toList_madeCells_one] at hrow
  exact ⟨w', hr, hrow, (Kept.refl Nil w).grown hg (fun k hk => by cases hk)⟩
end Go.Lite
namespace Go.Proofs.Ytehkokfjfjefnaa
open Go Go.Lite Go.RowKit

section
variable {w w' : World} {S : Nat → Prop} {g : Nat} {T : List Nd} {d : Int} {K : Value → World → Prop}
/-- a tree's blocks are there -/
theorem TV.bound {b c : Nat} {L : List (Nd × Value)} (h : TV w S g T d b c L) : TV w (fun k => S k ∧ k < w.heap.size) g T d b c L := {
  top := h.top
  fst := h.fst
  row := h.row
  kid := fun i p hp => let ⟨A, m, h1⟩ := h.kid i p hp; ⟨A, m, h1.val, h1.row, fun k e => ⟨h1.foot k e, let ⟨_, _, hc⟩ := Row.blk h1.row e; lt_blk hc⟩⟩
  apart := h.apart
  footG := ⟨h.footG, lt_blk h.top⟩
  footB := ⟨h.footB, let ⟨_, hc⟩ := h.bheap; lt_blk hc⟩ }
theorem TV.mono {S' : Nat → Prop} {b c : Nat} {L : List (Nd × Value)} (h : TV w S g T d b c L) (hs : ∀ k, S k → S' k) : TV w S' g T d b c L := {
  top := h.top
  fst := h.fst
  row := h.row
  kid := fun i p hp => let ⟨A, m, h1⟩ := h.kid i p hp; ⟨A, m, h1.val, h1.row, fun k e => hs k (h1.foot k e)⟩
  apart := h.apart
  footG := hs _ h.footG
  footB := hs _ h.footB }
theorem IsT.bound (h : IsT w S g T d) : IsT w (fun k => S k ∧ k < w.heap.size) g T d := let ⟨b, c, L, h⟩ := h; ⟨b, c, L, h.bound⟩
theorem IsT.mono {S' : Nat → Prop} (h : IsT w S g T d) (hs : ∀ k, S k → S' k) : IsT w S' g T d := let ⟨b, c, L, h⟩ := h; ⟨b, c, L, h.mono hs⟩

/-- a row of natural numbers -/
def us (f : Nat → Nat) (n : Nat) : List Value := (List.range n).map fun j => .int .u64 (f j : Int)
theorem us_get (f : Nat → Nat) {n j : Nat} (hj : j < n) : (us f n)[j]? = some (.int .u64 (f j : Int)) := by simp [us, hj]
theorem us_len (f : Nat → Nat) (n : Nat) : (us f n).length = n := by simp [us]
theorem us_set {f f' : Nat → Nat} {n k : Nat} (hk : k < n) (h : ∀ i, i < n → i ≠ k → f' i = f i) : (us f n).set k (.int .u64 (f' k : Int)) = us f' n := by
  unfold us
  apply set_map_range _ _ hk
  intro i hi
  by_cases e : i = k
  · subst e; rw [if_pos rfl]
  · rw [if_neg e, h i hi e]
theorem slU64 : SlT Try.prog 60 T_uint64 1 8 := ⟨by kernel_rfl, by kernel_rfl⟩

theorem tree_sizes (h : IsT w S g T d) (hP : Par (pars T)) (hlen : T.length ≤ 1000000)
    (hK : ∀ w' A, Row w' w.heap.size T_uint64 1 A T.length T.length (us (sz (pars T)) T.length) → Kept Nil w w' → K (.slice A T.length T.length) w') :
    Ret Try.prog tree_Tree_sizes.id #[.pointer (some ⟨g, 0, none⟩)] w K := by
  obtain ⟨b, c, L, h0⟩ := h
  have hpl := pars_len T
  obtain ⟨w5, hr5, row5, k5⟩ := make_row slU64 (z := .int .u64 0) (by kernel_rfl) (n := T.length) (by unfold maxLen; omega) (by omega) w
  refine tree_Tree_sizes.of (h0.go ⟨_, _, _, w5, hr5, ?_⟩)
  have h5 := h0.kept k5
  refine h5.go ?_
  generalize hA : (⟨w.heap.size, 0, none⟩ : Addr) = A at *
  refine tree_Tree_sizes.loop1 (A_s10 := some A) (t1711 := T.length) (I := fun i w' => ∃ m : Nat, i = (T.length : Int) - m ∧ m ≤ T.length ∧ Row w' w.heap.size T_uint64 1 (some A) T.length T.length (us (rowS (pars T) m) T.length) ∧ Kept Nil w w')
    (μ := fun i _ => ((T.length : Int) - i).toNat) (s := 0) ⟨T.length, by omega, Nat.le_refl _, ?_, k5⟩ ?_
  · have : List.replicate T.length (Value.int .u64 0) = us (rowS (pars T) T.length) T.length := by
      apply List.ext_getElem?
      intro j
      rcases Nat.lt_or_ge j T.length with hj | hj
      · rw [us_get _ hj, ← hpl, rowS_start j (by omega)]
        simp [hpl, hj]
      · rw [List.getElem?_eq_none (by simpa using hj), List.getElem?_eq_none (by rw [us_len]; exact hj)]
    rw [← this]
    exact row5
  · rintro i w' ⟨m, rfl, hm, row, kw⟩
    have h' := h0.kept kw
    refine Split.dec (fun hlt => ?_) (fun hge => ?_)
    · -- the next one: n
      obtain ⟨n, rfl⟩ : ∃ n, m = n + 1 := ⟨m - 1, by omega⟩
      have hn : n < T.length := by omega
      refine h'.go ?_
      have ew : IntKind.i64.wrap (IntKind.i64.wrap ((T.length : Int) - 1) - ((T.length : Int) - ((n + 1 : Nat) : Int))) = (n : Int) := by
        rw [wrapI (x := (T.length : Int) - 1) (by omega) (by omega), wrapI (by omega) (by omega)]
        omega
      rw [ew]
      have hb : 0 ≤ (n : Int) ∧ (n : Int) < (T.length : Int) := ⟨by omega, by omega⟩
      subst hA
      have hlt1 : n < (us (rowS (pars T) (n + 1)) T.length).length := by rw [us_len]; exact hn
      refine ⟨hb, _, by rw [add1, Int.toNat_natCast, Nat.mul_one]; exact Row.cell row (us_get _ hn), hb, by rw [add1, Int.toNat_natCast, Nat.mul_one]; exact Row.wr row hlt1, ?_⟩
      intro w18
      have e18 : w18 = w'.setCell ⟨w.heap.size, n, none⟩ (.int .u64 (IntKind.u64.wrap ((rowS (pars T) (n + 1) n : Int) + 1))) := by simp only [w18, add1, Int.toNat_natCast, Nat.mul_one]
      have hself := rowS_self hP (n := n) (by omega)
      have hle : rowS (pars T) (n + 1) n ≤ (pars T).length := rowS_le hP _ _ (by omega)
      have row18 := Row.set row hlt1 (.int .u64 (IntKind.u64.wrap ((rowS (pars T) (n + 1) n : Int) + 1)))
      rw [← e18] at row18
      have k18 : Kept Nil w w18 := by rw [e18]; exact kw.setCell (fun hh => absurd hh (Nat.lt_irrefl _)) _
      clear_value w18
      rw [wrapU (x := (rowS (pars T) (n + 1) n : Int) + 1) (by omega) (by omega)] at row18
      rw [show (rowS (pars T) (n + 1) n : Int) + 1 = ((if n = n then sz (pars T) n else rowS (pars T) (n + 1) n : Nat) : Int) from by rw [if_pos rfl]; omega,
        us_set (f' := fun j => if j = n then sz (pars T) n else rowS (pars T) (n + 1) j) hn (fun i _ hne => by rw [if_neg hne])] at row18
      have h18 := h0.kept k18
      obtain ⟨nd, hnd⟩ := get_of_lt hn
      obtain ⟨v, hv⟩ := h18.at_ hnd
      refine h18.go ⟨hb, h18.getP hv ?_⟩
      have hpar := pars_get hnd
      refine Split.dec (fun hp => ?_) (fun hp => ?_)
      · -- her parent
        have hn0 : 0 < n := by
          rcases Nat.eq_zero_or_pos n with rfl | h
          · rw [hP.root] at hpar; have := Option.some.inj hpar; omega
          · exact h
        obtain ⟨p, hpn, ep⟩ := hP.up n _ hn0 hpar
        rw [ep] at hp ⊢
        have hpp : (pars T)[n]? = some (p : Int) := by rw [hpar, ep]
        intro w23
        have k23 : Kept Nil w w23 := k18.drew
        have row23 : Row w23 w.heap.size T_uint64 1 (some ⟨w.heap.size, 0, none⟩) T.length T.length (us (fun j => if j = n then sz (pars T) n else rowS (pars T) (n + 1) j) T.length) := row18
        clear_value w23
        have hbp : 0 ≤ (p : Int) ∧ (p : Int) < (T.length : Int) := ⟨by omega, by omega⟩
        have hltp : p < (us (fun j => if j = n then sz (pars T) n else rowS (pars T) (n + 1) j) T.length).length := by rw [us_len]; omega
        have gp := us_get (fun j => if j = n then sz (pars T) n else rowS (pars T) (n + 1) j) (n := T.length) (j := p) (by omega)
        have gn := us_get (fun j => if j = n then sz (pars T) n else rowS (pars T) (n + 1) j) (n := T.length) (j := n) (by omega)
        simp only [if_neg (show p ≠ n by omega)] at gp
        simp only [if_pos] at gn
        refine ⟨hbp, _, by rw [add1, Int.toNat_natCast, Nat.mul_one]; exact Row.cell row23 gp, hb, _, by rw [add1, Int.toNat_natCast, Nat.mul_one]; exact Row.cell row23 gn, hbp, by rw [add1, Int.toNat_natCast, Nat.mul_one]; exact Row.wr row23 hltp, ?_⟩
        intro w29
        have e29 : w29 = w23.setCell ⟨w.heap.size, p, none⟩ (.int .u64 (IntKind.u64.wrap ((rowS (pars T) (n + 1) p : Int) + (sz (pars T) n : Int)))) := by simp only [w29, add1, Int.toNat_natCast, Nat.mul_one]
        have row29 := Row.set row23 hltp (.int .u64 (IntKind.u64.wrap ((rowS (pars T) (n + 1) p : Int) + (sz (pars T) n : Int))))
        rw [← e29] at row29
        have k29 : Kept Nil w w29 := by rw [e29]; exact k23.setCell (fun hh => absurd hh (Nat.lt_irrefl _)) _
        clear_value w29
        have hle2 : rowS (pars T) (n + 1) p ≤ (pars T).length := rowS_le hP _ _ (by omega)
        have hle3 : sz (pars T) n ≤ (pars T).length := sz_le _
        have hst := rowS_step hP hpp
        have hsp := hst p
        rw [if_pos rfl] at hsp
        rw [wrapU (x := (rowS (pars T) (n + 1) p : Int) + (sz (pars T) n : Int)) (by omega) (by omega),
          show (rowS (pars T) (n + 1) p : Int) + (sz (pars T) n : Int) = (rowS (pars T) n p : Int) from by omega,
          us_set (f' := rowS (pars T) n) (by omega) (fun i _ hne => by rw [hst i, if_neg hne])] at row29
        rw [wrapI (x := (T.length : Int) - ((n + 1 : Nat) : Int) + 1) (by omega) (by omega)]
        exact ⟨_, rfl, ⟨n, by omega, by omega, row29, k29⟩, by simp only; omega⟩
      · -- the root
        have hn0 : n = 0 := by
          rcases Nat.eq_zero_or_pos n with h | h
          · exact h
          · obtain ⟨p, _, ep⟩ := hP.up n _ h hpar
            omega
        subst hn0
        have : us (fun j => if j = 0 then sz (pars T) 0 else rowS (pars T) (0 + 1) j) T.length = us (rowS (pars T) 0) T.length := by
          congr 1
          funext j
          rw [rowS_root]
        rw [this] at row18
        rw [wrapI (x := (T.length : Int) - ((0 + 1 : Nat) : Int) + 1) (by omega) (by omega)]
        exact ⟨_, rfl, ⟨0, by omega, by omega, row18, k18⟩, by simp only; omega⟩
    · have : m = 0 := by omega
      subst this
      rw [roundQ_exit, tree_Tree_sizes.x1_0]
      refine hK w' (some A) ?_ kw
      have e : rowS (pars T) 0 = sz (pars T) := funext rowS_end
      rw [e] at row
      exact row
end
end Go.Proofs.Ytehkokfjfjefnaa
