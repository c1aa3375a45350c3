/-
  deal: the walk.
-/
import Derived.Test.YtehkokfjfjefnaaTX2
import Derived.Test.YtehkokfjfjefnaaTD3
namespace Go.Proofs.Ytehkokfjfjefnaa
open Go Go.Lite Go.RowKit

theorem le_sum {l : List Nat} {a : Nat} (h : a ∈ l) : a ≤ l.sum := by
  induction l with
  | nil => simp at h
  | cons b l ih =>
    rw [List.sum_cons]
    rcases List.mem_cons.1 h with rfl | h
    · omega
    · have := ih h; omega
theorem ints_get {l : List Nat} {j x : Nat} (h : l[j]? = some x) : (ints l)[j]? = some (.int .i64 (x : Int)) := by simp [ints, h]
theorem ints_len (l : List Nat) : (ints l).length = l.length := by simp [ints]
theorem ints_one (l : List Nat) : ∀ u ∈ ints l, u.oneCell' = true := by
  intro u hu
  simp only [ints, List.mem_map] at hu
  obtain ⟨x, _, rfl⟩ := hu
  rfl

/-- what is kept while intervals are dealt: the tree, the sizes' row, the queue -/
structure Dl (w0 : World) (S : Nat → Prop) (g b c B0 B1 len : Nat) (P : List Int) (d : Int) (As : Option Addr) (w : World) (T' : List Nd) (L : List (Nd × Value)) (Aq : Option Addr) (nq cq : Nat) (q : List Nat) : Prop where
  tv : TV w S g T' d b c L
  rs : Row w B0 T_uint64 1 As len len (us (sz P) len)
  sb : ∀ k, blkOf As = some k → k < B1
  rq : Row w B1 T_int 1 Aq nq cq (ints q)
  kp : Kept S w0 w
  hS : ∀ k, S k → k < B0
  hB : B0 ≤ B1
  hB1 : B1 ≤ w.heap.size
  h0 : w0.heap.size ≤ B0

section
variable {w0 w w' : World} {S : Nat → Prop} {g b c B0 B1 len : Nat} {P : List Int} {d : Int} {As : Option Addr} {T' T'' : List Nd} {L L' : List (Nd × Value)} {Aq : Option Addr} {nq cq : Nat} {q : List Nat}
theorem Dl.qlen (h : Dl w0 S g b c B0 B1 len P d As w T' L Aq nq cq q) : nq = q.length := by
  have := Row.len h.rq
  rw [ints_len] at this
  omega
theorem Dl.quiet (h : Dl w0 S g b c B0 B1 len P d As w T' L Aq nq cq q) (hk : Kept Nil w w') : Dl w0 S g b c B0 B1 len P d As w' T' L Aq nq cq q := {
  tv := h.tv.kept hk
  rs := Row.keep h.rs hk (fun _ _ h => h)
  sb := h.sb
  rq := Row.keep h.rq hk (fun _ _ h => h)
  kp := h.kp.trans hk (fun _ _ h => h.elim)
  hS := h.hS
  hB := h.hB
  hB1 := Nat.le_trans h.hB1 hk.size
  h0 := h.h0 }
theorem Dl.wrote (h : Dl w0 S g b c B0 B1 len P d As w T' L Aq nq cq q) (hk : Kept (fun k => k = b) w w') (ht : TV w' S g T'' d b c L') : Dl w0 S g b c B0 B1 len P d As w' T'' L' Aq nq cq q := {
  tv := ht
  rs := Row.keep h.rs hk (fun k e e2 => by have := (Row.blk h.rs e).1; have := h.hS b h.tv.footB; omega)
  sb := h.sb
  rq := Row.keep h.rq hk (fun k e e2 => by have := (Row.blk h.rq e).1; have := h.hS b h.tv.footB; have := h.hB; omega)
  kp := h.kp.trans hk (fun k _ e => by rw [e]; exact h.tv.footB)
  hS := h.hS
  hB := h.hB
  hB1 := Nat.le_trans h.hB1 hk.size
  h0 := h.h0 }
theorem Dl.readS (h : Dl w0 S g b c B0 B1 len P d As w T' L Aq nq cq q) {j : Nat} (hj : j < len) {k : Int → Prop} (hk : k (sz P j)) :
    Is As fun a => ∃ t, w.cell? (a.add (j * 1)) = some (.int .u64 t) ∧ k t := by
  have hr := h.rs
  obtain ⟨b', rfl⟩ := Row.some hr (by omega)
  exact ⟨_, by rw [add1, Nat.mul_one]; exact Row.cell hr (us_get _ hj), hk⟩
theorem Dl.readQ (h : Dl w0 S g b c B0 B1 len P d As w T' L Aq nq cq q) {j x : Nat} (hj : q[j]? = some x) {k : Int → Prop} (hk : k x) :
    Is Aq fun a => ∃ t, w.cell? (a.add (j * 1)) = some (.int .i64 t) ∧ k t := by
  have hr := h.rq
  have hlt := (List.getElem?_eq_some_iff.1 hj).1
  obtain ⟨b', rfl⟩ := Row.some hr (by rw [h.qlen]; omega)
  exact ⟨_, by rw [add1, Nat.mul_one]; exact Row.cell hr (ints_get hj), hk⟩
theorem Dl.push (h : Dl w0 S g b c B0 B1 len P d As w T' L Aq nq cq q) (hsm : q.length ≤ 4000000) (x : Nat) {w1 : World} (e1 : w1 = w.alloc (.cells #[.int .i64 (x : Int)] T_int)) :
    ∃ Aq' cq' w2, (Builtin.append_ #[T_sl_int, T_sl_int] T_sl_int #[.slice Aq nq cq, .slice (some ⟨w.heap.size, 0, none⟩) 1 1]).run Try.prog w1 = .ok (.slice Aq' (nq + 1) cq') w2 ∧
      Dl w0 S g b c B0 B1 len P d As w2 T' L Aq' (nq + 1) cq' (q ++ [x]) ∧ (∀ S0 : Nat → Prop, (∀ k, blkOf Aq = some k → S0 k) → Kept S0 w w2) := by
  subst e1
  generalize hw1 : w.alloc (.cells #[.int .i64 (x : Int)] T_int) = w1
  have hnew : w1.heap[w.heap.size]? = some (.cells #[.int .i64 (x : Int)] T_int (0, 0)) := by rw [← hw1]; exact new_blk w _
  have k1 : Kept Nil w w1 := by rw [← hw1]; exact (Kept.refl Nil w).alloc _
  have h1 := h.quiet k1
  have hql := h.qlen
  obtain ⟨A', c', w2, hr, hrow, hg, hbl⟩ := append_row (P := Try.prog) (t := T_sl_int) (ty := T_sl_int) slInt h1.rq (a := ⟨w.heap.size, 0, none⟩) (m := 1) (cx := 1)
    (news := ints [x]) rfl (fun j u hj => by rw [add1, cell_blk hnew]; simpa [ints] using hj) (ints_one _) (by omega) (by unfold maxLen; omega) h1.hB1
  have kA : Kept (fun k => blkOf Aq = some k) w1 w2 := (Kept.refl _ w1).grown hg (fun k hk _ => hk)
  have hge : ∀ k, blkOf Aq = some k → B1 ≤ k := fun k e => (Row.blk h.rq e).1
  refine ⟨A', c', w2, hr, ?_, fun S0 h0 => (k1.mono (S' := S0) (fun _ _ h => h.elim)).trans kA (fun k _ e => h0 k e)⟩
  exact {
    tv := h1.tv.keep kA (fun k hk e => by have := h.hS k hk; have := hge k e; have := h.hB; omega)
    rs := Row.keep h1.rs kA (fun k e e2 => by have := h.sb k e; have := hge k e2; omega)
    sb := h.sb
    rq := by simpa [ints] using hrow
    kp := (h.kp.trans k1 (fun _ _ h => h.elim)).trans kA (fun k hk e => absurd (hge k e) (by have := h.hB; have := h.h0; omega))
    hS := h.hS
    hB := h.hB
    hB1 := Nat.le_trans h1.hB1 kA.size
    h0 := h.h0 }

/-- the children of one node -/
theorem deal_inner {T0 T1 : List Nd} {x : Nat} {xd : Nd} {half : Nat} {spare i : Int} {Ach : Option Addr} {mch : Nat} {Qo : Post}
    (D : Dl w0 S g b c B0 B1 T0.length (pars T0) d As w T1 L Aq nq cq q) (hS : Shape T0) (hsk : Skel T0 T1) (hlen : T0.length ≤ 1000000) (hql : q.length ≤ 1000000)
    (hx : T1[x]? = some xd) (hfree : xd.free = xd.lo) (hlo : 0 ≤ xd.lo) (hhi : xd.hi ≤ 4611686018427387904) (hhalf : (half : Int) * 2 ≤ xd.hi - xd.lo - ((sz (pars T0) x : Int) - 1))
    (hsp : IntKind.u64.wrap (spare.tdiv 2) = (half : Int)) (hchr : Row w 0 T_int 1 Ach xd.ch.length mch (ints xd.ch)) (hchS : ∀ k, blkOf Ach = some k → S k ∧ k ≠ b)
    (hex : ∀ w' T'' f L' Aq' cq', Dl w0 S g b c B0 B1 T0.length (pars T0) d As w' T'' L' Aq' (nq + xd.ch.length) cq' (q ++ xd.ch) → Inner (pars T0) T1 x xd half xd.ch.length T'' f →
      Qo .normal [(0, .pointer (some ⟨g, 0, none⟩)), (4, .slice As T0.length T0.length), (5, .slice Aq' (nq + xd.ch.length) cq'), (6, .int .i64 (IntKind.i64.wrap (i + 1)))] w') :
    Holds none [] Try.prog 164 (.loop (lB (bB (sR (sR (sR (sR (bB (sL (sR (lB (bB (sR (sR (sR (sR (sR (body Try.f32)))))))))))))))))) (tree_Tree_deal.q3 Qo) (tree_Tree_deal.e3 (some ⟨g, 0, none⟩) As T0.length T0.length i x spare Ach xd.ch.length mch xd.ch.length (Aq, nq, cq, 0)) w := by
  have hP := hS.par
  have hpl := pars_len T0
  have hch : xd.ch = kids (pars T0) x := by
    have := (hsk.shape hS).ch x xd hx
    rwa [hsk.pars] at this
  have hxl : x < T0.length := by rw [← hsk.len]; exact (List.getElem?_eq_some_iff.1 hx).1
  have hsorted : xd.ch.Pairwise (· < ·) := by rw [hch]; exact kids_sorted _ _
  have hgt : ∀ y, y ∈ xd.ch → x < y := fun y hy => (kids_lt hP (hch ▸ hy)).1
  have hchl : xd.ch.length ≤ 1000000 := by rw [hch]; exact Nat.le_trans (kids_len _ _) (by omega)
  have hsum : (xd.ch.map (sz (pars T0))).sum + 1 = sz (pars T0) x := by rw [hch]; exact sz_kids hP (by omega)
  have hpos := sz_pos hP (n := x) (by omega)
  have hszx := sz_le (P := pars T0) x
  have hnq := D.qlen
  refine tree_Tree_deal.loop3 (I := fun s w' => ∃ (k : Nat) (T' : List Nd) (f : Int) (L' : List (Nd × Value)) (Aq' : Option Addr) (cq' : Nat), s = (Aq', nq + k, cq', (k : Int)) ∧ k ≤ xd.ch.length ∧
      Dl w0 S g b c B0 B1 T0.length (pars T0) d As w' T' L' Aq' (nq + k) cq' (q ++ xd.ch.take k) ∧ Inner (pars T0) T1 x xd half k T' f ∧ Row w' 0 T_int 1 Ach xd.ch.length mch (ints xd.ch))
    (μ := fun s _ => ((xd.ch.length : Int) - s.2.2.2).toNat) (s := (Aq, nq, cq, 0)) ⟨0, T1, xd.lo, L, Aq, cq, rfl, Nat.zero_le _, by simpa using D, Inner.start hx hfree, hchr⟩ ?_
  rintro s w' ⟨k, T', f, L', Aq', cq', rfl, hk, D', hin, hr⟩
  refine Split.dec (fun hlt => ?_) (fun hge => ?_)
  · simp only at hlt
    have hkl : k < xd.ch.length := by omega
    obtain ⟨ci, hci⟩ : ∃ ci, xd.ch[k]? = some ci := ⟨_, List.getElem?_eq_getElem hkl⟩
    have hcm : ci ∈ xd.ch := List.mem_of_getElem? hci
    have hck : ci ∈ kids (pars T0) x := hch ▸ hcm
    have hcl : ci < T0.length := by have := (kids_lt hP hck).2; omega
    have hxc := hgt ci hcm
    have hsc := sz_pos hP (n := ci) (by omega)
    have hscl := sz_le (P := pars T0) ci
    have hskk := hsk.trans hin.skel
    obtain ⟨cd, hcd⟩ := get_of_lt (T := T') (i := ci) (by rw [hskk.len]; exact hcl)
    have hcpar : cd.parent = x := by
      have h1 := pars_get hcd
      rw [hskk.pars, mem_kids.1 hck] at h1
      exact (Option.some.inj h1).symm
    have hscx : sz (pars T0) ci ≤ sz (pars T0) x := by
      have := le_sum (l := xd.ch.map (sz (pars T0))) (a := sz (pars T0) ci) (List.mem_map.2 ⟨ci, hcm, rfl⟩)
      omega
    have hbci : 0 ≤ (ci : Int) ∧ (ci : Int) < (T0.length : Int) := ⟨by omega, by omega⟩
    have hbx : 0 ≤ (x : Int) ∧ (x : Int) < (T0.length : Int) := ⟨by omega, by omega⟩
    have hhalfb : half < 4611686018427387904 := by omega
    obtain ⟨bch, hbch⟩ := Row.some hr (by omega)
    subst hbch
    refine ⟨⟨by simp only; omega, by simp only; omega⟩, _, by simp only [add1, Int.toNat_natCast, Nat.mul_one]; exact Row.cell hr (ints_get hci), by decide, hbci, D'.readS hcl ?_⟩
    rw [hsp]
    refine bits_Mul64_ok half (sz (pars T0) ci) (by omega) (by omega) ⟨_, _, rfl, hbx, D'.readS hxl ?_⟩
    have hmore : (half * sz (pars T0) ci / 18446744073709551616) * 18446744073709551616 + half * sz (pars T0) ci % 18446744073709551616 = half * sz (pars T0) ci := Nat.div_add_mod' _ _
    have hhi1 : half * sz (pars T0) ci / 18446744073709551616 < sz (pars T0) x := by
      have : half * sz (pars T0) ci < 18446744073709551616 * sz (pars T0) ci := Nat.mul_lt_mul_of_pos_right (by omega) hsc
      have : half * sz (pars T0) ci / 18446744073709551616 < sz (pars T0) ci := Nat.div_lt_of_lt_mul this
      omega
    refine bits_Div64_ok _ _ (sz (pars T0) x) (Nat.mod_lt _ (by omega)) (by omega) hhi1 fun r w90 k90 => ?_
    rw [hmore]
    generalize hm : half * sz (pars T0) ci / sz (pars T0) x = more
    have hmx : more * sz (pars T0) x ≤ half * sz (pars T0) ci := by rw [← hm]; exact Nat.div_mul_le_self _ _
    have hmle : more ≤ half := by
      rw [← hm]
      apply Nat.div_le_of_le_mul
      rw [Nat.mul_comm]
      exact Nat.mul_le_mul_right _ hscx
    have D90 := D'.quiet k90
    have hr90 := Row.keep hr k90 (fun _ _ h => h)
    refine ⟨_, _, rfl, hbci, D90.readS hcl ?_⟩
    rw [wrapU (x := (sz (pars T0) ci : Int) + (more : Int)) (by omega) (by omega)]
    have hb1 := hin.bound (by omega) hpos (by
      have h1 : (((xd.ch.take k).map (sz (pars T0))).sum) ≤ (xd.ch.map (sz (pars T0))).sum := by
        conv => rhs; rw [← List.take_append_drop k xd.ch, List.map_append, List.sum_append]
        omega
      omega)
    have hb2 := hin.lo
    have h1 : (((xd.ch.take k).map (sz (pars T0))).sum) ≤ (xd.ch.map (sz (pars T0))).sum := by
      conv => rhs; rw [← List.take_append_drop k xd.ch, List.map_append, List.sum_append]
      omega
    refine tree_giveV D90.tv hcd hin.here hcpar (by omega) (by simp only; omega) (by omega) (by simp only; omega) fun w96 L96 h96 k96 => ⟨rfl, ?_⟩
    have D96 := D90.wrote k96 h96
    have hr96 := Row.keep hr90 k96 (fun k e e2 => (hchS k e).2 e2)
    intro w97
    have htl : (xd.ch.take k).length ≤ 1000000 := by rw [List.length_take]; omega
    obtain ⟨Aq2, cq2, w99, hrun, D99, k99⟩ := D96.push (by rw [List.length_append]; omega) ci (w1 := w97) rfl
    have hr99 := Row.keep hr96 (k99 (fun k => B1 ≤ k) (fun k e => (Row.blk D96.rq e).1)) (fun k e e2 => by have := D.hS k (hchS k e).1; have := D.hB; omega)
    refine ⟨Aq2, _, cq2, w99, hrun, ?_⟩
    rw [wrapI (x := (k : Int) + 1) (by omega) (by omega)]
    refine ⟨(Aq2, nq + (k + 1), cq2, ((k + 1 : Nat) : Int)), rfl, ⟨k + 1, _, _, L96, Aq2, cq2, rfl, hkl, ?_, hin.step (more := (more : Int)) hsorted hgt hci hcd (by omega) ?_ hsc, hr99⟩, by simp only; omega⟩
    · rw [take_succ' hci, ← List.append_assoc]
      exact D99
    · have : ((more * sz (pars T0) x : Nat) : Int) ≤ ((half * sz (pars T0) ci : Nat) : Int) := by omega
      rwa [Int.natCast_mul, Int.natCast_mul] at this
  · simp only at hge
    have : k = xd.ch.length := by omega
    subst this
    rw [roundQ_exit, tree_Tree_deal.x3_4]
    rw [List.take_length] at D'
    exact hex w' T' f L' Aq' cq' D' hin
end
end Go.Proofs.Ytehkokfjfjefnaa
