/-
  deal: the queue; the climb.
-/
import Derived.Test.YtehkokfjfjefnaaTW
namespace Go.Proofs.Ytehkokfjfjefnaa
open Go Go.Lite Go.RowKit

theorem nodup_le : ∀ (n : Nat) (q : List Nat), q.Nodup → (∀ y, y ∈ q → y < n) → q.length ≤ n := by
  intro n
  induction n with
  | zero =>
    intro q _ h
    cases q with
    | nil => simp
    | cons a q => exact absurd (h a (by simp)) (by omega)
  | succ n ih =>
    intro q hn h
    by_cases hm : n ∈ q
    · have h1 := List.length_erase_of_mem hm
      have h2 := ih (q.erase n) (hn.erase n) (fun y hy => by
        have := (List.Nodup.mem_erase_iff hn).1 hy
        have := h y this.2
        omega)
      omega
    · have := ih q hn (fun y hy => by
        have := h y hy
        have : y ≠ n := fun e => hm (e ▸ hy)
        omega)
      omega

section
variable {w0 w : World} {S : Nat → Prop} {g b c B0 : Nat} {d : Int} {As : Option Addr} {L : List (Nd × Value)} {T : List Nd} {K : Value → World → Prop}

theorem deal_queue {T0 : List Nd} {m : Nat} {md : Nd}
    (htv : TV w S g T0 d b c L) (hrs : Row w B0 T_uint64 1 As T0.length T0.length (us (sz (pars T0)) T0.length)) (hkp : Kept S w0 w) (hSB : ∀ k, S k → k < B0) (hw0 : w0.heap.size ≤ B0) (hBw : B0 ≤ w.heap.size)
    (hS : Shape T0) (hlen : T0.length ≤ 1000000) (hmd : T0[m]? = some md) (h1 : 1 ≤ md.lo) (h2 : md.hi ≤ 4611686018427387904) (h3 : (sz (pars T0) m : Int) ≤ md.hi - md.lo + 1)
    (hK : ∀ w' T' q i, IsT w' S g T' d → Outer (pars T0) T0 m T' q i → q.length ≤ i → Kept S w0 w' → K (.tuple #[]) w') :
    tree_Tree_deal.X1_0 (some ⟨g, 0, none⟩) m As T0.length T0.length K w := by
  have hP := hS.par
  have hpl := pars_len T0
  have hml : m < T0.length := (List.getElem?_eq_some_iff.1 hmd).1
  unfold tree_Tree_deal.X1_0
  intro w35
  have k35 : Kept Nil w w35 := (Kept.refl Nil w).alloc _
  have hnew : w35.heap[w.heap.size]? = some (.cells #[.int .i64 (m : Int)] T_int (0, 0)) := new_blk w _
  have D35 : Dl w0 S g b c B0 w.heap.size T0.length (pars T0) d As w35 T0 L (some ⟨w.heap.size, 0, none⟩) 1 1 [m] := {
    tv := htv.kept k35
    rs := Row.keep hrs k35 (fun _ _ h => h)
    sb := fun k e => by obtain ⟨_, _, hc⟩ := Row.blk hrs e; exact lt_blk hc
    rq := Row.made (n := 1) (cur := #[.int .i64 (m : Int)]) hnew (Nat.le_refl _) rfl (by decide)
    kp := hkp.trans k35 (fun _ _ h => h.elim)
    hS := hSB
    hB := hBw
    hB1 := k35.size
    h0 := hw0 }
  clear_value w35
  generalize hB1 : w.heap.size = B1 at *
  refine tree_Tree_deal.loop2 (I := fun s w' => ∃ (i : Nat) (T' : List Nd) (L' : List (Nd × Value)) (Aq : Option Addr) (nq cq : Nat) (q : List Nat), s = (Aq, nq, cq, (i : Int)) ∧ i ≤ q.length ∧
      Dl w0 S g b c B0 B1 T0.length (pars T0) d As w' T' L' Aq nq cq q ∧ Outer (pars T0) T0 m T' q i)
    (μ := fun s _ => ((T0.length : Int) - s.2.2.2).toNat) (s := (some ⟨B1, 0, none⟩, 1, 1, 0)) ⟨0, T0, L, _, 1, 1, [m], rfl, Nat.zero_le _, D35, Outer.start (by omega) hmd h1 h2 h3⟩ ?_
  rintro s w' ⟨i, T', L', Aq, nq, cq, q, rfl, hi, D, hO⟩
  have hnq := D.qlen
  have hql : q.length ≤ T0.length := nodup_le _ _ hO.nodup (fun y hy => by have := (hO.und y hy).lt; omega)
  refine Split.dec (fun hlt => ?_) (fun hge => ?_)
  · simp only at hlt
    have hil : i < q.length := by omega
    obtain ⟨x, hqx⟩ : ∃ x, q[i]? = some x := ⟨_, List.getElem?_eq_getElem hil⟩
    have hxq : x ∈ q := List.mem_of_getElem? hqx
    have hxl : x < T0.length := by have := (hO.und x hxq).lt; omega
    obtain ⟨xd, hxd⟩ := get_of_lt (T := T') (i := x) (by rw [hO.skel.len]; exact hxl)
    have hroom := hO.room x xd hxq hxd
    have hpos := sz_pos hP (n := x) (by omega)
    have hszx := sz_le (P := pars T0) x
    have hlT : T'.length = T0.length := hO.skel.len
    have hbx : 0 ≤ (x : Int) ∧ (x : Int) < (T'.length : Int) := ⟨by omega, by omega⟩
    refine ⟨⟨by simp only; omega, by simp only; omega⟩, D.readQ hqx ?_⟩
    intro w42
    have D42 := D.quiet (w' := w42) (Kept.refl Nil w').drew
    clear_value w42
    obtain ⟨v, hv⟩ := D42.tv.at_ hxd
    obtain ⟨wr, h50⟩ := D42.tv.setNum hv (j := 4) (by omega) (u := .int .u64 xd.lo) (nd' := { xd with free := xd.lo }) rfl rfl
    refine D42.tv.go (D42.tv.go ⟨hbx, D42.tv.getLo hv ⟨hbx, by rw [add2]; exact wr, ?_⟩⟩)
    intro w50 w51
    have e50 : w50 = w42.setCell ⟨b, x * 5 + 4, none⟩ (.int .u64 xd.lo) := by simp only [w50, add2, Int.toNat_natCast]
    rw [← e50] at h50
    have k50 : Kept (fun k => k = b) w42 w50 := by rw [e50]; exact (Kept.refl (fun k => k = b) w42).setCell (p := ⟨b, x * 5 + 4, none⟩) (fun _ => rfl) _
    have D51 := (D42.wrote k50 h50).quiet (w' := w51) (Kept.refl Nil w50).drew
    clear_value w51
    have v1 : (L'.set x ({ xd with free := xd.lo }, v))[x]? = some ({ xd with free := xd.lo }, v) := get_set_self hv
    obtain ⟨Ach, mch, hk⟩ := D51.tv.kid _ _ v1
    have hl1 : (T'.set x { xd with free := xd.lo }).length = T'.length := by simp
    have hbx1 : 0 ≤ (x : Int) ∧ (x : Int) < ((T'.set x { xd with free := xd.lo }).length : Int) := by rw [hl1]; exact hbx
    have hbs : 0 ≤ (x : Int) ∧ (x : Int) < (T0.length : Int) := ⟨by omega, by omega⟩
    refine D51.tv.go ⟨hbx1, D51.tv.getHi v1 (D51.tv.go ⟨hbx1, D51.tv.getLo v1 ⟨hbs, D51.readS hxl (D51.tv.go ⟨hbx1, D51.tv.getC v1 hk.val ?_⟩)⟩⟩)⟩
    have hsk1 : Skel T0 (T'.set x { xd with free := xd.lo }) := hO.skel.trans (Skel.set (nd' := { xd with free := xd.lo }) hxd rfl rfl)
    simp only
    obtain ⟨cur, hbh⟩ := D51.tv.bheap
    generalize hhf : ((xd.hi - xd.lo - ((sz (pars T0) x : Int) - 1)).toNat / 2) = half
    refine deal_inner (half := half) (xd := { xd with free := xd.lo }) D51 hS hsk1 hlen (by omega) (get_set_self hxd) rfl (by simp only; omega) (by simp only; omega) (by simp only; omega) ?_ hk.row (fun k e => ⟨hk.foot k e, fun e2 => hk.ne hbh (by decide) (by rw [e, e2])⟩) ?_
    · rw [wrapU (x := xd.hi - xd.lo) (by omega) (by omega), wrapU (x := (sz (pars T0) x : Int) - 1) (by omega) (by omega), wrapU (x := xd.hi - xd.lo - ((sz (pars T0) x : Int) - 1)) (by omega) (by omega),
        Int.tdiv_eq_ediv_of_nonneg (by omega), wrapU (by omega) (by omega)]
      omega
    · intro w2 T2 f L2 Aq2 cq2 D2 hin
      rw [wrapI (x := (i : Int) + 1) (by omega) (by omega)]
      refine ⟨(Aq2, nq + xd.ch.length, cq2, ((i + 1 : Nat) : Int)), rfl, ⟨i + 1, T2, L2, Aq2, _, cq2, q ++ xd.ch, rfl, by rw [List.length_append]; omega, D2, hO.step hS hqx hxd (by omega) (by omega) hin⟩, by simp only; omega⟩
  · simp only at hge
    rw [roundQ_exit, tree_Tree_deal.x2_2]
    exact hK w' T' q i ⟨_, _, _, D.tv⟩ hO (by omega) D.kp

theorem TV.setD (h : TV w S g T d b c L) (d' : Int) : Wr w ⟨g, 1, none⟩ ∧ TV (w.setCell ⟨g, 1, none⟩ (.int .i64 d')) S g T d' b c L := by
  have kG : Kept (fun k => k = g) w (w.setCell ⟨g, 1, none⟩ (.int .i64 d')) := (Kept.refl (fun k => k = g) w).setCell (p := ⟨g, 1, none⟩) (fun _ => rfl) _
  refine ⟨wr_blk h.top (show 1 < 2 by omega), ?_⟩
  exact {
    top := by
      have := set_blk h.top 1 (.int .i64 d')
      simpa using this
    fst := h.fst
    row := Row.keep h.row kG (fun k e e2 => h.gb (by cases e; exact e2.symm))
    kid := fun i p hp => by
      obtain ⟨A, m, hk⟩ := h.kid i p hp
      exact ⟨A, m, hk.val, Row.keep hk.row kG (fun k e e2 => hk.ne h.top (by decide) (by rw [e, e2])), hk.foot⟩
    apart := h.apart
    footG := h.footG
    footB := h.footB }

theorem tree_deal (h : IsT w S g T d) (hS : Shape T) (hlen : T.length ≤ 1000000) {p : Nat} (hp : p < T.length) (hd : 0 ≤ d ∧ d ≤ 1000000)
    (hroot : ∀ nd, T[0]? = some nd → nd.lo = 1 ∧ nd.hi = 4611686018427387904)
    (hiv : ∀ y nd, T[y]? = some nd → Und (pars T) p y → Iv nd)
    (hK : ∀ w' T' m q i, IsT w' S g T' (d + 1) → Und (pars T) p m → Outer (pars T) T m T' q i → q.length ≤ i → Kept S w w' → K (.tuple #[]) w') :
    Ret Try.prog tree_Tree_deal.id #[.pointer (some ⟨g, 0, none⟩), .int .i64 p] w K := by
  have hP := hS.par
  have hpl := pars_len T
  obtain ⟨b, c, L, h⟩ := h
  have hb := h.bound
  obtain ⟨wr, h6⟩ := hb.setD (d + 1)
  refine tree_Tree_deal.of (h.goD ⟨by rw [add1]; exact wr, ?_⟩)
  intro w6
  have e6 : w6 = w.setCell ⟨g, 1, none⟩ (.int .i64 (d + 1)) := by simp only [w6, add1, wrapI (x := d + 1) (by omega) (by omega)]
  rw [← e6] at h6
  have k6 : Kept (fun k => S k ∧ k < w.heap.size) w w6 := by rw [e6]; exact (Kept.refl _ w).setCell (p := ⟨g, 1, none⟩) (fun _ => hb.footG) _
  have hs6 : w.heap.size = w6.heap.size := by rw [e6]; simp
  clear_value w6
  refine tree_sizes ⟨_, _, _, h6⟩ hP hlen fun w8 As row8 k8 => ⟨_, _, _, rfl, ?_⟩
  have h8 := h6.kept k8
  refine tree_Tree_deal.loop1 (I := fun s w' => ∃ m : Nat, s = (m : Int) ∧ Und (pars T) p m ∧ Kept Nil w8 w') (μ := fun s _ => s.toNat) (s := (p : Int)) ⟨p, rfl, .refl (by omega), Kept.refl _ _⟩ ?_
  rintro s w' ⟨m, rfl, hu, kw⟩
  have hml : m < T.length := by have := hu.lt'; omega
  obtain ⟨md, hmd⟩ := get_of_lt hml
  have hm := hiv m md hmd hu
  have hm1 := hm.lo1
  have hm2 := hm.le
  have hm3 := hm.top
  unfold tree_Tree_deal.B1
  intro w13
  have k13 : Kept Nil w8 w13 := kw.drew
  have h13 := h8.kept k13
  have row13 := Row.keep row8 k13 (fun _ _ h => h)
  have hpar := pars_get hmd
  have hszm := sz_le (P := pars T) m
  have hb13 : 0 ≤ (m : Int) ∧ (m : Int) < (T.length : Int) := ⟨by omega, by omega⟩
  obtain ⟨v, hv⟩ := h13.at_ hmd
  -- what is left when the climb ends
  have done : (sz (pars T) m : Int) ≤ md.hi - md.lo + 1 → tree_Tree_deal.q1 K (.exit 0) [(0, .pointer (some ⟨g, 0, none⟩)), (1, .int .i64 m), (4, .slice As T.length T.length)] w13 := by
    intro hroom
    rw [tree_Tree_deal.x1_0]
    have k8' : Kept (fun k => S k ∧ k < w.heap.size) w w13 := (k6.trans k8 (fun _ _ h => h.elim)).trans k13 (fun _ _ h => h.elim)
    refine deal_queue h13 (B0 := w.heap.size) (Row.base row13 (fun k e => by rw [hs6]; exact (Row.blk row13 e).1)) k8' (fun k h => h.2) (Nat.le_refl _) k8'.size hS hlen hmd hm1 hm3 hroom ?_
    intro w2 T2 q i h2 hO hq k2
    exact hK w2 T2 m q i (h2.mono (fun k h => h.1)) hu hO hq (k2.mono (fun k _ h => h.1))
  refine h13.go ⟨hb13, h13.getP hv (Split.dec (fun hpos => ?_) (fun hneg => ?_))⟩
  · obtain ⟨bs, hbs⟩ := Row.some row13 (by omega)
    subst hbs
    refine h13.go ⟨hb13, h13.getHi hv (h13.go ⟨hb13, h13.getLo hv ⟨by decide, hb13, _, by rw [add1, Int.toNat_natCast, Nat.mul_one]; exact Row.cell row13 (us_get _ hml), ?_⟩⟩)⟩
    rw [wrapU (x := md.hi - md.lo) (by omega) (by omega), wrapU (x := md.hi - md.lo + 1) (by omega) (by omega), Int.tdiv_eq_ediv_of_nonneg (by omega), wrapU (x := (md.hi - md.lo + 1) / 4) (by omega) (by omega)]
    refine Split.dec (fun hlt => ?_) (fun hge => ?_)
    · have hm0 : 0 < m := by
        rcases Nat.eq_zero_or_pos m with rfl | h
        · rw [hP.root] at hpar; have := Option.some.inj hpar; omega
        · exact h
      obtain ⟨z, hz, ez⟩ := hP.up m _ hm0 hpar
      refine h13.go ⟨hb13, h13.getP hv ?_⟩
      rw [ez]
      exact ⟨(z : Int), rfl, ⟨z, rfl, hu.trans (.step (by rw [hpar, ez]) (.refl (by omega))), k13⟩, by simp only; omega⟩
    · rw [roundQ_exit]
      exact done (by omega)
  · have hm0 : m = 0 := by
      rcases Nat.eq_zero_or_pos m with h | h
      · exact h
      · obtain ⟨z, _, ez⟩ := hP.up m _ h hpar
        omega
    subst hm0
    have := hroot md hmd
    rw [roundQ_exit]
    exact done (by omega)
end
end Go.Proofs.Ytehkokfjfjefnaa
