/-
  Children, Size, Depth, Copy.
-/
import Derived.Test.YtehkokfjfjefnaaTR
namespace Go.Proofs.Ytehkokfjfjefnaa
open Go Go.Lite Go.RowKit

theorem ints_zs (l : List Nat) : ints l = zs (l.map fun x : Nat => (x : Int)) := by simp [ints, zs]
def kidsTo (P : List Int) (n i : Nat) : List Nat := (List.range i).filter fun j => P[j]? == some (n : Int)
theorem kidsTo_all (P : List Int) (n : Nat) : kidsTo P n P.length = kids P n := rfl
theorem kidsTo_len (P : List Int) (n i : Nat) : (kidsTo P n i).length ≤ i := Nat.le_trans (List.length_filter_le _ _) (by simp)
theorem kidsTo_yes {P : List Int} {n i : Nat} (h : P[i]? = some (n : Int)) : kidsTo P n (i + 1) = kidsTo P n i ++ [i] := by
  unfold kidsTo; rw [List.range_succ, List.filter_append]; simp [h]
theorem kidsTo_no {P : List Int} {n i : Nat} (h : P[i]? ≠ some (n : Int)) : kidsTo P n (i + 1) = kidsTo P n i := by
  unfold kidsTo; rw [List.range_succ, List.filter_append]; simp [h]

section
variable {w w' : World} {S S' : Nat → Prop} {h : Nat} {P : List Int} {b c : Nat} {K : Value → World → Prop}
theorem ref_Children (H : IsW w S h P) (hlen : P.length ≤ 1000000) (n : Nat)
    (hK : ∀ A c w', Row w' w.heap.size T_int 1 A (kids P n).length c (ints (kids P n)) → Kept Nil w w' → K (.slice A (kids P n).length c) w') :
    Ret Try.prog ref11_Tree_Children.id #[.pointer (some ⟨h, 0, none⟩), .int .i64 n] w K := by
  obtain ⟨b, c, H⟩ := H
  refine ref11_Tree_Children.of (ref11_Tree_Children.loop1 (I := fun s w' => ∃ (i : Nat) (A : Option Addr) (m : Nat), s = (A, (kidsTo P n i).length, m, (i : Int)) ∧ i ≤ P.length ∧ Row w' w.heap.size T_int 1 A (kidsTo P n i).length m (ints (kidsTo P n i)) ∧ Kept Nil w w')
    (μ := fun s _ => ((P.length : Int) - s.2.2.2).toNat) (s := (none, 0, 0, 0)) ⟨0, none, 0, rfl, Nat.zero_le _, Row.nil _ _ _ _, Kept.refl _ _⟩ ?_)
  rintro s w' ⟨i, A, m, rfl, hi, row, kw⟩
  have H' := H.keep kw (fun _ _ h => h)
  have hkl := kidsTo_len P n i
  refine H'.go (Split.dec (fun hlt => ?_) (fun hge => ?_))
  · simp only at hlt
    have hil : i < P.length := by omega
    obtain ⟨p, hp⟩ : ∃ p, P[i]? = some p := ⟨_, List.getElem?_eq_getElem hil⟩
    refine H'.go ⟨⟨by simp only; omega, by simp only; omega⟩, H'.getP hp ?_⟩
    by_cases e : p = (n : Int)
    · subst e
      refine Split.yes (by simp) ?_
      intro w14
      have k14 : Kept Nil w' w14 := (Kept.refl Nil w').alloc _
      have hnew : w14.heap[w'.heap.size]? = some (.cells #[.int .i64 (i : Int)] T_int (0, 0)) := new_blk w' _
      have row14 := Row.keep row k14 (fun _ _ h => h)
      clear_value w14
      obtain ⟨A2, c2, w16, hr2, row2, hg2, hb2⟩ := append_row (P := Try.prog) (t := T_sl_int) (ty := T_sl_int) (bytes := 8) slInt row14 (a := ⟨w'.heap.size, 0, none⟩) (m := 1) (cx := 1) (news := ints [i])
        rfl (fun j u hj => by rw [add1, cell_blk hnew]; simpa [ints] using hj) (fun u hu => by simp [ints] at hu; subst hu; rfl) (by omega) (by unfold maxLen; omega) (by have := kw.size; have := k14.size; omega)
      have k16 : Kept Nil w w16 := (kw.trans k14 (fun _ _ h => h)).trans (S' := fun k => blkOf A = some k) ((Kept.refl _ w14).grown hg2 (fun k hk _ => hk)) (fun k hk e => absurd (Row.blk row e).1 (by omega))
      refine ⟨A2, _, c2, w16, hr2, ?_⟩
      have hl : (kidsTo P n (i + 1)).length = (kidsTo P n i).length + 1 := by rw [kidsTo_yes hp]; simp
      rw [wrapI (x := (i : Int) + 1) (by omega) (by omega), ← hl]
      refine ⟨(A2, _, c2, ((i + 1 : Nat) : Int)), rfl, ⟨i + 1, A2, c2, rfl, by omega, ?_, k16⟩, by simp only; omega⟩
      rw [hl, kidsTo_yes hp]
      simpa [ints] using row2
    · refine Split.no (beq_eq_false_iff_ne.2 e) ?_
      have hno : P[i]? ≠ some (n : Int) := by rw [hp]; exact fun h => e (Option.some.inj h)
      rw [wrapI (x := (i : Int) + 1) (by omega) (by omega)]
      refine ⟨(A, _, m, ((i + 1 : Nat) : Int)), rfl, ⟨i + 1, A, m, by rw [kidsTo_no hno], by omega, by rw [kidsTo_no hno]; exact row, kw⟩, by simp only; omega⟩
  · simp only at hge
    have : i = P.length := by omega
    subst this
    rw [roundQ_exit, ref11_Tree_Children.x1_0]
    exact hK A m w' row kw

theorem ref_Size (H : IsW w S h P) (hP : Par P) (hlen : P.length ≤ 1000000) {n : Nat} (hn : n < P.length) (hK : K (.int .i64 (sz P n)) w) :
    Ret Try.prog ref11_Tree_Size.id #[.pointer (some ⟨h, 0, none⟩), .int .i64 n] w K := by
  have H0 := H
  obtain ⟨b, c, H⟩ := H
  have hle : ∀ i, sumN (fun i => ind (Und P i n)) i ≤ i := fun i => by
    have := sumN_le (n := i) (b := 1) (f := fun i => ind (Und P i n)) (fun i _ => ind_le _)
    omega
  refine ref11_Tree_Size.of (ref11_Tree_Size.loop1 (I := fun s w' => w' = w ∧ ∃ i : Nat, s = ((sumN (fun i => ind (Und P i n)) i : Int), (i : Int)) ∧ i ≤ P.length) (μ := fun s _ => ((P.length : Int) - s.2).toNat) (s := (0, 0)) ⟨rfl, 0, rfl, Nat.zero_le _⟩ ?_)
  rintro s w' ⟨hw, i, rfl, hi⟩
  subst hw
  have hlei := hle i
  refine H.go (Split.dec (fun hlt => ?_) (fun hge => ?_))
  · simp only at hlt
    have hil : i < P.length := by omega
    refine ref_Under H0 hP hil hn fun r hr => ⟨_, rfl, ?_⟩
    simp only
    rw [wrapI (x := (i : Int) + 1) (by omega) (by omega)]
    cases r with
    | true =>
      refine Split.yes rfl ?_
      rw [wrapI (by omega) (by omega)]
      refine ⟨((sumN (fun i => ind (Und P i n)) i : Int) + 1, (i : Int) + 1), rfl, ⟨rfl, i + 1, ?_, by omega⟩, by simp only; omega⟩
      simp only [sumN]
      rw [ind_yes (hr.1 rfl)]
      rfl
    | false =>
      refine Split.no rfl ?_
      refine ⟨((sumN (fun i => ind (Und P i n)) i : Int), (i : Int) + 1), rfl, ⟨rfl, i + 1, ?_, by omega⟩, by simp only; omega⟩
      simp only [sumN]
      rw [ind_no (fun hu => by have := hr.2 hu; cases this)]
      rfl
  · simp only at hge
    have : i = P.length := by omega
    subst this
    rw [roundQ_exit, ref11_Tree_Size.x1_0]
    exact hK
end

section
variable {w w' : World} {S S' : Nat → Prop} {g : Nat} {T : List Nd} {d : Int} {K : Value → World → Prop}
theorem tree_DepthNo (h : IsT w S g T d) (hT : 0 < T.length) (n : Int) (hn : ¬ (0 ≤ n ∧ n < (T.length : Int))) (hK : K (.tuple #[.int .i64 0, .int .i64 6]) w) :
    Ret Try.prog tree_Tree_Depth.id #[.pointer (some ⟨g, 0, none⟩), .int .i64 n] w K :=
  tree_Tree_Depth.of (tree_mayNo h hT n hn ⟨_, rfl, Split.yes rfl hK⟩)
theorem tree_Depth (h : IsT w S g T d) (hP : Par (pars T)) (hlen : T.length ≤ 1000000) {n : Nat} (hn : n < T.length) (hK : ∀ e : Nat, Dep (pars T) n e → K (.tuple #[.int .i64 e, .int .i64 0]) w) :
    Ret Try.prog tree_Tree_Depth.id #[.pointer (some ⟨g, 0, none⟩), .int .i64 n] w K := by
  refine tree_Tree_Depth.of (tree_mayYes h hn ⟨_, rfl, Split.no rfl ?_⟩)
  obtain ⟨b, c, L, h⟩ := h
  refine tree_Tree_Depth.loop1 (I := fun s w' => w' = w ∧ ∃ m e : Nat, s = ((m : Int), (e : Int)) ∧ m < T.length ∧ m + e ≤ n ∧ ∀ d, Dep (pars T) m d → Dep (pars T) n (d + e)) (μ := fun s _ => s.1.toNat) (s := ((n : Int), 0)) ⟨rfl, n, 0, rfl, hn, by omega, fun d h => h⟩ ?_
  rintro s w' ⟨hw, m, e, rfl, hm, hme, hd⟩
  subst hw
  obtain ⟨nd, hnd⟩ := get_of_lt hm
  obtain ⟨v, hv⟩ := h.at_ hnd
  have hp := pars_get hnd
  refine Split.dec (fun hpos => ?_) (fun hneg => ?_)
  · simp only at hpos
    obtain ⟨z, hz, ez⟩ := hP.up m _ (by omega) hp
    refine h.go ⟨⟨by simp only; omega, by simp only; omega⟩, h.getP hv ?_⟩
    rw [ez]
    simp only
    rw [wrapI (x := (e : Int) + 1) (by omega) (by omega)]
    refine ⟨((z : Int), ((e + 1 : Nat) : Int)), rfl, ⟨rfl, z, e + 1, rfl, by omega, by omega, fun d hd' => ?_⟩, by simp only; omega⟩
    have := hd (d + 1) (.step (by rw [hp, ez]) hd')
    rwa [show d + 1 + e = d + (e + 1) by omega] at this
  · simp only at hneg
    have : m = 0 := by omega
    subst this
    rw [roundQ_exit, tree_Tree_Depth.x1_0]
    have := hd 0 (.top hP.root)
    rw [Nat.zero_add] at this
    exact hK e this

theorem tree_SizeNo (h : IsT w S g T d) (hT : 0 < T.length) (n : Int) (hn : ¬ (0 ≤ n ∧ n < (T.length : Int))) (hK : K (.tuple #[.int .i64 0, .int .i64 6]) w) :
    Ret Try.prog tree_Tree_Size.id #[.pointer (some ⟨g, 0, none⟩), .int .i64 n] w K :=
  tree_Tree_Size.of (tree_mayNo h hT n hn ⟨_, rfl, Split.yes rfl hK⟩)
theorem tree_Size (h : IsT w S g T d) (hP : Par (pars T)) (hlen : T.length ≤ 1000000) {n : Nat} (hn : n < T.length) (hK : ∀ w', Kept Nil w w' → K (.tuple #[.int .i64 (sz (pars T) n), .int .i64 0]) w') :
    Ret Try.prog tree_Tree_Size.id #[.pointer (some ⟨g, 0, none⟩), .int .i64 n] w K := by
  refine tree_Tree_Size.of (tree_mayYes h hn ⟨_, rfl, Split.no rfl (tree_sizes h hP hlen fun w7 As row7 k7 => ⟨_, _, _, rfl, ⟨by omega, by omega⟩, ?_⟩)⟩)
  obtain ⟨b, rfl⟩ := Row.some row7 (by omega)
  have hle := sz_le (P := pars T) n
  rw [pars_len] at hle
  refine ⟨_, by rw [add1, Int.toNat_natCast, Nat.mul_one]; exact Row.cell row7 (us_get _ hn), ?_⟩
  rw [wrapI (by omega) (by omega)]
  exact hK w7 k7

theorem ints_one' (l : List Nat) : ∀ u ∈ ints l, u.oneCell' = true := ints_one l
theorem encL_one {L : List (Nd × Value)} (h : ∀ (i : Nat) p, L[i]? = some p → p.2.oneCell' = true) : ∀ u ∈ encL L, u.oneCell' = true := by
  intro u hu
  simp only [encL, List.mem_flatMap] at hu
  obtain ⟨p, hp, hu⟩ := hu
  obtain ⟨i, hi⟩ := List.mem_iff_getElem?.1 hp
  have := h i p hi
  simp [ndCells] at hu
  rcases hu with rfl | rfl | rfl | rfl | rfl
  · rfl
  · exact this
  · rfl
  · rfl
  · rfl
theorem clone_node {b c n : Nat} {L : List (Nd × Value)} (h : Row w 0 T_tree_node 5 (some ⟨b, 0, none⟩) n c (encL L)) (hL : ∀ (i : Nat) p, L[i]? = some p → p.2.oneCell' = true) (hn : n ≤ 1000000)
    (hK : ∀ A' c' w', Row w' w.heap.size T_tree_node 5 A' n c' (encL L) → Kept Nil w w' → K (.slice A' n c') w') :
    Ret Try.prog slices_Clone_of_tree_node.id #[.slice (some ⟨b, 0, none⟩) n c] w K := by
  refine slices_Clone_of_tree_node.of (Split.no rfl ?_)
  intro w2
  have hk2 : Kept Nil w w2 := (Kept.refl Nil w).alloc _
  have hr0 : Row w2 w.heap.size T_tree_node 5 (some ⟨w.heap.size, 0, none⟩) 0 0 [] := Row.made (new_blk w _) (Nat.le_refl _) rfl (Nat.zero_le _)
  have h2 := Row.keep h hk2 (fun _ _ h => h)
  obtain ⟨A', c', w', hr, hrow, hgr, hbl⟩ := append_row (P := Try.prog) (t := T_sl_tree_node) (ty := T_sl_tree_node) (bytes := 56) slNode hr0 (a := ⟨b, 0, none⟩) (m := n) (cx := c) (news := encL L)
    h2.len (Row.cells h2) (encL_one hL) (by omega) (by unfold maxLen; omega) (by have := hk2.size; omega)
  simp only [Nat.zero_add, List.nil_append] at hr hrow
  have hk3 : Kept Nil w w' := hk2.grown hgr (fun k hk hlt => by cases hk; exact absurd hlt (Nat.lt_irrefl _))
  exact ⟨A', n, c', w', hr, hK A' c' w' hrow hk3⟩

/-- a copy in the making: i of her nodes have children of their own -/
structure CP (w w' : World) (L : List (Nd × Value)) (T : List Nd) (d : Int) (g' b' c' i : Nat) (L' : List (Nd × Value)) : Prop where
  fst : L'.map Prod.fst = T
  top : w'.heap[g']? = some (.cells #[.slice (some ⟨b', 0, none⟩) T.length c', .int .i64 d] T_tree_Tree (0, 0))
  row : Row w' w.heap.size T_tree_node 5 (some ⟨b', 0, none⟩) T.length c' (encL L')
  kid : ∀ (j : Nat) p, L'[j]? = some p → j < i → ∃ A m, Kid w' (fun k => w.heap.size ≤ k) p A m
  old : ∀ j : Nat, i ≤ j → L'[j]? = L[j]?
  apart : ∀ (j l : Nat) p q, L'[j]? = some p → L'[l]? = some q → j < i → l < i → j ≠ l → ∀ k, Value.ownBlock p.2 = some k → Value.ownBlock q.2 ≠ some k
  kp : Kept Nil w w'
  hg : w.heap.size ≤ g'

theorem tree_Copy (h : IsT w S g T d) (hT : 0 < T.length) (hlen : T.length ≤ 1000000) (hch : ∀ (i : Nat) nd, T[i]? = some nd → nd.ch.length ≤ 1000000)
    (hK : ∀ w' g', IsT w' (fun k => w.heap.size ≤ k) g' T d → Kept Nil w w' → K (.pointer (some ⟨g', 0, none⟩)) w') :
    Ret Try.prog tree_Tree_Copy.id #[.pointer (some ⟨g, 0, none⟩)] w K := by
  refine tree_Tree_Copy.of (tree_Len h ⟨_, rfl, Split.no (beq_eq_false_iff_ne.2 (by omega)) ?_⟩)
  obtain ⟨b, c, L, h⟩ := h
  have hown : ∀ (A : Option Addr) n m, Value.ownBlock (.slice A n m) = blkOf A := by intro A n m; cases A <;> rfl
  intro w5
  have k5 : Kept Nil w w5 := (Kept.refl Nil w).drew
  have h5 := h.kept k5
  have hs5 : w5.heap.size = w.heap.size := rfl
  clear_value w5
  refine h5.go (h5.goD ?_)
  refine clone_node h5.row (fun i p hp => by obtain ⟨A, m, hk⟩ := h5.kid i p hp; rw [hk.val]; rfl) hlen fun A' c' w11 row11 k11 => ⟨_, _, _, rfl, ?_⟩
  have h11 := h5.kept k11
  refine ⟨by rw [add1]; exact h11.dealt, ?_⟩
  intro w13
  have k13 : Kept Nil w11 w13 := (Kept.refl Nil w11).alloc _
  have htop : w13.heap[w11.heap.size]? = some (.cells #[.slice A' T.length c', .int .i64 d] T_tree_Tree (0, 0)) := new_blk w11 _
  have row13 := Row.keep row11 k13 (fun _ _ h => h)
  obtain ⟨b', rfl⟩ := Row.some row13 hT
  clear_value w13
  have kk : Kept Nil w w13 := (k5.trans k11 (fun _ _ h => h)).trans k13 (fun _ _ h => h)
  refine ⟨_, _, _, by rw [add1, cell_blk htop]; rfl, ?_⟩
  refine tree_Tree_Copy.loop1 (I := fun s w' => ∃ (i : Nat) (L' : List (Nd × Value)), s = (i : Int) ∧ i ≤ T.length ∧ CP w w' L T d w11.heap.size b' c' i L') (μ := fun s _ => ((T.length : Int) - s).toNat) (s := 0)
    ⟨0, L, rfl, Nat.zero_le _, ⟨h.fst, htop, by rw [hs5] at row13; exact row13, fun j p hp hj => absurd hj (Nat.not_lt_zero _), fun _ _ => rfl, fun j l p q _ _ hj => absurd hj (Nat.not_lt_zero _), kk, by have := k11.size; omega⟩⟩ ?_
  rintro s w' ⟨i, L', rfl, hi, C⟩
  refine Split.dec (fun hlt => ?_) (fun hge => ?_)
  · have hil : i < T.length := by omega
    obtain ⟨nd, hnd⟩ := get_of_lt hil
    obtain ⟨v, hv⟩ := h.at_ hnd
    obtain ⟨A, m, hk⟩ := h.kid _ _ hv
    intro w19
    have k19 : Kept Nil w' w19 := (Kept.refl Nil w').drew
    have hs19 : w19.heap.size = w'.heap.size := rfl
    clear_value w19
    have htop19 := k19.heap C.top (fun h => h)
    have row19 := Row.keep C.row k19 (fun _ _ h => h)
    have hv' : L'[i]? = some (nd, v) := by rw [C.old i (Nat.le_refl _)]; exact hv
    have hLl : L'.length = T.length := by rw [← C.fst]; simp
    have hn19 : w19.cell? ((⟨w11.heap.size, 0, none⟩ : Addr).add 0) = some (.slice (some ⟨b', 0, none⟩) T.length c') := by rw [add1, cell_blk htop19]; rfl
    refine ⟨_, _, _, hn19, _, _, _, hn19, ⟨by omega, by omega⟩, ?_⟩
    have hval : v = .slice A nd.ch.length m := hk.val
    refine ⟨A, nd.ch.length, m, by rw [add2]; exact Row.cell row19 (by rw [show (i : Int).toNat = i from rfl, encL_get hv' (by omega), hval]; rfl), ?_⟩
    have krow := Row.keep (Row.keep hk.row C.kp (fun _ _ h => h)) k19 (fun _ _ h => h)
    have hchl := hch i nd hnd
    refine clone_int krow (by omega) (by unfold maxLen; omega) fun A2 c2 w25 row25 k25 => ⟨_, _, _, rfl, ?_⟩
    have htop25 := k25.heap htop19 (fun h => h)
    have row25' := Row.keep row19 k25 (fun _ _ h => h)
    have hltc : i * 5 + 1 < (encL L').length := by rw [encL_length, hLl]; omega
    refine ⟨by rw [add1, cell_blk htop25]; rfl, ⟨by omega, by omega⟩, by rw [add2]; exact Row.wr row25' hltc, ?_⟩
    intro w28
    have e28 : w28 = w25.setCell ⟨b', i * 5 + 1, none⟩ (.slice A2 nd.ch.length c2) := by simp only [w28, add2, Int.toNat_natCast]
    clear_value w28
    have k28 : Kept (fun k => k = b') w25 w28 := by rw [e28]; exact (Kept.refl (fun k => k = b') w25).setCell (p := ⟨b', i * 5 + 1, none⟩) (fun _ => rfl) _
    have rows := Row.set row25' hltc (.slice A2 nd.ch.length c2)
    rw [← e28, encL_set hv' (by omega) (p' := (nd, .slice A2 nd.ch.length c2)) rfl] at rows
    obtain ⟨hbge, cur, hbh⟩ := Row.blk row25' (k := b') rfl
    have kall : Kept Nil w w28 := ((C.kp.trans k19 (fun _ _ h => h)).trans k25 (fun _ _ h => h)).trans k28 (fun k hk e => by omega)
    have hgb : w11.heap.size ≠ b' := by
      rintro e
      rw [e, hbh] at htop25
      injection htop25 with hc
      injection hc with _ ht
      exact absurd ht (by decide)
    have hblk2 : ∀ k, blkOf A2 = some k → w'.heap.size ≤ k := fun k e => by have := (Row.blk row25 e).1; omega
    have hA2b : blkOf A2 ≠ some b' := by
      intro e
      obtain ⟨_, cur2, hc⟩ := Row.blk row25 e
      rw [hbh] at hc
      injection hc with hc
      injection hc with _ ht
      exact absurd ht (by decide)
    have hget : ∀ (j : Nat) q, (L'.set i (nd, .slice A2 nd.ch.length c2))[j]? = some q → (j = i ∧ q = (nd, .slice A2 nd.ch.length c2)) ∨ (j ≠ i ∧ L'[j]? = some q) := by
      intro j q hq
      by_cases e : i = j
      · subst e
        rw [List.getElem?_set_self (by omega)] at hq
        cases hq
        exact .inl ⟨rfl, rfl⟩
      · rw [List.getElem?_set_ne e] at hq
        exact .inr ⟨fun h => e h.symm, hq⟩
    have hkold : ∀ (j : Nat) q, L'[j]? = some q → j < i → ∃ A m, Kid w28 (fun k => w.heap.size ≤ k) q A m ∧ ∀ k, blkOf A = some k → k < w'.heap.size := by
      intro j q hq hj
      obtain ⟨A3, m3, hk3⟩ := C.kid j q hq hj
      refine ⟨A3, m3, ⟨hk3.val, Row.keep (Row.keep (Row.keep hk3.row k19 (fun _ _ h => h)) k25 (fun _ _ h => h)) k28 (fun k e e2 => ?_), hk3.foot⟩, fun k e => by obtain ⟨_, _, hc⟩ := Row.blk hk3.row e; exact lt_blk hc⟩
      obtain ⟨_, cur3, hc⟩ := Row.blk (Row.keep (Row.keep hk3.row k19 (fun _ _ h => h)) k25 (fun _ _ h => h)) e
      rw [e2, hbh] at hc
      injection hc with hc
      injection hc with _ ht
      exact absurd ht (by decide)
    rw [wrapI (x := (i : Int) + 1) (by omega) (by omega)]
    refine ⟨((i + 1 : Nat) : Int), rfl, ⟨i + 1, L'.set i (nd, .slice A2 nd.ch.length c2), rfl, by omega, ?_⟩, by simp only; omega⟩
    exact {
      fst := by
        rw [List.map_set, C.fst]
        exact List.ext_getElem? fun j => by
          by_cases e : i = j
          · subst e; rw [List.getElem?_set_self hil, hnd]
          · rw [List.getElem?_set_ne e]
      top := k28.heap htop25 hgb
      row := rows
      kid := fun j q hq hj => by
        rcases hget j q hq with ⟨rfl, rfl⟩ | ⟨hne, hq⟩
        · exact ⟨A2, c2, rfl, Row.base (B' := 0) (Row.keep row25 k28 (fun k e e2 => hA2b (by rw [e, e2]))) (fun _ _ => Nat.zero_le _), fun k e => Nat.le_trans C.kp.size (hblk2 k e)⟩
        · obtain ⟨A3, m3, hk3, _⟩ := hkold j q hq (by omega)
          exact ⟨A3, m3, hk3⟩
      old := fun j hj => by
        rw [List.getElem?_set_ne (by omega)]
        exact C.old j (by omega)
      apart := fun j l p q hp hq hj hl hne k hk1 hk2 => by
        rcases hget j p hp with ⟨ej, ep⟩ | ⟨hj', hp2⟩
        · rcases hget l q hq with ⟨el, _⟩ | ⟨hl', hq2⟩
          · exact hne (ej.trans el.symm)
          · obtain ⟨A3, m3, hk3, hlt3⟩ := hkold l q hq2 (by omega)
            rw [ep, hown] at hk1
            rw [hk3.val, hown] at hk2
            have := hblk2 k hk1
            have := hlt3 k hk2
            omega
        · rcases hget l q hq with ⟨el, eq⟩ | ⟨hl', hq2⟩
          · obtain ⟨A3, m3, hk3, hlt3⟩ := hkold j p hp2 (by omega)
            rw [eq, hown] at hk2
            rw [hk3.val, hown] at hk1
            have := hblk2 k hk2
            have := hlt3 k hk1
            omega
          · exact C.apart j l p q hp2 hq2 (by omega) (by omega) hne k hk1 hk2
      kp := kall
      hg := C.hg }
  · have : i = T.length := by omega
    subst this
    rw [roundQ_exit, tree_Tree_Copy.x1_0]
    have hLl : L'.length = T.length := by rw [← C.fst]; simp
    refine hK w' _ ⟨b', c', L', ?_⟩ C.kp
    exact {
      top := C.top
      fst := C.fst
      row := Row.base (B' := 0) C.row (fun _ _ => Nat.zero_le _)
      kid := fun j p hp => C.kid j p hp (by have := (List.getElem?_eq_some_iff.1 hp).1; omega)
      apart := fun j l p q hp hq hne => C.apart j l p q hp hq (by have := (List.getElem?_eq_some_iff.1 hp).1; omega) (by have := (List.getElem?_eq_some_iff.1 hq).1; omega) hne
      footG := C.hg
      footB := (Row.blk C.row rfl).1 }
end
end Go.Proofs.Ytehkokfjfjefnaa
