/-
  The document's tree: what its methods do.
-/
import Derived.Test.YtehkokfjfjefnaaTA
namespace Go.Proofs.Ytehkokfjfjefnaa
open Go Go.Lite Go.RowKit

def zs (l : List Int) : List Value := l.map fun x => .int .i64 x
theorem zs_get {l : List Int} {j : Nat} {x : Int} (h : l[j]? = some x) : (zs l)[j]? = some (.int .i64 x) := by simp [zs, h]
theorem zs_len (l : List Int) : (zs l).length = l.length := by simp [zs]
theorem zs_one (l : List Int) : ∀ u ∈ zs l, u.oneCell' = true := by
  intro u hu
  simp only [zs, List.mem_map] at hu
  obtain ⟨x, _, rfl⟩ := hu
  rfl

/-- block h holds the document's tree: its parents P -/
structure WV (w : World) (S : Nat → Prop) (h : Nat) (P : List Int) (b c : Nat) : Prop where
  top : w.heap[h]? = some (.cells #[.slice (some ⟨b, 0, none⟩) P.length c] T_plexusref11_Tree (0, 0))
  row : Row w 0 T_int 1 (some ⟨b, 0, none⟩) P.length c (zs P)
  footH : S h
  footB : S b
def IsW (w : World) (S : Nat → Prop) (h : Nat) (P : List Int) : Prop := ∃ b c, WV w S h P b c

section
variable {w w' : World} {S S' : Nat → Prop} {h : Nat} {P : List Int} {b c : Nat} {K : Value → World → Prop}
theorem WV.nodes (H : WV w S h P b c) : w.cell? ⟨h, 0, none⟩ = some (.slice (some ⟨b, 0, none⟩) P.length c) := by rw [cell_blk H.top]; rfl
theorem WV.go (H : WV w S h P b c) {k : Option Addr → Nat → Nat → Prop} (hk : k (some ⟨b, 0, none⟩) P.length c) :
    ∃ A n m, w.cell? ((⟨h, 0, none⟩ : Addr).add 0) = some (.slice A n m) ∧ k A n m := ⟨_, _, _, by rw [add1]; exact H.nodes, hk⟩
theorem WV.getP (H : WV w S h P b c) {i : Nat} {p : Int} (hi : P[i]? = some p) {k : Int → Prop} (hk : k p) :
    ∃ t, w.cell? ((⟨b, 0, none⟩ : Addr).add (i * 1)) = some (.int .i64 t) ∧ k t := ⟨_, by rw [add1, Nat.mul_one]; exact Row.cell H.row (zs_get hi), hk⟩
theorem WV.keep {S0 : Nat → Prop} (H : WV w S h P b c) (hk : Kept S0 w w') (hn : ∀ k, S k → ¬ S0 k) : WV w' S h P b c :=
  ⟨hk.heap H.top (hn h H.footH), Row.keep H.row hk (fun k e => by cases e; exact hn b H.footB), H.footH, H.footB⟩
theorem IsW.keep {S0 : Nat → Prop} (H : IsW w S h P) (hk : Kept S0 w w') (hn : ∀ k, S k → ¬ S0 k) : IsW w' S h P := let ⟨b, c, H⟩ := H; ⟨b, c, H.keep hk hn⟩
theorem IsW.same (H : IsW w S h P) (hk : Kept Nil w w') : IsW w' S h P := H.keep hk fun _ _ h => h
theorem IsW.mono (H : IsW w S h P) (hs : ∀ k, S k → S' k) : IsW w S' h P := let ⟨b, c, H⟩ := H; ⟨b, c, H.top, H.row, hs _ H.footH, hs _ H.footB⟩
theorem IsW.bound (H : IsW w S h P) : IsW w (fun k => S k ∧ k < w.heap.size) h P :=
  let ⟨b, c, H⟩ := H; ⟨b, c, H.top, H.row, ⟨H.footH, lt_blk H.top⟩, ⟨H.footB, let ⟨_, _, hc⟩ := Row.blk H.row rfl; lt_blk hc⟩⟩

theorem ref_New (hK : ∀ w' h, IsW w' (fun k => w.heap.size ≤ k) h [-1] → Kept Nil w w' → K (.pointer (some ⟨h, 0, none⟩)) w') : Ret Try.prog ref11_New.id #[] w K := by
  refine ref11_New.of ?_
  unfold ref11_New.W
  intro w1 w2
  have k1 : Kept Nil w w1 := (Kept.refl Nil w).alloc _
  exact hK w2 w1.heap.size ⟨w.heap.size, 1, new_blk w1 _, Row.made (n := 1) (cur := #[.int .i64 (-1)]) (old_blk (new_blk w _) _) (Nat.zero_le _) rfl (by decide), k1.size, Nat.le_refl _⟩ (k1.alloc _)

theorem ref_In (H : IsW w S h P) (n : Int) (hK : K (.bool (decide (0 ≤ n ∧ n < P.length))) w) : Ret Try.prog ref11_Tree_In.id #[.pointer (some ⟨h, 0, none⟩), .int .i64 n] w K := by
  obtain ⟨b, c, H⟩ := H
  refine ref11_Tree_In.of (Split.dec (fun h0 => H.go ?_) (fun h0 => ?_))
  · rwa [show decide (0 ≤ n ∧ n < (P.length : Int)) = decide (n < (P.length : Int)) from by simp [show (0:Int) ≤ n from h0]] at hK
  · rwa [decide_eq_false (fun e : 0 ≤ n ∧ n < (P.length : Int) => h0 e.1)] at hK

theorem ref_AddNo (H : IsW w S h P) (n : Int) (hn : ¬ (0 ≤ n ∧ n < (P.length : Int))) (hK : K (.int .i64 (-1)) w) : Ret Try.prog ref11_Tree_Add.id #[.pointer (some ⟨h, 0, none⟩), .int .i64 n] w K :=
  ref11_Tree_Add.of (ref_In H n ⟨_, rfl, Split.yes (by rw [decide_eq_false hn]; rfl) hK⟩)
theorem ref_Add (H : IsW w S h P) {p : Nat} (hp : p < P.length) (hlen : P.length ≤ 1000000)
    (hK : ∀ w' S', IsW w' S' h (P ++ [(p : Int)]) → Kept (fun k => k = h) w w' → (∀ k, S' k → k = h ∨ w.heap.size ≤ k) → K (.int .i64 P.length) w') :
    Ret Try.prog ref11_Tree_Add.id #[.pointer (some ⟨h, 0, none⟩), .int .i64 p] w K := by
  refine ref11_Tree_Add.of (ref_In H p ⟨_, rfl, Split.no (by rw [decide_eq_true ⟨by omega, by omega⟩]; rfl) ?_⟩)
  obtain ⟨b, c, H⟩ := H
  refine H.go ?_
  obtain ⟨A1, c1, w9, hr1, row1, hg1, hb1⟩ := append_row (P := Try.prog) (t := T_sl_int) (ty := T_sl_int) (bytes := 8) slInt (Row.nil w w.heap.size T_int 1) (a := ⟨b, 0, none⟩) (m := P.length) (cx := c) (news := zs P)
    (by rw [zs_len]; omega) (Row.cells H.row) (zs_one _) (by omega) (by unfold maxLen; omega) (Nat.le_refl _)
  simp only [Nat.zero_add, List.nil_append] at hr1 row1
  have k1 : Kept Nil w w9 := (Kept.refl Nil w).grown hg1 (fun k hk => by cases hk)
  refine ⟨A1, _, c1, w9, hr1, ?_⟩
  intro w10
  have k10 : Kept Nil w9 w10 := (Kept.refl Nil w9).alloc _
  have hnew : w10.heap[w9.heap.size]? = some (.cells #[.int .i64 (p : Int)] T_int (0, 0)) := new_blk w9 _
  have row10 := Row.keep row1 k10 (fun _ _ h => h)
  clear_value w10
  obtain ⟨A2, c2, w12, hr2, row2, hg2, hb2⟩ := append_row (P := Try.prog) (t := T_sl_int) (ty := T_sl_int) (bytes := 8) slInt row10 (a := ⟨w9.heap.size, 0, none⟩) (m := 1) (cx := 1) (news := zs [(p : Int)])
    rfl (fun j u hj => by rw [add1, cell_blk hnew]; simpa [zs] using hj) (zs_one _) (by omega) (by unfold maxLen; omega) (by have := k1.size; have := k10.size; omega)
  have k12 : Kept Nil w w12 := (k1.trans k10 (fun _ _ h => h)).trans (S' := fun k => blkOf A1 = some k) ((Kept.refl _ w10).grown hg2 (fun k hk _ => hk)) (fun k hk e => absurd (Row.blk row1 e).1 (by omega))
  have htop := k12.heap H.top (fun h => h)
  refine ⟨A2, _, c2, w12, hr2, by rw [add1]; exact wr_blk htop (show 0 < 1 by omega), ?_⟩
  intro w14
  have e14 : w14 = w12.setCell ⟨h, 0, none⟩ (.slice A2 (P.length + 1) c2) := by simp only [w14, add1]
  clear_value w14
  obtain ⟨b2, rfl⟩ := Row.some row2 (by omega)
  have hb2h : b2 ≠ h := by
    rintro rfl
    obtain ⟨_, cur, hc⟩ := Row.blk row2 (k := b2) rfl
    rw [htop] at hc
    injection hc with hc
    injection hc with _ ht
    exact absurd ht (by decide)
  have kh : Kept (fun k => k = h) w12 w14 := by rw [e14]; exact (Kept.refl (fun k => k = h) w12).setCell (p := ⟨h, 0, none⟩) (fun _ => rfl) _
  have row14 := Row.keep row2 kh (fun k e e2 => hb2h (by cases e; exact e2))
  have hs := set_blk htop 0 (.slice (some ⟨b2, 0, none⟩) (P.length + 1) c2)
  rw [← e14] at hs
  have H14 : WV w14 (fun k => k = h ∨ w.heap.size ≤ k) h (P ++ [(p : Int)]) b2 c2 := {
    top := by simpa using hs
    row := by
      rw [List.length_append]
      have := Row.base (B' := 0) row14 (fun _ _ => Nat.zero_le _)
      simpa [zs] using this
    footH := .inl rfl
    footB := .inr (Row.blk row2 rfl).1 }
  refine H14.go ?_
  rw [List.length_append, List.length_singleton, wrapI (by omega) (by omega), show ((P.length + 1 : Nat) : Int) - 1 = (P.length : Int) by omega]
  exact hK w14 _ ⟨b2, c2, H14⟩ ((k12.mono (S' := fun k => k = h) (fun _ _ h => h.elim)).trans kh (fun _ _ h => h)) (fun k h => h)

theorem ref_UnderNo (H : IsW w S h P) (a n : Int) (hn : ¬ (0 ≤ a ∧ a < (P.length : Int)) ∨ ¬ (0 ≤ n ∧ n < (P.length : Int))) (hK : K (.bool false) w) :
    Ret Try.prog ref11_Tree_Under.id #[.pointer (some ⟨h, 0, none⟩), .int .i64 a, .int .i64 n] w K := by
  refine ref11_Tree_Under.of (ref_In H a ⟨_, rfl, ?_⟩)
  by_cases ha : 0 ≤ a ∧ a < (P.length : Int)
  · refine Split.no (by rw [decide_eq_true ha]; rfl) (ref_In H n ⟨_, rfl, Split.yes ?_ hK⟩)
    rcases hn with hn | hn
    · exact absurd ha hn
    · rw [decide_eq_false hn]; rfl
  · exact Split.yes (by rw [decide_eq_false ha]; rfl) hK
theorem ref_Under (H : IsW w S h P) (hP : Par P) {a n : Nat} (ha : a < P.length) (hn : n < P.length) (hK : ∀ r : Bool, (r = true ↔ Und P a n) → K (.bool r) w) :
    Ret Try.prog ref11_Tree_Under.id #[.pointer (some ⟨h, 0, none⟩), .int .i64 a, .int .i64 n] w K := by
  refine ref11_Tree_Under.of (ref_In H a ⟨_, rfl, Split.no (by rw [decide_eq_true ⟨by omega, by omega⟩]; rfl) (ref_In H n ⟨_, rfl, Split.no (by rw [decide_eq_true ⟨by omega, by omega⟩]; rfl) ?_⟩)⟩)
  obtain ⟨b, c, H⟩ := H
  refine ref11_Tree_Under.loop1 (I := fun s w' => w' = w ∧ ((∃ m : Nat, s = m ∧ m < P.length ∧ (Und P a n ↔ Und P m n)) ∨ (s = -1 ∧ ¬ Und P a n))) (μ := fun s _ => (s + 1).toNat) (s := (a : Int)) ⟨rfl, .inl ⟨a, rfl, ha, Iff.rfl⟩⟩ ?_
  rintro s w' ⟨hw, hs⟩
  subst hw
  rcases hs with ⟨m, rfl, hm, hmn⟩ | ⟨rfl, hno⟩
  · by_cases e : m = n
    · subst e
      refine Split.no (by simp) ?_
      rw [roundQ_exit, ref11_Tree_Under.x1_0]
      refine hK _ ?_
      rw [hmn]
      exact ⟨fun _ => .refl hm, fun _ => by simp⟩
    · refine Split.yes (by simp only [bne_iff_ne]; omega) (Split.yes (decide_eq_true (by omega)) (H.go ⟨⟨by omega, by omega⟩, ?_⟩))
      obtain ⟨p, hp⟩ : ∃ p, P[m]? = some p := ⟨_, List.getElem?_eq_getElem hm⟩
      refine H.getP hp ?_
      rcases Nat.eq_zero_or_pos m with h0 | h0
      · subst h0
        rw [hP.root] at hp
        cases hp
        refine ⟨-1, rfl, ⟨rfl, .inr ⟨rfl, fun hu => ?_⟩⟩, by simp only; omega⟩
        have := (hmn.1 hu).le hP
        omega
      · obtain ⟨z, hz, ez⟩ := hP.up m p h0 hp
        subst ez
        refine ⟨(z : Int), rfl, ⟨rfl, .inl ⟨z, rfl, by omega, hmn.trans ⟨fun hu => hu.inv e hp, fun hu => .step hp hu⟩⟩⟩, by simp only; omega⟩
  · refine Split.yes (by simp only [bne_iff_ne]; omega) (Split.no (by decide) ?_)
    rw [roundQ_exit, ref11_Tree_Under.x1_0]
    refine hK _ ⟨fun hb => ?_, fun hu => absurd hu hno⟩
    have := eq_of_beq hb
    omega

/-- how deep: how many stand above -/
inductive Dep (P : List Int) : Nat → Nat → Prop
  | top {n : Nat} : P[n]? = some (-1) → Dep P n 0
  | step {n m d : Nat} : P[n]? = some (m : Int) → Dep P m d → Dep P n (d + 1)
theorem Dep.one {n d d' : Nat} (H : Dep P n d) (H' : Dep P n d') : d = d' := by
  induction H generalizing d' with
  | top h =>
    cases H' with
    | top => rfl
    | step h' _ => rw [h] at h'; have := Option.some.inj h'; omega
  | @step n m d h _ ih =>
    cases H' with
    | top h' => rw [h] at h'; have := Option.some.inj h'; omega
    | @step _ m2 d2 h' H'' =>
      rw [h] at h'
      have := Option.some.inj h'
      have e : m = m2 := by omega
      subst e
      rw [ih H'']
theorem ref_Depth (H : IsW w S h P) (hP : Par P) (hlen : P.length ≤ 1000000) {n : Nat} (hn : n < P.length) (hK : ∀ d : Nat, Dep P n d → K (.int .i64 d) w) :
    Ret Try.prog ref11_Tree_Depth.id #[.pointer (some ⟨h, 0, none⟩), .int .i64 n] w K := by
  obtain ⟨b, c, H⟩ := H
  refine ref11_Tree_Depth.of (ref11_Tree_Depth.loop1 (I := fun s w' => w' = w ∧ ∃ m e : Nat, s = ((m : Int), (e : Int)) ∧ m < P.length ∧ m + e ≤ n ∧ ∀ d, Dep P m d → Dep P n (d + e)) (μ := fun s _ => s.1.toNat) (s := ((n : Int), 0)) ⟨rfl, n, 0, rfl, hn, by omega, fun d h => h⟩ ?_)
  rintro s w' ⟨hw, m, e, rfl, hm, hme, hd⟩
  subst hw
  obtain ⟨p, hp⟩ : ∃ p, P[m]? = some p := ⟨_, List.getElem?_eq_getElem hm⟩
  have hbm : 0 ≤ (m : Int) ∧ (m : Int) < (P.length : Int) := ⟨by omega, by omega⟩
  refine H.go ⟨hbm, H.getP hp ?_⟩
  rcases Nat.eq_zero_or_pos m with h0 | h0
  · subst h0
    have hp' := hp
    rw [hP.root] at hp'
    cases hp'
    refine Split.no (by decide) ?_
    rw [roundQ_exit, ref11_Tree_Depth.x1_0]
    have := hd 0 (.top hp)
    rw [Nat.zero_add] at this
    exact hK e this
  · obtain ⟨z, hz, ez⟩ := hP.up m p h0 hp
    subst ez
    refine Split.yes (decide_eq_true (by omega)) (H.go ⟨hbm, H.getP hp ?_⟩)
    simp only
    rw [wrapI (x := (e : Int) + 1) (by omega) (by omega)]
    refine ⟨((z : Int), ((e + 1 : Nat) : Int)), rfl, ⟨rfl, z, e + 1, rfl, by omega, by omega, fun d hd' => ?_⟩, by simp only; omega⟩
    have := hd (d + 1) (.step hp hd')
    rwa [show d + 1 + e = d + (e + 1) by omega] at this
end
end Go.Proofs.Ytehkokfjfjefnaa
